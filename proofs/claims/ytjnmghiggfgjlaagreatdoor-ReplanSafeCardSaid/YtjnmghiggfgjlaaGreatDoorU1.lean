/- Part 1. -/
import GoSem.Step
import Derived.Below
import Derived.Laws.AppendOwn
import Derived.Deep.Draws
import Derived.RangeFuncRecord
import Derived.CallsIn
import Derived.OrdersIn
import Derived.Sort.LoopGhostIn
import Derived.RangeFuncCalls
import Derived.Laws.Cells
import Derived.MapKept
import Derived.IntWalk
set_option linter.all false
set_option maxRecDepth 100000
set_option maxHeartbeats 100000000
open Bool renaming and_eq_true->aC,false_eq_true->iZ,not_eq_true'->jT,or_eq_true->lq,eq_iff_iff->JB,not_eq_false->Mp,rec->Mw,not_eq_true->ak7,or_eq_true_iff->av2,and_assoc->awq,true->J,false->E
open Nat renaming lor->b9,le_refl->cd,zero_add->jp,beq->jq,blt->kz,le_trans->mg,shiftLeft->nG,zero_le->rP,add_mul->sT,add_zero->yX,mul_le_mul_right->GG,eq_zero_or_pos->Jz,testBit_or->JD,rec->JG,min_eq_left->Ms,mul_le_mul->Mt,lt_of_lt_of_le->QW,add_assoc->Q8,mod_lt->Ra,testBit_add_one->VB,mul_comm->VO,sub_self->acw,gcd->acx,beq_eq->alg,testBit_shiftLeft->avY,div_lt_of_lt_mul->av0,one_shiftLeft->av9,testBit_zero->awe,div_add_mod->awj,pow_succ->awt,eq_of_beq_eq_true->aI4,testBit_two_pow->aJb,lt_or_gt_of_ne->aJg
open List renaming getD_eq_getElem?_getD->di,range->dj,getElem?_eq_some_iff->du,getElem?_eq_getElem->dv,map_cons->dH,getElem?_map->ep,replicate->ew,mem_cons->ey,mem_append->fc,mem_map->fo,getElem?_append_left->fO,length_append->fT,all_eq_true->gC,getElem?_append_right->jo,mem_of_getElem?->jD,map_congr_left->ky,ext_getElem?->kX,any_eq_true->nF,length_cons->n9,length_map->oW,map_map->oX,length_eq_one_iff->pI,getElem?_take->pJ,getElem?_of_mem->sP,getElem_mem->sQ,eq_nil_of_length_eq_zero->ui,getElem?_eq_none->uk,getElem?_cons_succ->vw,getElem?_drop->xj,getElem?_set->yU,range'->yY,mem_cons_of_mem->AI,getElem?_set_ne->AJ,rec->AL,drop_eq_getElem_cons->Cg,append_assoc->Ci,length_drop->Cj,getElem?_eq_none_iff->Em,mem_of_mem_drop->En,getElem?_range->Ep,zip_cons_cons->Es,mem_of_mem_take->GH,take_of_length_le->Jv,size_toArray->Mq,length_take->Mr,drop_drop->Q7,mem_of_find?_eq_some->Vu,getElem?_replicate->Vv,length_singleton->Vy,range_eq_range'->Vz,mem_singleton->VC,all_cons->VL,toList_toArray->aco,range'_succ->acq,foldl_cons->acr,getElem?_toArray->ak0,drop_eq_nil_of_le->avV,flatMap_cons->awa,find?_cons->awi,mapM_cons->awr,length->Y
open Go.Result renaming andThen_ok->dC
open Go.Sem renaming run_bind->dD,run_pure->fy
open Option renaming map_some->ga,isSome_iff_exists->jC,getD_some->yV,bind_some->ak6,getD_none->awf,some->U,none->Z
open Go.Op renaming operands->io,equalIn->Ew,equal->GM
open Array renaming getElem?_eq_some_iff->lL,ext'->nH,toList_map->yW,length_toList->GI,getElem?_eq_getElem->Mn,getElem?_modify->QT,getElem?_toList->acl,range->ald,toList_range->av6,mapM_eq_mapM_toList->aIV,getElem?_eq_none->aI3,foldl_toList->aJf
open Go.Region renaming binds->awu
open Go.World renaming cell?->oF,putObj_heap_other->uj,putObj->Mv,alloc_heap_new->VA,frozen?->VM,setCell->acv,grownBy_alloc->aJc
open Int renaming toNat_natCast->rN,natCast_mul->awk
open Go.Call renaming operands->Cl
open List.cons renaming injEq->Et
open Option.some renaming injEq->JA
open Prod.mk renaming injEq->JE
open Go.IntKind renaming i64->I
namespace Go.Proofs.YtjnmghiggfgjlaaGreatDoor.Y
variable{R M h:Nat}
def ae{p:Prop}(h:p:=by omega):p:=h
def aw{p:Prop}(h:p:=by simp):p:=h
def mh{p:Prop}(h:p:=by assumption):p:=h
def ez{p:Prop}(h:p:=by decide):p:=h
def bS{p:Prop}(h:p:=by simp;omega):p:=h
def cq{p:Prop}(h:p:=by simp[io]):p:=h
def um{p:Prop}(h:p:=by dsimp only;decide):p:=h
def dq:= @decide_eq_true_eq
def gc:= @beq_iff_eq
def aH:= @if_pos
def aJ:= @if_neg
def dP:= @if_true
def jE:= @if_false
def bB:= @absurd
def j7:= @congrArg
def GN:= @of_decide_eq_true
def dX:= @JA
def nJ:= @Option.some.inj
structure Sh where
 kt:TypeId
 vt:TypeId
 nk:Nat
 ka:Bool
 va:Bool
 deriving DecidableEq
abbrev ar:=List Nat
abbrev cH:=Option Nat
abbrev bA:=List Int
abbrev i7:=List TypeId
abbrev mi:=Option (List TypeId)
abbrev dG:=Array Oper
abbrev ql:=List Oper
abbrev oa:=List (Nat×Nat×Nat)
abbrev nK:=List ResultVar
abbrev AM:=List (Nat×Nat)
abbrev fz:=List Value
abbrev mR:=Array Value
abbrev mS:=List Bool
abbrev oY:=Option Addr
abbrev uo:=List (Value×Value)
inductive RK where
 |sl (e:TypeId)
 |str
 |bz
 |own (e:TypeId)
 |aT
 |mr (sh:Sh)
 deriving DecidableEq
abbrev bo:=List RK
def RK.rd:RK->RK
 |.own e=>.sl e|k=>k
inductive CT where
 |int (k:IntKind)
 |bool
 |bz (z:Value) (k:RK)
abbrev eN:=List CT
inductive TD where
 |one
 |gI
 |str
 |slice (e:TypeId)
 |arr (n:Nat) (e:TypeId)
 |struct (fs:List (Nat×TypeId))
 |map (k e:TypeId) (n:Nat) (ag:Bool)
structure TI where
 d:TD
 am:eN
 eq:Bool:=E
abbrev vy:=Option TI
mutual
inductive K where
 |c (n:Int)
 |v (k:Nat)
 |bin (op:BinOp) (k:IntKind) (a b:K)
 |conv(k:IntKind) (a:K)
 |len (r:RE)
 |mm (mx:Bool) (a b:K)
 |dw (b:BE) (x y:K)
 |cell (r:RE) (i:K) (j:Nat)
 |oZ (r:RE) (i:K)
 |look (r:RE) (n:Nat) (a b c:K) (j:Nat)
inductive BE where
 |c (b:Bool)
 |v (k:Nat)
 |cmp (op:BinOp) (a b:K)
 |not (a:BE)
 |and (a b:BE)
 |beq (a b:BE)
 |dw (b x y:BE)
 |cell (r:RE) (i:K) (j:Nat)
 |seq (a b:RE)
 |look (r:RE) (n:Nat) (a b c:K) (j:Nat)
 |has (r:RE) (n:Nat) (a b c:K)
inductive RE where
 |v (k:Nat)
 |cell (r:RE) (i:K) (j:Nat) (k:RK)
 |k (v:Value)
end
inductive C where
 |int (k:IntKind) (e:K)
 |bool (b:BE)
 |ak (r:RE)
 |loc (i off:Nat)
 |el (r:RE) (w:Nat) (i:K) (off:Nat)
 |iP (i off len cap:Nat)
 |agg (l:List C)
 |bI (l:List C)
 |fn (f:FuncId) (bE:List C)
 |gI (t:TypeId) (x:C)
 |yl (n:Nat)
 |any
 |mp (i:Nat)
 |gq (e:K) (ks:List Int) (vs:List C)
abbrev aq:=List C
abbrev yZ:=List (List C)
abbrev Ex:=Option (List C)
inductive PX where
 |ret
 |exit (id:Nat)
 deriving DecidableEq
inductive JH where
 |ready
 |busy
 |done (e:PX)
 deriving DecidableEq
abbrev vz:=List JH
abbrev bm:=List (Option (TypeId×aq))
structure S where
 tmps:aq
 au:bm
 ni:Nat
 nb:Nat
 rs:bo
 ax:Nat
 lk:Nat
 pd:vz
noncomputable def bP(l:bm)(i:Nat):Option (TypeId×aq):=AL (motive:=λ_=>Nat->Option (TypeId×aq)) (λ_=>Z) (λx _ X t=>JG (motive:=λ_=>Option (TypeId×aq)) x (λm _=>X m) t) l i
theorem bT:∀(l:bm)(i:Nat),bP l i=(match l[i]? with|U (U b)=>U b|_=>Z)
 |[],_=>rfl|Z::_,0=>rfl|U _::_,0=>rfl|_::l,i+1=>by rw[vw];exact bT l i
noncomputable section
def vC:TypeId:=1099511627776
def xl:TypeId:=1099511627777
def zd:TypeId:=1099511627778
def mT(t:TypeId):Bool:=decide (vC<=t)
def mU(l:bm)(i:Nat):Option (TypeId×aq):=match bP l i with|U (t,X)=>if mT t then Z else U (t,X)|none=>Z
inductive LK where
 |int (k:IntKind)
 |bool
 |ak (k:RK)
 deriving DecidableEq
abbrev aN:=List LK
inductive XE where
 |normal
 |ret
 |exit (id:Nat)
 |bp (v:C)
inductive LE where
 |ak (r:RE)
 |lit (l:List (List C))
 |iC (a b:LE)
 |xo (n:K) (row:List C)
 |set (a:LE) (i:K) (off:Nat) (cs:List C)
 |sub (a:LE) (lo hi:K)
 |ins (a:LE) (n:Nat) (cs:List C)
inductive bu where
 |lex (cs:List Nat) (desc:Bool)
 |ratio (n d:Nat)
 |dE (k:Nat) (o:bu) (as:List K)
abbrev ze:=List (FuncId×FuncId×TypeId×bu×Bool)
inductive T where
 |out (e:XE) (s:S)
 |ret (v:C) (bx:bm) (rs:List RK)
 |bp (v:C)
 |aK (b:BE) (t f:T)
 |aS (b:BE) (t:T)
 |call (f:FuncId) (args:List C) (bx:bm) (rs:List RK) (ks:List LK) (fA:C) (t:T)
 |loop (ax:Nat) (ks:List LK) (x0:List C) (t:T)
 |back (ax:Nat) (x:List C)
 |new (e:TypeId) (x:LE) (rs rsn:List RK) (t:T)
 |ah (k:RK) (x:LE) (rs:List RK) (t:T)
 |gr (g h:BE) (t f:T)
 |pick (n:K) (g h:BE) (t f:T)
 |eG (f g:FuncId) (e:TypeId) (sp:bu) (st:Bool) (r:RE) (rs:List RK) (t:T)
 |stuck (msg:String)
def Rc:Value->C
 |.int k n=>.int k (.c n)|.bool b=>.bool (.c b)|v=>.ak (.k v)
def Re:Value->C
 |.int k n=>.int k (.c n)|.bool b=>.bool (.c b)|.agg X=>.agg (X.toList.map Rc)|v=>.ak (.k v)
def nth(l:aq)(t:Nat):C:=AL (motive:=λ_=>Nat->C) (λ_=>.any) (λx _ X t=>JG (motive:=λ_=>C) x (λm _=>X m) t) l t
def ali(l:aq)(d:Nat)(v:C):aq:=AL (motive:=λ_=>Nat->aq) (λ_=>[]) (λx X W d=>JG (motive:=λ_=>aq) (v::X) (λm _=>x::W m) d) l d
@[simp] theorem zf:∀(l:aq)(t:Nat),nth l t=l.getD t .any
 |[],_=>rfl|_::_,0=>rfl|_::X,t+1=>zf X t
@[simp] theorem Cp:∀(l:aq)(d:Nat)(v:C),ali l d v=l.set d v
 |[],_,_=>rfl|_::_,0,_=>rfl|x::X,d+1,v=>j7 (x::·) (Cp X d v)
def S.ev(X:oa)(s:S):Operand->C
 |.tmp t=>nth s.tmps t|.const v=>Re v
 |.global g=>match X.find? (λx=>x.1==g) with|U (_,k,w)=>.el (.v k) w (.c 0) 0|none=>.any
 |.func f=>.fn f []
def S.put(s:S)(X:cH)(v:C):S:=
 match X with
 |U d=>{s with tmps:=ali s.tmps d v}
 |none=>s
def GO(r:RE)(i:K)(j:Nat):CT->C
 |.int k=>.int k (.cell r i j)|.bool=>.bool (.cell r i j)|.bz _ k=>.ak (.cell r i j k)
def Ey:CT->C
 |.int k=>.int k (.c 0)|.bool=>.bool (.c E)|.bz z _=>.ak (.k z)
def TD.isAgg:TD->Bool
 |.arr _ _|.struct _=>J|_=>E
def C.cells:C->aq
 |.agg l=>l|v=>[v]
def jr:Value->Bool
 |.agg _|.tuple _=>E|_=>J
def RE.JI:RE->Bool
 |.k w=>jr w|_=>J
def C.JJ:C->Bool
 |.ak (.k w)=>jr w|_=>J
def C.single:C->Bool
 |.ak (.k w)=>jr w|.agg _|.bI _|.any=>E|_=>J
noncomputable def GP(l:aq):Bool:=AL (motive:=λ_=>Bool) J (λx _ X=>Mw (motive:=λ_=>Bool) E X x.single) l
def VP:(GP []=J)/\(∀x X,GP (x::X)=(x.single&&GP X)):=⟨rfl,λx X=>by
 show Mw (motive:=λ_=>Bool) E (GP X) x.single=_;cases x.single<;>rfl⟩
def zg(l:aq)(X n:Nat):aq:=(l.drop X).take n
def zh(X:TI)(l:aq)(W:Nat):Option C:=
 if X.d.isAgg then(if W+Y X.am<=Y l then U (.agg (zg l W (Y X.am))) else Z) else l[W]?
def mj(l:aq)(X:Nat):aq->aq
 |[]=>l|v::r=>mj (l.set X v) (X+1) r
def AN(place:Nat->Option (Nat×Nat))(cells:aq):List (Nat×C)->Ex
 |[]=>U cells
 |(i,v)::V=>
  match place i with|none=>Z|U (X,W)=>if Y v.cells !=W||decide (Y cells<X+W)|| !v.JJ then Z else AN place (mj cells X v.cells) V
def et(X:TI):aq:=X.am.map Ey
def zi(n:Nat)(l:aq):aq:=match n with|0=>[]|n+1=>l++zi n l
def VQ:BinOp->Bool
 |.eql|.neq|.lss|.leq|.gtr|.geq=>J|_=>E
def fp:BinOp->Int->Int->Bool
 |.eql,x,y=>x==y|.neq,x,y=>x !=y|.lss,x,y=>decide (x<y)|.leq,x,y=>decide (x<=y)|.gtr,x,y=>decide (x>y)|.geq,x,y=>decide (x>=y)|_,_,_=>E
def be:BinOp->IntKind->Int->Int->Int
 |.add,k,x,y=>k.wrap (x+y)|.sub,k,x,y=>k.wrap (x-y)|.mul,k,x,y=>k.wrap (x*y)|.quo,k,x,y=>k.wrap (x.tdiv y)|.rem,_,x,y=>x.tmod y|.shr,k,x,y=>x.fdiv (2^min y.toNat k.bits)|.and,k,x,y=>k.wrap (BitVec.ofInt k.bits x&&& BitVec.ofInt k.bits y).toNat|_,_,_,_=>0
def acz:BinOp->Bool
 |.add|.sub|.mul|.and=>J|_=>E
def acA:BinOp->Bool
 |.quo|.rem=>J|_=>E
def alj:BinOp->Bool
 |.shr=>J|_=>E
inductive PR where
 |ok (v:C)
 |aS (b:BE) (v:C)
 |no (why:String)
def GQ(X:BinOp)(k:IntKind):K->K->K
 |.c x,.c y=>.c (be X k x y)|a,b=>.bin X k a b
def qZ(X:BinOp):K->K->BE
 |.c x,.c y=>.c (fp X x y)|a,b=>.cmp X a b
def GR:BE->BE
 |.c b=>.c (!b)|b=>.not b
def xp:BE->BE->BE
 |.c J,b=>b|.c E,_=>.c E|a,.c J=>a|a,b=>.and a b
def Rf:BE->BE->BE
 |.c a,.c b=>.c (a==b)|.c J,b=>b|.c E,b=>GR b|a,.c J=>a|a,.c E=>GR a|a,b=>.beq a b
def xq(i:K)(n:K):BE:=xp (qZ .leq (.c 0) i) (qZ .lss i n)
def VR(X:Bool):K->K->K
 |.c x,.c y=>.c (if X then max x y else min x y)|a,b=>.mm X a b
def JK(X:Bool)(k:IntKind):K->aq->Option K
 |e,[]=>U e|e,.int W x::r=>if k=W then JK X k (VR X e x) r else Z|_,_=>Z
abbrev Ty:=TypeId->vy
def bJ(W:Ty):RK->eN
 |.sl e=>match W e with|U X=>X.am|none=>[]
 |.mr V=>(match W V.kt with
  |U X=>X.am
  |none=>[])++(match W V.vt with|U X=>X.am|none=>[])
 |_=>[]
def JL:Option CT->RK
 |U (.bz _ k)=>k|_=>.bz
def RE.isNil:RE->Bool
 |.k (.slice Z 0 0)=>J|_=>E
def RE.kind(X:Ty)(s:S):RE->RK
 |.v n=>(s.rs.getD n .bz).rd
 |.cell r _ j W=>match RE.kind X s r with|.sl e=>if JL (bJ X (.sl e))[j]?=W then W else .bz|_=>.bz
 |.k (.string _)=>.str|.k _=>.bz
def Mx(X:Ty)(s:S):CT->C->C->Option BE
 |.int k,.int W a,.int V b=>if W=k/\V=k then U (qZ .eql a b) else Z|.bool,.bool a,.bool b=>U (Rf a b)|.bz _ .str,.ak a,.ak b=>if a.kind X s=.str/\b.kind X s=.str then U (.seq a b) else Z|_,_,_=>Z
def sU(X:Ty)(s:S):eN->aq->aq->Option BE
 |[],[],[]=>U (.c J)
 |c::W,x::V,y::R=>match Mx X s c x y,sU X s W V R with|U a,U b=>U (xp a b)|_,_=>Z
 |_,_,_=>Z
def My(X:Ty)(s:S)(W:vy)(a b:aq):Option BE:=match W with|U ⟨_,am,J⟩=>sU X s am a b|_=>Z
def acB(X:Ty)(W:List (Nat×TypeId))(i:Nat):Option (Nat×Nat):=match W[i]? with|U (o,V)=>(X V).map λf=>(o,Y f.am)|none=>Z
def RE.nil:RE->Bool
 |.k (.slice Z 0 0)=>J|_=>E
def RE.pK(X:Ty)(s:S)(W:Sh)(r:RE):Bool:=decide (r.kind X s=.mr W)||r.nil
def JM(n:Nat)(X:Bool):C->Option (K×K×K)
 |.int I a=>if n==1&& !X then U (a,.c 0,.c 0) else Z|.agg [.int I a]=>if n==1&&X then U (a,.c 0,.c 0) else Z|.agg [.int I a,.int I b]=>if n==2&&X then U (a,b,.c 0) else Z|.agg [.int I a,.int I b,.int I c]=>if n==3&&X then U (a,b,c) else Z|_=>Z
def oc:CT->Bool
 |.bz _ _=>E|_=>J
def rQ(r:RE)(n:Nat)(a b c:K):Nat->eN->aq
 |_,[]=>[]|j,.int k::X=>.int k (.look r n a b c j)::rQ r n a b c (j+1) X|j,.bool::X=>.bool (.look r n a b c j)::rQ r n a b c (j+1) X|j,.bz z _::X=>.ak (.k z)::rQ r n a b c (j+1) X
def uq(X:Bool)(l:aq):C:=if X then .agg l else l.getD 0 .any
def rT:aq->Option bA
 |[]=>U []|.int I (.c k)::_::r=>(rT r).map (k::·)|_=>Z
def oe:aq->aq
 |_::v::r=>v::oe r|_=>[]
def Cq(e:K):bA->aq->Option K
 |k::X,.int _ x::W=>(Cq e X W).map λy=>.dw (.cmp .eql e (.c k)) x y|[],[]=>U (.c 0)|_,_=>Z
def Ez(e:K):bA->aq->Option BE
 |k::X,.bool x::W=>(Ez e X W).map λy=>.dw (.cmp .eql e (.c k)) x y|[],[]=>U (.c E)|_,_=>Z
def Mz:C->Bool
 |.fn f _=>kz f 2000000|.ak (.k .nilFunc)=>J|_=>E
def Rg:vy->Bool
 |U ⟨.one,[.bz .nilFunc _],_⟩=>J|_=>E
def EA(e:K):bA->aq->BE
 |k::X,.fn _ _::W=>.dw (.cmp .eql e (.c k)) (.c E) (EA e X W)|k::X,_::W=>.dw (.cmp .eql e (.c k)) (.c J) (EA e X W)|_,_=>.c J
def acC(e:K)(W:bA)(X:aq):CT->Option C
 |.int k=>if X.all λv=>match v with|.int V _=>decide (k=V)|_=>E then(Cq e W X).map (.int k) else Z
 |.bool=>(Ez e W X).map .bool|.bz .nilFunc _=>if X.all Mz&&Y W==Y X then U (.gq e W X) else Z|_=>Z
def EB(e:K)(X:bA)(W:yZ):Nat->eN->Ex
 |_,[]=>U []
 |j,c::V=>match acC e X (W.map λr=>r.getD j .any) c,EB e X W (j+1) V with|U v,U r=>U (v::r)|_,_=>Z
def JN(e:K):bA->BE
 |[]=>.c E|k::X=>.dw (.cmp .eql e (.c k)) (.c J) (JN e X)
def eW{X:Type}(x:Int):bA->List X->Option X
 |k::W,v::V=>if x=k then U v else eW x W V|_,_=>Z
def Cr(X:TI)(v:C):Bool:=Y v.cells==Y X.am&&v.JJ&&(match v with|.agg _=>X.d.isAgg|_=> !X.d.isAgg)
def alk(X:TI)(e:K)(W:aq):Option (C×BE):=match rT W with
 |U V=>match e with
  |.c x=>match eW x V (oe W) with|U v=>U (v,.c J)|none=>U (uq X.d.isAgg (et X),.c E)
  |e=>if(oe W).all (Cr X) then(EB e V ((oe W).map C.cells) 0 X.am).map λl=>(uq X.d.isAgg l,JN e V) else Z
 |none=>Z
def acD:CT->Bool
 |.int I=>J|_=>E
def ur(X:Ty)(k:TypeId)(n:Nat)(W:Bool):Bool:=match X k with|U tk=>Y tk.am==n&&tk.am.all acD&&tk.d.isAgg==W|none=>E
def VS(X:Bool)(v:C)(b:BE):PR:=.ok (if X then .bI [v,.bool b] else v)
def VT(V:Ty)(s:S)(k e:TypeId)(n:Nat)(W R:Bool)(i:Nat)(O:C):PR:=match V e,JM n W O,bP s.au i with
 |U X,U (a,b,c),U (Q,P)=>if !ur V k n W then .no "" else
  if Q==xl then(match P with
   |[.ak r,.int I (.c N),.bool (.c M),.bool (.c L)]=>if r.pK V s ⟨k,e,n,W,X.d.isAgg⟩&&N==(n:Int)&&M==W&&L==X.d.isAgg&&X.am.all oc&&Y X.am !=0 then VS R (uq X.d.isAgg (rQ r n a b c n X.am)) (.has r n a b c) else .no ""
   |_=>.no "")
  else if Q==vC then(if n==1&& !W then(match alk X a P with|U (v,x)=>VS R v x|none=>.no "") else .no "")
  else .no ""
 |_,_,_=>.no ""
def EC(n:Nat):bA:=(dj n).map λ(i:Nat)=>(i:Int)
def VU(X:TI)(e:K)(V:bA)(W:aq):Option C:=if W.all (Cr X) then(EB e V (W.map C.cells) 0 X.am).map (uq X.d.isAgg) else Z
def AO(X:aq):cH:=match X with
 |.loc i _::_=>if X.all λv=>match v with|.loc j _=>i==j|_=>E then U i else Z
 |_=>Z
def GS{X:Type}:List (Option X)->Option (List X)
 |[]=>U []|U x::r=>(GS r).map (x::·)|Z::_=>Z
def acG(X:TI)(W:aq):C->Option C
 |.loc _ V=>zh X W V|_=>Z
def JO:Value->Value->Bool
 |.string a,.string b=>a.data.toList==b.data.toList|.slice Z a b,.slice Z c d=>a==c&&b==d|.pointer Z,.pointer Z=>J|.nilFunc,.nilFunc=>J|.nilIface,.nilIface=>J|.map Z,.map Z=>J|_,_=>E
def Cs(a b:BinOp):Bool:=decide (a=b)
noncomputable def K.aR(e:K):K->Bool:=K.rec (motive_1:=λ_=>K->Bool) (motive_2:=λ_=>BE->Bool) (motive_3:=λ_=>RE->Bool) (λn e=>match e with|K.c N=>n==N|_=>E) (λk e=>match e with|K.v O=>k==O|_=>E) (λo k _ _ X W e=>match e with|K.bin D O V R=>Cs o D&&decide (k=O)&&X V&&W R|_=>E) (λk _ X e=>match e with|K.conv O V=>decide (k=O)&&X V|_=>E) (λ_ Q e=>match e with|K.len P=>Q P|_=>E) (λm _ _ X W e=>match e with|K.mm x V R=>m==x&&X V&&W R|_=>E) (λ_ _ _ W B A e=>match e with|K.dw R z y=>W R&&B z&&A y|_=>E) (λ_ _ j Q L e=>match e with|K.cell P H M=>Q P&&L H&&j==M|_=>E) (λ_ _ Q L e=>match e with|K.oZ P H=>Q P&&L H|_=>E) (λ_ n _ _ _ j Q X W G e=>match e with|K.look P N V R F M=>Q P&&n==N&&X V&&W R&&G F&&j==M|_=>E) (λn e=>match e with|BE.c N=>n==N|_=>E) (λk e=>match e with|BE.v O=>k==O|_=>E) (λo _ _ X W e=>match e with|BE.cmp D V R=>Cs o D&&X V&&W R|_=>E) (λ_ X e=>match e with|BE.not V=>X V|_=>E) (λ_ _ X W e=>match e with|BE.and V R=>X V&&W R|_=>E) (λ_ _ X W e=>match e with|BE.beq V R=>X V&&W R|_=>E) (λ_ _ _ W B A e=>match e with|BE.dw R z y=>W R&&B z&&A y|_=>E) (λ_ _ j Q L e=>match e with|BE.cell P H M=>Q P&&L H&&j==M|_=>E) (λ_ _ X W e=>match e with|BE.seq V R=>X V&&W R|_=>E) (λ_ n _ _ _ j Q X W G e=>match e with|BE.look P N V R F M=>Q P&&n==N&&X V&&W R&&G F&&j==M|_=>E) (λ_ n _ _ _ Q X W G e=>match e with|BE.has P N V R F=>Q P&&n==N&&X V&&W R&&G F|_=>E) (λk e=>match e with|RE.v O=>k==O|_=>E) (λ_ _ j k Q L e=>match e with|RE.cell P H M O=>Q P&&L H&&j==M&&decide (k=O)|_=>E) (λv e=>match e with|RE.k w=>JO v w|_=>E) e
noncomputable def BE.aR(e:BE):BE->Bool:=BE.rec (motive_1:=λ_=>K->Bool) (motive_2:=λ_=>BE->Bool) (motive_3:=λ_=>RE->Bool) (λn e=>match e with|K.c N=>n==N|_=>E) (λk e=>match e with|K.v O=>k==O|_=>E) (λo k _ _ X W e=>match e with|K.bin D O V R=>Cs o D&&decide (k=O)&&X V&&W R|_=>E) (λk _ X e=>match e with|K.conv O V=>decide (k=O)&&X V|_=>E) (λ_ Q e=>match e with|K.len P=>Q P|_=>E) (λm _ _ X W e=>match e with|K.mm x V R=>m==x&&X V&&W R|_=>E) (λ_ _ _ W B A e=>match e with|K.dw R z y=>W R&&B z&&A y|_=>E) (λ_ _ j Q L e=>match e with|K.cell P H M=>Q P&&L H&&j==M|_=>E) (λ_ _ Q L e=>match e with|K.oZ P H=>Q P&&L H|_=>E) (λ_ n _ _ _ j Q X W G e=>match e with|K.look P N V R F M=>Q P&&n==N&&X V&&W R&&G F&&j==M|_=>E) (λn e=>match e with|BE.c N=>n==N|_=>E) (λk e=>match e with|BE.v O=>k==O|_=>E) (λo _ _ X W e=>match e with|BE.cmp D V R=>Cs o D&&X V&&W R|_=>E) (λ_ X e=>match e with|BE.not V=>X V|_=>E) (λ_ _ X W e=>match e with|BE.and V R=>X V&&W R|_=>E) (λ_ _ X W e=>match e with|BE.beq V R=>X V&&W R|_=>E) (λ_ _ _ W B A e=>match e with|BE.dw R z y=>W R&&B z&&A y|_=>E) (λ_ _ j Q L e=>match e with|BE.cell P H M=>Q P&&L H&&j==M|_=>E) (λ_ _ X W e=>match e with|BE.seq V R=>X V&&W R|_=>E) (λ_ n _ _ _ j Q X W G e=>match e with|BE.look P N V R F M=>Q P&&n==N&&X V&&W R&&G F&&j==M|_=>E) (λ_ n _ _ _ Q X W G e=>match e with|BE.has P N V R F=>Q P&&n==N&&X V&&W R&&G F|_=>E) (λk e=>match e with|RE.v O=>k==O|_=>E) (λ_ _ j k Q L e=>match e with|RE.cell P H M O=>Q P&&L H&&j==M&&decide (k=O)|_=>E) (λv e=>match e with|RE.k w=>JO v w|_=>E) e
noncomputable def RE.aR(e:RE):RE->Bool:=RE.rec (motive_1:=λ_=>K->Bool) (motive_2:=λ_=>BE->Bool) (motive_3:=λ_=>RE->Bool) (λn e=>match e with|K.c N=>n==N|_=>E) (λk e=>match e with|K.v O=>k==O|_=>E) (λo k _ _ X W e=>match e with|K.bin D O V R=>Cs o D&&decide (k=O)&&X V&&W R|_=>E) (λk _ X e=>match e with|K.conv O V=>decide (k=O)&&X V|_=>E) (λ_ Q e=>match e with|K.len P=>Q P|_=>E) (λm _ _ X W e=>match e with|K.mm x V R=>m==x&&X V&&W R|_=>E) (λ_ _ _ W B A e=>match e with|K.dw R z y=>W R&&B z&&A y|_=>E) (λ_ _ j Q L e=>match e with|K.cell P H M=>Q P&&L H&&j==M|_=>E) (λ_ _ Q L e=>match e with|K.oZ P H=>Q P&&L H|_=>E) (λ_ n _ _ _ j Q X W G e=>match e with|K.look P N V R F M=>Q P&&n==N&&X V&&W R&&G F&&j==M|_=>E) (λn e=>match e with|BE.c N=>n==N|_=>E) (λk e=>match e with|BE.v O=>k==O|_=>E) (λo _ _ X W e=>match e with|BE.cmp D V R=>Cs o D&&X V&&W R|_=>E) (λ_ X e=>match e with|BE.not V=>X V|_=>E) (λ_ _ X W e=>match e with|BE.and V R=>X V&&W R|_=>E) (λ_ _ X W e=>match e with|BE.beq V R=>X V&&W R|_=>E) (λ_ _ _ W B A e=>match e with|BE.dw R z y=>W R&&B z&&A y|_=>E) (λ_ _ j Q L e=>match e with|BE.cell P H M=>Q P&&L H&&j==M|_=>E) (λ_ _ X W e=>match e with|BE.seq V R=>X V&&W R|_=>E) (λ_ n _ _ _ j Q X W G e=>match e with|BE.look P N V R F M=>Q P&&n==N&&X V&&W R&&G F&&j==M|_=>E) (λ_ n _ _ _ Q X W G e=>match e with|BE.has P N V R F=>Q P&&n==N&&X V&&W R&&G F|_=>E) (λk e=>match e with|RE.v O=>k==O|_=>E) (λ_ _ j k Q L e=>match e with|RE.cell P H M O=>Q P&&L H&&j==M&&decide (k=O)|_=>E) (λv e=>match e with|RE.k w=>JO v w|_=>E) e
def K.ip:(∀n e,K.aR (.c n) e=match e with|K.c Q=>n==Q|_=>E)/\(∀k e,K.aR (.v k) e=match e with|K.v R=>k==R|_=>E)/\(∀o k a b e,K.aR (.bin o k a b) e=match e with|K.bin N R X W=>Cs o N&&decide (k=R)&&K.aR a X&&K.aR b W|_=>E)/\(∀k a e,K.aR (.conv k a) e=match e with|K.conv R X=>decide (k=R)&&K.aR a X|_=>E)/\(∀r e,K.aR (.len r) e=match e with|K.len V=>RE.aR r V|_=>E)/\(∀m a b e,K.aR (.mm m a b) e=match e with|K.mm M X W=>m==M&&K.aR a X&&K.aR b W|_=>E)/\(∀b x y e,K.aR (.dw b x y) e=match e with|K.dw W L H=>BE.aR b W&&K.aR x L&&K.aR y H|_=>E)/\(∀r i j e,K.aR (.cell r i j) e=match e with|K.cell V P O=>RE.aR r V&&K.aR i P&&j==O|_=>E)/\(∀r i e,K.aR (.oZ r i) e=match e with|K.oZ V P=>RE.aR r V&&K.aR i P|_=>E)/\(∀r n a b c j e,K.aR (.look r n a b c j) e=match e with|K.look V Q X W G O=>RE.aR r V&&n==Q&&K.aR a X&&K.aR b W&&K.aR c G&&j==O|_=>E):=⟨λ_ _=>rfl,λ_ _=>rfl,λ_ _ _ _ _=>rfl,λ_ _ _=>rfl,λ_ _=>rfl,λ_ _ _ _=>rfl,λ_ _ _ _=>rfl,λ_ _ _ _=>rfl,λ_ _ _=>rfl,λ_ _ _ _ _ _ _=>rfl⟩
def BE.ip:(∀n e,BE.aR (.c n) e=match e with|BE.c V=>n==V|_=>E)/\(∀k e,BE.aR (.v k) e=match e with|BE.v O=>k==O|_=>E)/\(∀o a b e,BE.aR (.cmp o a b) e=match e with|BE.cmp N X W=>Cs o N&&K.aR a X&&K.aR b W|_=>E)/\(∀a e,BE.aR (.not a) e=match e with|BE.not X=>BE.aR a X|_=>E)/\(∀a b e,BE.aR (.and a b) e=match e with|BE.and X W=>BE.aR a X&&BE.aR b W|_=>E)/\(∀a b e,BE.aR (.beq a b) e=match e with|BE.beq X W=>BE.aR a X&&BE.aR b W|_=>E)/\(∀b x y e,BE.aR (.dw b x y) e=match e with|BE.dw W M L=>BE.aR b W&&BE.aR x M&&BE.aR y L|_=>E)/\(∀r i j e,BE.aR (.cell r i j) e=match e with|BE.cell R H Q=>RE.aR r R&&K.aR i H&&j==Q|_=>E)/\(∀a b e,BE.aR (.seq a b) e=match e with|BE.seq X W=>RE.aR a X&&RE.aR b W|_=>E)/\(∀r n a b c j e,BE.aR (.look r n a b c j) e=match e with|BE.look R V X W P Q=>RE.aR r R&&n==V&&K.aR a X&&K.aR b W&&K.aR c P&&j==Q|_=>E)/\(∀r n a b c e,BE.aR (.has r n a b c) e=match e with|BE.has R V X W P=>RE.aR r R&&n==V&&K.aR a X&&K.aR b W&&K.aR c P|_=>E):=⟨λ_ _=>rfl,λ_ _=>rfl,λ_ _ _ _=>rfl,λ_ _=>rfl,λ_ _ _=>rfl,λ_ _ _=>rfl,λ_ _ _ _=>rfl,λ_ _ _ _=>rfl,λ_ _ _=>rfl,λ_ _ _ _ _ _ _=>rfl,λ_ _ _ _ _ _=>rfl⟩
def RE.ip:(∀k e,RE.aR (.v k) e=match e with|RE.v X=>k==X|_=>E)/\(∀r i j k e,RE.aR (.cell r i j k) e=match e with|RE.cell W V R X=>RE.aR r W&&K.aR i V&&j==R&&decide (k=X)|_=>E)/\(∀v e,RE.aR (.k v) e=match e with|RE.k Q=>JO v Q|_=>E):=⟨λ_ _=>rfl,λ_ _ _ _ _=>rfl,λ_ _=>rfl⟩
noncomputable def C.aR(v:C):C->Bool:=C.rec (motive_1:=λ_=>C->Bool) (motive_2:=λ_=>aq->Bool) (λk e v=>match v with|C.int O V=>decide (k=O)&&e.aR V|_=>E) (λb v=>match v with|C.bool R=>b.aR R|_=>E) (λr v=>match v with|C.ak Q=>r.aR Q|_=>E) (λi o v=>match v with|C.loc X P=>i==X&&o==P|_=>E) (λr w i o v=>match v with|C.el Q N X P=>r.aR Q&&w==N&&i.aR X&&o==P|_=>E) (λa b c d v=>match v with|C.iP M R L H=>a==M&&b==R&&c==L&&d==H|_=>E) (λ_ h v=>match v with|C.agg W=>h W|_=>E) (λ_ h v=>match v with|C.bI W=>h W|_=>E) (λf _ h v=>match v with|C.fn G W=>f==G&&h W|_=>E) (λt _ h v=>match v with|C.gI F D=>t==F&&h D|_=>E) (λn v=>match v with|C.yl B=>n==B|_=>E) (λv=>match v with|C.any=>J|_=>E) (λi v=>match v with|C.mp X=>i==X|_=>E) (λe A _ h v=>match v with|C.gq V z x=>e.aR V&&A==z&&h x|_=>E) (λl=>match l with|[]=>J|_=>E) (λ_ _ h u l=>match l with|y::s=>h y&&u s|_=>E) v
noncomputable def C.og(l:aq):aq->Bool:=C.rec_1 (motive_1:=λ_=>C->Bool) (motive_2:=λ_=>aq->Bool) (λk e v=>match v with|C.int O V=>decide (k=O)&&e.aR V|_=>E) (λb v=>match v with|C.bool R=>b.aR R|_=>E) (λr v=>match v with|C.ak Q=>r.aR Q|_=>E) (λi o v=>match v with|C.loc X P=>i==X&&o==P|_=>E) (λr w i o v=>match v with|C.el Q N X P=>r.aR Q&&w==N&&i.aR X&&o==P|_=>E) (λa b c d v=>match v with|C.iP M R L H=>a==M&&b==R&&c==L&&d==H|_=>E) (λ_ h v=>match v with|C.agg W=>h W|_=>E) (λ_ h v=>match v with|C.bI W=>h W|_=>E) (λf _ h v=>match v with|C.fn G W=>f==G&&h W|_=>E) (λt _ h v=>match v with|C.gI F D=>t==F&&h D|_=>E) (λn v=>match v with|C.yl B=>n==B|_=>E) (λv=>match v with|C.any=>J|_=>E) (λi v=>match v with|C.mp X=>i==X|_=>E) (λe A _ h v=>match v with|C.gq V z x=>e.aR V&&A==z&&h x|_=>E) (λl=>match l with|[]=>J|_=>E) (λ_ _ h u l=>match l with|y::s=>h y&&u s|_=>E) l
def C.ip:(∀k e v,C.aR (.int k e) v=match v with|C.int M V=>decide (k=M)&&e.aR V|_=>E)/\(∀b v,C.aR (.bool b) v=match v with|C.bool R=>b.aR R|_=>E)/\(∀r v,C.aR (.ak r) v=match v with|C.ak Q=>r.aR Q|_=>E)/\(∀i o v,C.aR (.loc i o) v=match v with|C.loc X P=>i==X&&o==P|_=>E)/\(∀r w i o v,C.aR (.el r w i o) v=match v with|C.el Q L X P=>r.aR Q&&w==L&&i.aR X&&o==P|_=>E)/\(∀a b c d v,C.aR (.iP a b c d) v=match v with|C.iP H R G F=>a==H&&b==R&&c==G&&d==F|_=>E)/\(∀l v,C.aR (.agg l) v=match v with|C.agg W=>C.og l W|_=>E)/\(∀l v,C.aR (.bI l) v=match v with|C.bI W=>C.og l W|_=>E)/\(∀f l v,C.aR (.fn f l) v=match v with|C.fn D W=>f==D&&C.og l W|_=>E)/\(∀t x v,C.aR (.gI t x) v=match v with|C.gI B A=>t==B&&C.aR x A|_=>E)/\(∀n v,C.aR (.yl n) v=match v with|C.yl z=>n==z|_=>E)/\(∀v,C.aR (.any) v=match v with|C.any=>J|_=>E)/\(∀i v,C.aR (.mp i) v=match v with|C.mp X=>i==X|_=>E)/\(∀e O N v,C.aR (.gq e O N) v=match v with|C.gq V y u=>e.aR V&&O==y&&C.og N u|_=>E):=⟨λ_ _ _=>rfl,λ_ _=>rfl,λ_ _=>rfl,λ_ _ _=>rfl,λ_ _ _ _ _=>rfl,λ_ _ _ _ _=>rfl,λ_ _=>rfl,λ_ _=>rfl,λ_ _ _=>rfl,λ_ _ _=>rfl,λ_ _=>rfl,λ_=>rfl,λ_ _=>rfl,λ_ _ _ _=>rfl⟩
def C.alm:(∀l,C.og [] l=match l with|[]=>J|_=>E)/\(∀x X l,C.og (x::X) l=match l with|y::W=>C.aR x y&&C.og X W|_=>E):=⟨λ_=>rfl,λ_ _ _=>rfl⟩
def cw(X:Ty)(W:oa)(s:S):Op->PR
 |.move x|.assign x=>.ok (s.ev W x)
 |.pick c a b=>match s.ev W c with|.bool (.c J)=>.ok (s.ev W a)|.bool (.c E)=>.ok (s.ev W b)|_=>.no ""
 |.load t a=>match X t,s.ev W a with
  |U P,.loc i V=>match mU s.au i with
   |U (_,H)=>match zh P H V with|U v=>.ok v|none=>.no ""
   |none=>.no ""
  |U P,.el r w i V=>match r.kind X s with
   |.sl e=>
    if(bJ X (.sl e)).length !=w then .no "" else
    match zh P ((dj w).map λj=>GO r i j ((bJ X (.sl e)).getD j .bool)) V with|U v=>.aS (xq i (.len r)) v|none=>.no ""
   |_=>.no ""
  |U P,.gq e M N=>match(AO N).bind λi=>mU s.au i with
   |U (_,H)=>match(GS (N.map (acG P H))).bind (VU P e M) with
    |U v=>if Y M==Y N then .aS (JN e M) v else .no ""
    |none=>.no ""
   |none=>.no ""
  |_,_=>.no ""
 |.fieldAddr G x f=>match X G,s.ev W x with
  |U ⟨.struct O,_,_⟩,.loc i V=>match O[f]? with
   |U (o,t)=>match X t with
    |U P=>if Y P.am==0 then .no "" else .ok (.loc i (V+o))
    |none=>.no ""
   |none=>.no ""
  |U ⟨.struct O,_,_⟩,.el r w i V=>match O[f]? with
   |U (o,t)=>match X t with
    |U P=>if Y P.am==0 then .no "" else .ok (.el r w i (V+o))
    |none=>.no ""
   |none=>.no ""
  |_,_=>.no ""
 |.field G x f=>match X G,s.ev W x with
  |U ⟨.struct O,_,_⟩,.agg l=>match O[f]? with
   |U (o,t)=>match X t with
    |U P=>match zh P l o with|U v=>.ok v|none=>.no ""
    |none=>.no ""
   |none=>.no ""
  |_,_=>.no ""
 |.indexAddr t x L=>match X t,s.ev W x,s.ev W L with
  |U ⟨.arr n e,_,_⟩,.loc i V,.int _ (.c m)=>match X e with
   |U R=>if decide (0<=m)&&decide (m<(n:Int)) then .ok (.loc i (V+m.toNat*Y R.am)) else .no ""
   |none=>.no ""
  |U ⟨.arr n e,_,_⟩,.el r w (.c i) V,.int _ m=>match X e with
   |U R=>if Y R.am==w&&i==0&&V==0&&Y R.am !=0 then .aS (xq m (.c n)) (.el r w m 0) else
    match m with
    |.c m=>if decide (0<=m)&&decide (m<(n:Int)) then .ok (.el r w (.c i) (V+m.toNat*Y R.am)) else .no ""
    |_=>.no ""
   |none=>.no ""
  |U ⟨.arr n e,_,_⟩,.el r w i V,.int _ (.c m)=>match X e with
   |U R=>if decide (0<=m)&&decide (m<(n:Int)) then .ok (.el r w i (V+m.toNat*Y R.am)) else .no ""
   |none=>.no ""
  |U ⟨.slice e,_,_⟩,.ak r,.int _ m=>match X e,r.kind X s with|U R,.sl _=>.aS (xq m (.len r)) (.el r (Y R.am) m 0)|_,_=>.no ""
  |U ⟨.slice e,_,_⟩,.iP i V B _,.int _ (.c m)=>match X e with
   |U R=>if decide (0<=m)&&decide (m<(B:Int)) then .ok (.loc i (V+m.toNat*Y R.am)) else .no ""
   |none=>.no ""
  |U ⟨.arr n e,_,_⟩,.loc i V,.int _ m=>match X e with|U R=>.aS (xq m (.c n)) (.gq m (EC n) ((dj n).map λj=>.loc i (V+j*Y R.am)))|none=>.no ""
  |_,_,_=>.no ""
 |.index t x L=>match X t,s.ev W x,s.ev W L with
  |U ⟨.arr n e,_,_⟩,.agg l,.int _ (.c m)=>match X e with
   |U R=>if decide (0<=m)&&decide (m<(n:Int)) then(match zh R l (m.toNat*Y R.am) with|U v=>.ok v|none=>.no "") else .no ""
   |none=>.no ""
  |U ⟨.arr n e,_,_⟩,.agg l,.int _ m=>match X e with
   |U R=>match(GS ((dj n).map λj=>zh R l (j*Y R.am))).bind (VU R m (EC n)) with|U v=>.aS (xq m (.c n)) v|none=>.no ""
   |none=>.no ""
  |U ⟨.str,_,_⟩,.ak r,.int _ m=>match r.kind X s with|.str=>.aS (xq m (.len r)) (.int .u8 (.oZ r m))|_=>.no ""
  |_,_,_=>.no ""
 |.binOp Q t x y _=>match s.ev W x,s.ev W y with
  |.int k a,.int A b=>
   if alj Q then(match b with
    |.c n=>if decide (0<=n) then .ok (.int k (GQ Q k a (.c n))) else .no ""
    |b=>.aS (.cmp .leq (.c 0) b) (.int k (GQ Q k a b))) else
   if k≠A then .no "" else
   if VQ Q then .ok (.bool (qZ Q a b)) else
   if acz Q then .ok (.int k (GQ Q k a b)) else
   if acA Q then(match b with
    |.c n=>if n==0 then .no "" else .ok (.int k (GQ Q k a b))
    |_=>.aS (qZ .neq b (.c 0)) (.int k (GQ Q k a b))) else .no ""
  |.bool a,.bool b=>match X t,Q with|U ⟨.one,[.bool],_⟩,.eql=>.ok (.bool (Rf a b))|U ⟨.one,[.bool],_⟩,.neq=>.ok (.bool (GR (Rf a b)))|_,_=>.no ""
  |.ak (.k .nilFunc),.ak (.k .nilFunc)=>if !Rg (X t) then .no "" else match Q with|.eql=>.ok (.bool (.c J))|.neq=>.ok (.bool (.c E))|_=>.no ""
  |.ak a,.ak b=>match a.kind X s,b.kind X s,Q with|.str,.str,.eql=>.ok (.bool (.seq a b))|.str,.str,.neq=>.ok (.bool (.not (.seq a b)))|_,_,_=>.no ""
  |.fn f _,.ak (.k .nilFunc)=>if !Rg (X t)|| !kz f 2000000 then .no "" else match Q with|.eql=>.ok (.bool (.c E))|.neq=>.ok (.bool (.c J))|_=>.no ""
  |.gq e M N,.ak (.k .nilFunc)=>if N.all Mz&&Y M==Y N&&Rg (X t) then(match Q with|.eql=>.ok (.bool (EA e M N))|.neq=>.ok (.bool (GR (EA e M N)))|_=>.no "") else .no ""
  |.agg a,.agg b=>match Q,My X s (X t) a b with|.eql,U e=>.ok (.bool e)|.neq,U e=>.ok (.bool (GR e))|_,_=>.no ""
  |_,_=>.no ""
 |.unOp Q _ x=>match Q,s.ev W x with|.not,.bool b=>.ok (.bool (GR b))|.neg,.int k e=>.ok (.int k (GQ .sub k (.c 0) e))|_,_=>.no ""
 |.convert z u x=>match X z,X u,s.ev W x with|U ⟨.one,[.int _],_⟩,U ⟨.one,[.int k],_⟩,.int _ (.c n)=>.ok (.int k (.c (k.wrap n)))|U ⟨.one,[.int _],_⟩,U ⟨.one,[.int k],_⟩,.int _ e=>.ok (.int k (.conv k e))|_,_,_=>.no ""
 |.makeInterface t x=>match X t with
  |U ⟨.gI,_,_⟩=>.no ""
  |U _=>.ok (.gI t (s.ev W x))|none=>.no ""
 |.makeFunc g first bE=>match g,first.toList with
  |.func f,[]=>cond (kz f 1000000) (.ok (.fn f (bE.toList.map (s.ev W)))) (.no "")
  |.func f,[x]=>cond (kz f 1000000) (.ok (.fn (f+1000000) (s.ev W x::bE.toList.map (s.ev W)))) (.no "")
  |_,_=>.no ""
 |.extract x i=>match s.ev W x with
  |.bI l=>match l[i]? with|U v=>.ok v|none=>.no ""
  |_=>.no ""
 |.nilCheck x=>match s.ev W x with
  |.loc i V=>.ok (.loc i V)|.el r w i V=>.ok (.el r w i V)|.fn f bE=>cond (kz f 2000000) (.ok (.fn f bE)) (.no "")
  |_=>.no ""
 |.slice t x F D d=>match X t,s.ev W x,d with
  |U ⟨.arr n e,_,_⟩,.loc i V,Z=>match X e,F.map (s.ev W),D.map (s.ev W) with
   |U _,Z,Z=>.ok (.iP i V n n)|U R,U (.int _ (.c l)),Z=>if decide (0<=l)&&decide (l<(n:Int)) then .ok (.iP i (V+l.toNat*Y R.am) (n-l.toNat) (n-l.toNat)) else .no ""
   |_,_,_=>.no ""
  |U ⟨.slice e,_,_⟩,.ak r,U m=>match F,D.map (s.ev W),s.ev W m with
   |Z,U (.int I h),.int I q=>if r.isNil=J then(if h.aR (.c 0)&&q.aR (.c 0)&&(X e).isSome then .ok (.ak r) else .no "") else if r.kind X s=.sl e then(if h.aR (.len r)&&q.aR (.len r)&&(X e).isSome then .ok (.fn 3000000 [.ak r]) else .no "") else .no ""
   |_,_,_=>.no ""
  |_,_,_=>.no ""
 |.build t parts=>match X t with
  |U ⟨.struct O,am,q⟩=>if !(O.all λf=>(X f.2).isSome) then .no "" else match AN (acB X O) (et ⟨.struct O,am,q⟩) (parts.toList.map λp=>(p.1,s.ev W p.2)) with|U l=>.ok (.agg l)|none=>.no ""
  |U ⟨.arr n e,am,q⟩=>match X e with
   |U R=>match AN (λi=>U (i*Y R.am,Y R.am)) (et ⟨.arr n e,am,q⟩) (parts.toList.map λp=>(p.1,s.ev W p.2)) with|U l=>.ok (.agg l)|none=>.no ""
   |none=>.no ""
  |_=>.no ""
 |.call c=>match c.callee with
  |.builtin .len=>match c.argTypes.toList,c.args.toList.map (s.ev W) with
   |[t],[.ak (.k (.slice Z 0 0))]=>match X t with|U ⟨.slice _,_,_⟩=>.ok (.int I (.c 0))|_=>.no ""
   |[t],[.ak r]=>match X t,r.kind X s with|U ⟨.slice _,_,_⟩,.sl _=>.ok (.int I (.len r))|U ⟨.str,_,_⟩,.str=>.ok (.int I (.len r))|_,_=>.no ""
   |[t],[.iP _ _ n _]=>match X t with|U ⟨.slice _,_,_⟩=>.ok (.int I (.c n))|_=>.no ""
   |_,_=>.no ""
  |.builtin .min=>match c.args.toList.map (s.ev W) with
   |.int k x::r=>match JK E k x r with|U e=>.ok (.int k e)|none=>.no ""
   |_=>.no ""
  |.builtin .max=>match c.args.toList.map (s.ev W) with
   |.int k x::r=>match JK J k x r with|U e=>.ok (.int k e)|none=>.no ""
   |_=>.no ""
  |_=>.no ""
 |.lookup t x L ok=>match X t,s.ev W x with|U ⟨.map k e n ag,_,_⟩,.mp i=>VT X s k e n ag ok i (s.ev W L)|_,_=>.no ""
 |_=>.no ""
def Ct(X:oa)(s:S):Op->cH
 |.load _ x=>match s.ev X x with|.loc i _=>U i|.gq _ _ W=>AO W|_=>Z
 |.lookup _ x _ _=>match s.ev X x with|.mp i=>U i|_=>Z
 |_=>Z
def aln:∀n:Nat,∃q,8^n=7*q+1
 |0=>⟨0,rfl⟩
 |n+1=>by
  obtain⟨q,h⟩:=aln n;exact⟨8*q+1,by rw[awt,h];omega⟩
def A3(n:Nat):Nat:=Nat.div (Nat.sub (Nat.pow 8 n) 1) 7
def alo(n:Nat):8^n=7*A3 n+1:=by
 obtain⟨q,h⟩:=aln n;have:A3 n=q:=by
  show(8^n-1)/7=q;rw[h];omega
 rw[this];exact h
def VV(n:Nat):A3 (n+1)=8*A3 n+1:=by
 have X:=alo n;have W:=alo (n+1);rw[awt,X] at W;omega
def alp:∀(n j:Nat),(A3 n).testBit j=(decide (j%3=0)&&decide (j/3<n))
 |0,j=>by simp[show A3 0=0 from rfl]|n+1,0=>by rw[VV,awe];simp;omega|n+1,1=>by rw[VV,VB,show(8*A3 n+1)/2=4*A3 n from ae,awe];simp;omega|n+1,2=>by rw[VV,VB,VB,show(8*A3 n+1)/2/2=2*A3 n from ae,awe];simp
 |n+1,j+3=>by
  rw[VV,VB,VB,VB,show(8*A3 n+1)/2/2/2=A3 n from ae,alp n j,Nat.add_mod_right,Nat.add_div_right _ ae];simp
def nL(X W V:Nat):Nat:=b9 (A3 X) (b9 (nG (A3 W) 1) (nG (A3 V) 2))
def acH(X W V j:Nat):(nL X W V).testBit j=if j%3=0 then decide (j/3<X) else if j%3=1 then decide (j/3<W) else decide (j/3<V):=by
 change(A3 X|||(A3 W<<<1|||A3 V<<<2)).testBit j=_;simp only[JD,avY,alp];rw[JB];simp only[lq,aC,dq];split;simp only[dq];omega;split;simp only[dq];omega;simp only[dq];omega
def Rh:jq (b9 R M) M=J<->∀j,R.testBit j=J->M.testBit j=true:=by
 rw[alg];constructor;intro h j X;have:(R|||M).testBit j=M.testBit j:=j7 (λx=>Nat.testBit x j) h;rw[<-this,JD,X,Bool.true_or];intro h;refine Nat.eq_of_testBit_eq λj=> ?_
 change(R|||M).testBit j=_;rw[JD];cases W:R.testBit j with|true=>rw[h j W];rfl|false=>simp
def mo(a b A:Nat):jq (b9 (b9 a b) A) A=(jq (b9 a A) A&&jq (b9 b A) A):=by
 rw[JB,aC,Rh,Rh,Rh];change(∀j,(a|||b).testBit j=J->_)<->_;simp only[JD,lq];exact⟨λh=>⟨λj k=>h j (.inl k),λj k=>h j (.inr k)⟩,λh j k=>k.elim (h.1 j) (h.2 j)⟩
def acJ(k A:Nat):jq (b9 (nG 1 k) A) A=A.testBit k:=by
 rw[JB,Rh];change(∀j,(1<<<k).testBit j=J->_)<->_;simp only[av9,aJb,dq];exact⟨λh=>h k rfl,λh j e=>e▸h⟩
def JP(A:Nat):jq (b9 0 A) A=true:=Rh.2 λj h=>by simp at h
noncomputable def K.nM(e:K):Nat:=K.rec (motive_1:=λ_=>Nat) (motive_2:=λ_=>Nat) (motive_3:=λ_=>Nat) (λ_=>0) (λk=>nG 1 (3*k)) (λ_ _ _ _ a b=>b9 a b) (λ_ _ a=>a) (λ_ r=>r) (λ_ _ _ a b=>b9 a b) (λ_ _ _ b x y=>b9 (b9 b x) y) (λ_ _ _ r i=>b9 r i) (λ_ _ r i=>b9 r i) (λ_ _ _ _ _ _ r a b c=>b9 (b9 (b9 r a) b) c) (λ_=>0) (λk=>nG 1 (3*k+1)) (λ_ _ _ a b=>b9 a b) (λ_ a=>a) (λ_ _ a b=>b9 a b) (λ_ _ a b=>b9 a b) (λ_ _ _ b x y=>b9 (b9 b x) y) (λ_ _ _ r i=>b9 r i) (λ_ _ a b=>b9 a b) (λ_ _ _ _ _ _ r a b c=>b9 (b9 (b9 r a) b) c) (λ_ _ _ _ _ r a b c=>b9 (b9 (b9 r a) b) c) (λk=>nG 1 (3*k+2)) (λ_ _ _ _ r i=>b9 r i) (λ_=>0) e
noncomputable def BE.nM(e:BE):Nat:=BE.rec (motive_1:=λ_=>Nat) (motive_2:=λ_=>Nat) (motive_3:=λ_=>Nat) (λ_=>0) (λk=>nG 1 (3*k)) (λ_ _ _ _ a b=>b9 a b) (λ_ _ a=>a) (λ_ r=>r) (λ_ _ _ a b=>b9 a b) (λ_ _ _ b x y=>b9 (b9 b x) y) (λ_ _ _ r i=>b9 r i) (λ_ _ r i=>b9 r i) (λ_ _ _ _ _ _ r a b c=>b9 (b9 (b9 r a) b) c) (λ_=>0) (λk=>nG 1 (3*k+1)) (λ_ _ _ a b=>b9 a b) (λ_ a=>a) (λ_ _ a b=>b9 a b) (λ_ _ a b=>b9 a b) (λ_ _ _ b x y=>b9 (b9 b x) y) (λ_ _ _ r i=>b9 r i) (λ_ _ a b=>b9 a b) (λ_ _ _ _ _ _ r a b c=>b9 (b9 (b9 r a) b) c) (λ_ _ _ _ _ r a b c=>b9 (b9 (b9 r a) b) c) (λk=>nG 1 (3*k+2)) (λ_ _ _ _ r i=>b9 r i) (λ_=>0) e
noncomputable def RE.nM(e:RE):Nat:=RE.rec (motive_1:=λ_=>Nat) (motive_2:=λ_=>Nat) (motive_3:=λ_=>Nat) (λ_=>0) (λk=>nG 1 (3*k)) (λ_ _ _ _ a b=>b9 a b) (λ_ _ a=>a) (λ_ r=>r) (λ_ _ _ a b=>b9 a b) (λ_ _ _ b x y=>b9 (b9 b x) y) (λ_ _ _ r i=>b9 r i) (λ_ _ r i=>b9 r i) (λ_ _ _ _ _ _ r a b c=>b9 (b9 (b9 r a) b) c) (λ_=>0) (λk=>nG 1 (3*k+1)) (λ_ _ _ a b=>b9 a b) (λ_ a=>a) (λ_ _ a b=>b9 a b) (λ_ _ a b=>b9 a b) (λ_ _ _ b x y=>b9 (b9 b x) y) (λ_ _ _ r i=>b9 r i) (λ_ _ a b=>b9 a b) (λ_ _ _ _ _ _ r a b c=>b9 (b9 (b9 r a) b) c) (λ_ _ _ _ _ r a b c=>b9 (b9 (b9 r a) b) c) (λk=>nG 1 (3*k+2)) (λ_ _ _ _ r i=>b9 r i) (λ_=>0) e
noncomputable def K.bd(X W V:Nat)(e:K):Bool:=jq (b9 e.nM (nL X W V)) (nL X W V)
noncomputable def BE.bd(X W V:Nat)(e:BE):Bool:=jq (b9 e.nM (nL X W V)) (nL X W V)
noncomputable def RE.bd(X W V:Nat)(e:RE):Bool:=jq (b9 e.nM (nL X W V)) (nL X W V)
def awD(X W V k:Nat):(nL X W V).testBit (3*k)=decide (k<X):=by
 rw[acH,aH ae,show 3*k/3=k from ae]
def awE(W X V k:Nat):(nL W X V).testBit (3*k+1)=decide (k<X):=by
 rw[acH,aJ ae,aH ae,show(3*k+1)/3=k from ae]
def awF(W V X k:Nat):(nL W V X).testBit (3*k+2)=decide (k<X):=by
 rw[acH,aJ ae,aJ ae,show(3*k+2)/3=k from ae]
theorem K.bj:(∀n,K.bd R M h (.c n)=J)/\(∀k,K.bd R M h (.v k)=decide (k<R))/\(∀o k a b,K.bd R M h (.bin o k a b)=(K.bd R M h a&&K.bd R M h b))/\(∀k a,K.bd R M h (.conv k a)=(K.bd R M h a))/\(∀r,K.bd R M h (.len r)=(RE.bd R M h r))/\(∀m a b,K.bd R M h (.mm m a b)=(K.bd R M h a&&K.bd R M h b))/\(∀b x y,K.bd R M h (.dw b x y)=(BE.bd R M h b&&K.bd R M h x&&K.bd R M h y))/\(∀r i j,K.bd R M h (.cell r i j)=(RE.bd R M h r&&K.bd R M h i))/\(∀r i,K.bd R M h (.oZ r i)=(RE.bd R M h r&&K.bd R M h i))/\(∀r n a b c j,K.bd R M h (.look r n a b c j)=(RE.bd R M h r&&K.bd R M h a&&K.bd R M h b&&K.bd R M h c)):=⟨λ_=>JP _,λ_=>(acJ _ _).trans (awD _ _ _ _),λ_ _ _ _=>mo _ _ _,λ_ _=>rfl,λ_=>rfl,λ_ _ _=>mo _ _ _,λ_ _ _=>(mo _ _ _).trans (j7 (· &&_) (mo _ _ _)),λ_ _ _=>mo _ _ _,λ_ _=>mo _ _ _,λ_ _ _ _ _ _=>(mo _ _ _).trans (j7 (· &&_) ((mo _ _ _).trans (j7 (· &&_) (mo _ _ _))))⟩
theorem BE.bj:(∀n,BE.bd R M h (.c n)=J)/\(∀k,BE.bd R M h (.v k)=decide (k<M))/\(∀o a b,BE.bd R M h (.cmp o a b)=(K.bd R M h a&&K.bd R M h b))/\(∀a,BE.bd R M h (.not a)=(BE.bd R M h a))/\(∀a b,BE.bd R M h (.and a b)=(BE.bd R M h a&&BE.bd R M h b))/\(∀a b,BE.bd R M h (.beq a b)=(BE.bd R M h a&&BE.bd R M h b))/\(∀b x y,BE.bd R M h (.dw b x y)=(BE.bd R M h b&&BE.bd R M h x&&BE.bd R M h y))/\(∀r i j,BE.bd R M h (.cell r i j)=(RE.bd R M h r&&K.bd R M h i))/\(∀a b,BE.bd R M h (.seq a b)=(RE.bd R M h a&&RE.bd R M h b))/\(∀r n a b c j,BE.bd R M h (.look r n a b c j)=(RE.bd R M h r&&K.bd R M h a&&K.bd R M h b&&K.bd R M h c))/\(∀r n a b c,BE.bd R M h (.has r n a b c)=(RE.bd R M h r&&K.bd R M h a&&K.bd R M h b&&K.bd R M h c)):=⟨λ_=>JP _,λ_=>(acJ _ _).trans (awE _ _ _ _),λ_ _ _=>mo _ _ _,λ_=>rfl,λ_ _=>mo _ _ _,λ_ _=>mo _ _ _,λ_ _ _=>(mo _ _ _).trans (j7 (· &&_) (mo _ _ _)),λ_ _ _=>mo _ _ _,λ_ _=>mo _ _ _,λ_ _ _ _ _ _=>(mo _ _ _).trans (j7 (· &&_) ((mo _ _ _).trans (j7 (· &&_) (mo _ _ _)))),λ_ _ _ _ _=>(mo _ _ _).trans (j7 (· &&_) ((mo _ _ _).trans (j7 (· &&_) (mo _ _ _))))⟩
theorem RE.bj:(∀k,RE.bd R M h (.v k)=decide (k<h))/\(∀r i j k,RE.bd R M h (.cell r i j k)=(RE.bd R M h r&&K.bd R M h i))/\(∀v,RE.bd R M h (.k v)=J):=⟨λ_=>(acJ _ _).trans (awF _ _ _ _),λ_ _ _ _=>mo _ _ _,λ_=>JP _⟩
noncomputable def C.nM(v:C):Nat:=C.rec (motive_1:=λ_=>Nat) (motive_2:=λ_=>Nat) (λ_ e=>e.nM) (λb=>b.nM) (λr=>r.nM) (λ_ _=>0) (λr _ i _=>b9 r.nM i.nM) (λ_ _ _ _=>0) (λ_ l=>l) (λ_ l=>l) (λ_ _ l=>l) (λ_ _ x=>x) (λ_=>0) 0 (λ_=>0) (λe _ _ l=>b9 e.nM l) 0 (λ_ _ a b=>b9 a b) v
noncomputable def C.MA(l:aq):Nat:=C.rec_1 (motive_1:=λ_=>Nat) (motive_2:=λ_=>Nat) (λ_ e=>e.nM) (λb=>b.nM) (λr=>r.nM) (λ_ _=>0) (λr _ i _=>b9 r.nM i.nM) (λ_ _ _ _=>0) (λ_ l=>l) (λ_ l=>l) (λ_ _ l=>l) (λ_ _ x=>x) (λ_=>0) 0 (λ_=>0) (λe _ _ l=>b9 e.nM l) 0 (λ_ _ a b=>b9 a b) l
noncomputable def C.Cu(v:C):Nat:=C.rec (motive_1:=λ_=>Nat) (motive_2:=λ_=>Nat) (λ_ _=>0) (λ_=>0) (λ_=>0) (λi _=>nG 1 i) (λ_ _ _ _=>0) (λi _ _ _=>nG 1 i) (λ_ l=>l) (λ_ l=>l) (λ_ _ l=>l) (λ_ _ x=>x) (λ_=>0) 0 (λi=>nG 1 i) (λ_ _ _ l=>l) 0 (λ_ _ a b=>b9 a b) v
noncomputable def C.JQ(l:aq):Nat:=C.rec_1 (motive_1:=λ_=>Nat) (motive_2:=λ_=>Nat) (λ_ _=>0) (λ_=>0) (λ_=>0) (λi _=>nG 1 i) (λ_ _ _ _=>0) (λi _ _ _=>nG 1 i) (λ_ l=>l) (λ_ l=>l) (λ_ _ l=>l) (λ_ _ x=>x) (λ_=>0) 0 (λi=>nG 1 i) (λ_ _ _ l=>l) 0 (λ_ _ a b=>b9 a b) l
noncomputable def C.MB(X:Nat->Bool)(v:C):Bool:=C.rec (motive_1:=λ_=>Bool) (motive_2:=λ_=>Bool) (λ_ _=>J) (λ_=>J) (λ_=>J) (λi _=>X i) (λ_ _ _ _=>J) (λi _ _ _=>X i) (λ_ l=>l) (λ_ l=>l) (λ_ _ l=>l) (λ_ _ x=>x) (λ_=>J) J (λi=>X i) (λ_ _ _ l=>l) J (λ_ _ a b=>a&&b) v
noncomputable def C.MC(X:Nat->Bool)(l:aq):Bool:=C.rec_1 (motive_1:=λ_=>Bool) (motive_2:=λ_=>Bool) (λ_ _=>J) (λ_=>J) (λ_=>J) (λi _=>X i) (λ_ _ _ _=>J) (λi _ _ _=>X i) (λ_ l=>l) (λ_ l=>l) (λ_ _ l=>l) (λ_ _ x=>x) (λ_=>J) J (λi=>X i) (λ_ _ _ l=>l) J (λ_ _ a b=>a&&b) l
noncomputable def C.bd(X W V:Nat)(R:Nat->Bool)(v:C):Bool:=Mw (motive:=λ_=>Bool) E (Mw (motive:=λ_=>Bool) (v.MB R) J (jq v.Cu 0)) (jq (b9 v.nM (nL X W V)) (nL X W V))
def C.alq(X W V:Nat)(R:Nat->Bool)(v:C):C.bd X W V R v=(jq (b9 v.nM (nL X W V)) (nL X W V)&&(jq v.Cu 0||v.MB R)):=by
 unfold C.bd;cases jq (b9 v.nM (nL X W V)) (nL X W V)<;>cases jq v.Cu 0<;>rfl
noncomputable def C.dQ(X W V:Nat)(R:Nat->Bool)(l:aq):Bool:=AL (motive:=λ_=>Bool) J (λx _ Q=>Mw (motive:=λ_=>Bool) E Q (C.bd X W V R x)) l
def C.i8{X:Nat->Bool}:(C.dQ R M h X []=J)/\(∀x W,C.dQ R M h X (x::W)=(C.bd R M h X x&&C.dQ R M h X W)):=⟨rfl,λx W=>by
 show Mw (motive:=λ_=>Bool) E (C.dQ R M h X W) (C.bd R M h X x)=_;cases C.bd R M h X x<;>rfl⟩
def alr:jq (b9 R M) 0=(jq R 0&&jq M 0):=by
 rw[JB,aC,alg,alg,alg];exact Nat.or_eq_zero_iff
def VW(i:Nat):jq (nG 1 i) 0=false:=by
 have:nG 1 i≠0:=by
  change 1<<<i≠0;rw[av9];exact Nat.ne_of_gt (Nat.two_pow_pos i)
 cases h:jq (nG 1 i) 0 with|false=>rfl|true=>exact bB (aI4 h) this
mutual
def acK(X:Nat->Bool):∀v:C,jq v.Cu 0=J->v.MB X=J
 |.int _ _,_=>rfl|.bool _,_=>rfl|.ak _,_=>rfl|.loc i _,h=>by rw[show(C.loc i _).Cu=nG 1 i from rfl,VW] at h;cases h|.el _ _ _ _,_=>rfl|.iP i _ _ _,h=>by rw[show(C.iP i _ _ _).Cu=nG 1 i from rfl,VW] at h;cases h|.agg l,h=>MD X l h|.bI l,h=>MD X l h|.fn _ l,h=>MD X l h|.gI _ x,h=>acK X x h|.yl _,_=>rfl|.any,_=>rfl|.mp i,h=>by rw[show(C.mp i).Cu=nG 1 i from rfl,VW] at h;cases h|.gq _ _ l,h=>MD X l h
def MD(X:Nat->Bool):∀l:aq,jq (C.JQ l) 0=J->C.MC X l=J
 |[],_=>rfl
 |x::W,h=>by
  rw[show C.JQ (x::W)=b9 x.Cu (C.JQ W) from rfl,alr,aC] at h;show(x.MB X&&C.MC X W)=J;rw[acK X x h.1,MD X W h.2];rfl
end
def Ri(V R Q:Nat)(W:Nat->Bool):∀l:aq,(jq (b9 (C.MA l) (nL V R Q)) (nL V R Q)&&(jq (C.JQ l) 0||C.MC W l))=C.dQ V R Q W l
 |[]=>by rw[show C.MA []=0 from rfl,JP];rfl
 |x::X=>by
  rw[C.i8.2,<-Ri V R Q W X,C.alq,show C.MA (x::X)=b9 x.nM (C.MA X) from rfl,show C.JQ (x::X)=b9 x.Cu (C.JQ X) from rfl,mo,alr,show C.MC W (x::X)=(x.MB W&&C.MC W X) from rfl];have P:=acK W x;have O:=MD W X;cases N:jq x.Cu 0<;>cases M:jq (C.JQ X) 0<;>cases L:x.MB W<;>cases H:C.MC W X<;>cases jq (b9 x.nM (nL V R Q)) (nL V R Q)<;>cases jq (b9 (C.MA X) (nL V R Q)) (nL V R Q)<;>simp_all
theorem C.bj{X:Nat->Bool}:(∀k e,C.bd R M h X (.int k e)=e.bd R M h)/\(∀b,C.bd R M h X (.bool b)=b.bd R M h)/\(∀r,C.bd R M h X (.ak r)=r.bd R M h)/\(∀i o,C.bd R M h X (.loc i o)=X i)/\(∀i a b c,C.bd R M h X (.iP i a b c)=X i)/\(∀r w i o,C.bd R M h X (.el r w i o)=(r.bd R M h&&i.bd R M h))/\(∀l,C.bd R M h X (.agg l)=C.dQ R M h X l)/\(∀l,C.bd R M h X (.bI l)=C.dQ R M h X l)/\(∀f l,C.bd R M h X (.fn f l)=C.dQ R M h X l)/\(∀t x,C.bd R M h X (.gI t x)=C.bd R M h X x)/\(∀n,C.bd R M h X (.yl n)=J)/\(C.bd R M h X .any=J)/\(∀i,C.bd R M h X (.mp i)=X i)/\(∀e P Q,C.bd R M h X (.gq e P Q)=(e.bd R M h&&C.dQ R M h X Q)):=by
 have W:∀b:Bool,(b&&(jq 0 0||J))=b:=λb=>by cases b<;>rfl
 have V:∀i,(jq (b9 0 (nL R M h)) (nL R M h)&&(jq (nG 1 i) 0||X i))=X i:=λi=>by rw[JP,VW];rfl
 simp only[C.alq];refine⟨λ_ _=>W _,λ_=>W _,λ_=>W _,λ_ _=>V _,λ_ _ _ _=>V _,λr _ i _=> ?_,λl=>Ri _ _ _ _ l,λl=>Ri _ _ _ _ l,λ_ l=>Ri _ _ _ _ l,λ_ _=>rfl,λ_=>(W _).trans (JP _),(W _).trans (JP _),λ_=>V _,λe _ l=> ?_⟩;exact(W _).trans (mo _ _ _);rw[<-Ri];show(jq (b9 (b9 e.nM (C.MA l)) _) _&&_)=_;rw[mo,awq];rfl
def C.rU(X W V:Nat)(R:Nat->Bool):bm->Bool
 |[]=>J|U x::Q=>C.dQ X W V R x.2&&C.rU X W V R Q|Z::Q=>C.rU X W V R Q
def aL(l:bm)(i:Nat):Bool:=(bP l i).isSome
def S.bd(s:S):Bool:=C.dQ s.ni s.nb (Y s.rs) (aL s.au) s.tmps&&C.rU s.ni s.nb (Y s.rs) (aL s.au) s.au
def S.eX(s:S)(l:aq):Bool:=s.bd&&C.dQ s.ni s.nb (Y s.rs) (aL s.au) l
structure fG where
 tm:List (Nat×LK)
 cl:List (Nat×Nat×LK)
inductive awG where
 |awH
 |inv (a:fG)
inductive FK where
 |box
 |slot (t:Nat) (vs:List Int)
 |cell (b j:Nat) (vs:bA)
inductive LB where
 |no
 |ro (t:TypeId)
 |rw(t:TypeId)
 |st (t:TypeId) (cs:aq)
structure sW where
 v:FuncId
 n:Nat
 ps:i7
 bE:aq
 bx:List LB
structure bv where
 ty:Ty
 gl:oa
 inl:FuncId->Option (Code×Nat×nK)
 sig:FuncId->mi
 loop:FuncId->Nat->awG
 als:TypeId:=3
 zj:FuncId->FuncId->Option (TypeId×bu×Bool):=λ_ _=>Z
 jF:Bool:=E
 JR:FuncId->Nat->Bool:=λ_ _=>E
 frk:FuncId->Nat->Option FK:=λ_ _=>Z
 lay:FuncId->Option sW:=λ_=>Z
def S.fresh(s:S):LK->C×S
 |.int k=>(.int k (.v s.ni),{s with ni:=s.ni+1})
 |.bool=>(.bool (.v s.nb),{s with nb:=s.nb+1})
 |.ak e=>(.ak (.v (Y s.rs)),{s with rs:=s.rs++[e]})
def vD:CT->LK
 |.int k=>.int k|.bool=>.bool|.bz _ k=>.ak k
def S.bW(s:S):aN->aq×S
 |[]=>([],s)|k::X=>let r:=s.fresh k;let q:=r.2.bW X;(r.1::q.1,q.2)
def zk(W:Ty):i7->aq->Ex
 |[],_=>U []
 |t::V,l=>match W t with
  |U X=>match zk W V (l.drop (Y X.am)) with|U r=>U ((if X.d.isAgg then .agg (l.take (Y X.am)) else l.getD 0 .any)::r)|none=>Z
  |none=>Z
def fJ(X:Ty):i7->Option aN
 |[]=>U []
 |t::W=>match X t,fJ X W with|U V,U r=>U (V.am.map vD++r)|_,_=>Z
def one(l:aq):C:=match l with|[v]=>v|l=>.bI l
def Code.pL:Code->ar
 |.region _ X _=>X.toList.filterMap (·.dst)|.seq a b=>Code.pL a++Code.pL b|.cond _ a b=>Code.pL a++Code.pL b|.block _ c=>Code.pL c|.loop c=>Code.pL c|.scope c=>Code.pL c|.rangeFunc _ W a b=>W.toList++Code.pL a++Code.pL b|_=>[]
def Code.first:Code->cH
 |.region id _ _=>U id
 |.seq a b=>match Code.first a with|U i=>U i|none=>Code.first b
 |.cond _ a b=>match Code.first a with|U i=>U i|none=>Code.first b
 |.block _ c=>Code.first c|.loop c=>Code.first c|.scope c=>Code.first c|_=>Z
mutual
def C.JS:C->ar
 |.loc i _=>[i]|.iP i _ _ _=>[i]|.agg l=>C.qm l|.bI l=>C.qm l|.fn _ l=>C.qm l|.gI _ x=>C.JS x|.mp i=>[i]|.gq _ _ X=>C.qm X|_=>[]
def C.qm:aq->ar
 |[]=>[]|x::X=>C.JS x++C.qm X
end
def sZ(X:ar):Nat->bm->bm
 |_,[]=>[]|n,x::W=>(if X.contains n then x else Z)::sZ X (n+1) W
def ut:bm->bm
 |[]=>[]
 |x::X=>match x,ut X with|Z,[]=>[]|x,r=>x::r
def C.fg:C->Bool
 |.any=>J|_=>E
inductive Cv where
 |fn (g:FuncId)
 |yl (n:Nat)
abbrev qn:=Cv->aq->S->(C->S->T)->(C->S->T)->T
abbrev YH:=Nat->aq->S->(C->S->T)->(C->S->T)->T
def iD:YH:=λ_ _ _ _ _=>.stuck ""
structure OM where
 o:Oper
 ix:Nat
 bM:Bool
 j:Nat
 dr:Bool
 so:Bool
abbrev cQ:=List OM
inductive OR where
 |ok (s:S)
 |aS (b:BE) (s:S)
 |split(b:BE) (s1 s2:S)
 |no (why:String)
def RE.fits(X:Ty)(s:S)(k:RK)(r:RE):Bool:=match k with|.sl e=>decide (r.kind X s=.sl e)||r.isNil|.str=>decide (r.kind X s=.str)|_=>E
def uu(X:Ty)(s:S):CT->C->Bool
 |.int k,.int W _=>decide (k=W)|.bool,.bool _=>J|.bz _ k,.ak r=>r.fits X s k|_,_=>E
def nN(X:Ty)(s:S):eN->aq->Bool
 |[],[]=>J|c::W,v::V=>uu X s c v&&nN X s W V|_,_=>E
def oG(X:Ty)(s:S)(am:eN):yZ->Bool
 |[]=>J|r::W=>nN X s am r&&oG X s am W
def j8(w:Nat):Nat->aq->yZ
 |0,_=>[]|n+1,l=>l.take w::j8 w n (l.drop w)
def LE.bd(X W V:Nat):LE->Bool
 |.ak r=>r.bd X W V|.lit l=>l.all (C.dQ X W V λ_=>E)|.iC a b=>LE.bd X W V a&&LE.bd X W V b|.xo n Q=>n.bd X W V&&C.dQ X W V (λ_=>E) Q|.set a i _ R=>LE.bd X W V a&&i.bd X W V&&C.dQ X W V (λ_=>E) R|.sub a P O=>LE.bd X W V a&&P.bd X W V&&O.bd X W V|.ins a _ R=>LE.bd X W V a&&C.dQ X W V (λ_=>E) R
def RE.root:RE->cH
 |.v n=>U n|.cell r _ _ _=>r.root|.k _=>Z
mutual
def C.acM:C->ar
 |.ak r=>r.root.toList|.el r _ _ _=>r.root.toList|.agg l=>C.qo l|.bI l=>C.qo l|.fn _ l=>C.qo l|.gI _ x=>C.acM x|.gq _ _ X=>C.qo X|_=>[]
def C.qo:aq->ar
 |[]=>[]|x::X=>C.acM x++C.qo X
end
def AP(b:Bool):RK->RK
 |.own e=>if b then .sl e else .own e|x=>x
def Rj(b:Bool):RK->RK
 |.own e=>if b then .sl e else .aT|x=>x
def kY(X:ar):Nat->bo->bo
 |_,[]=>[]|n,x::W=>AP (X.contains n) x::kY X (n+1) W
def jG(X:ar):Nat->bo->bo
 |_,[]=>[]|n,x::W=>(if X.contains n then .aT else x)::jG X (n+1) W
def ED(X:ar):Nat->bo->bo
 |_,[]=>[]|n,x::W=>Rj (X.contains n) x::ED X (n+1) W
mutual
def C.iE(k n:Nat):C->C
 |.ak (.v j)=>if j==k then .ak (.v n) else .ak (.v j)|.el (.v j) w i o=>if j==k then .el (.v n) w i o else .el (.v j) w i o|.agg l=>.agg (C.qp k n l)|.bI l=>.bI (C.qp k n l)|.fn f l=>.fn f (C.qp k n l)|.gI t x=>.gI t (C.iE k n x)|.gq e X W=>.gq e X (C.qp k n W)|v=>v
def C.qp(k n:Nat):aq->aq
 |[]=>[]|x::X=>C.iE k n x::C.qp k n X
end
def vE(k n:Nat):bm->bm
 |[]=>[]|Z::X=>Z::vE k n X|U (t,W)::X=>U (t,if mT t then W else C.qp k n W)::vE k n X
def S.iE(s:S)(k n:Nat):S:={s with tmps:=C.qp k n s.tmps,au:=vE k n s.au}
structure BI where
 aS:BE
 e:TypeId
 x:LE
 s:S
def ME:Int:=536870912
def JT(n:K):BE:=qZ .leq n (.c ME)
def ta(Q:Ty)(s:S)(e:TypeId)(X:TI):C->Option (LE×BE×ar)
 |.ak r=>if r.isNil then U (.lit [],.c J,[]) else if r.kind Q s=.sl e then U (.ak r,JT (.len r),[]) else Z
 |.iP i V W _=>match mU s.au i with|U (_,R)=>if oG Q s X.am (j8 (Y X.am) W (zg R V (W*Y X.am)))&&decide (V+W*Y X.am<=Y R)&&decide ((W:Int)<=ME) then U (.lit (j8 (Y X.am) W (zg R V (W*Y X.am))),.c J,C.qo (zg R V (W*Y X.am))) else Z|none=>Z
 |_=>Z
def xt(X:Ty)(s:S)(e:TypeId)(bM:Bool):C->Option (LE×BE×ar)
 |.ak (.v k)=>if s.rs[k]?=U (.own e)/\ !(bM&&s.lk.testBit (2*k+1)) then U (.ak (.v k),JT (.len (.v k)),[k]) else Z|.ak r=>if r.isNil then U (.lit [],.c J,[]) else Z|.iP _ _ 0 0=>U (.lit [],.c J,[])|.fn 3000000 [.ak r]=>if r.kind X s=.sl e then U (.ak r,JT (.len r),[]) else Z|_=>Z
def acO:C->LE->Bool
 |.fn _ _,.lit (_::_)=>J|.fn _ _,_=>E|_,_=>J
def kZ(s:S)(d:cH)(aS:BE)(e:TypeId)(k:RK)(x:LE)(X dl:ar):Option BI:=
 if s.bd&&X.all (λk=> !dl.contains k)&&LE.bd s.ni s.nb (Y s.rs) x&&aS.bd s.ni s.nb (Y s.rs) then U ⟨aS,e,x,{s with rs:=kY dl 0 (jG X 0 s.rs)++[k]}.put d (.ak (.v (Y s.rs)))⟩ else Z
def eY(X:bv)(o:Oper)(bM R:Bool)(s:S):Option BI:=match o.op with
 |.call c=>match c.callee with
  |.builtin .append=>match c.argTypes.toList,c.args.toList.map (s.ev X.gl) with
   |[t,O],[x,y]=>match X.ty t,X.ty O with
    |U ⟨.slice e,_,_⟩,U ⟨.slice N,_,_⟩=>match X.ty e with
     |U W=>if e≠N\/Y W.am=0 then Z else match xt X.ty s e bM x,ta X.ty s e W y with|U (a,M,L),U (b,H,dl)=>if !acO x b then Z else kZ s o.dst (xp M H) e (.own e) (.iC a b) L dl|_,_=>Z
     |none=>Z
    |_,_=>Z
   |_,_=>Z
  |_=>Z
 |.makeSlice t n m=>match X.ty t,s.ev X.gl n,s.ev X.gl m with
  |U ⟨.slice e,_,_⟩,.int I n,.int I m=>match X.ty e with|U W=>if n.aR m&&oG X.ty s W.am [et W]&&Y W.am !=0 then kZ s o.dst (xp (qZ .leq (.c 0) n) (JT n)) e (.own e) (.xo n (et W)) [] [] else Z|none=>Z
  |_,_,_=>Z
 |.buildSlice t V parts=>if R|| !X.jF then Z else match X.ty t with
  |U ⟨.slice e,_,_⟩=>match X.ty e with
   |U W=>match AN (λi=>U (i*Y W.am,Y W.am)) (zi V (et W)) (parts.toList.map λp=>(p.1,s.ev X.gl p.2)) with|U l=>if(Y l==V*Y W.am&&oG X.ty s W.am (j8 (Y W.am) V l)&&Y W.am !=0&&decide ((V:Int)<=ME)&&decide (V*Y W.am<=16777216)&& !(parts.toList.any λp=>(s.ev X.gl p.2).fg)) then kZ s o.dst (.c J) e (.own e) (.lit (j8 (Y W.am) V l)) [] (C.qo l) else Z|none=>Z
   |none=>Z
  |_=>Z
 |.slice t x G F D=>if R then Z else match X.ty t,s.ev X.gl x,D.map (s.ev X.gl),F.map (s.ev X.gl),G.map (s.ev X.gl) with
  |U ⟨.slice e,_,_⟩,.ak r,U (.int _ (.c 0)),U (.int _ (.c 0)),Z=>match X.ty e with|U _=>if r.kind X.ty s=.sl e\/r.isNil then kZ s o.dst (.c J) e (.own e) (.lit []) [] [] else Z|none=>Z
  |U ⟨.slice e,_,_⟩,.ak r,Z,U (.int I h),U (.int I l)=>match X.ty e with|U _=>if r.kind X.ty s=.sl e then kZ s o.dst (xp (qZ .leq (.c 0) l) (xp (qZ .leq l h) (qZ .leq h (.len r)))) e (.sl e) (.sub (.ak r) l h) [] r.root.toList else Z|none=>Z
  |U ⟨.slice e,_,_⟩,.ak r,Z,U (.int I h),Z=>match X.ty e with|U _=>if r.kind X.ty s=.sl e then kZ s o.dst (xp (qZ .leq (.c 0) h) (qZ .leq h (.len r))) e (.sl e) (.sub (.ak r) (.c 0) h) [] r.root.toList else Z|none=>Z
  |U ⟨.slice e,_,_⟩,.ak r,Z,Z,U (.int I l)=>match X.ty e with|U _=>if r.kind X.ty s=.sl e then kZ s o.dst (xp (qZ .leq (.c 0) l) (qZ .leq l (.len r))) e (.sl e) (.sub (.ak r) l (.len r)) [] r.root.toList else Z|none=>Z
  |_,_,_,_,_=>Z
 |.store t a x=>if R then Z else match X.ty t,s.ev X.gl a with
  |U Q,.el (.v k) w i P=>match s.rs[k]? with
   |U (.own e)=>match X.ty e with
    |U W=>if(Y W.am==w&&(s.ev X.gl x).cells.length==Y Q.am&&decide (P+Y Q.am<=w)&&nN X.ty s ((W.am.drop P).take (Y Q.am)) (s.ev X.gl x).cells&&(s.ev X.gl x).JJ) then
      (kZ s Z (xq i (.len (.v k))) e (.own e) (.set (.ak (.v k)) i P (s.ev X.gl x).cells) [k] (C.qo (s.ev X.gl x).cells)).map λb=>{b with s:=(b.s.iE k (Y s.rs)).put o.dst (.bI [])} else Z
    |none=>Z
   |_=>Z
  |_,_=>Z
 |_=>Z
def S.cY(s:S)(n:Nat)(t:TypeId)(X:aq):S:={s with au:=s.au.set n (U (t,X))}
def Rk(bM:Bool):C->Nat
 |.loc i _=>if bM then 1<<<(2*i) else 0
 |.el r _ _ _=>if bM then(match r.root with|U k=>1<<<(2*k+1)|none=>0) else 0
 |.gq _ _ X=>if bM then(match AO X with|U i=>1<<<(2*i)|none=>0) else 0
 |_=>0
def S.dI(s:S)(d:cH)(v:C)(l:Nat):S:={s with lk:=s.lk|||l}.put d v
def xu(s:S)(d:cH)(l:Nat):PR->OR
 |.ok v=>.ok (s.dI d v l)|.aS b v=>if b.bd s.ni s.nb (Y s.rs) then .aS b (s.dI d v l) else .no ""
 |.no w=>.no w
def gt(l:bm)(n:Nat):Bool:=match l[n]? with|U Z=>J|_=>E
def rf(l:bm)(n:Nat)(t:TypeId):Bool:=gt l n&& !mT t
def gJ(X:bv)(m:OM)(s:S):OR:=
 if m.o.op.operands.toList.any λx=>(s.ev X.gl x).fg then .no (""++toString m.j++ ""++toString m.o.dst) else
 match m.o.op with
 |.alloc t=>match X.ty t with
  |U W=>if s.eX (et W)&&rf s.au m.ix t then .ok ((s.cY m.ix t (et W)).put m.o.dst (.loc m.ix 0)) else .no ""
  |none=>.no ""
 |.box t x=>match X.ty t with
  |U W=>if(s.ev X.gl x).cells.length==Y W.am&&s.eX (s.ev X.gl x).cells&&(s.ev X.gl x).JJ&&rf s.au m.ix t then .ok ((s.cY m.ix t (s.ev X.gl x).cells).put m.o.dst (.loc m.ix 0)) else .no ""
  |none=>.no ""
 |.buildSlice t V parts=>match X.ty t with
  |U ⟨.slice e,_,_⟩=>match X.ty e with
   |U R=>match AN (λi=>U (i*Y R.am,Y R.am)) (zi V (et R)) (parts.toList.map λp=>(p.1,s.ev X.gl p.2)) with
    |U l=>if s.eX l&&decide (V*Y R.am<=16777216)&&rf s.au m.ix e then .ok ((s.cY m.ix e l).put m.o.dst (.iP m.ix 0 V V)) else .no ""
    |none=>.no ""
   |none=>.no ""
  |_=>.no ""
 |.store t a x=>match X.ty t,s.ev X.gl a with
  |U W,.loc i Q=>match mU s.au i with
   |U (O,P)=>if(s.ev X.gl x).cells.length==Y W.am&&decide (Q+(s.ev X.gl x).cells.length<=Y P)&&GP (s.ev X.gl x).cells&&(s.ev X.gl x).JJ&& !(m.bM&&s.lk.testBit (2*i)) then .ok ((s.cY i O (mj P Q (s.ev X.gl x).cells)).put m.o.dst (.bI [])) else .no ""
   |none=>.no ""
  |_,_=>.no ""
 |.pick c x y=>match s.ev X.gl c with|.bool b=>.split b (s.put m.o.dst (s.ev X.gl x)) (s.put m.o.dst (s.ev X.gl y))|_=>.no ""
 |.load t a=>xu s m.o.dst (Rk m.bM (s.ev X.gl a)) (cw X.ty X.gl s (.load t a))|op=>xu s m.o.dst 0 (cw X.ty X.gl s op)
inductive MR where
 |ok (s:S)
 |ah (k:RK) (x:LE) (s:S)
def JU(X:TI)(n:Nat)(W:Bool):TypeId×aq:=if X.am.all oc&&Y X.am !=0 then(xl,[.ak (.k (.slice Z 0 0)),.int I (.c n),.bool (.c W),.bool (.c X.d.isAgg)]) else(vC,[])
def S.AQ(s:S)(b:TypeId×aq):S:={s with au:=s.au++[U b]}
def Cw(V:bv)(s:S)(k e:TypeId)(n:Nat)(W:Bool)(X:TI):aq->Option RE
 |[.ak r,.int I (.c R),.bool (.c Q),.bool (.c P)]=>if r.pK V.ty s ⟨k,e,n,W,X.d.isAgg⟩&&R==(n:Int)&&Q==W&&P==X.d.isAgg&&X.am.all oc then U r else Z|_=>Z
def GU(V:bv)(d:cH)(s:S)(t:TypeId)(O R v:C):Option MR:=match V.ty t,O with
 |U ⟨.map k e n X,_,_⟩,.mp i=>match V.ty e,JM n X R,bP s.au i with
  |U W,U (N,_,_),U (P,Q)=>if !ur V.ty k n X|| !s.eX [R,v]|| !Cr W v then Z else
   if P==xl then(match Cw V s k e n X W Q with
    |U r=>if nN V.ty s W.am v.cells then
      U (.ah (RK.mr ⟨k,e,n,X,W.d.isAgg⟩) (.ins (.ak r) n (R.cells++v.cells)) (S.put {s with rs:=s.rs++[RK.mr ⟨k,e,n,X,W.d.isAgg⟩],au:=s.au.set i (U (xl,[.ak (.v (Y s.rs)),.int I (.c n),.bool (.c X),.bool (.c W.d.isAgg)]))} d (.bI []))) else Z
    |none=>Z)
   else if P==vC&&n==1&& !X then(match N,rT Q with|.c x,U M=>if M.contains x then Z else U (.ok ((s.cY i vC (Q++[.int I (.c x),v])).put d (.bI [])))|_,_=>Z)
   else Z
  |_,_,_=>Z
 |_,_=>Z
def VX(X:bv)(d:cH)(s:S)(t:TypeId):Option S:=match X.ty t with
 |U ⟨.map k e n W,_,_⟩=>match X.ty e with|U V=>if s.bd&&ur X.ty k n W then U ((s.AQ (JU V n W)).put d (.mp (Y s.au))) else Z|none=>Z
 |_=>Z
def zl(X:bv):Sh:=⟨X.als,zd,1,E,E⟩
def JV(X:bv):Bool:=ur X.ty X.als 1 E&&(X.ty zd).isNone
def acP(R:bv)(s:S)(k e:TypeId)(n:Nat)(X:Bool)(Q:TI)(i:Nat):Option K:=match bP s.au i with
 |U (W,V)=>if W==xl then(Cw R s k e n X Q V).map .len
  else if W==vC&&n==1&& !X then(rT V).map λP=>.c (Y P) else Z
 |none=>Z
def VY(X:bv)(d:cH)(s:S)(t:TypeId)(W:C):Option S:=match X.ty t,W with
 |U ⟨.map k e n V,_,_⟩,.mp i=>match X.ty e with
  |U R=>match acP X s k e n V R i with|U c=>if s.bd&&c.bd s.ni s.nb (Y s.rs)&&aL s.au i then U ((s.AQ (zd,[.mp i,.int I (.c t),.int I c,.ak (.k (.slice Z 0 0))])).put d (.loc (Y s.au) 0)) else Z|none=>Z
  |none=>Z
 |_,_=>Z
def vF(r:RE)(i:K):Nat->eN->aq
 |_,[]=>[]|j,c::X=>GO r i j c::vF r i (j+1) X
def MF(r:RE)(i:K)(n:Nat)(X:Bool):C:=uq X ((dj n).map λj=>.int I (.cell r i j))
def acQ(X:bv)(d:cH)(s:S)(q W:Nat)(i t:Nat)(c:K)(V v:C):S:=
 S.put {s with ni:=W,rs:=s.rs++[RK.mr (zl X)],au:=s.au.set q (U (zd,[.mp i,.int I (.c t),.int I c,.ak (.v (Y s.rs))]))} d (.bI [.bool (.c J),V,v])
def VZ(X:RE)(j:K):BE:=.not (.has X 1 j (.c 0) (.c 0))
def V4(X:TI)(e:K)(W:bA)(V:aq):Option (C×C):=if V.all (Cr X) then(match Cq e (EC (Y W)) (W.map λk=>.int I (.c k)),EB e (EC (Y W)) (V.map C.cells) 0 X.am with|U a,U l=>U (.int I a,uq X.d.isAgg l)|_,_=>Z) else Z
def V5(W:bv)(s:S)(c:K)(X:RE)(t V:T):T:=
 .pick c (VZ X (.v s.ni)) (.cmp .leq c (.len X)) (.ah (.mr (zl W)) (.ins (.ak X) 1 [.int I (.v s.ni)]) s.rs t) V
def acR(X:bv)(d:cH)(s:S)(L:C)(P O:S->T):Option T:=match L with
 |.loc q 0=>match bP s.au q with
  |U (H,[.mp i,.int I (.c t),.int I c,.ak R])=>if !(H==zd&&JV X&&R.pK X.ty s (zl X)&&s.bd&&({s with ni:=s.ni+1}:S).bd&&decide (0<=t)) then Z else match X.ty t.toNat,bP s.au i with
   |U ⟨.map k e n V,_,_⟩,U (N,Q)=>match X.ty e with
    |U W=>if !ur X.ty k n V then Z else
     if N==xl then(match Cw X s k e n V W Q with|U r=>if c.aR (.len r)&&Y W.am !=0 then U (V5 X s c R (P (acQ X d s q (s.ni+1) i t.toNat c (MF r (.v s.ni) n V) (uq W.d.isAgg (vF r (.v s.ni) n W.am)))) (O (s.put d (.bI [.bool (.c E)])))) else Z|none=>Z)
     else if N==vC&&n==1&& !V then(match rT Q with
      |U M=>if c.aR (.c (Y M)) then(match V4 W (.v s.ni) M (oe Q) with|U (G,v)=>U (V5 X s c R (P (acQ X d s q (s.ni+1) i t.toNat c G v)) (O (s.put d (.bI [.bool (.c E)]))))|none=>Z) else Z
      |none=>Z)
     else Z
    |none=>Z
   |_,_=>Z
  |_=>Z
 |_=>Z
def xw(X:RE):K:=.cell X (.bin .sub I (.len X) (.c 1)) 0
def acS(c:K)(X:RE):BE:=xp (xp (qZ .leq (.c 1) (.len X)) (JT (.len X))) (xq (xw X) c)
def acU(X:bv)(d:cH)(s:S)(M:C)(P:S->T):Option T:=match M with
 |.loc q 0=>match bP s.au q with
  |U (L,[.mp i,.int I (.c t),.int I c,.ak W])=>if !(L==zd&&JV X&&W.pK X.ty s (zl X)&&s.bd&&decide (0<=t)) then Z else match X.ty t.toNat,bP s.au i with
   |U ⟨.map k e n V,_,_⟩,U (O,Q)=>match X.ty e with
    |U R=>if !ur X.ty k n V then Z else
     if O==xl then(match Cw X s k e n V R Q with|U r=>if c.aR (.len r) then U (.aS (acS c W) (P (s.put d (.bI [MF r (xw W) n V,uq R.d.isAgg (vF r (xw W) n R.am)])))) else Z|none=>Z)
     else if O==vC&&n==1&& !V then(match rT Q with
      |U N=>if c.aR (.c (Y N)) then(match V4 R (xw W) N (oe Q) with|U (H,v)=>U (.aS (acS c W) (P (s.put d (.bI [H,v]))))|none=>Z) else Z
      |none=>Z)
     else Z
    |none=>Z
   |_,_=>Z
  |_=>Z
 |_=>Z
def V6(X:bv)(d:cH)(s:S)(t:TypeId)(W:Bool)(x y:C)(V:S->T):Option T:=match X.ty t,x,y with|U ⟨.slice e,_,_⟩,.ak r,.ak (.k (.slice Z 0 0))=>if r.kind X.ty s=.sl e then U (.gr (.c J) (.cmp .leq (.len r) (.c 0)) (V (s.put d (.bool (.c W)))) (V (s.put d (.bool (.c (!W)))))) else Z|_,_,_=>Z
abbrev Fx:=List (BE×Bool)
def Rl(X:Fx):BE->Option Bool
 |.c v=>U v|b=>(X.find? λx=>x.1.aR b).map (·.2)
def EE(s:S)(X:Fx)(b:BE)(t f:Fx->T):T:=match Rl X b with|U J=>t X|U E=>f X|none=>if b.bd s.ni s.nb (Y s.rs) then .aK b (t ((b,J)::X)) (f ((b,E)::X)) else .stuck ""
inductive CK where
 |call (g:Cv) (args:List C)
 |bp (v:C)
 |op
 |no
def AR(g:FuncId)(X:aq):aq->CK
 |[]=>.call (.fn g) X|v::r=>cond (kz g 1000000) (.call (.fn g) (X++v::r)) (cond (kz g 2000000) (.call (.fn (g-1000000)) (v::(X++r))) .no)
def eu(X:bv)(s:S)(o:Oper):CK:=
 match o.op with
 |.panic x=>match s.ev X.gl x with|.gI t y=>.bp (.gI t y)|_=>.no
 |.call c=>match c.callee with
  |.value f=>match s.ev X.gl f with|.fn g bE=>if c.args.toList.any λx=>(s.ev X.gl x).fg then .no else AR g (c.args.toList.map (s.ev X.gl)) bE|.yl n=>if c.args.toList.any λx=>(s.ev X.gl x).fg then .no else .call (.yl n) (c.args.toList.map (s.ev X.gl))|_=>.no
  |.invoke _ _=>.no
  |.builtin .panic=>match c.args.toList with
   |[x]=>match s.ev X.gl x with|.gI t y=>.bp (.gI t y)|_=>.no
   |_=>.no
  |.builtin _=>.op
 |_=>.op
def qr(s:S)(X:Fx):Fx:=X.filter λx=>x.1.bd s.ni s.nb (Y s.rs)
def acY(b:BE):C->C->Option C
 |.int k x,.int X y=>if k=X then U (.int k (.dw b x y)) else Z|.bool x,.bool y=>U (.bool (.dw b x y))|_,_=>Z
def Rm(b:BE):aq->Nat->aq->Ex
 |[],_,X=>U X
 |x::V,W,X=>match X[W]? with
  |U R=>match acY b x R with|U c=>Rm b V (W+1) (X.set W c)|none=>Z
  |none=>Z
def JW(e:K)(W:aq):bA->aq->aq->Ex
 |[],[],X=>U X
 |k::V,.loc _ R::Q,X=>match Rm (.cmp .eql e (.c k)) W R X with|U P=>JW e W V Q P|none=>Z
 |_,_,_=>Z
def V7:bA->Bool
 |[]=>J|x::X=> !X.contains x&&V7 X
def Ro:C->Bool
 |.int _ _|.bool _=>J|_=>E
def MG:aq->Bool
 |[]=>E|[x]=>Ro x|x::X=>Ro x&&MG X
def acZ(d:cH)(s:S)(R:TI)(e:K)(X:bA)(W:aq)(V:C)(k:S->T):Option T:=match AO W with
 |U i=>match mU s.au i with
  |U (Q,P)=>match JW e V.cells X W P with|U O=>if Y R.am==Y V.cells&&Y X==Y W&&V7 X&&MG V.cells then U (.aS (JN e X) (k ((s.cY i Q O).put d (.bI [])))) else Z|none=>Z
  |none=>Z
 |none=>Z
def Cx(X:bv)(m:OM)(s:S)(V:S->Fx->T)(R:Fx):Option T:=if m.dr||m.o.op.operands.toList.any λx=>(s.ev X.gl x).fg then Z else match m.o.op with
 |.makeMap t Z=>(VX X m.o.dst s t).map λW=>V W R
 |.mapUpdate t x y z=>match GU X m.o.dst s t (s.ev X.gl x) (s.ev X.gl y) (s.ev X.gl z) with|U (.ok W)=>U (V W R)|U (.ah k x W)=>U (.ah k x s.rs (V W (qr s R)))|none=>Z
 |.insert t x y z=>match GU X m.o.dst s t (s.ev X.gl x) (s.ev X.gl y) (s.ev X.gl z) with|U (.ok W)=>U (V W R)|U (.ah k x W)=>U (.ah k x s.rs (V W (qr s R)))|none=>Z
 |.range t x=>(VY X m.o.dst s t (s.ev X.gl x)).map λW=>V W R|.next Q E=>acR X m.o.dst s (s.ev X.gl Q) (λW=>V W (qr s R)) (λW=>V W R)|.entry Q=>acU X m.o.dst s (s.ev X.gl Q) λW=>V W R
 |.store t a x=>match X.ty t,s.ev X.gl a with|U P,.gq e O N=>acZ m.o.dst s P e O N (s.ev X.gl x) λW=>V W R|_,_=>Z
 |.binOp M t x y _=>match M with|.eql=>V6 X m.o.dst s t E (s.ev X.gl x) (s.ev X.gl y) λW=>V W R|.neq=>V6 X m.o.dst s t J (s.ev X.gl x) (s.ev X.gl y) λW=>V W R|_=>Z
 |_=>Z
def Cy(X:bv)(m:OM)(s:S):Option (K×bA×aq×aq):=if m.dr then Z else match m.o.op with
 |.call c=>match c.callee with
  |.value f=>match s.ev X.gl f with|.gq e W V=>if(c.args.toList.any λx=>(s.ev X.gl x).fg)|| !e.bd s.ni s.nb (Y s.rs) then Z else U (e,W,V,c.args.toList.map (s.ev X.gl))|_=>Z
  |_=>Z
 |_=>Z
def GV(e:K)(X:FuncId->aq->T):bA->aq->T
 |k::W,.fn g bE::V=>.aK (.cmp .eql e (.c k)) (cond (kz g 1000000) (X g bE) (.stuck "")) (GV e X W V)
 |k::W,.ak (.k .nilFunc)::V=>.aK (.cmp .eql e (.c k)) (.stuck "") (GV e X W V)
 |_,_=>.stuck ""
structure Cz where
 f:FuncId
 g:FuncId
 e:TypeId
 sp:bu
 st:Bool
 r:RE
 s:S
def Rp:aq->Option (List K×FuncId)
 |[.fn g []]=>U ([],g)
 |.int I e::r=>match Rp r with|U x=>U (e::x.1,x.2)|none=>Z
 |_=>Z
def bu.fill:bu->List K->Option bu
 |.dE k o _,X=>U (.dE k o X)|W,[]=>U W|_,_::_=>Z
def ac0(V:bv)(f:FuncId)(R:aq)(s:S)(d:cH):Option Cz:=match R with
 |.ak r::Q=>match Rp Q with
  |U (P,g)=>match(if f==g then Z else V.zj f g) with
   |U (e,O,X)=>match O.fill P with
    |U W=>match r with
     |.v k=>if s.rs[k]?=U (.own e) then U ⟨f,g,e,W,X,.v k,(({s with rs:=kY [] 0 (jG [k] 0 s.rs)++[.own e]}:S).iE k (Y s.rs)).put d (.bI [])⟩ else Z
     |.k (.slice Z 0 0)=>U ⟨f,g,e,W,X,.k (.slice Z 0 0),({s with rs:=kY [] 0 (jG [] 0 s.rs)++[.own e]}:S).put d (.bI [])⟩
     |_=>Z
    |none=>Z
   |none=>Z
  |none=>Z
 |_=>Z
def JX(V:bv)(f:FuncId)(R:aq)(s:S)(d:cH):Option Cz:=match R with
 |[.int I i,.loc X 0,.loc W 0]=>match V.zj f f with
  |U (e,.dE 0 o _,J)=>match bP s.au X,bP s.au W with
   |U (Q,[.ak (.v k)]),U (P,[.fn O [.loc N 0,.loc M 0]])=>if i.bd s.ni s.nb (Y s.rs)&&O==f&&kz f 1000000&&N==X&&M==W&& !mT Q&& !mT P&&decide (s.rs[k]?=U (.own e)) then U ⟨f,f,e,.dE 0 o [i],J,.v k,(({s with rs:=kY [] 0 (jG [k] 0 s.rs)++[.own e]}:S).iE k (Y s.rs)).put d (.int I (.cell (.v (Y s.rs)) i 0))⟩ else Z
   |_,_=>Z
  |_=>Z
 |_=>Z
def EF(X:bv)(m:OM)(s:S):Option Cz:=if m.dr|| !s.bd then Z else match eu X s m.o with
 |.call (.fn f) W=>match ac0 X f W s m.o.dst with|U u=>U u|none=>JX X f W s m.o.dst
 |_=>Z
def JY(X:bv)(o:Oper)(s:S):Option Cz:=if !s.bd then Z else match eu X s o with|.call (.fn f) W=>JX X f W s o.dst|_=>Z
def CA(R:bv)(O:qn)(m:OM)(s:S)(X:S->Fx->T)(P:C->S->T)(W:Fx):T:=
 match Cy R m s with
 |U (e,N,M,Q)=>GV e (λg bE=>O (.fn g) (Q++bE) s (λv V=>X (V.put m.o.dst v) (qr s W)) P) N M
 |none=>
 match EF R m s with
 |U u=>.eG u.f u.g u.e u.sp u.st u.r s.rs (X u.s (qr s W))
 |none=>
 match eu R s m.o with
 |.call (.fn g) Q=>O (.fn g) Q s (λv V=>X (V.put m.o.dst v) (qr s W)) P|.call (.yl n) Q=>if m.so then O (.yl n) Q s (λv V=>X (V.put m.o.dst v) (qr s W)) P else .stuck ""
 |.bp v=>P v s|.no=>.stuck ""
 |.op=>match Cx R m s X W with
  |U t=>t
  |none=>match eY R m.o m.bM m.dr s with
  |U b=>.aS b.aS (.new b.e b.x s.rs b.s.rs (X b.s (qr s W)))
  |none=>match gJ R m s with|.ok V=>X V W|.aS b V=>.aS b (X V W)|.split b L H=>EE s W b (X L) (X H)|.no G=>.stuck G
def V9(R:dG)(m:OM)(s:S)(X:Fx)(W V:Fx->T):T:=
 match m.o.guard with
 |none=>W X
 |U (j,Q)=>match(R[j]?).bind (·.dst) with
  |U d=>match s.tmps[d]? with|U (.bool b)=>if Q then EE s X b W V else EE s X b V W|U (.bI [])=>V X|_=>.stuck ""
  |none=>.stuck ""
def lN(X:bv)(W:qn)(V:dG)(k:S->T)(R:C->S->T):cQ->S->Fx->T
 |[],s,_=>k s|m::Q,s,P=>V9 V m s P (CA X W m s (lN X W V k R Q) R) (lN X W V k R Q (s.put m.o.dst (.bI [])))
def gR:Op->Bool
 |.alloc _|.box _ _|.buildSlice _ _ _=>J|_=>E
def mV(l:ql):Nat:=(l.filter λo=>gR o.op).length
def fU(bM:Nat->Bool)(X W:Bool):Nat->Nat->ql->cQ
 |_,_,[]=>[]|j,n,o::r=>⟨o,n,bM j,j,W,X⟩::fU bM X W (j+1) (if gR o.op then n+1 else n) r
def S.room(s:S)(n:Nat):S:={s with au:=s.au++ew n Z,lk:=0}
def uv(X:bv)(s:S):nK->Ex
 |[]=>U []
 |.tmp t::W=>match uv X s W with|U l=>if(s.tmps.getD t .any).fg then Z else U (s.tmps.getD t .any::l)|none=>Z
 |.cell a t::W=>match uv X s W,s.tmps.getD a .any,X.ty t with
  |U l,.loc i V,U R=>match mU s.au i with
   |U (_,Q)=>match zh R Q V with|U v=>U (v::l)|none=>Z
   |none=>Z
  |_,_,_=>Z
def xx(n:Nat):List (Nat×LK)->aq->Option C
 |(t,_)::r,v::X=>if t==n then U v else xx n r X|_,_=>Z
def CB(b n:Nat):List (Nat×Nat×LK)->aq->Option C
 |(X,W,_)::r,v::V=>if X==b&&W==n then U v else CB b n r V|_,_=>Z
def alv(l:bm)(x:Nat×Nat×LK):C:=match bP l x.1 with|U (_,X)=>X.getD x.2.1 .any|none=>.any
def fG.ks(a:fG):aN:=a.tm.map (·.2)++a.cl.map (·.2.2)
def lu(a:fG)(s:S):aq:=a.tm.map (λx=>s.tmps.getD x.1 .any)++a.cl.map (alv s.au)
def Wa:LK->C->ar
 |.ak (.own _),.ak (.v k)=>[k]|_,_=>[]
def EG:aN->aq->ar
 |k::X,v::W=>Wa k v++EG X W|_,_=>[]
def JZ(a:fG)(s:S):ar:=EG a.ks (lu a s)
def jH(a:fG)(s:S):bo:=jG (JZ a s) 0 s.rs
def AS:bo->bo->Bool
 |[],_=>J|x::X,y::W=>(decide (x=.aT)||decide (x=y))&&AS X W|_::_,[]=>E
def oh:ar->Bool
 |[]=>J|x::X=> !X.contains x&&oh X
def J0(X:bo)(l:ar):Bool:=oh l&&l.all λk=>decide (Y X<=k)||decide (X[k]?=U .aT)
def CD(a:fG)(X:ar)(W:aq):Nat->aq->aq
 |_,[]=>[]|n,x::V=>(xx n a.tm W).getD (if X.contains n then .any else x)::CD a X W (n+1) V
def J1(a:fG)(X:aq)(b:Nat):Nat->aq->aq
 |_,[]=>[]|n,x::W=>(CB b n a.cl X).getD x::J1 a X b (n+1) W
def vG(a:fG)(X:aq):Nat->bm->bm
 |_,[]=>[]|n,Z::W=>Z::vG a X (n+1) W|n,U (t,V)::W=>U (t,J1 a X n 0 V)::vG a X (n+1) W
def rV(a:fG)(X:ar)(s:S):S:=
 let r:aq×S:=S.bW {s with ax:=s.ax+1,rs:=jH a s} a.ks
 {r.2 with tmps:=CD a X r.1 0 s.tmps,au:=vG a (r.1.drop (Y a.tm)) 0 s.au}
def AT(a:fG)(X:ar):Nat->aq->aq->Bool
 |_,[],[]=>J|n,x::W,y::V=>(a.tm.any (·.1==n)||X.contains n||C.aR x y)&&AT a X (n+1) W V|_,_,_=>E
def J2(a:fG)(b:Nat):Nat->aq->aq->Bool
 |_,[],[]=>J|n,x::X,y::W=>(a.cl.any (λc=>c.1==b&&c.2.1==n)||C.aR x y)&&J2 a b (n+1) X W|_,_,_=>E
def uw(a:fG):Nat->bm->bm->Bool
 |_,[],_=>J|n,Z::X,_::W=>uw a (n+1) X W|n,U x::X,U y::W=>x.1==y.1&&J2 a n 0 x.2 y.2&&uw a (n+1) X W|_,_,_=>E
def EH(s:S):LK->C->Bool
 |.int k,.int X _=>decide (k=X)|.bool,.bool _=>J|.ak e,.ak (.v k)=>s.rs[k]?==U e|.ak (.sl _),.ak (.k (.slice Z 0 0))=>J|.ak (.own _),.ak (.k (.slice Z 0 0))=>J|.ak (.mr _),.ak (.k (.slice Z 0 0))=>J|_,_=>E
def ux(s:S):aN->aq->Bool
 |[],[]=>J|k::X,v::W=>EH s k v&&ux s X W|_,_=>E
def J3:LK->Bool
 |.ak (.own _)=>E|_=>J
def mW:aN->Bool
 |[]=>J|k::X=>J3 k&&mW X
def MH:aN->Bool
 |[]=>E|.ak _::_=>J|_::X=>MH X
def Rq(X:aq)(n:Nat):ar:=if(C.qm X).isEmpty then C.qo X else dj n
def J4(W:aq)(X:bo):bo:=ED (Rq W (Y X)) 0 X
def EI(W:aq)(V:aN)(X:bo):bo:=if MH V then kY (Rq W (Y X)) 0 X else X
def S.cut(s:S)(X:aq)(W:aN):S:={s with rs:=EI X W s.rs}
structure VI where
 g:FuncId
 n:Nat
 bE:aq
 rw:List (Nat×TypeId)
 l:aq
def Wb:aq->List (Nat×TypeId)
 |.iP i t 0 0::r=>(i,t)::Wb r|_=>[]
def VI.sv(X:VI):C:=.fn (4000000+X.g) [.bI X.bE,.bI [.int I (.c X.n)],.bI (X.rw.map λx=>.iP x.1 x.2 0 0),.bI X.l]
def zm:C->Option VI
 |.fn f [.bI bE,.bI [.int I (.c n)],.bI rw,.bI l]=>cond (kz 3999999 f) (U ⟨f-4000000,n.toNat,bE,Wb rw,l⟩) Z|_=>Z
def MI(fA:C):C:=match zm fA with|U X=>one X.l|none=>fA
def VI.out(X:VI):List (Nat×TypeId×aq):=(X.rw.zip X.l).map λx=>(x.1.1,x.1.2,x.2.cells)
def xz(W:Ty)(t:TypeId)(X:aq):Option C:=match W t with
 |U V=>if V.d.isAgg then U (.agg X) else match X with|[.agg _]=>Z|[c]=>U c|_=>Z
 |none=>Z
def kJ(W:Ty):List LB->bm->Ex
 |[],_=>U []|.no::l,X=>kJ W l X.tail
 |.ro t::l,U (V,R)::X=>if t==V&& !mT t then(match xz W t R,kJ W l X with|U v,U r=>U (v::r)|_,_=>Z) else Z
 |.rw t::l,U (V,R)::X=>if t==V&& !mT t then(match xz W t R,kJ W l X with|U v,U r=>U (v::r)|_,_=>Z) else Z
 |.st t R::l,U (V,Q)::X=>if t==V&& !mT t&&C.og R Q then kJ W l X else Z|_::_,_=>Z
def eC:Nat->List LB->List (Nat×TypeId)
 |_,[]=>[]|i,.rw t::l=>(i,t)::eC (i+1) l|i,_::l=>eC (i+1) l
def S.o7(s:S):List (Nat×TypeId×aq)->S
 |[]=>s|x::l=>(s.cY x.1 x.2.1 x.2.2).o7 l
def Wc(R:bv)(g:FuncId)(L:sW)(X:aq)(s:S)(k:C->S->T):T:=
 match kJ R.ty L.bx s.au,fJ R.ty ((eC 0 L.bx).map (·.2)) with
 |U V,U W=>match zk R.ty ((eC 0 L.bx).map (·.2)) ((s.cut (X.take L.n++V) W).bW W).1 with
  |U l=>if s.eX (X.take L.n++V)&&mW W&&C.og (X.drop L.n) L.bE&&decide (R.sig g=U [])&&decide (L.n<=Y X) then
     .call L.v (X.take L.n++V) (ut (s.au.take (Y L.bx))) (J4 (X.take L.n++V) s.rs) W (VI.sv ⟨g,L.n,L.bE,eC 0 L.bx,l⟩) (k (.bI []) (((s.cut (X.take L.n++V) W).bW W).2.o7 (VI.out ⟨g,L.n,L.bE,eC 0 L.bx,l⟩))) else .stuck ""
  |none=>.stuck ""
 |_,_=>.stuck ""
def AU(V:bv)(f:FuncId)(X:aq)(s:S)(k:C->S->T):T:=
 match V.sig f with
 |U R=>match fJ V.ty R with
  |U W=>match zk V.ty R ((s.cut X W).bW W).1 with
   |U l=>if s.eX X&&mW W&&(zm (one l)).isNone then .call f X (ut (sZ (C.qm X) 0 s.au)) (J4 X s.rs) W (one l) (k (one l) ((s.cut X W).bW W).2) else .stuck ""
   |none=>.stuck ""
  |none=>.stuck ""
 |none=>.stuck (""++toString f)
def ju(o:Oper):ar:=(o.after.toList.filter λe=>awu .any e).map (·.on)
def qu(X:ql):ar:=X.foldl (λacc o=>acc++[(ju o).foldl (λl e=>l|||(1<<<e)|||acc.getD e 0) 0]) []
def CE:Op->Bool
 |.load _ _=>J|_=>E
def AV:Op->Bool
 |.store _ _ _=>J|_=>E
def o8:Op->Bool
 |.call c=>match c.callee with|.builtin .len|.builtin .min|.builtin .max=>J|_=>E
 |.move _|.assign _|.pick _ _ _|.load _ _|.fieldAddr _ _ _|.field _ _ _|.indexAddr _ _ _|.index _ _ _|.binOp _ _ _ _ _|.unOp _ _ _|.convert _ _ _|.makeInterface _ _|.makeFunc _ _ _|.extract _ _|.nilCheck _|.slice _ _ _ _ _|.build _ _|.lookup _ _ _ _=>J|_=>E
def ld(X:dG)(o:Oper):ar:=o.op.operands.toList.filterMap (λx=>match x with
  |.tmp t=>U t
  |_=>Z)++(match o.guard with|U (j,_)=>((X[j]?).bind (·.dst)).toList|none=>[])
def MJ:Op->Bool
 |.panic _=>J
 |.call c=>match c.callee with|.builtin .panic=>J|_=>E
 |_=>E
def EJ:Op->Bool
 |.call c=>match c.callee with|.builtin .append=>J|_=>E
 |_=>E
def vH:Op->Bool
 |.call c=>match c.callee with|.builtin .append=>J|_=>E
 |.makeSlice _ _ _=>J|_=>E
def looks:Op->Bool
 |.call _|.load _ _|.indexAddr _ _ _|.index _ _ _|.lookup _ _ _ _|.slice _ _ _ _ (U _)=>J|.binOp X _ _ _ _=>VQ X|_=>E
def We(X:dG)(x y:OM):Bool:=
 x.dr&&y.dr&&o8 x.o.op&& !MJ y.o.op&&(match x.o.dst with
  |U d=> !(ld X y.o).contains d&&y.o.dst !=U d&& !(ld X x.o).contains d
  |none=>E)&&(match y.o.dst with|U d=> !(ld X x.o).contains d|none=>J)&&(!(AV y.o.op)|| !(CE x.o.op)||(x.bM&&y.bM))&&(!(EJ y.o.op)|| !(looks x.o.op)||(CE x.o.op&&x.bM&&y.bM))
def zn:Operand->Bool
 |.global _=>E|_=>J
def AW:Op->Bool
 |.call c=>match c.callee with|.value _=>J|_=>E
 |_=>E
def J5:Op->Bool
 |.alloc _=>J|_=>E
def Wf(X:dG)(x y:OM):Bool:=(match x.o.dst with
  |U d=> !(ld X y.o).contains d&&y.o.dst !=U d
  |none=>J)&&(match y.o.dst with|U d=> !(ld X x.o).contains d|none=>J)
def MK:Op->Bool
 |.call c=>match c.callee with|.value (.func _)=>c.args.toList.isEmpty|_=>E
 |_=>E
def Wg(X:dG):Bool:=(dj X.size).all λi=>(dj X.size).all λj=>match X[i]?,X[j]? with|U x,U y=> !(AW x.op)|| !(gR y.op||vH y.op)||((qu X.toList).getD i 0).testBit j||((qu X.toList).getD j 0).testBit i||(MK x.op&&J5 y.op)|_,_=>J
def ML(X:dG)(x y:OM):Bool:=
 x.dr&&y.dr&&J5 y.o.op&&y.o.guard.isNone&&(gR x.o.op||vH x.o.op||AW x.o.op)&&(!gR x.o.op||x.ix !=y.ix)&&x.o.op.operands.toList.all zn&&Wf X x y&&(!AW x.o.op|| !Wg X||MK x.o.op)
def GX:Op->Bool
 |.move _|.assign _|.fieldAddr _ _ _=>J|_=>E
def Ru(X:dG)(x y:OM):Bool:=
 x.dr&&y.dr&&gR x.o.op&& !J5 x.o.op&&x.o.guard.isNone&&x.o.op.operands.toList.all zn&&y.o.op.operands.toList.all zn&&(gR y.o.op||vH y.o.op||AW y.o.op||GX y.o.op||AV y.o.op)&&(!gR y.o.op||x.ix !=y.ix)&&Wf X x y&&(!AW y.o.op|| !Wg X)
def vJ(X:dG)(x y:OM):Bool:= !x.so&& !y.so&&(We X x y||ML X x y||Ru X x y)
def Rv(X:ql):Nat->ar->ar
 |0,acc=>acc
 |n+1,acc=>
  let W:=(dj (Y X)).filter λi=> !acc.contains i&&(match X[i]? with|U o=>(ju o).all acc.contains|none=>E)
  match W.find? λi=>match X[i]? with
   |U o=>o8 o.op
   |none=>E with
  |U i=>Rv X n (acc++[i])
  |none=>match(W.find? λi=>match X[i]? with
   |U o=>gR o.op&& !J5 o.op
   |none=>E).or (W.find? λi=>match X[i]? with
   |U o=> !J5 o.op
   |none=>E) with
   |U i=>Rv X n (acc++[i])
   |none=>match W with|i::_=>Rv X n (acc++[i])|[]=>acc
def GY(X:dG)(W:ar):cQ->Bool
 |[]=>J|x::r=>(r.all λy=>(W.getD y.j 0).testBit x.j||vJ X x y)&&GY X W r
def G2(X:dG):ar->cQ->Bool
 |_,[]=>J
 |done,x::r=>(match X[x.j]? with|U o=>(ju o).all done.contains|none=>E)&&G2 X (x.j::done) r
def Wh(X:ql)(W:ar):Bool:=(dj (Y X)).all λj=>match X[j]? with|U o=>(ju o).all (λe=>decide (e<j))&&(dj (Y X)).all λi=> !(W.getD j 0).testBit i||(ju o).contains i||(ju o).any λe=>(W.getD e 0).testBit i|none=>E
def Rw(X:ql)(W:ar)(j:Nat):Bool:=match X[j]? with
 |U o=>(CE o.op&&(dj (Y X)).any λi=>(match X[i]? with|U q=>AV q.op||EJ q.op|none=>E)&& !(W.getD i 0).testBit j&& !(W.getD j 0).testBit i)||
  ((AV o.op||EJ o.op)&&(dj (Y X)).any λi=>(match X[i]? with|U q=>CE q.op|none=>E)&& !(W.getD i 0).testBit j&& !(W.getD j 0).testBit i)
 |none=>E
def CF(X:ar):cQ->Bool
 |[]=>J|x::r=>(r.all λy=>(X.getD y.j 0).testBit x.j)&&CF X r
def awI:Op->Bool
 |.call c=>match c.callee with|.value (.tmp _)=>J|_=>E
 |_=>E
def vK(X:ar):cQ->cQ->cQ
 |_,[]=>[]|W,m::r=>{m with so:=awI m.o.op&&CF X (m::r)&&W.all (λx=>(X.getD m.j 0).testBit x.j)}::vK X (W++[m]) r
def uy(X:ar):Nat->aq->aq
 |_,[]=>[]|n,x::W=>(if X.contains n then .any else x)::uy X (n+1) W
def S.plus(s:S)(X:bm):S:={s with au:=s.au++X}
abbrev vL:=FuncId->aq->S->Option (C×bm)
def uz(W:bv)(V:vL)(R:YH):qn
 |.fn f,X,s,k,_=>match V f X s with
  |U (v,Q)=>if s.bd then k v (s.plus Q) else .stuck ""
  |none=>AU W f X s k
 |.yl n,X,s,k,P=>R n X s k P
def MM(l:cQ)(X:ar):cQ:=X.filterMap λi=>l[i]?
def G3(l:ql):ar:=l.filterMap (·.dst)
def EK(X:dG)(n:Nat):Option cQ:=
 let V:=qu X.toList;let W:=vK V [] (MM (fU (Rw X.toList V) E J 0 n X.toList) (Rv X.toList X.size []))
 if Wh X.toList V&&G2 X [] W&&GY X V W&&oh (W.filterMap (·.o.dst))&&oh (W.map (·.j))&&oh ((W.filter λm=>gR m.o.op).map (·.ix))&&Y W==X.size&&(dj X.size).all (λi=>W.any λm=>m.j==i) then U W else Z
def alw(X:dG):Bool:=decide (0<X.size)&&((dj X.size).all λi=>match X[i]? with
  |U o=>((ju o).all λe=>decide (e<i))&&(match o.guard with|U (j,_)=>decide (j+1<X.size)|none=>J)
  |none=>J)&&(dj (X.size-1)).all λj=>(dj X.size).any λi=>decide (j<i)&&(match X[i]? with|U o=>(ju o).contains j|none=>E)
def Rx(b:Bool)(X:dG):Option Oper:=if b&&alw X then X[X.size-1]? else Z
def J6(X:bv)(t:TypeId):Bool:=(X.ty t).isSome&& !mT t
def CG(X:bv):ql->Bool
 |[]=>J
 |o::r=>(match o.op with|.alloc t=>J6 X t|_=>J)&&CG X r
def alx(s:S)(X:ar):ar:=X.filter λd=>match s.tmps[d]? with|U w=> !(w.bd s.ni s.nb (Y s.rs) (aL s.au))|none=>J
def S.vM(s:S)(X:dG)(W:cQ):S:={s.room (mV X.toList) with tmps:=uy (alx s (G3 (W.dropLast.map (·.o)))) 0 s.tmps}
def Ry(X:S->T)(k:XE->S->T):XE->S->T
 |.normal,s=>X s|e,s=>k e s
def ac1(id:Nat)(k:XE->S->T):XE->S->T
 |.exit j,s=>if j==id then k .normal s else k (.exit j) s|e,s=>k e s
def MN(W:bv)(s:S)(V:nK)(k R:C->S->T):XE->S->T
 |.normal,X=>match uv W X V with
  |U l=>k (one l) {X with tmps:=s.tmps}
  |none=>.stuck ""
 |.ret,X=>match uv W X V with
  |U l=>k (one l) {X with tmps:=s.tmps}
  |none=>.stuck ""
 |.bp v,X=>R v {X with tmps:=s.tmps}
 |.exit _,_=>.stuck ""
def kA(W:bv)(R:FuncId->Code->S->(XE->S->T)->T)(Q:YH):qn
 |.fn f,X,s,k,V=>match W.inl f with
  |U (c,P,O)=>if s.eX X then R f c {s with tmps:=X++ew (P-Y X) (.bI [])} (MN W s O k V) else .stuck ""
  |none=>match W.lay f with|U L=>Wc W f L X s k|none=>AU W f X s k
 |.yl n,X,s,k,V=>Q n X s k V
def ac2(b:Bool)(R:bv)(V:qn):qn
 |.fn f,X,s,k,W=>if b then AU R f X s k else V (.fn f) X s k W|.yl n,X,s,k,W=>V (.yl n) X s k W
def awJ:T:=.gr (.c E) (.c E) (.stuck "") (.stuck "")
def ac3:T->Bool
 |.gr (.c E) (.c E) _ _=>J|_=>E
mutual
def C.CH:C->Bool
 |.agg l=>C.zo l|.bI l=>C.zo l|.fn _ l=>C.zo l|.gI _ x=>C.CH x|.yl _=>E|.gq _ _ X=>C.zo X|_=>J
def C.zo:aq->Bool
 |[]=>J|x::X=>C.CH x&&C.zo X
end
def G4:bm->Bool
 |[]=>J|Z::X=>G4 X|U x::X=>C.zo x.2&&G4 X
def ol:bm->bm->Bool
 |[],[]=>J|Z::X,Z::W=>ol X W|U x::X,U y::W=>x.1==y.1&&C.og x.2 y.2&&ol X W|_,_=>E
def o9(W:aq)(X:bm):bm:=if W.isEmpty then X.map (λ_=>Z) else X
def vN(X:aq)(s:S):S:=⟨[],o9 X s.au,s.ni,s.nb,s.rs.map RK.rd,0,0,[]⟩
def aly(W V X:S):Bool:=ol X.au V.au&&X.ni==W.ni&&X.nb==W.nb&&decide (X.rs=W.rs)
def MO(V:bv)(R:FuncId->Code->S->(XE->S->T)->T)(g:FuncId)(W:aq)(s:S):Option (C×bm):=
 match kA V R iD (.fn g) W (vN W s) (λv X=>.out .normal {X with tmps:=[v]}) (λ_ _=>.stuck "") with
 |.out .normal X=>match X.tmps with
  |[v]=>if C.zo W&&G4 (o9 W s.au)&&v.CH&&G4 X.au&&ol (X.au.take (Y s.au)) (o9 W s.au)&&v.bd s.ni s.nb (Y s.rs) (aL X.au)&&C.rU s.ni s.nb (Y s.rs) (aL X.au) X.au&&ac3 (kA V R iD (.fn g) W (vN W s) (λQ P=>if Q.aR v&&aly (vN W s) X P then awJ else .stuck "") (λ_ _=>.stuck "")) then U (v,X.au.drop (Y s.au)) else Z
  |_=>Z
 |_=>Z
def CI(X:bv)(W:dG)(V:FuncId->Code->S->(XE->S->T)->T):vL:=λg R s=>if Wg W&&(X.inl g).isSome then MO X V g R s else Z
def ac4:Op->Bool
 |.pick _ _ _=>J|_=>E
def alz:Op->Bool
 |.buildSlice _ _ _=>J|_=>E
def Wi:Op->Bool
 |.buildSlice _ _ _|.alloc _|.box _ _|.store _ _ _=>J|_=>E
def EL(X:bv)(s:S)(o:Oper):Option (BE×C):=
 if(o.op.operands.toList.any λx=>(s.ev X.gl x).fg)||ac4 o.op then Z else match cw X.ty X.gl s o.op with|.ok v=>U (.c J,v)|.aS b v=>if b.bd s.ni s.nb (Y s.rs) then U (b,v) else Z|.no _=>Z
def BE.isT:BE->Bool
 |.c b=>b|_=>E
def G5(X:bv):cQ->S->Option (S×List BE)
 |[],s=>U (s,[])
 |q::r,s=>match EL X s q.o with|U (b,v)=>(G5 X r (s.put q.o.dst v)).map λx=>(x.1,if b.isT then x.2 else b::x.2)|none=>Z
def ac6(X:bv)(nO:List BE)(s:S)(W:cQ):Bool:=W.all λq=>match q.o.dst,EL X s q.o with
 |U d,U (b,v)=>(match s.tmps[d]? with|U w=>v.aR w&&(b.isT||nO.any λx=>x.aR b)|none=>E)
 |_,_=>E
def Wj:List BE->T->T
 |[],t=>t|b::r,t=>.aS b (Wj r t)
def S.bF(s:S)(X:ar):S:={s with tmps:=uy X 0 s.tmps}
def MP{X:Type}:List X->List (X×List X)
 |[]=>[]|x::r=>(x,r)::(MP r).map λy=>(y.1,x::y.2)
def ac7(X:ar)(x:OM×cQ):Bool:=x.2.all λy=> !(X.getD x.1.j 0).testBit y.j
def MQ:yZ->yZ->Bool
 |[],[]=>J|x::X,y::W=>C.og x y&&MQ X W|_,_=>E
def LE.aR:LE->LE->Bool
 |.ak r,.ak Q=>r.aR Q|.lit l,.lit P=>MQ l P|.iC a b,.iC X O=>LE.aR a X&&LE.aR b O|.xo n N,.xo W M=>n.aR W&&C.og N M|.set a i L V,.set X H G R=>LE.aR a X&&i.aR H&&L==G&&C.og V R|.sub a F D,.sub X B A=>LE.aR a X&&F.aR B&&D.aR A|.ins a n V,.ins X W R=>LE.aR a X&&n==W&&C.og V R|_,_=>E
def S.aR(s X:S):Bool:=C.og s.tmps X.tmps&&ol s.au X.au&&s.ni==X.ni&&s.nb==X.nb&&decide (s.rs=X.rs)&&s.ax==X.ax&&s.lk==X.lk&&decide (s.pd=X.pd)
def T.aR:T->T->Bool
 |.ret v P W,.ret O N V=>v.aR O&&ol P N&&decide (W=V)|.bp v,.bp O=>v.aR O|.aK b t f,.aK M X R=>b.aR M&&T.aR t X&&T.aR f R|.aS b t,.aS M X=>b.aR M&&T.aR t X|.call f B P W L fA t,.call R A N V H z X=>f==R&&C.og B A&&ol P N&&decide (W=V)&&decide (L=H)&&fA.aR z&&T.aR t X|.loop ax L y t,.loop G H w X=>ax==G&&decide (L=H)&&C.og y w&&T.aR t X|.back ax x,.back G Q=>ax==G&&C.og x Q|.new e x W u t,.new r Q V q X=>e==r&&LE.aR x Q&&decide (W=V)&&decide (u=q)&&T.aR t X|.ah k x W t,.ah p Q V X=>decide (k=p)&&LE.aR x Q&&decide (W=V)&&T.aR t X|.gr g h t f,.gr F D X R=>g.aR F&&h.aR D&&T.aR t X&&T.aR f R|.pick n g h t f,.pick o F D X R=>n.aR o&&g.aR F&&h.aR D&&T.aR t X&&T.aR f R|.out .normal s,.out .normal m=>S.aR s m|_,_=>E
def J7:List T->List T
 |[]=>[]|t::X=>if X.any (T.aR t) then J7 X else t::J7 X
def EM:List T->T
 |[]=>.stuck ""
 |[t]=>t|t::X=>.gr (.c J) (.c J) t (EM X)
def MS:Op->Bool
 |.call c=>match c.callee with|.builtin .append=>J|_=>E
 |.makeSlice _ _ _|.buildSlice _ _ _|.slice _ _ _ _ _|.store _ _ _=>J|_=>E
def awK:Op->Bool
 |.mapUpdate _ _ _ _=>J|_=>E
def EN(X:bv)(o:Oper)(s:S):Option MR:=match o.op with|.mapUpdate t x y z=>if o.op.operands.toList.any λx=>(s.ev X.gl x).fg then Z else GU X o.dst s t (s.ev X.gl x) (s.ev X.gl y) (s.ev X.gl z)|_=>Z
def G6(V:bv)(P:qn)(R:ar)(O:C->S->T)(m:OM)(W:S->T)(s:S):T:=match JY V m.o s with
 |U u=>.eG u.f u.g u.e u.sp u.st u.r s.rs (W u.s)
 |none=>match eu V s m.o with
  |.call (.fn g) Q=>P (.fn g) Q s (λv X=>W (X.put m.o.dst v)) (λv X=>O v (X.bF R))|.call (.yl n) Q=>P (.yl n) Q (s.bF R) (λv X=>W (X.put m.o.dst v)) (λv X=>O v (X.bF R))
  |.op=>match(if MS m.o.op then eY V m.o m.bM E s else Z) with
   |U b=>.aS b.aS (.new b.e b.x s.rs b.s.rs (W b.s))
   |none=>match EN V m.o s with
    |U (.ok X)=>W X|U (.ah k x X)=>.ah k x s.rs (W X)
    |none=>if o8 m.o.op then(match EL V s m.o with
     |U (b,v)=>.aS b (W (s.put m.o.dst v))
     |none=>.stuck "") else
    if Wi m.o.op then(match gJ V m s with|.ok X=>W X|_=>.stuck "") else .stuck ""
  |_=>.stuck ""
def MT(X:ar)(m:OM)(W:cQ):cQ:=W.filter λq=> !(X.getD m.j 0).testBit q.j
def qw(X:bv)(R:qn)(W:ar)(nO:List BE)(V:cQ)(Q:ar)(k:S->T)(P:C->S->T):Nat->cQ->S->T
 |_,[],s=>if ac6 X nO s V then k s else .stuck ""
 |0,_::_,_=>.stuck ""
 |n+1,m::r,s=>if !ac6 X nO s V then .stuck "" else EM (J7 (((MP (m::r)).filter (ac7 W)).map λx=>G6 X R Q P x.1 (λO=>qw X R W nO (MT W x.1 V) Q k P n x.2 O) s))
def T.oo(k:S->T)(X:C->S->T):T->T
 |.out .normal s=>k s|.out (.bp v) s=>X v s|.aK b t f=>.aK b (t.oo k X) (f.oo k X)|.aS b t=>.aS b (t.oo k X)|.call f a V W R fA t=>.call f a V W R fA (t.oo k X)|.new e x W Q t=>.new e x W Q (t.oo k X)|.ah e x W t=>.ah e x W (t.oo k X)|.eG f g e P O r W t=>.eG f g e P O r W (t.oo k X)|.gr g h t f=>.gr g h (t.oo k X) (f.oo k X)|t=>t
def Rz(X:bv):qn
 |.fn g,W,s,k,_=>if(X.inl g).isNone&&(X.lay g).isNone then AU X g W s k else .stuck ""
 |_,_,_,_,_=>.stuck ""
def awL:Op->Bool
 |.slice _ _ _ _ _=>J|_=>E
def awM:Op->Bool
 |.indexAddr .. =>J|_=>E
def awN:Op->Bool
 |.store _ _ _=>J|_=>E
def Wk(W:Bool)(X:dG):ar:=(dj X.size).foldl (λacc i=>match X[i]? with
 |U o=>if o8 o.op&&(W|| !awL o.op)&& !(awM o.op&&(dj i).any λj=>match X[j]? with
   |U x=>awN x.op
   |none=>E)&&((dj X.size).all λj=>match(X[j]?).bind (·.dst) with|U d=> !(ld X o).contains d||acc.contains j|none=>J) then acc++[i] else acc
 |none=>acc) []
structure RA where
 qs:cQ
 ch:cQ
 s:S
 nO:List BE
def ac8(X:bv)(s:S)(W:ql):Bool:=W.any λo=>match o.op with
 |.call c=>(match c.callee with
  |.value (.func g)=>(X.inl g).isSome
  |.value (.tmp t)=>(G3 W).contains t||(match s.tmps[t]? with|U (.fn g _)=>(X.inl g).isSome|_=>E)
  |_=>E)
 |_=>E
def ac9(X:dG)(Q:ar)(W V R:cQ):Bool:=
 Wh X.toList Q&&W.all (λm=>m.o.guard.isNone&& !m.bM)&&oh (W.filterMap (·.o.dst))&&
 W.all (λm=>W.all λx=>match x.o.dst with|U d=> !(ld X m.o).contains d||(Q.getD m.j 0).testBit x.j|none=>J)&&V.all (λq=>o8 q.o.op&&q.o.dst.isSome)&&(dj X.size).all (λi=>(V++R).any λm=>m.j==i)&&(V++R).length==X.size&&oh ((V++R).map (·.j))&&
 R.all (λm=>o8 m.o.op||Wi m.o.op||MS m.o.op||awK m.o.op||(match m.o.op with|.call _=>J|_=>E))
def EO(W:Bool)(X:dG)(n:Nat):cQ:=(fU (λ_=>E) E J 0 n X.toList).filter λm=>(Wk W X).contains m.j
def EP(W:Bool)(X:dG)(n:Nat):cQ:=(fU (λ_=>E) E J 0 n X.toList).filter λm=> !(Wk W X).contains m.j
def MU(W:Bool)(X:dG)(n:Nat):Bool:=ac9 X (qu X.toList) (fU (λ_=>E) E J 0 n X.toList) (EO W X n) (EP W X n)
def awO:CK->Bool
 |.call (.yl _) _=>J|_=>E
def chI(W:bv)(V X:cQ)(x:S×List BE):Option RA:=if X.any λm=>awO (eu W x.1 m.o) then Z else U ⟨V,X,x.1,x.2⟩
def MV(V:bv)(W:Bool)(X:dG)(s:S):Option RA:=
 if(!W||(ac8 V s X.toList||(V.jF&&X.toList.any λo=>alz o.op))&&CF (qu X.toList) (EP W X (Y s.au)))&&MU W X (Y s.au) then(G5 V (EO W X (Y s.au)) (s.room (mV X.toList))).bind (chI V (EO W X (Y s.au)) (EP W X (Y s.au))) else Z
def alA(X:fG)(s W:S):String:= ""
def Wl(W:fG)(V:ar)(s:S)(k:XE->S->T):XE->S->T
 |.normal,X=>if AT W V 0 s.tmps X.tmps&&uw W 0 s.au X.au&&ux X W.ks (lu W X)&&AS (jH W s) X.rs&&J0 (jH W s) (JZ W X)&&decide (X.pd=s.pd) then .back s.ax (lu W X) else .stuck (alA W s X)|e,X=>k e X
mutual
def C.zp(n:Nat):C->Bool
 |.agg l=>C.qy n l|.bI l=>C.qy n l|.fn _ l=>C.qy n l|.gI _ x=>C.zp n x|.yl m=>decide (n<=m)|.gq _ _ X=>C.qy n X|_=>E
def C.qy(n:Nat):aq->Bool
 |[]=>E|x::X=>C.zp n x||C.qy n X
end
def zq(n:Nat):bm->Bool
 |[]=>E|Z::X=>zq n X|U x::X=>C.qy n x.2||zq n X
def S.zp(s:S)(n:Nat):Bool:=C.qy n s.tmps||zq n s.au
def J8:ar->aq->aq->aq
 |p::X,v::W,l=>J8 X W (l.set p v)|_,_,l=>l
def oH(n:Nat):Nat->bm->bm
 |_,[]=>[]|k+1,x::X=>x::oH n k X|0,Z::X=>Z::oH n 0 X|0,U x::X=>(if C.qy n x.2 then Z else U x)::oH n 0 X
def S.vO(s X:S):S:={X with tmps:=s.tmps,au:=oH (Y s.pd) (Y s.au) X.au,pd:=X.pd.take (Y s.pd)}
def J9(s:S)(k:XE->S->T):XE->S->T
 |.bp v,X=>if v.zp (Y s.pd)||zq (Y s.pd) (s.vO X).au then .stuck "" else k (.bp v) (s.vO X)
 |.exit _,_=>.stuck ""
 |_,X=>if zq (Y s.pd) (s.vO X).au then .stuck "" else match X.pd[Y s.pd]? with|U .ready=>k .normal (s.vO X)|U (.done .ret)=>k .ret (s.vO X)|U (.done (.exit id))=>k (.exit id) (s.vO X)|_=>.stuck ""
def kK:Code->Bool
 |.seq a b=>kK a||kK b|.cond _ a b=>kK a||kK b|.block _ c=>kK c|.loop c=>kK c|.scope c=>kK c|.rangeFunc _ _ _ _=>J|_=>E
def Wm(n:Nat)(W:S)(k V:C->S->T):XE->S->T
 |.normal,X=>k (.bool (.c J)) {X with tmps:=W.tmps,pd:=X.pd.set n .ready}
 |.ret,X=>k (.bool (.c E)) {X with tmps:=W.tmps,pd:=X.pd.set n (.done .ret)}
 |.exit id,X=>k (.bool (.c E)) {X with tmps:=W.tmps,pd:=X.pd.set n (.done (.exit id))}
 |.bp v,X=>V v {X with tmps:=W.tmps}
def RC(n:Nat)(k:S->T):XE->S->T
 |.normal,X=>if decide (X.pd[n]?=U .ready) then k X else .stuck ""
 |_,_=>.stuck ""
def MW(s:S)(X:Nat)(bE:aq):S:={s with tmps:=(.yl (Y s.pd)::bE)++ew (X-(C.yl (Y s.pd)::bE).length) (.bI []),pd:=s.pd++[.ready]}
def RD(n V:Nat)(R:aq->S->(C->S->T)->(C->S->T)->T):YH:=λm X W Q P=>
 if m==n&&decide (W.pd[n]?=U .ready)&&Y X==V&&W.eX X then R X W Q P else .stuck ""
def EQ(X s:S)(W:ar)(V:aq):S:={X with tmps:=J8 W V s.tmps}
def S.ER(s:S)(n:Nat)(x:JH):S:={s with pd:=s.pd.set n x}
def alB(X:fG)(W:ar)(s:S):String:= ""
def fG.at(a:fG)(s:S):fG:=⟨a.tm,a.cl.filterMap λx=>match bP s.au (x.1%1000) with
 |U (t,X)=>(match X[x.2.1]? with
  |U v=>if EH s x.2.2 v&&(!mT t||(match x.2.2 with|.ak _=>J|_=>E))&&(x.1/1000==0||decide (Y s.au<=x.1/1000)) then U (x.1%1000,x.2) else Z
  |none=>Z)
 |none=>Z⟩
def alC:aq->Option (K×bA)
 |[]=>Z|.gq e X _::_=>U (e,X)|_::r=>alC r
def Wn:bm->Option (K×bA)
 |[]=>Z
 |U x::r=>match alC x.2 with|U y=>U y|none=>Wn r
 |Z::r=>Wn r
def Ka(k:Int):bA->aq->Option C
 |X::W,.fn f l::V=>if k=X then U (.fn f l) else Ka k W V|X::W,.ak (.k .nilFunc)::V=>if k=X then U (.ak (.k .nilFunc)) else Ka k W V|_,_=>Z
def RF(e:K)(k:Int):Nat->BE->BE
 |0,b=>b|n+1,.dw (.cmp .eql X (.c W)) x y=>if K.aR e X then(if k=W then RF e k n x else RF e k n y) else .dw (.cmp .eql X (.c W)) x y|_,b=>b
def RG(e:K)(k:Int):Nat->K->K
 |0,b=>b|n+1,.dw (.cmp .eql X (.c W)) x y=>if K.aR e X then(if k=W then RG e k n x else RG e k n y) else .dw (.cmp .eql X (.c W)) x y|_,b=>b
def adb(e:K)(k:Int):C->C
 |.bool b=>.bool (RF e k 20 b)|.int t b=>.int t (RG e k 20 b)
 |.gq X W V=>if K.aR e X then(match Ka k W V with|U v=>v|none=>.gq X W V) else .gq X W V
 |v=>v
def Wo(e:K)(V:bA):C->C
 |.gq X W R=>if K.aR e X&&W.all V.contains then .ak (.k .nilFunc) else .gq X W R|v=>v
def Kb(f:C->C)(l:bm):bm:=l.map λx=>match x with|U y=>U (y.1,y.2.map f)|none=>Z
def S.fix(f:C->C)(s:S):S:={s with au:=Kb f s.au}
def MX(e:K)(gr:Int->S)(bz:T)(g:S->T):bA->T
 |[]=>bz|k::X=>.aK (.cmp .eql e (.c k)) (g (gr k)) (MX e gr bz g X)
def adc(e:K)(v:Int):C->C
 |.int k x=>if K.aR e x then .int k (.c v) else .int k x|y=>y
def Wp(V:bv)(R id:Nat)(s:S):Option (K×bA×(Int->S)×Option S):=match V.frk R id with
 |U .box=>match Wn s.au with
  |U (e,X)=>U (e,X,λk=>s.fix (adb e k),match Wn (Kb (Wo e X) s.au) with|none=>U (s.fix (Wo e X))|U _=>Z)
  |none=>Z
 |U (.slot t W)=>match nth s.tmps t with
  |.int _ (.c _)=>Z|.int k e=>U (e,W,λv=>{s with tmps:=s.tmps.set t (.int k (.c v))},Z)
  |_=>Z
 |U (.cell b j W)=>match bP s.au b with
  |U (_,Q)=>match Q.getD j .any with|.int _ (.c _)=>Z|.int _ e=>U (e,W,λv=>s.fix (adc e v),Z)|_=>Z
  |none=>Z
 |none=>Z
def ade(g:S->T):Option S->T
 |U s=>g s|none=>.stuck ""
def RI(W:bv)(V:qn)(X:dG)(k:XE->S->T)(c:RA):T:=Wj c.nO (if CF (qu X.toList) c.ch||ac8 W c.s X.toList then qw W V (qu X.toList) c.nO c.qs (G3 X.toList) (k .normal) (λv=>k (.bp v)) (Y c.ch) c.ch c.s
 else(qw W (Rz W) (qu X.toList) c.nO c.qs (G3 X.toList) (.out .normal) (λv=>.out (.bp v)) (Y c.ch) c.ch c.s).oo (k .normal) λv=>k (.bp v))
def adf(X:fG)(s:S):ar:=(X.tm.filterMap λx=>match x.2,s.tmps[x.1]? with
 |.ak (.sl e),U (.ak (.v k))=>if s.rs[k]?=U (.own e) then U k else Z
 |_,_=>Z)++X.cl.filterMap λx=>match x.2.2,bP s.au (x.1%1000) with
 |.ak (.sl e),U (_,W)=>(match W[x.2.1]? with|U (.ak (.v k))=>if s.rs[k]?=U (.own e) then U k else Z|_=>Z)
 |_,_=>Z
def S.dl(X:fG)(s:S):S:={s with rs:=kY (adf X s) 0 s.rs}
def fP(X:bv):Nat->FuncId->Code->S->YH->(XE->S->T)->T
 |0,_,_,_,_,_=>.stuck ""
 |n+1,R,c,s,W,k=>
  match c with
  |.skip=>k .normal s|.label _=>k .normal s|.ret=>k .ret s|.exit id=>k (.exit id) s|.seq a b=>fP X n R a s W (Ry (λP=>fP X n R b P W k) k)|.block id a=>fP X n R a s W (ac1 id k)|.scope a=>fP X n R a s W k
  |.cond c a b=>match s.ev X.gl c with
   |.bool (.c J)=>fP X n R a s W k|.bool (.c E)=>fP X n R b s W k
   |.bool x=>match c with
    |.tmp t=>.aK x (fP X n R a {s with tmps:=s.tmps.set t (.bool (.c J))} W k) (fP X n R b {s with tmps:=s.tmps.set t (.bool (.c E))} W k)
    |_=>.stuck ""
   |_=>.stuck ""
  |.region id V N=>match Wp X R id s with
   |U (e,H,gr,bz)=>MX e gr (ade (λP=>fP X n R (.region id V N) P W k) bz) (λP=>fP X n R (.region id V N) P W k) H
   |none=>if N then
    match Rx (X.JR R (id+2000000)) V with
    |U o=>(match EK V.pop (Y s.au) with
     |U O=>if !CG X V.pop.toList then .stuck "" else lN X (uz X (CI X V.pop λf c s k=>fP X n f c s iD k) W) V.pop (λP=>lN X (kA X (λf c s k=>fP X n f c s W k) W) V (k .normal) (λv=>k (.bp v)) (fU (λ_=>E) J E (V.size-1) (Y P.au) [o]) P []) (λv=>k (.bp v)) O (s.vM V.pop O) []
     |none=>.stuck "")
    |none=>
    match MV X (!X.JR R id) V s with
    |U c=>RI X (kA X (λf c s k=>fP X n f c s W k) W) V k c
    |none=>match EK V (Y s.au) with
    |U O=>if !CG X V.toList then .stuck "" else lN X (uz X (CI X V λf c s k=>fP X n f c s iD k) W) V (k .normal) (λv=>k (.bp v)) O (s.vM V O) []
    |none=>match MV X E V s with|U c=>RI X (kA X (λf c s k=>fP X n f c s W k) W) V k c|none=>.stuck ""
   else
   lN X (ac2 (X.JR R (id+1000000)) X (kA X (λf c s k=>fP X n f c s W k) W)) V (k .normal) (λv=>k (.bp v)) (fU (λ_=>E) J E 0 (Y s.au) V.toList) (s.room (mV V.toList)) []
  |.loop a=>match(Code.first a).map (X.loop R) with
   |U (.inv Q)=>
    if !(adf Q s).isEmpty then fP X n R (.loop a) (s.dl Q) W k else
    if !s.bd|| !ux s (Q.at s).ks (lu (Q.at s) s)|| !AT (Q.at s) (Code.pL a) 0 s.tmps s.tmps|| !uw (Q.at s) 0 s.au s.au|| !AS (jH (Q.at s) s) s.rs|| !J0 (jH (Q.at s) s) (JZ (Q.at s) s) then .stuck (alB (Q.at s) (Code.pL a) s) else
    .loop s.ax (Q.at s).ks (lu (Q.at s) s) (fP X n R a (rV (Q.at s) (Code.pL a) s) W (Wl (Q.at s) (Code.pL a) s k))
   |_=>fP X n R a s W (Ry (λP=>fP X n R (.loop a) P W k) k)
  |.rangeFunc f M assign body=>match s.ev X.gl f with
   |.fn g bE=>match X.inl g with
    |U (c,G,[])=>
     if !s.eX bE||s.zp (Y s.pd)||C.qy (Y s.pd) bE||kK assign||kK body|| !kz g 1000000 then .stuck "" else
     fP X n g c (MW s G bE)
      (RD (Y s.pd) M.size λF L D B=>
       fP X n R assign (EQ L s M.toList F) iD (RC (Y s.pd) λA=>
        fP X n R body (A.ER (Y s.pd) .busy) W (Wm (Y s.pd) L D B))) (J9 s k)
    |_=>.stuck ""
   |_=>.stuck ""
  |_=>.stuck ""
def MY{X:Type}(f:C->bo->(C->bo->X)->X):aq->bo->(aq->bo->X)->X
 |[],W,k=>k [] W|x::V,W,k=>f x W λR Q=>MY f V Q λP O=>k (R::P) O
def S.dV(X:bo):S:=⟨[],[],0,0,X,0,0,[]⟩
def MZ(R:bv)(P:bm):Nat->C->bo->(C->bo->T)->T
 |0,_,_,_=>.stuck ""
 |n+1,.iP i N Q M,X,k=>match mU P i with
  |U (e,L)=>match R.ty e with
   |U V=>MY (MZ R P n) L X λO W=>if oG R.ty (.dV W) V.am (j8 (Y V.am) Q O)&&Y O==Q*Y V.am&&N==0&&decide (Q<=M)&&Y V.am !=0 then .new e (.lit (j8 (Y V.am) Q O)) W (W++[.sl e]) (k (.ak (.v (Y W))) (W++[.sl e])) else .stuck ""
   |none=>.stuck ""
  |none=>.stuck ""
 |n+1,.agg l,X,k=>MY (MZ R P n) l X λH W=>k (.agg H) W|_+1,.int q e,X,k=>k (.int q e) X|_+1,.bool e,X,k=>k (.bool e) X|_+1,.ak r,X,k=>k (.ak r) X|_+1,_,_,_=>.stuck ""
mutual
def C.awP:C->Bool
 |.iP _ _ _ _=>J|.agg l=>C.adg l|_=>E
def C.adg:aq->Bool
 |[]=>E|x::X=>C.awP x||C.adg X
end
def RJ(V:bv)(W:Nat)(l:aq)(X:S):T:=if W==0&&C.adg l&&X.bd&&C.dQ X.ni X.nb (Y X.rs) (aL X.au) l then MY (MZ V X.au 9) l (X.rs.map RK.rd) λR Q=>.ret (one R) [] Q else .ret (one l) (ut (X.au.take W)) (X.rs.map RK.rd)
def Wq(W:bv)(V:Nat)(R:nK):XE->S->T
 |.normal,X=>match uv W X R with|U l=>RJ W V l X|none=>.stuck ""
 |.ret,X=>match uv W X R with|U l=>RJ W V l X|none=>.stuck ""
 |.bp v,_=>.bp v|.exit _,_=>.stuck ""
def RN(X:bv)(n:Nat)(V:FuncId)(c:Code)(R:Nat)(Q:nK)(W:aq)(s:S):T:=
 fP X n V c {s with tmps:=W++ew (R-Y W) (.bI [])} iD (Wq X (Y s.au) Q)
structure DI where
 uA:dG
 rest:Code
 g:FuncId
 te:Nat
 tf:Nat
def alD(uA:dG)(Q:Code):ql->Option DI
 |[X,W]=>match X.op,X.dst,X.guard,W.op,W.guard,W.dst with
  |.makeFunc (.func g) first bE,U V,Z,.defer R,Z,Z=>match first.toList,bE.toList,R.callee,R.args.toList with|[],[.tmp P],.value (.tmp O),[]=>if V==O then U ⟨uA,Q,g,P,V⟩ else Z|_,_,_,_=>Z
  |_,_,_,_,_,_=>Z
 |_=>Z
def rW:Code->Option DI
 |.seq (.region _ uA E) (.seq (.region _ X E) W)=>alD uA W X.toList|_=>Z
def tc(W:bv)(V:Nat)(R:nK)(X:S):T:=match uv W X R with|U l=>.ret (one l) (ut (X.au.take V)) (X.rs.map RK.rd)|none=>.stuck ""
def adh(W:bv)(V:Nat)(R:TypeId)(P:Nat)(Q:nK):XE->S->T
 |.normal,X=>tc W V Q X|.ret,X=>tc W V Q X
 |.bp v,X=>match v with
  |.gI t (.int I x)=>match bP X.au P with
   |U (O,[.int I _])=>if t==R&&O==R then tc W V Q {X with au:=X.au.set P (U (R,[.int I x]))} else .stuck ""
   |_=>.stuck ""
  |_=>.stuck ""
 |.exit _,_=>.stuck ""
def adi(W:bv)(n:Nat)(R:FuncId)(d:DI)(V:TypeId)(Q:Nat)(P:nK)(X:S):T:=match X.tmps[d.te]? with
 |U (.loc i 0)=>if !mT V&&aL X.au i&&decide (d.tf<Y X.tmps)&&kz d.g 1000000 then fP W n R d.rest (X.put (U d.tf) (.fn d.g [.loc i 0])) iD (adh W Q V i P) else .stuck ""
 |_=>.stuck ""
def RO(X:bv)(n:Nat)(V:FuncId)(c:Code)(R:Nat)(Q:nK)(P:TypeId)(W:aq)(s:S):T:=match rW c with
 |U d=>lN X (kA X (λf c s k=>fP X n f c s iD k) iD) d.uA (adi X n V d P (Y s.au) Q) (λ_ _=>.stuck "") (fU (λ_=>E) J E 0 (Y s.au) d.uA.toList) (({s with tmps:=W++ew (R-Y W) (C.bI [])}:S).room (mV d.uA.toList)) []
 |none=>.stuck ""
end
end Go.Proofs.YtjnmghiggfgjlaaGreatDoor.Y
namespace Go.Proofs.YtjnmghiggfgjlaaGreatDoor
open Go.RowKit
variable{c:List Nat}{Q:World}
structure fq(S:List Nat)(w w':World):Prop where
 os:w'.os=w.os
 tape:w'.tape=w.tape
 output:w'.output=w.output
 size:w.heap.size<=w'.heap.size
 block:∀k,k<w.heap.size->k∉S->w'.heap[k]?=w.heap[k]?
def fq.refl(S:List Nat)(w:World):fq S w w:=⟨rfl,rfl,rfl,cd _,λ_ _ _=>rfl⟩
def fq.trans{S:List Nat}{a b c:World}(h:fq S a b)(k:fq S b c):fq S a c:=
 ⟨k.os.trans h.os,k.tape.trans h.tape,k.output.trans h.output,mg h.size k.size,λi X W=>(k.block i (QW X h.size) W).trans (h.block i X W)⟩
def fq.mono{X:List Nat}{b:World}(h:fq c Q b)(W:∀x,x∈c->x∈X):fq X Q b:=
 ⟨h.os,h.tape,h.output,h.size,λi V R=>h.block i V (λm=>R (W i m))⟩
def fq.alloc{w:World}(h:fq c Q w)(o:Obj):fq c Q (w.alloc o):=
 h.trans ⟨rfl,rfl,rfl,by simp,λk X _=>Below.heap_alloc _ _ _ X⟩
def fq.drew{w:World}(h:fq c Q w):fq c Q w.drew:=⟨h.os,h.tape,h.output,h.size,h.block⟩
def fq.setCell{S:List Nat}{a w:World}(h:fq S a w){p:Addr}(X:p.block∈S)(u:Value):fq S a (w.setCell p u):=
 h.trans ⟨rfl,rfl,rfl,by simp[acv],λk _ W=>Below.heap_setCell _ _ _ _ (λe=>W (e▸X))⟩
theorem fq.putObj{S:List Nat}{a w:World}(h:fq S a w){r:Nat}(X:r∈S)(o:Obj):fq S a (w.putObj r o):=
 h.trans ⟨rfl,rfl,rfl,by simp[Mv],λk _ W=>uj (λe=>W (e▸X))⟩
def fq.awQ{X:World}(h:Below Q.heap.size Q X):fq c Q X:=⟨h.os,h.tape,h.output,h.size,λk W _=>h.block k W⟩
def fq.call{w X:World}(h:fq c Q w)(k:Below w.heap.size w X):fq c Q X:=h.trans (fq.awQ k)
def fq.grown{w W:World}{V:Option Nat}(h:fq c Q w)(X:w.grownBy W V)(N:∀k,V=U k->k∈c\/Q.heap.size<=k):fq c Q W:=
 ⟨X.os.trans h.os,X.tape.trans h.tape,X.output.trans h.output,mg h.size X.size,λk R P=>(X.block k (QW R h.size) (λe=>by rcases N k e.symm with O|O;exact P O;omega)).trans (h.block k R P)⟩
def fq.heap{S:List Nat}{w V:World}(h:fq S w V){b:Nat}{o:Obj}(X:w.heap[b]?=U o)(R:b∉S):V.heap[b]?=U o:=by
 have W:b<w.heap.size:=by
  by_cases W:b<w.heap.size;exact W;rw[aI3 (by omega)] at X;cases X
 exact(h.block b W R).trans X
end Go.Proofs.YtjnmghiggfgjlaaGreatDoor
namespace Go.Proofs.YtjnmghiggfgjlaaGreatDoor.Y
open Go.RowKit
noncomputable section
variable{b:FuncId}{R M h:Nat}{r:Bool}{X:TypeId}{Q:World}{F:Oper}{n:Operand}
variable{v:aq}{N:C}
inductive RV where
 |mk (val:Value) (rows:List (List RV))
abbrev av:=List (List RV)
abbrev aE:=List RV
abbrev ES:=Option (List (List RV))
abbrev CJ:=List Deferred
def RV.val:RV->Value
 |.mk v _=>v
def RV.ah:RV->av
 |.mk _ r=>r
@[simp] theorem RV.pe (v:Value) (r:av):(RV.mk v r).val=v:=rfl
@[simp] def RV.mX (v:Value) (r:av):(RV.mk v r).ah=r:=rfl
instance:Inhabited RV:=⟨.mk (.pointer Z) []⟩
structure aj where
 i:bA
 b:mS
 r:aE
 y:ar
def aj.at(O:aj)(y:ar):aj:={O with y:=y}
def aj.rv(O:aj)(k:Nat):RV:=O.r.getD k default
def bn:Value->Int
 |.int _ n=>n|_=>0
def jw:Value->Bool
 |.bool b=>b|_=>E
def lenOf:Value->Int
 |.slice _ n _=>n|.string s=>s.size|_=>0
def G7(v:Value)(i:Int):Int:=match v with
 |.string s=>match s[i.toNat]? with|U b=>b.toNat|none=>0
 |_=>0
def xA:Value->Value->Bool
 |.string a,.string b=>a.toList==b.toList|_,_=>E
def mq(n:Nat)(X:bA)(W:aE):Bool:=decide ((W.take n).map (λc=>bn c.val)=X.take n)
def mu(n:Nat)(X:bA)(W:av):Option aE:=W.find? (mq n X)
def iF(n:Nat)(X:aE):av->av
 |[]=>[X]|r::W=>if mq n ((X.take n).map λc=>bn c.val) r then X::W else r::iF n X W
def lw(x:Int):bA->fz->Value
 |k::X,v::W=>if x=k then(if jr v then v else .nilFunc) else lw x X W|_,_=>.nilFunc
def aQ(X:av)(i:Int)(j:Nat):RV:=(X.getD i.toNat []).getD j default
def cJ:RK->RV->RV
 |.sl _,v|.own _,v=>match v.val with|.slice _ _ _=>v|_=>.mk (.slice Z 0 0) []
 |.str,v=>match v.val with|.string s=>.mk (.string s) []|_=>.mk (.string ⟨#[]⟩) []
 |.bz,v=>if jr v.val then .mk v.val [] else .mk (.pointer Z) []|.aT,v=>if jr v.val then v else .mk (.pointer Z) []
 |.mr _,v=>match v.val with|.slice _ _ _=>v|_=>.mk (.slice Z 0 0) []
mutual
def K.ai(O:aj):K->Int
 |.c n=>n|.v k=>O.i.getD k 0|.bin X k a b=>be X k (a.ai O) (b.ai O)|.conv k a=>k.wrap (a.ai O)|.len r=>lenOf (r.rv O).val|.mm W a b=>if W then max (a.ai O) (b.ai O) else min (a.ai O) (b.ai O)|.dw b x y=>if b.ai O then x.ai O else y.ai O|.cell r i j=>bn (aQ (r.rv O).ah (i.ai O) j).val|.oZ r i=>G7 (r.rv O).val (i.ai O)
 |.look r n a b c j=>match mu n [a.ai O,b.ai O,c.ai O] (r.rv O).ah with|U V=>bn (V.getD j default).val|none=>0
def BE.ai(O:aj):BE->Bool
 |.c b=>b|.v k=>O.b.getD k E|.cmp X a b=>fp X (a.ai O) (b.ai O)|.not a=> !(a.ai O)|.and a b=>a.ai O&&b.ai O|.beq a b=>a.ai O==b.ai O|.dw b x y=>if b.ai O then x.ai O else y.ai O|.cell r i j=>jw (aQ (r.rv O).ah (i.ai O) j).val|.seq a b=>xA (a.rv O).val (b.rv O).val
 |.look r n a b c j=>match mu n [a.ai O,b.ai O,c.ai O] (r.rv O).ah with|U W=>jw (W.getD j default).val|none=>E
 |.has r n a b c=>(mu n [a.ai O,b.ai O,c.ai O] (r.rv O).ah).isSome
def RE.rv(O:aj):RE->RV
 |.v k=>O.rv k|.cell r i j k=>cJ k (aQ (r.rv O).ah (i.ai O) j)|.k v=>.mk v []
end
def RE.ai(O:aj)(r:RE):Value:=(r.rv O).val
def C.cj(O:aj):C->RV
 |.int k e=>.mk (.int k (e.ai O)) []|.bool b=>.mk (.bool (b.ai O)) []|.ak r=>r.rv O|_=>default
def ge(X:aE)(W:Nat):aE->aE
 |[]=>X|v::r=>ge (X.set W v) (W+1) r
def LE.ah(O:aj):LE->av
 |.ak r=>(r.rv O).ah|.lit l=>l.map λX=>X.map (C.cj O)|.iC a b=>a.ah O++b.ah O|.xo n X=>ew (n.ai O).toNat (X.map (C.cj O))|.set a i V W=>(a.ah O).modify (i.ai O).toNat λX=>ge X V (W.map (C.cj O))|.sub a R Q=>((a.ah O).take (Q.ai O).toNat).drop (R.ai O).toNat|.ins a n W=>iF n (W.map (C.cj O)) (a.ah O)
def gu(x:LE)(O:aj):RV:=.mk (.slice Z (x.ah O).length (x.ah O).length) (x.ah O)
def aI(c:Nat)(X:aE):Int:=bn (X.getD c default).val
def jI(X:Bool):ar->aE->aE->Bool
 |[],_,_=>E|c::W,x,y=>if aI c x=aI c y then jI X W x y else if X then decide (aI c y<aI c x) else decide (aI c x<aI c y)
def bu.lt:bu->aE->aE->Bool
 |.lex X d,x,y=>jI d X x y|.ratio n d,x,y=>decide (aI n x*aI d y<aI n y*aI d x)|.dE _ _ _,_,_=>E
def mw(n d:Int):Bool:=decide (1<=d)&&decide (d<=1073741824)&&decide (-1073741824<=n)&&decide (n<=1073741824)&&acx n.natAbs d.toNat==1
def bu.ok:bu->aE->Bool
 |.lex _ _,_=>J|.ratio n d,x=>mw (aI n x) (aI d x)|.dE _ _ _,_=>E
def fk(lt:aE->aE->Bool)(x:aE):av->av
 |[]=>[x]|y::r=>if lt x y then x::y::r else y::fk lt x r
def bN(lt:aE->aE->Bool)(l:av):av:=l.foldl (λacc x=>fk lt x acc) []
def vP(lt:aE->aE->Bool):av->Bool
 |[]=>J|x::r=>r.all (λy=>lt x y||lt y x)&&vP lt r
def iq:bu->Bool->av->ES
 |.dE _ _ _,_,_=>Z|W,V,X=>if decide (Y X<=1099511627776)&&(X.all W.ok&&(V||vP W.lt X)) then U (bN W.lt X) else Z
def my(X:av):Bool:=(dj (Y X)).all λk=>decide (0<=aI 0 (X.getD k []))&&decide (aI 0 (X.getD k [])<=k)
def td:Nat->Int->av->av
 |0,_,X=>X|n+1,i,X=>if aI 0 (X.getD i.toNat [])=i then X else(td n (aI 0 (X.getD i.toNat [])) X).set i.toNat ((td n (aI 0 (X.getD i.toNat [])) X).getD (aI 0 (X.getD i.toNat [])).toNat [])
def xB(i:Int)(X:av):ES:=if decide (Y X<=1099511627776)&&decide (0<=i)&&decide (i<Y X)&&my X then U (td (Y X) i X) else Z
def bi(X:av)(a b:Nat):av:=(X.drop a).take (b-a)
def zr(lt:aE->aE->Bool):av->Bool
 |[]=>J|x::r=>r.all (λy=> !lt y x)&&zr lt r
def oq(k:Nat)(o:bu)(W:bA)(X:av):ES:=match k,W with|0,[a,b,n]=>if decide (0<=a)&&decide (0<=n)&&decide (a+n<=b)&&decide (b+n<=Y X) then U (X.take a.toNat++(bi X b.toNat (b+n).toNat++(bi X (a+n).toNat b.toNat++(bi X a.toNat (a+n).toNat++X.drop (b+n).toNat)))) else Z|1,[a,m,b]=>if decide (0<=a)&&decide (a<m)&&decide (m<b)&&decide (b<=Y X) then U (X.take a.toNat++(bi X m.toNat b.toNat++(bi X a.toNat m.toNat++X.drop b.toNat))) else Z|2,[a,b]=>if decide (0<=a)&&decide (a<=b)&&decide (b<=Y X)&&X.all o.ok then U (X.take a.toNat++(bN o.lt (bi X a.toNat b.toNat)++X.drop b.toNat)) else Z|n+3,[a,m,b]=>if decide (0<=a)&&decide (a<m)&&decide (m<b)&&decide (b<=Y X)&&decide (b-a<n)&&X.all o.ok&&zr o.lt (bi X a.toNat m.toNat)&&zr o.lt (bi X m.toNat b.toNat) then U (X.take a.toNat++(bN o.lt (bi X a.toNat b.toNat)++X.drop b.toNat)) else Z|_,_=>Z
def ad(V:ar)(i:Nat):Nat:=V.getD i 0
def pf(v:Value)(n:Nat):Addr:=match v with|.slice (U a) _ _=>⟨a.block,a.off+n,Z⟩|_=>⟨0,n,Z⟩
def adj:Value->Value
 |.slice a n _=>.slice a n n|_=>.nilFunc
def zt(f:FuncId):fz->Value
 |[]=>.func (.func f) #[] #[]|v::r=>cond (kz f 1000000) (.func (.func f) #[] (v::r).toArray) (cond (kz f 2000000) (.func (.func (f-1000000)) #[v] r.toArray) (adj v))
@[simp] def aJs:zt b []=.func (.func b) #[] #[]:=rfl
@[simp] def Wr (f:FuncId) (l:fz):jr (zt f l)=true:=by
 cases l with
 |nil=>rfl
 |cons v r=>
  unfold zt;cases kz f 1000000;cases kz f 2000000;cases v<;>rfl;rfl;rfl
theorem adk{l:fz}(h:kz b 1000000=J):zt b l=.func (.func b) #[] l.toArray:=by
 cases l<;>simp[zt,h]
def adl(l:fz)(h:kz b 2000000=J):∃a X c,zt b l=.func (.func a) X c:=by
 cases l;simp;unfold zt;rw[h];cases kz b 1000000<;>exact⟨_,_,_,rfl⟩
mutual
def C.ai(O:aj)(V:ar):C->Value
 |.int k e=>.int k (e.ai O)|.bool b=>.bool (b.ai O)|.ak r=>r.ai O|.loc i X=>.pointer (U ⟨ad V i,X,Z⟩)|.el r w i X=>.pointer (U (pf (r.ai O) ((i.ai O).toNat*w+X)))|.iP i X W R=>.slice (U ⟨ad V i,X,Z⟩) W R|.agg l=>.agg (C.az O V l).toArray|.bI l=>.tuple (C.az O V l).toArray|.fn f l=>zt f (C.az O V l)|.gI t x=>.iface t (C.ai O V x)|.yl n=>.func (.yield (O.y.getD n 0)) #[] #[]|.any=>undef|.mp i=>.map (U (ad V i))|.gq e Q P=>lw (e.ai O) Q (C.az O V P)
def C.az(O:aj)(V:ar):aq->fz
 |[]=>[]|x::X=>C.ai O V x::C.az O V X
end
theorem oI(O:aj)(V:ar):∀l,C.az O V l=l.map (C.ai O V)
 |[]=>rfl|x::X=>by rw[C.az,oI O V X];rfl
@[simp] def M1 (O:aj) (V:ar) (l:aq):(C.az O V l).length=Y l:=by rw[oI];simp
theorem uB(O:aj)(V:ar)(l:aq)(i:Nat):(C.az O V l)[i]?=(l[i]?).map (C.ai O V):=by rw[oI];simp
theorem G8(O:aj)(V:ar)(l m:aq):C.az O V (l++m)=C.az O V l++C.az O V m:=by simp[oI]
def adm(g:FuncId)(X bE:aq):AR g X bE=.no\/∃W a,AR g X bE=.call (.fn W) a:=by
 unfold AR
 grind
def awR{bE X:aq}(h:AR b v bE=.call (.yl R) X):False:=by
 rcases adm b v bE with q|⟨_,_,q⟩<;>rw[q] at h<;>cases h
def alE{bE:aq}(h:AR b v bE=.op):False:=by
 rcases adm b v bE with q|⟨_,_,q⟩<;>rw[q] at h<;>cases h
def alF{bE:aq}(h:AR b v bE=.bp N):False:=by
 rcases adm b v bE with q|⟨_,_,q⟩<;>rw[q] at h<;>cases h
def alG(O:aj)(V:ar){g:FuncId}{bE W:aq}(h:AR b v bE=.call (.fn g) W):∃p q:mR,(C.fn b bE).ai O V=.func (.func g) p q/\p++(C.az O V v).toArray++q=(C.az O V W).toArray:=by
 unfold AR at h;rw[C.ai];split at h;simp at h;obtain⟨rfl,rfl⟩:=h;exact⟨#[], #[],rfl,aw⟩;rename_i X r;simp only[C.az,zt];cases R:kz b 1000000;cases Q:kz b 2000000
 grind
 simp only[R,Q,cond_false,cond_true,CK.call.injEq,Cv.fn.injEq] at h;obtain⟨N,P⟩:=h;refine⟨#[X.ai O V],(C.az O V r).toArray, ?_, ?_⟩
 grind
 rw[<-P];simp[C.az,G8];simp only[R,cond_true,CK.call.injEq,Cv.fn.injEq] at h;obtain⟨rfl,rfl⟩:=h
 grind [G8,C.az]
inductive bG(W:World)(ty:Ty):RK->RV->Prop where
 |sl (e:TypeId) (A:Option Addr) (len cap:Nat) (rows:List (List RV)) (h1:Y rows=len) (h2:len<=cap)
   (h3:∀(i:Nat)(row:List RV),rows[i]?=U row->Y row=(bJ ty (.sl e)).length/\∃b off,A=U ⟨b,off,Z⟩/\(∃cs t fr,W.heap[b]?=U (.cells cs t fr))/\
    ∀(j:Nat)(c:RV),row[j]?=U c->W.cell? ⟨b,off+i*(bJ ty (.sl e)).length+j,Z⟩=U c.val)
   (hi:∀(i j:Nat)(row:List RV)(c:RV)(k:IntKind),rows[i]?=U row->row[j]?=U c->(bJ ty (.sl e))[j]?=U (.int k)->∃n,c.val=.int k n)
   (hb:∀(i j:Nat)(row:List RV)(c:RV),rows[i]?=U row->row[j]?=U c->(bJ ty (.sl e))[j]?=U .bool->∃x,c.val=.bool x)
   (ho:∀(i j:Nat)(row:List RV)(c:RV)(z:Value)(k:RK),rows[i]?=U row->row[j]?=U c->(bJ ty (.sl e))[j]?=U (.bz z k)->bG W ty k c):
   bG W ty (.sl e) (.mk (.slice A len cap) rows)
 |str (s:ByteArray):bG W ty .str (.mk (.string s) [])
 |bz (v:Value) (h:jr v=J):bG W ty .bz (.mk v [])
 |own (e:TypeId) (rv:RV) (h:bG W ty (.sl e) rv) (hn:∀l c,rv.val=.slice Z l c->c=0):bG W ty (.own e) rv
 |aT (rv:RV) (h:jr rv.val=J):bG W ty .aT rv
 |mr (sh:Sh) (rows:List (List RV)) (h1:∀(i:Nat)(row:List RV),rows[i]?=U row->Y row=(bJ ty (.mr sh)).length)
   (hi:∀(i j:Nat)(row:List RV)(c:RV)(k:IntKind),rows[i]?=U row->row[j]?=U c->(bJ ty (.mr sh))[j]?=U (.int k)->∃n,c=.mk (.int k n) [])
   (hb:∀(i j:Nat)(row:List RV)(c:RV),rows[i]?=U row->row[j]?=U c->(bJ ty (.mr sh))[j]?=U .bool->∃x,c=.mk (.bool x) [])
   (ho:∀(i j:Nat)(row:List RV)(c:RV)(z:Value)(k:RK),rows[i]?=U row->row[j]?=U c->(bJ ty (.mr sh))[j]?≠U (.bz z k)):
   bG W ty (.mr sh) (.mk (.slice Z (Y rows) (Y rows)) rows)
inductive dW(ty:Ty):RK->RV->Nat->Prop where
 |here (e:TypeId) (a:Addr) (len cap:Nat) (rows:List (List RV)):dW ty (.sl e) (.mk (.slice (U a) (len+1) cap) rows) a.block
 |deep (e:TypeId) (v:Value) (rows:List (List RV)) (i j:Nat) (row:List RV) (c:RV) (z:Value) (k:RK) (b:Nat):rows[i]?=U row->row[j]?=U c->(bJ ty (.sl e))[j]?=U (.bz z k)->dW ty k c b->dW ty (.sl e) (.mk v rows) b
 |own (e:TypeId) (rv:RV) (b:Nat):dW ty (.sl e) rv b->dW ty (.own e) rv b
def RV.lx(X:RV):cH:=match X.val with|.slice (U a) _ (_+1)=>U a.block|_=>Z
def AX(W:Ty)(e:RK)(X:RV)(b:Nat):Prop:=dW W e X b\/(∃t,e=.own t)/\X.lx=U b
def oJ(X:Ty)(e:TypeId)(V:av)(b:Nat):Prop:=∃(i j:Nat)(W:aE)(c:RV)(z:Value)(k:RK),V[i]?=U W/\W[j]?=U c/\(bJ X (.sl e))[j]?=U (.bz z k)/\dW X k c b
def rg(n:Nat)(X:ar):ar:=X.takeWhile (· !=n)
def alH{n b:Nat}:∀{X:ar},b∈rg n X->b∈X
 |[],h=>by simp[rg] at h
 |x::l,h=>by
  unfold rg at h;rw[List.takeWhile_cons] at h;split at h;rcases ey.1 h with rfl|h;simp;exact AI _ (alH h);simp at h
structure AY(S0:ar)(w0:World)(V:ar)(O:aj)(bx:bm)(ty:Ty)(rs:bo)(W:World)(k:Nat)(e:TypeId)(rv:RV)(b:Nat):Prop where
 own:w0.heap.size<=b\/b∈rg w0.heap.size S0
 mem:∃len cap db,rv.val=.slice (U ⟨b,0,Z⟩) len cap/\W.heap[b]?=U (.cells db e (0,0))/\len<=cap/\cap<=maxLen/\db.size=cap*(bJ ty (.sl e)).length
 box:∀i,aL bx i=J->ad V i≠b
 alone:∀(k':Nat)(e':RK)(rv':RV),k'≠k->rs[k']?=U e'->O.r[k']?=U rv'->¬AX ty e' rv' b
 inner:¬oJ ty e rv.ah b
def C.gf(O:aj)(V:ar)(v:C):RV:=match v with|.ak r=>r.rv O|v=>.mk (v.ai O V) []
def C.bL(O:aj)(V:ar)(l:aq):aE:=l.map (C.gf O V)
def gD:Nat->uo->List MapEntry
 |_,[]=>[]|n,x::r=>⟨x.1,x.2,n⟩::gD (n+1) r
def rh(l:uo):Obj:=.map (gD 0 l).toArray (Y l)
def ET:fz->uo
 |k::v::r=>(k,v)::ET r|_=>[]
def rX(a:Bool)(l:aE):Value:=if a then .agg (l.map RV.val).toArray else(l.headD default).val
def xC(n:Nat)(W V:Bool)(X:aE):Value×Value:=(rX W (X.take n),rX V (X.drop n))
def alI:Value->cH
 |.map a=>a|_=>Z
def qz(X:aE):Nat:=(bn (X.headD default).val).toNat
def j9(t:TypeId)(l:aE):Obj:=
 if t=vC then rh (ET (l.map RV.val)) else
 if t=xl then(match l with
  |[X,.mk (.int _ n) _,.mk (.bool W) _,.mk (.bool V) _]=>rh (X.ah.map (xC n.toNat W V))
  |_=>rh []) else
 if t=zd then(match l with
  |[R,_,.mk (.int _ n) _,Q]=>.mapIter (alI R.val) n.toNat (Q.ah.map qz).toArray n.toNat
  |_=>rh []) else
 .cells (l.map RV.val).toArray t (0,0)
structure jJ(S0:ar)(w0:World)(V:ar)(O:aj)(bx:bm)(ty:Ty)(rs:bo)(W:World):Prop where
 base:fq S0 w0 W
 own:∀i,aL bx i=J->w0.heap.size<=ad V i\/ad V i∈S0
 inj:∀i j,aL bx i=J->aL bx j=J->ad V i=ad V j->i=j
 box:∀(i:Nat)(t:TypeId)(cs:aq),bP bx i=U (t,cs)->W.heap[ad V i]?=U (j9 t (C.bL O V cs))
 ak:∀(k:Nat)(e:RK)(rv:RV),rs[k]?=U e->O.r[k]?=U rv->bG W ty e rv/\∀b,dW ty e rv b->∀i,aL bx i=J->ad V i≠b
structure bU where
 out:ar
 dK:List (Nat×Loop)
 rd:Bool
 base:CJ
def bU.none:bU:=⟨[],[],E,[]⟩
def mY(r:Nat):Deferred:={target:=.collected r,args:= #[]}
def PX.code:PX->Code
 |.ret=>.ret|.exit id=>.exit id
def th(r:Loop):JH->Loop
 |.ready=>{r with state:=.ready,pending:=Z}
 |.busy=>{r with state:=.busy,pending:=Z}
 |.done e=>{r with state:=.done,pending:=U e.code}
structure ef(w0:World)(D:bU)(pd:vz)(y:ar)(dfr:CJ)(W:World):Prop where
 len:Y D.dK=Y pd
 rY:Y y=Y pd
 dK:∀(n l:Nat)(r:Loop)(st:JH),D.dK[n]?=U (l,r)->pd[n]?=U st->y[n]?=U l/\W.heap[l]?=U (.loop (th r st))/\w0.heap.size<=l
 inj:∀(n n' l:Nat)(r r':Loop),D.dK[n]?=U (l,r)->D.dK[n']?=U (l,r')->n=n'
 mz:∃ms:ar,dfr=ms.map mY++D.base/\(D.rd=J->ms=[])/\(ms++D.out).Nodup/\∀d∈ms++D.out,W.heap[d]?=U (.deferred (U []))/\w0.heap.size<=d
structure aA(S0:ar)(w0:World)(D:bU)(ty:Ty)(V:ar)(O:aj)(s:S)(a:Act)(W:World):Prop where
 mem:jJ S0 w0 V O s.au ty s.rs W
 gE:Y V=Y s.au
 ei:Y O.i=s.ni
 eb:Y O.b=s.nb
 er:Y O.r=Y s.rs
 dm:ef w0 D s.pd O.y a.defers W
 size:a.tmps.size=Y s.tmps
 tmps:∀(t:Nat)(sv:C),s.tmps[t]?=U sv->sv=.any\/a.tmps[t]?=U (sv.ai O V)
 eP:∀(k:Nat)(e:TypeId)(rv:RV)(b:Nat),s.rs[k]?=U (.own e)->O.r[k]?=U rv->rv.lx=U b->AY S0 w0 V O s.au ty s.rs W k e rv b
def aj.ph(X:Ty)(O:aj)(W:bo)(b:Nat):Prop:=∃(k:Nat)(e:RK),W[k]?=U e/\dW X e (O.rv k) b
inductive XV where
 |i (n:Int)
 |b (x:Bool)
 |r (v:RV)
abbrev aZ:=List XV
def aj.add(O:aj):XV->aj
 |.i n=>{O with i:=O.i++[n]}
 |.b x=>{O with b:=O.b++[x]}
 |.r v=>{O with r:=O.r++[v]}
def aj.ext(O:aj):aZ->aj
 |[]=>O|x::X=>(O.add x).ext X
def C.xv(O:aj):C->XV
 |.int _ e=>.i (e.ai O)|.bool b=>.b (b.ai O)|.ak r=>.r (r.rv O)|_=>.i 0
def qA:LK->XV->Prop
 |.int _,.i _=>True|.bool,.b _=>True|.ak _,.r _=>True|_,_=>False
def dL:aN->aZ->Prop
 |[],[]=>True|k::X,x::W=>qA k x/\dL X W|_,_=>False
def awS(X:Ty)(W:World)(B:Nat)(R:Nat->Prop):LK->XV->Prop
 |.ak e,.r V=>bG W X e V/\∀b,dW X e V b->B<=b\/R b|_,_=>True
def CL(X:Ty)(W:World)(B:Nat)(V:Nat->Prop):aN->aZ->Prop
 |k::R,x::Q=>awS X W B V k x/\CL X W B V R Q|_,_=>True
structure Kc(ty:Ty)(S0:ar)(w0:World)(e:TypeId)(x:LE)(rs:bo)(O:aj)(rv:RV):Prop where
 val:∃A n c,rv=.mk (.slice A n c) (x.ah O)/\(x.ah O).length=n
 ph:∀b,dW ty (.sl e) rv b->w0.heap.size<=b\/b∈rg w0.heap.size S0\/O.ph ty rs b
 adn:∀(k:Nat)(i:K)(off:Nat)(cs:aq),x=.set (.ak (.v k)) i off cs->rv.val=(O.rv k).val
structure LC where
 ax:Nat
 I:aZ->Prop
 μ:aZ->Nat
 m:Nat
abbrev dt:=List LC
def pi(ax:Nat):dt->Option LC
 |[]=>Z|x::X=>if x.ax=ax then U x else pi ax X
def XE.to(O:aj)(V:ar):XE->Exit
 |.normal=>.normal|.ret=>.ret|.exit id=>.exit id|.bp v=>.panic [{v:=v.ai O V,recovered:=E}]
structure Sp where
 P:Program
 ty:Ty
 S0:ar
 w0:World
 D:bU
 R:Ending->World->Prop
 Q:Exit->Act->World->Prop
def qB(k:Nat)(o:bu)(W:bA)(X:av):ES:=if Y X<=1099511627776 then oq k o W X else Z
def ly(O:aj):bu->Bool->av->ES
 |.dE k o W,E,X=>qB k o (W.map (K.ai O)) X|.dE _ _ [i],J,X=>xB (i.ai O) X|.dE _ _ _,J,_=>Z|V,R,X=>iq V R X
def oK(O:aj):bu->Bool->av->ES
 |.dE _ _ _,E,_=>Z|.dE _ _ [i],J,X=>xB (i.ai O) X|.dE _ _ _,J,_=>Z|W,V,X=>iq W V X
def alJ{O:aj}{W:bu}{V X:av}(h:oK O W r V=U X):ly O W r V=U X:=by
 cases W with
 |lex Q d=>exact h|ratio n d=>exact h
 |dE k o R=>
  cases r with
  |false=>simp[oK] at h
  |true=>
   cases R with
   |nil=>simp[oK] at h
   |cons i l=>
    cases l with|nil=>exact h|cons j l=>simp[oK] at h
def alK(p:Sp)(R:VI)(H:aq)(G:bm)(M:bo)(L:aN)(O:aj)(X:aj->Prop):Prop:=
 ∀y V W,jJ p.S0 p.w0 V (O.at y) G p.ty M W->Calls p.P R.g (C.az (O.at y) V (H.take R.n)++C.az (O.at y) V R.bE).toArray W λ
  |.returned v,N=>∃Q,dL L Q/\v=.tuple #[]/\fq (R.out.map λx=>ad V x.1) W N/\(∀x∈R.out,N.heap[ad V x.1]?=U (j9 x.2.1 (C.bL ((O.ext Q).at y) V x.2.2)))/\CL p.ty N W.heap.size (O.ph p.ty M) L Q/\X (O.ext Q)|_,_=>False
def T.aP(p:Sp):T->aj->dt->Prop
 |.out e s,O,_=>∀y V a W,aA p.S0 p.w0 p.D p.ty V (O.at y) s a W->p.Q (e.to (O.at y) V) a W|.ret v F M,O,_=>∀y V W,jJ p.S0 p.w0 V (O.at y) F p.ty M W->p.R (.returned (v.ai (O.at y) V)) W|.bp v,O,_=>∀y V W,fq p.S0 p.w0 W->p.R (.panicked [{v:=v.ai (O.at y) V,recovered:=E}]) W|.aK b t f,O,L=>(b.ai O=J->t.aP p O L)/\(b.ai O=E->f.aP p O L)|.aS b t,O,L=>b.ai O=J/\t.aP p O L
 |.call f B F M H fA t,O,L=>match zm fA with
  |U u=>alK p u B F M H O λq=>t.aP p q L
  |none=>∀y V W,jJ p.S0 p.w0 V (O.at y) F p.ty M W->Calls p.P f (C.az (O.at y) V B).toArray W λ
   |.returned v,G=>∃N,dL H N/\v=fA.ai ((O.ext N).at y) V/\Below W.heap.size W G/\CL p.ty G W.heap.size (O.ph p.ty M) H N/\t.aP p (O.ext N) L|.panicked o,G=>Below W.heap.size W G/\p.R (.panicked o) G|.outgrown,_=>False
 |.loop ax H l t,O,L=>∃X A,X (l.map (C.xv O))/\∀N,dL H N->X N->t.aP p (O.ext N) (⟨ax,X,A,A N⟩::L)
 |.back ax x,O,L=>match pi ax L with|U c=>c.I (x.map (C.xv O))/\c.μ (x.map (C.xv O))<c.m|none=>False
 |.new e x M _ t,O,L=>∀z,Kc p.ty p.S0 p.w0 e x M O z->t.aP p (O.add (.r z)) L|.ah _ x _ t,O,L=>t.aP p (O.add (.r (gu x O))) L|.gr g h t f,O,L=>(g.ai O=J->t.aP p O L)/\(h.ai O=J->f.aP p O L)|.pick n g h t f,O,L=>(∀j:Int,0<=j->j<n.ai O->g.ai (O.add (.i j))=J->t.aP p (O.add (.i j)) L)/\(h.ai O=J->f.aP p O L)|.eG _ _ _ k d r _ t,O,L=>∃w,ly O k d (r.rv O).ah=U w/\t.aP p (O.add (.r (.mk (r.rv O).val w))) L|.stuck _,_,_=>False
variable{w:bm}{k:aj}{x:ar}
def alL:∀(a b:Value),JO a b=J->a=b:=by
 intro a b h;unfold JO at h;split at h;rename_i a b;have X:a.data.toList=b.data.toList:=by simpa using h
 have W:a.data=b.data:=by simpa using X
 cases a;cases b;simp_all
 grind
 all_goals first|rfl|cases h
mutual
theorem K.bX:∀(a b:K),K.aR a b=J->a=b
 |.c a,b,h=>by cases b<;>simp[K.ip] at h;rw[h]
 |.v a,b,h=>by cases b<;>simp[K.ip] at h;rw[h]
 |.bin o k a b,x,h=>by
  cases x<;>simp[K.ip,Cs] at h;obtain⟨⟨⟨rfl,rfl⟩,X⟩,W⟩:=h;rw[K.bX _ _ X,K.bX _ _ W]
 |.conv k a,x,h=>by
  cases x<;>simp[K.ip] at h;obtain⟨rfl,X⟩:=h;rw[K.bX _ _ X]
 |.len r,x,h=>by
  cases x<;>simp[K.ip] at h;rw[RE.bX _ _ h]
 |.mm m a b,x,h=>by
  cases x<;>simp[K.ip] at h;obtain⟨⟨rfl,X⟩,W⟩:=h;rw[K.bX _ _ X,K.bX _ _ W]
 |.dw b a c,x,h=>by
  cases x<;>simp[K.ip] at h;obtain⟨⟨V,X⟩,W⟩:=h;rw[BE.bX _ _ V,K.bX _ _ X,K.bX _ _ W]
 |.cell r i j,x,h=>by
  cases x<;>simp[K.ip] at h;obtain⟨⟨V,X⟩,rfl⟩:=h;rw[RE.bX _ _ V,K.bX _ _ X]
 |.oZ r i,x,h=>by
  cases x<;>simp[K.ip] at h;obtain⟨V,X⟩:=h;rw[RE.bX _ _ V,K.bX _ _ X]
 |.look r n a b c j,x,h=>by
  cases x<;>simp[K.ip] at h;obtain⟨⟨⟨⟨⟨V,rfl⟩,X⟩,W⟩,R⟩,rfl⟩:=h;rw[RE.bX _ _ V,K.bX _ _ X,K.bX _ _ W,K.bX _ _ R]
theorem BE.bX:∀(a b:BE),BE.aR a b=J->a=b
 |.c a,b,h=>by cases b<;>simp[BE.ip] at h;rw[h]
 |.v a,b,h=>by cases b<;>simp[BE.ip] at h;rw[h]
 |.cmp o a b,x,h=>by
  cases x<;>simp[BE.ip,Cs] at h;obtain⟨⟨rfl,X⟩,W⟩:=h;rw[K.bX _ _ X,K.bX _ _ W]
 |.not a,x,h=>by
  cases x<;>simp[BE.ip] at h;rw[BE.bX _ _ h]
 |.and a b,x,h=>by
  cases x<;>simp[BE.ip] at h;rw[BE.bX _ _ h.1,BE.bX _ _ h.2]
 |.beq a b,x,h=>by
  cases x<;>simp[BE.ip] at h;rw[BE.bX _ _ h.1,BE.bX _ _ h.2]
 |.dw b a c,x,h=>by
  cases x<;>simp[BE.ip] at h;obtain⟨⟨V,X⟩,W⟩:=h;rw[BE.bX _ _ V,BE.bX _ _ X,BE.bX _ _ W]
 |.cell r i j,x,h=>by
  cases x<;>simp[BE.ip] at h;obtain⟨⟨V,X⟩,rfl⟩:=h;rw[RE.bX _ _ V,K.bX _ _ X]
 |.seq a b,x,h=>by
  cases x<;>simp[BE.ip] at h;rw[RE.bX _ _ h.1,RE.bX _ _ h.2]
 |.look r n a b c j,x,h=>by
  cases x<;>simp[BE.ip] at h;obtain⟨⟨⟨⟨⟨V,rfl⟩,X⟩,W⟩,R⟩,rfl⟩:=h;rw[RE.bX _ _ V,K.bX _ _ X,K.bX _ _ W,K.bX _ _ R]
 |.has r n a b c,x,h=>by
  cases x<;>simp[BE.ip] at h;obtain⟨⟨⟨⟨V,rfl⟩,X⟩,W⟩,R⟩:=h;rw[RE.bX _ _ V,K.bX _ _ X,K.bX _ _ W,K.bX _ _ R]
theorem RE.bX:∀(a b:RE),RE.aR a b=J->a=b
 |.v a,b,h=>by cases b<;>simp[RE.ip] at h;rw[h]
 |.cell r i j k,x,h=>by
  cases x<;>simp[RE.ip] at h;obtain⟨⟨⟨X,W⟩,rfl⟩,rfl⟩:=h;rw[RE.bX _ _ X,K.bX _ _ W]
 |.k a,b,h=>by cases b<;>simp[RE.ip] at h;rw[alL _ _ h]
end
mutual
theorem C.bX:∀(a b:C),C.aR a b=J->a=b
 |.int k e,x,h=>by cases x<;>simp[C.ip] at h;rw[h.1,K.bX _ _ h.2]
 |.bool b,x,h=>by cases x<;>simp[C.ip] at h;rw[BE.bX _ _ h]
 |.ak r,x,h=>by cases x<;>simp[C.ip] at h;rw[RE.bX _ _ h]
 |.loc i o,x,h=>by cases x<;>simp[C.ip] at h;rw[h.1,h.2]
 |.el r w i o,x,h=>by
  cases x<;>simp[C.ip] at h
  grind [RE.bX,K.bX]
 |.iP a b c d,x,h=>by
  cases x<;>simp[C.ip] at h
  grind
 |.agg l,x,h=>by cases x<;>simp[C.ip] at h;rw[C.pj _ _ h]
 |.bI l,x,h=>by cases x<;>simp[C.ip] at h;rw[C.pj _ _ h]
 |.fn f l,x,h=>by cases x<;>simp[C.ip] at h;rw[h.1,C.pj _ _ h.2]
 |.gI t y,x,h=>by cases x<;>simp[C.ip] at h;rw[h.1,C.bX _ _ h.2]
 |.yl n,x,h=>by cases x<;>simp[C.ip] at h;rw[h]
 |.any,x,h=>by cases x<;>simp[C.ip] at h;rfl
 |.mp i,x,h=>by cases x<;>simp[C.ip] at h;rw[h]
 |.gq e X W,x,h=>by cases x<;>simp[C.ip] at h;rw[K.bX _ _ h.1.1,h.1.2,C.pj _ _ h.2]
theorem C.pj:∀(a b:aq),C.og a b=J->a=b
 |[],b,h=>by cases b<;>simp[C.alm] at h;rfl
 |x::X,b,h=>by cases b<;>simp[C.alm] at h;rw[C.bX _ _ h.1,C.pj _ _ h.2]
end
structure jg(O O':aj)(ni nb nr:Nat):Prop where
 i:∀k,k<ni->O'.i.getD k 0=O.i.getD k 0
 b:∀k,k<nb->O'.b.getD k E=O.b.getD k E
 r:∀k,k<nr->O'.rv k=O.rv k
 y:O'.y=O.y
mutual
def K.eh{O W:aj}{V R Q:Nat}(X:jg O W V R Q):∀(e:K),e.bd V R Q=J->e.ai W=e.ai O
 |.c n,_=>by simp[K.ai]|.v k,h=>by simp[K.bj] at h;simp only[K.ai];exact X.i k h|.bin o k a b,h=>by simp[K.bj] at h;simp only[K.ai,K.eh X a h.1,K.eh X b h.2]|.conv k a,h=>by simp[K.bj] at h;simp only[K.ai,K.eh X a h]|.len r,h=>by simp[K.bj] at h;simp only[K.ai,RE.tj X r h]|.mm m a b,h=>by simp[K.bj] at h;simp only[K.ai,K.eh X a h.1,K.eh X b h.2]|.dw b x y,h=>by simp[K.bj] at h;simp only[K.ai,BE.eh X b h.1.1,K.eh X x h.1.2,K.eh X y h.2]|.cell r i j,h=>by simp[K.bj] at h;simp only[K.ai,K.eh X i h.2,RE.tj X r h.1]|.oZ r i,h=>by simp[K.bj] at h;simp only[K.ai,RE.tj X r h.1,K.eh X i h.2]|.look r n a b c j,h=>by simp[K.bj] at h;simp only[K.ai,RE.tj X r h.1.1.1,K.eh X a h.1.1.2,K.eh X b h.1.2,K.eh X c h.2]
def BE.eh{O W:aj}{V R Q:Nat}(X:jg O W V R Q):∀(e:BE),e.bd V R Q=J->e.ai W=e.ai O
 |.c n,_=>by simp[BE.ai]|.v k,h=>by simp[BE.bj] at h;simp only[BE.ai];exact X.b k h|.cmp o a b,h=>by simp[BE.bj] at h;simp only[BE.ai,K.eh X a h.1,K.eh X b h.2]|.not a,h=>by simp[BE.bj] at h;simp only[BE.ai,BE.eh X a h]|.and a b,h=>by simp[BE.bj] at h;simp only[BE.ai,BE.eh X a h.1,BE.eh X b h.2]|.beq a b,h=>by simp[BE.bj] at h;simp only[BE.ai,BE.eh X a h.1,BE.eh X b h.2]|.dw b x y,h=>by simp[BE.bj] at h;simp only[BE.ai,BE.eh X b h.1.1,BE.eh X x h.1.2,BE.eh X y h.2]|.cell r i j,h=>by simp[BE.bj] at h;simp only[BE.ai,K.eh X i h.2,RE.tj X r h.1]|.seq a b,h=>by simp[BE.bj] at h;simp only[BE.ai,RE.tj X a h.1,RE.tj X b h.2]|.look r n a b c j,h=>by simp[BE.bj] at h;simp only[BE.ai,RE.tj X r h.1.1.1,K.eh X a h.1.1.2,K.eh X b h.1.2,K.eh X c h.2]|.has r n a b c,h=>by simp[BE.bj] at h;simp only[BE.ai,RE.tj X r h.1.1.1,K.eh X a h.1.1.2,K.eh X b h.1.2,K.eh X c h.2]
def RE.tj{O W:aj}{V R Q:Nat}(X:jg O W V R Q):∀(e:RE),e.bd V R Q=J->e.rv W=e.rv O
 |.v k,h=>by simp[RE.bj] at h;simp only[RE.rv,X.r k h]|.cell r i j k,h=>by simp[RE.bj] at h;simp only[RE.rv,K.eh X i h.2,RE.tj X r h.1]|.k v,_=>by simp[RE.rv]
end
def RE.eh{O X:aj}{W V R:Nat}(Q:jg O X W V R)(e:RE)(h:e.bd W V R=J):e.ai X=e.ai O:=by simp only[RE.ai,RE.tj Q e h]
mutual
def C.eh{O R:aj}{V Q:ar}{P N M:Nat}{L:Nat->Bool}(X:jg O R P N M)(W:∀k,L k=J->ad Q k=ad V k):∀(v:C),v.bd P N M L=J->v.ai R Q=v.ai O V
 |.int k e,h=>by simp[C.bj] at h;simp only[C.ai,K.eh X e h]|.bool e,h=>by simp[C.bj] at h;simp only[C.ai,BE.eh X e h]|.ak e,h=>by simp[C.bj] at h;simp only[C.ai,RE.eh X e h]|.loc i o,h=>by simp[C.bj] at h;simp only[C.ai,W i h]|.el r w i o,h=>by simp[C.bj] at h;simp only[C.ai,RE.eh X r h.1,K.eh X i h.2]|.iP i o l c,h=>by simp[C.bj] at h;simp only[C.ai,W i h]|.agg l,h=>by simp[C.bj] at h;simp only[C.ai,C.M3 X W l h]|.bI l,h=>by simp[C.bj] at h;simp only[C.ai,C.M3 X W l h]|.fn f l,h=>by simp[C.bj] at h;simp only[C.ai,C.M3 X W l h]|.gI t x,h=>by simp[C.bj] at h;simp only[C.ai,C.eh X W x h]|.yl n,_=>by simp only[C.ai,X.y]|.any,_=>by simp[C.ai]|.mp i,h=>by simp[C.bj] at h;simp only[C.ai,W i h]|.gq e G H,h=>by simp[C.bj] at h;simp only[C.ai,K.eh X e h.1,C.M3 X W H h.2]
def C.M3{O X:aj}{V W:ar}{R Q P:Nat}{N:Nat->Bool}(M:jg O X R Q P)(L:∀k,N k=J->ad W k=ad V k):∀(l:aq),C.dQ R Q P N l=J->C.az X W l=C.az O V l
 |[],_=>rfl|x::H,h=>by simp[C.i8] at h;simp only[C.az,C.eh M L x h.1,C.M3 M L H h.2]
end
def xD{W V R:Nat}{Q:Nat->Bool}:∀{l:aq}{i:Nat}{v:C},C.dQ W V R Q l=J->l[i]?=U v->v.bd W V R Q=J
 |[],i,v,_,h=>by simp at h|x::P,0,v,X,h=>by simp[C.i8] at X;simp at h;exact h▸X.1|x::P,i+1,v,X,h=>by simp[C.i8] at X;simp at h;exact xD X.2 h
theorem kC{b:TypeId×aq}:bP w R=U b<->w[R]?=U (U b):=by
 simp only[bT];cases h:w[R]? with|none=>simp|some x=>cases x<;>simp
def tq{V R Q:Nat}{P:Nat->Bool}:∀{l:bm}{i:Nat}{v:TypeId×aq},C.rU V R Q P l=J->bP l i=U v->C.dQ V R Q P v.2=J
 |[],i,v,_,h=>by simp[bT] at h|U x::W,0,v,X,h=>by simp[C.rU] at X;simp[bT] at h;exact h▸X.1|Z::W,0,v,X,h=>by simp[bT] at h|U x::W,i+1,v,X,h=>by simp[C.rU] at X;exact tq X.2 (by simpa[bT] using h)|Z::W,i+1,v,X,h=>by simp[C.rU] at X;exact tq X (by simpa[bT] using h)
def jg.refl(O:aj)(X W V:Nat):jg O O X W V:=⟨λ_ _=>rfl,λ_ _=>rfl,λ_ _=>rfl,rfl⟩
def jg.trans{a b c:aj}{W V R:Nat}(h:jg a b W V R)(k:jg b c W V R):jg a c W V R:=
 ⟨λj X=>(k.i j X).trans (h.i j X),λj X=>(k.b j X).trans (h.b j X),λj X=>(k.r j X).trans (h.r j X),k.y.trans h.y⟩
def jg.mono{a b:aj}{X W V R Q P:Nat}(h:jg a b X W V)(N:R<=X)(M:Q<=W)(L:P<=V):jg a b R Q P:=
 ⟨λj O=>h.i j ae,λj O=>h.b j ae,λj O=>h.r j ae,h.y⟩
def Ws(O:aj)(x:XV):jg O (O.add x) (Y O.i) (Y O.b) (Y O.r):=by
 cases x<;>refine⟨λk X=> ?_,λk X=> ?_,λk X=> ?_,rfl⟩<;>simp[aj.add,aj.rv,fO,X]
def EU:∀(X:aZ)(O:aj),jg O (O.ext X) (Y O.i) (Y O.b) (Y O.r)
 |[],O=>jg.refl _ _ _ _
 |x::X,O=>by
  have W:=Ws O x;have V:=EU X (O.add x);exact W.trans (V.mono (by cases x<;>simp[aj.add]) (by cases x<;>simp[aj.add]) (by cases x<;>simp[aj.add]))
mutual
def Wt{O:aj}{V X:ar}(h:ad X=ad V):∀(v:C),v.ai O X=v.ai O V
 |.int k e=>by simp only[C.ai]|.bool e=>by simp only[C.ai]|.ak e=>by simp only[C.ai]|.loc i o=>by simp only[C.ai,h]|.el r w i o=>by simp only[C.ai]|.iP i o l c=>by simp only[C.ai,h]|.agg l=>by simp only[C.ai,RP h l]|.bI l=>by simp only[C.ai,RP h l]|.fn f l=>by simp only[C.ai,RP h l]|.gI t x=>by simp only[C.ai,Wt h x]|.yl n=>by simp only[C.ai]|.any=>by simp only[C.ai]|.mp i=>by simp only[C.ai,h]|.gq e R W=>by simp only[C.ai,RP h W]
def RP{O:aj}{V X:ar}(h:ad X=ad V):∀(l:aq),C.az O X l=C.az O V l
 |[]=>rfl|x::W=>by simp only[C.az,Wt h x,RP h W]
end
def awT(O:aj)(V:ar)(v:C):(v.gf O V).val=v.ai O V:=by
 cases v<;>simp[C.gf,C.ai,RE.ai]
def alM(O:aj)(V:ar)(l:aq):(C.bL O V l).map RV.val=C.az O V l:=by
 rw[oI,C.bL,oX];exact ky λv _=>awT O V v
theorem qC(h:mT X=E)(O:aj)(V:ar)(l:aq):j9 X (C.bL O V l)=.cells (C.az O V l).toArray X (0,0):=by
 have W:=of_decide_eq_false h;unfold j9;rw[aJ (λe=>W (by rw[e];exact cd _)),aJ (λe=>W (by rw[e];decide)),aJ (λe=>W (by rw[e];decide)),alM]
def AZ(h:mU w R=U (X,v)):bP w R=U (X,v)/\mT X=false:=by
 grind [mU]
def RQ{X:bm}{j:Nat}(h:bP X j=bP w R):mU X j=mU w R:=by simp[mU,h]
theorem ado{O X:aj}{V W:ar}{R Q P:Nat}{N:Nat->Bool}(M:jg O X R Q P)(L:∀k,N k=J->ad W k=ad V k)(v:C)(h:v.bd R Q P N=J):v.gf X W=v.gf O V:=by
 have H:=C.eh M L v h;cases v<;>simp only[C.gf]<;>try rw[H]
 simp only[C.bj] at h;exact RE.tj M _ h
def RT{O X:aj}{V W:ar}{R Q P:Nat}{N:Nat->Bool}(M:jg O X R Q P)(L:∀k,N k=J->ad W k=ad V k):∀(l:aq),C.dQ R Q P N l=J->C.bL X W l=C.bL O V l
 |[],_=>rfl
 |x::H,h=>by
  simp only[C.i8,aC] at h;have:=RT M L H h.2
  grind [C.bL,ado]
def alN{X:ar}(h:ad X=ad x)(l:aq):C.bL k X l=C.bL k x l:=by
 refine ky λv _=> ?_
 have W:=Wt (O:=k) h v;cases v<;>simp only[C.gf]<;>rw[W]
def adp(x:Int):∀(X:bA)(W:fz),jr (lw x X W)=J
 |[],_=>by simp[lw,jr]|_::_,[]=>by simp[lw,jr]
 |k::X,v::W=>by
  simp only[lw];split;split;omega;rfl;exact adp x X W
def alO{v:Value}(h:jr v=J):v.cells.toList=[v]:=by
 cases v<;>simp[jr] at h<;>rfl
variable{t:TI}
def rZ(c:CT):Value:=match c with|.int k=>.int k 0|.bool=>.bool E|.bz z _=>z
def TD.Ok(P:Program)(t:TypeId)(am:eN):TD->Prop
 |.struct X=>∃F:Array Field,P.underlying t=U (.struct F)/\F.toList.map (λf=>(f.offset,f.type))=X|.arr n e=>P.underlying t=U (.array n e)|.slice e=>P.underlying t=U (.slice e)|.str=>P.underlying t=U .string|.one=>∃d,P.underlying t=U d/\((match d with|.struct _|.array _ _|.slice _|.string|.interface _=>False|_=>True)/\∀k,am=[.bz .nilFunc k]->∃a b c,d=.func a b c)/\(∀k,am=[.int k]->d=.int k)/\(am=[.bool]->d=.bool)
 |.gI=>∃m,P.underlying t=U (.interface m)|.map k e _ _=>P.underlying t=U (.map k e)
def EV:Value->Value->Option Bool
 |.int k a,.int X b=>if k=X then U (a==b) else Z|.bool a,.bool b=>U (a==b)|.string a,.string b=>U (a.toList==b.toList)|_,_=>Z
def EW:CT->Value->Prop
 |.int k,.int X _=>k=X|.bool,.bool _=>True|.bz _ .str,.string _=>True|_,_=>False
def lQ:eN->fz->Prop
 |[],[]=>True|c::X,v::R=>EW c v/\lQ X R|_,_=>False
def kL:fz->fz->Option Bool
 |[],[]=>U J
 |x::X,y::R=>match EV x y,kL X R with|U a,U b=>U (a&&b)|_,_=>Z
 |_,_=>Z
def gT(X:Bool)(l:bA):Value:=if X then .agg (l.map (Value.int I)).toArray else .int I (l.headD 0)
def zu:Value->bA
 |.int _ x=>[x]|.agg X=>X.toList.map bn|_=>[]
def pm(l:bA):List MapEntry->Nat->Option (Nat×Value)
 |[],_=>Z|e::X,i=>if zu e.key=l then U (i,e.val) else pm l X (i+1)
def vQ(P:Program)(k:TypeId)(n:Nat)(X:Bool):Prop:=(X=E->n=1)/\∀(l:bA)(R:List MapEntry)(W:World),Y l=n->(∀e∈R,∃Q:bA,Y Q=n/\e.key=gT X Q)->
 (∀b,(Instr.checkKey b 10000 k (gT X l)).run P W=.ok () W)/\(Instr.findKey k (gT X l) R).run P W=.ok (pm l R 0) W
def Wu:Value->Bool
 |.agg _=>J|_=>E
structure eZ(P:Program)(t:TypeId)(ti:TI):Prop where
 M4:∃i,P.info? t=U i/\i.size=Y ti.am/\∃z,i.zero=U z/\z.cells.toList=ti.am.map rZ
 desc:ti.d.Ok P t ti.am
 bytes:∀i,P.info? t=U i->i.bytes<=131072
 eq:ti.eq=J->∀(xs ys:fz)(r:Bool)(x y:Operand)(w:World),lQ ti.am xs->lQ ti.am ys->kL xs ys=U r->
  (do eqGuard .eql t x y (.agg xs.toArray) (.agg ys.toArray);binOp .eql t (.agg xs.toArray) (.agg ys.toArray)).run P w=.ok (.bool r) w/\
  (do eqGuard .neq t x y (.agg xs.toArray) (.agg ys.toArray);binOp .neq t (.agg xs.toArray) (.agg ys.toArray)).run P w=.ok (.bool !r) w
 key:∀k e n ag,ti.d=.map k e n ag->vQ P k n ag
 alP:∀i z,P.info? t=U i->i.zero=U z->Wu z=ti.d.isAgg
def jx(P:Program)(o:Ty):Prop:=∀t X,o t=U X->eZ P t X
def eD(gl:oa)(O:aj):Prop:=∀x∈gl,x.2.1<Y O.r/\∃X R,(O.rv x.2.1).val=.slice (U ⟨x.1,0,Z⟩) X R
section
variable{P:Program}{o:Ty}{gl:oa}{W:World}
def eZ.gY{d:TypeDesc}(h:P.underlying X=U d):(underlying X).run P W=.ok d W:=by simp[underlying,h]
theorem eZ.nP(h:eZ P X t):(Go.sizeOf X).run P W=.ok (Y t.am) W:=by
 obtain⟨i,R,Q,_⟩:=h.M4;simp[Go.sizeOf,typeInfo,R,Q]
def eZ.alQ(h:eZ P X t):(isAgg X).run P W=.ok t.d.isAgg W:=by
 have Q:=h.desc;revert Q;cases t.d<;>simp only[TD.Ok,TD.isAgg];rintro⟨d,R,⟨N,-⟩,-,-⟩;cases d<;>simp[isAgg,underlying,R]<;>simp at N;rintro⟨m,R⟩;simp[isAgg,underlying,R];intro R;simp[isAgg,underlying,R];intro R;simp[isAgg,underlying,R];intro R;simp[isAgg,underlying,R];rintro⟨F,R,-⟩;simp[isAgg,underlying,R];intro R;simp[isAgg,underlying,R]
theorem xE(b X n:Nat):(⟨b,X,Z⟩:Addr).add n=⟨b,X+n,Z⟩:=by
 unfold Addr.add;split
 grind
 rfl
def adq(h:eZ P X t)(Q:zh t v R=U N):
  (part X (C.az k x v).toArray R).run P W=.ok (N.ai k x) W:=by
 unfold zh at Q;simp only[part,dD,h.alQ,dC]
 grind [C.ai,zg,dD,h.nP,dC,fy,oI,List.map_take,List.map_drop,Array.toList_extract,List.extract_eq_take_drop,iZ,uB]
def Wv(h:eZ P X t){O:aj}{V:ar}{b base:Nat}(Q:zh t v R=U N)
  (H:∀j x,v[j]?=U x->W.cell? ⟨b,base+j,Z⟩=U (x.ai O V)):
  (Instr.loadAt X (.pointer (U ⟨b,base+R,Z⟩))).run P W=.ok (N.ai O V) W:=by
 unfold zh at Q;simp only[Instr.loadAt,Instr.sureAddr,loadVar,dD,fy,dC,h.alQ];by_cases G:t.d.isAgg=J;simp only[G,dP] at Q⊢;split at Q;rename_i A;cases Q;simp only[dD,h.nP,dC,C.ai];have F:(C.az O V (zg v R (Y t.am))).length=Y t.am:=by simp[zg];omega
 have:=run_loadCells_list (P:=P) W ⟨b,base+R,Z⟩ (C.az O V (zg v R (Y t.am))) (λj N M=>by
  rw[uB] at M;cases L:(zg v R (Y t.am))[j]? with
  |none=>rw[L] at M;cases M
  |some x=>
   rw[L] at M;simp at M;simp only[zg,pJ,xj] at L;split at L;rw[xE,<-M,Q8];exact H _ _ L;cases L)
 rw[F] at this;rw[this];simp;cases Q;have B:t.d.isAgg=false:=by simpa using G
 simp only[B,iZ,jE] at Q⊢;have:=H R N Q;simp[this]
end
section
variable{p:ar}{q:World}{D:bU}{P:Program}{o:Ty}{gl:oa}{V:ar}{O:aj}{s:S}{a:Act}{W:World}
theorem awU(v:Value):(Rc v).ai O V=v:=by unfold Rc;split<;>simp[C.ai,K.ai,BE.ai,RE.ai,RE.rv]
def awV(v:Value):(Re v).ai O V=v:=by
 unfold Re;split;simp[C.ai,K.ai];simp[C.ai,BE.ai];rename_i X;simp only[C.ai,oI,oX];congr 1
 grind [awU]
 simp[C.ai,RE.ai,RE.rv]
def de(R:aA p q D o V O s a W)(N:eD gl O)(x:Operand)(h:(s.ev gl x).fg=E):a.eval x=(s.ev gl x).ai O V:=by
 cases x with
 |tmp t=>
  simp only[S.ev,zf,di] at h⊢;cases X:s.tmps[t]? with
  |none=>rw[X] at h;simp[C.fg] at h
  |some M=>
   rw[X] at h;simp at h⊢;rcases R.tmps t M X with rfl|Q;simp[C.fg] at h;simp[Act.eval,Q]
 |const v=>simp only[S.ev,Act.eval,awV]
 |global g=>
  simp only[S.ev] at h⊢;split at h;rename_i k w L;obtain⟨Q,H,G,F⟩:=N _ (Vu L)
  grind [C.ai,RE.ai,RE.rv,Act.eval,pf,K.ai]
  simp[C.fg] at h
 |func f=>simp[S.ev,Act.eval,C.ai,C.az]
def M5(X:BinOp)(k:IntKind)(x y:K):(GQ X k x y).ai O=be X k (x.ai O) (y.ai O):=by unfold GQ;split<;>simp[K.ai]
theorem EX(X:BinOp)(x y:K):(qZ X x y).ai O=fp X (x.ai O) (y.ai O):=by unfold qZ;split<;>simp[K.ai,BE.ai]
def RU(x:BE):(GR x).ai O= !(x.ai O):=by unfold GR;split<;>simp[BE.ai]
def adr(x y:BE):(xp x y).ai O=(x.ai O&&y.ai O):=by unfold xp;split<;>simp[BE.ai]
def ads(x y:BE):(Rf x y).ai O=(x.ai O==y.ai O):=by unfold Rf;split<;>simp[BE.ai,RU]<;>cases BE.ai O _<;>simp
theorem awW(m:Bool)(x y:K):(VR m x y).ai O=if m then max (x.ai O) (y.ai O) else min (x.ai O) (y.ai O):=by unfold VR;split<;>simp[K.ai]
def M6(i n:K):(xq i n).ai O=J<->0<=i.ai O/\i.ai O<n.ai O:=by
 rw[xq,adr,EX,EX,aC];exact and_congr decide_eq_true_iff decide_eq_true_iff
def adt(X:Bool)(k:IntKind):∀(l:aq)(e r:K),JK X k e l=U r->
  ((C.az O V l).foldlM (if X then Builtin.max2 else Builtin.min2) (.int k (e.ai O)):Sem Value).run P W=.ok (.int k (r.ai O)) W
 |[],e,r,h=>by simp[JK] at h;subst h;simp[C.az]
 |.int R x::l,e,r,h=>by
  simp only[JK] at h;split at h;have Q:=adt X k l (VR X e x) r h
  grind [awW,C.az,C.ai,dD,iZ,Builtin.min2,fy,dC,Builtin.max2]
  cases h
 |.bool _::_,_,_,h|.ak _::_,_,_,h|.loc _ _::_,_,_,h|.el _ _ _ _::_,_,_,h|.iP _ _ _ _::_,_,_,h|.agg _::_,_,_,h|.bI _::_,_,_,h|.fn _ _::_,_,_,h|.gI _ _::_,_,_,h|.any::_,_,_,h=>by simp[JK] at h
end
section
variable{V:ar}{O:aj}
theorem Ww{R Q:Type}{x:Int}{f:R->Q}:∀{W:bA}{X:List R},eW x W (X.map f)=(eW x W X).map f
 |[],X=>by simp[eW]|_::_,[]=>by simp[eW]
 |k::W,v::X=>by
  simp only[dH,eW];split;rfl;exact Ww
def M7{W:Type}{x:Int}:∀{R:bA}{X:List W}{v:W},eW x R X=U v->v∈X
 |[],X,v,h=>by simp[eW] at h|_::_,[],v,h=>by simp[eW] at h
 |k::R,u::X,v,h=>by
  simp only[eW] at h;split at h
  grind
  exact AI _ (M7 h)
def adu{e:K}:∀{X:bA}{W:aq}{y:K},Cq e X W=U y->∃w,y.ai O=w/\(∀v,eW (e.ai O) X W=U v->∃k z,v=.int k z/\w=z.ai O)/\(eW (e.ai O) X W=Z->w=0)
 |[],[],y,h=>by simp[Cq] at h;subst h;exact⟨0,rfl,λv h=>by simp[eW] at h,λ_=>rfl⟩
 |k::X,v::W,y,h=>by
  cases v<;>simp only[Cq] at h<;>try cases h
  cases R:Cq e X W with
  |none=>rw[R] at h;cases h
  |some Q=>
   rw[R] at h;simp at h;subst h;obtain⟨w,P,N,M⟩:=adu R;simp only[K.ai,BE.ai,fp,eW]
   grind
 |[],_::_,y,h=>by simp[Cq] at h|_::_,[],y,h=>by simp[Cq] at h
def alR{e:K}:∀{X:bA}{W:aq}{y:BE},Ez e X W=U y->∃w,y.ai O=w/\(∀v,eW (e.ai O) X W=U v->∃z,v=.bool z/\w=z.ai O)/\(eW (e.ai O) X W=Z->w=E)
 |[],[],y,h=>by simp[Ez] at h;subst h;exact⟨E,rfl,λv h=>by simp[eW] at h,λ_=>rfl⟩
 |k::X,v::W,y,h=>by
  cases v<;>simp only[Ez] at h<;>try cases h
  cases R:Ez e X W with
  |none=>rw[R] at h;cases h
  |some Q=>
   rw[R] at h;simp at h;subst h;obtain⟨w,P,N,M⟩:=alR R;simp only[BE.ai,K.ai,fp,eW]
   grind
 |[],_::_,y,h=>by simp[Ez] at h|_::_,[],y,h=>by simp[Ez] at h
def alS{x:Int}:∀{ks:bA}{X:aq},X.all Mz=J->(∀v,eW x ks X=U v->lw x ks (C.az O V X)=v.ai O V)/\(eW x ks X=Z->lw x ks (C.az O V X)=.nilFunc)
 |[],X,_=>⟨λv h=>by simp[eW] at h,λ_=>by simp[lw]⟩|_::_,[],_=>⟨λv h=>by simp[eW] at h,λ_=>by simp[lw,C.az]⟩
 |k::ks,u::X,W=>by
  simp only[VL,aC] at W;obtain⟨P,N⟩:=alS (ks:=ks) W.2;simp only[eW,C.az,lw];by_cases R:x=k;simp only[R];refine⟨λv Q=> ?_,λQ=>by cases Q⟩;have M:jr (u.ai O V)=true:=by
   have:=W.1;unfold Mz at this;split at this;exact Wr _ _;rfl
   grind
  grind
  simp only[R];exact⟨P,N⟩
def awX{e:K}{R:bA}{H:CT}(h:acC e R v H=U N):(∀X,eW (e.ai O) R v=U X->N.ai O V=X.ai O V)/\(eW (e.ai O) R v=Z->N.ai O V=rZ H):=by
 unfold acC at h;split at h;rename_i k;split at h;rename_i Q;cases W:Cq e R v with
 |none=>rw[W] at h;cases h
 |some y=>
  rw[W] at h;simp at h;subst h;obtain⟨x,M,L,G⟩:=adu (O:=O) W;refine⟨λX P=> ?_,λP=>by simp only[C.ai,M,G P,rZ]⟩;obtain⟨F,z,rfl,rfl⟩:=L X P;have:=gC.1 Q _ (M7 P)
  grind [C.ai]
 cases h;cases W:Ez e R v with
 |none=>rw[W] at h;cases h
 |some y=>
  rw[W] at h;simp at h;subst h;obtain⟨x,M,L,G⟩:=alR (O:=O) W
  grind [C.ai,rZ]
 split at h;rename_i Q;simp only[aC] at Q;cases h;obtain⟨M,L⟩:=alS (O:=O) (V:=V) (x:=e.ai O) (ks:=R) Q.1
 grind [C.ai,rZ]
 cases h;cases h
def Wy{e:K}{W:bA}{R:yZ}:∀{am:eN}{j:Nat}{l:aq},EB e W R j am=U l->
  Y l=Y am/\(∀X,eW (e.ai O) W R=U X->Y X=j+Y am->C.az O V l=C.az O V (X.drop j))/\(eW (e.ai O) W R=Z->C.az O V l=am.map rZ)
 |[],j,l,h=>by
  simp[EB] at h;subst h;exact⟨rfl,λX _ Q=>by rw[avV (by simp at Q;omega)],λ_=>rfl⟩
 |c::am,j,l,h=>by
  simp only[EB] at h;split at h;rename_i v r P N;cases h;obtain⟨M,L,H⟩:=Wy N;obtain⟨G,F⟩:=awX (O:=O) (V:=V) P
  grind [Ww,Cg,C.az]
  cases h
def Wz{e:K}:∀{X:bA}{W:Type}{R:List W},Y X=Y R->(JN e X).ai O=(eW (e.ai O) X R).isSome
 |[],W,R,h=>by simp[JN,BE.ai,eW]|k::X,W,[],h=>by simp at h
 |k::X,W,v::R,h=>by
  simp only[JN,BE.ai,K.ai,fp,eW];by_cases Q:e.ai O=k;simp[Q];simp only[Q,gc];exact Wz (by simpa using h)
def WA(W:∀r:RE,r.JI=J->jr (r.ai O)=J)(h:Cr t N=J):N.ai O V=if t.d.isAgg then .agg (C.az O V N.cells).toArray else(C.az O V N.cells).headD undef:=by
 simp only[Cr,aC] at h;obtain⟨⟨-,R⟩,X⟩:=h;cases N<;>simp at X<;>rw[X]<;>rfl
def EY(h:r=E->Y v=1):(uq r v).ai O V=if r then .agg (C.az O V v).toArray else(C.az O V v).headD undef:=by
 cases r;obtain⟨x,rfl⟩:=pI.1 (h rfl);rfl;rfl
def WB{x:Int}:∀{W:bA}{X:aq}{v:C},eW x W X=U v->jr (v.ai O V)=J->lw x W (C.az O V X)=v.ai O V
 |[],X,v,h,_=>by simp[eW] at h|_::_,[],v,h,_=>by simp[eW] at h
 |k::W,u::X,v,h,R=>by
  simp only[eW] at h;simp only[C.az,lw];split at h
  grind
  rename_i Q;rw[aJ Q];exact WB h R
def awY(h:Cr t N=J):(t.d.isAgg=E->Y t.am=1)/\Y N.cells=Y t.am:=by
 simp only[Cr,aC,gc] at h
 grind [C.cells]
def alT(M:∀r:RE,r.JI=J->jr (r.ai O)=J){e:K}{X:bA}{p:C}(h:VU t e X v=U N)(R:eW (e.ai O) X v=U p):N.ai O V=p.ai O V:=by
 unfold VU at h;split at h;rename_i L;cases W:EB e X (v.map C.cells) 0 t.am with
 |none=>rw[W] at h;cases h
 |some l=>
  rw[W] at h;cases h;obtain⟨H,G,-⟩:=Wy (O:=O) (V:=V) W;have F:=M7 R;have Q:=gC.1 L p F;obtain⟨D,B⟩:=awY Q;have P:=G p.cells (by rw[Ww,R];rfl) (by rw[B,jp]);rw[List.drop_zero] at P;rw[EY (λA=>by rw[H];exact D A),WA M Q,P]
 cases h
def alU{X:Type}{x:Int}{f:Nat->X}(P:0<=x)(N:x<(R:Int)):eW x (EC R) ((dj R).map f)=U (f x.toNat):=by
 unfold EC;have M:∀(m k:Nat),(k:Int)<=x->x<((k+m:Nat):Int)->eW x ((yY k m).map λi:Nat=>(i:Int)) ((yY k m).map f)=U (f x.toNat):=by
  intro m;induction m with
  |zero=>intro k W Q;omega
  |succ m L=>
   intro k W Q;simp only[acq,dH,eW];split;simp_all
   grind
 rw[Vz]
 grind
def adv{R N:Type}{f:R->Option N}{x:Int}:∀{Q:bA}{vs:List R}{W:List N}{v:R},GS (vs.map f)=U W->eW x Q vs=U v->∃p,f v=U p/\eW x Q W=U p
 |[],vs,W,v,_,h=>by simp[eW] at h|_::_,[],W,v,_,h=>by simp[eW] at h
 |k::Q,u::vs,W,v,X,h=>by
  simp at X;cases M:f u with
  |none=>rw[M] at X;cases X
  |some p=>
   rw[M] at X;simp only[GS] at X;cases P:GS (vs.map f) with
   |none=>rw[P] at X;cases X
   |some H=>
    rw[P] at X;simp at X;subst X;simp only[eW] at h⊢;split at h
    grind
    rename_i L;rw[aJ L];exact adv P h
def alV(h:AO v=U R)(W:N∈v):∃X,N=.loc R X:=by
 unfold AO at h
 grind
end
variable{l:Ty}{y:RK}{L:RV}
def PR.gives(O:aj)(v:C):PR->Prop
 |.ok x=>v=x|.aS b x=>b.ai O=J/\v=x|_=>False
theorem alW(h:bG Q l y L):cJ y L=L:=by
 cases h with|sl e A M H X=>rfl|str s=>rfl|bz L R=>simp[cJ,R]|own e N h G=>cases h;rfl|aT N h=>simp[cJ,h]|mr F X=>rfl
def alX(k:RK):bG Q l k (cJ k default):=by
 cases k with
 |sl e=>
  refine bG.sl e Z 0 0 [] rfl (cd _) ?_ ?_ ?_ ?_<;>(intro i;intros;rename_i h;simp at*)
 |str=>exact bG.str _|bz=>exact bG.bz _ rfl
 |own e=>
  refine bG.own e _ (bG.sl e Z 0 0 [] rfl (cd _) ?_ ?_ ?_ ?_) (λX c h=>by cases h;rfl)<;>(intro i;intros;rename_i h;simp at*)
 |aT=>exact bG.aT _ rfl
 |mr R=>
  refine bG.mr R [] ?_ ?_ ?_ ?_<;>(intro i;intros;rename_i h;simp at*)
def awZ(k:RK)(v:RV):jr (cJ k v).val=true:=by
 cases k;simp only[cJ];split;rename_i h;rw[h];rfl;rfl;simp only[cJ];split<;>rfl;simp only[cJ];split;simp_all;rfl;simp only[cJ];split;rename_i h;rw[h];rfl;rfl;simp only[cJ];split;omega;rfl;simp only[cJ];split;rename_i h;rw[h];rfl;rfl
def M8(h:bG Q l y L):jr L.val=true:=by
 cases h with|sl e A M H X=>rfl|str s=>rfl|bz L R=>exact R|own e N h G=>cases h;rfl|aT N h=>exact h|mr F X=>rfl
def alY(h:bG Q l y L):bG Q l y.rd L:=by
 cases h with|own e u h t=>exact h|sl e A G F X R N M H B z=>exact bG.sl e A G F X R N M H B z|str s=>exact bG.str s|bz L x=>exact bG.bz L x|aT _ h=>exact bG.aT _ h|mr w X R N M H=>exact bG.mr w X R N M H
def aw0(h:bG Q l (.sl X) L)(i:Int)(j:Nat)(k:RK)(R:JL (bJ l (.sl X))[j]?=k):bG Q l k (cJ k (aQ L.ah i j)):=by
 cases h with
 |sl X A t r y q p o x w m=>
  simp only[RV.mX,aQ];cases N:y[i.toNat]? with
  |none=>simp only[di,N,awf,List.getElem?_nil];exact alX k
  |some H=>
   simp only[di,N,yV];cases F:H[j]? with
   |none=>simp;exact alX k
   |some c=>
    simp;have g:j<(bJ l (.sl X)).length:=by
     grind
    cases M:(bJ l (.sl X))[j]? with
    |none=>rw[Em] at M;omega
    |some u=>
     rw[M] at R;cases u with
     |int B=>
      simp only[JL] at R;subst R;obtain⟨n,G⟩:=x _ _ H c B N F M;simp only[cJ,G,jr,dP];exact bG.bz _ rfl
     |bool=>
      simp only[JL] at R;subst R;obtain⟨n,G⟩:=w _ _ H c N F M;simp only[cJ,G,jr,dP];exact bG.bz _ rfl
     |bz z B=>
      grind [JL,alW]
section
variable{g:ar}{m:World}{D:bU}{P:Program}{ty:Ty}{B:oa}{V:ar}{O:aj}{s:S}{a:Act}{W:World}
def adw(X:aA g m D ty V O s a W)(h:s.rs[R]?=U y):bG W ty y (O.rv R):=by
 have Q:R<Y O.r:=by rw[X.er];exact(du.1 h).1
 have:=(X.mem.ak R y O.r[R] h (dv Q)).1
 grind [aj.rv]
def ri(R:aA g m D ty V O s a W):∀{r:RE}{e:RK},e≠ .bz->r.kind ty s=e->bG W ty e (r.rv O)
 |.v k,e,X,h=>by
  simp only[RE.kind,di] at h;cases Q:s.rs[k]? with|none=>rw[Q] at h;exact bB (show e=.bz from h.symm) X|some q=>rw[Q] at h;simp at h;subst h;exact alY (adw R Q)
 |.cell r i j L,e,X,h=>by
  simp only[RE.kind] at h;split at h;rename_i H N;split at h;rename_i M;subst h;exact aw0 (ri R aw N) (i.ai O) j _ M
  grind
  grind
 |.k v,e,X,h=>by
  cases v<;>simp only[RE.kind] at h
  case string s=>subst h;exact bG.str s
  all_goals exact bB h.symm X
def RW(R:aA g m D ty V O s a W){r:RE}(h:r.kind ty s=.sl X):∃x l c,r.ai O=.slice x l c:=by
 have:=ri R aw h;unfold RE.ai;revert this;generalize r.rv O=v;intro Q;cases Q with|sl X A N M L=>exact⟨A,N,M,rfl⟩
def G9(R:aA g m D ty V O s a W){r:RE}(h:r.kind ty s=.str):∃x,r.ai O=.string x:=by
 have:=ri R aw h;unfold RE.ai;revert this;generalize r.rv O=v;intro X;cases X with|str s=>exact⟨s,rfl⟩
def aw1(R:aA g m D ty V O s a W){c:CT}{y:C}{e:BE}(h:Mx ty s c N y=U e):EW c (N.ai O V)/\EW c (y.ai O V)/\EV (N.ai O V) (y.ai O V)=U (e.ai O):=by
 unfold Mx at h;split at h;split at h;rename_i X;obtain⟨rfl,rfl⟩:=X;cases h;exact⟨rfl,rfl,by simp[C.ai,EV,EX,fp]⟩;cases h;cases h;exact⟨trivial,trivial,by simp[C.ai,EV,ads]⟩;split at h;rename_i X;cases h;obtain⟨p,Q⟩:=G9 R X.1;obtain⟨q,M⟩:=G9 R X.2;simp only[C.ai,Q,M];unfold RE.ai at Q M;exact⟨trivial,trivial,by simp[EV,BE.ai,Q,M,xA]⟩;cases h;cases h
def alZ(R:aA g m D ty V O s a W):∀{X:eN}{x y:aq}{e:BE},sU ty s X x y=U e->lQ X (C.az O V x)/\lQ X (C.az O V y)/\kL (C.az O V x) (C.az O V y)=U (e.ai O)
 |[],[],[],e,h=>by simp[sU] at h;subst h;exact⟨trivial,trivial,by simp[C.az,kL,BE.ai]⟩
 |c::X,x::B,y::A,e,h=>by
  simp only[sU] at h;split at h;rename_i a b Q N;cases h;obtain⟨M,a2,L⟩:=aw1 R Q;obtain⟨H,G,F⟩:=alZ R N;exact⟨⟨M,H⟩,⟨a2,G⟩,by simp only[C.az,kL,L,F,adr]⟩;cases h
 |[],[],_::_,e,h=>by simp[sU] at h|[],_::_,_,e,h=>by simp[sU] at h|_::_,[],_,e,h=>by simp[sU] at h|_::_,_::_,[],e,h=>by simp[sU] at h
def al0(R:aA g m D ty V O s a W){X:vy}{y:aq}{e:BE}(h:My ty s X v y=U e):∃am d,X=U ⟨d,am,J⟩/\lQ am (C.az O V v)/\lQ am (C.az O V y)/\kL (C.az O V v) (C.az O V y)=U (e.ai O):=by
 unfold My at h;split at h;exact⟨_,_,rfl,alZ R h⟩;cases h
def al1(B:bG W ty (.sl X) L)(i:Int)(h:0<=i)(y:i<lenOf L.val):
  ∃Q b N,L.ah[i.toNat]?=U Q/\Y Q=(bJ ty (.sl X)).length/\(∃l c,L.val=.slice (U ⟨b,N,Z⟩) l c)/\(∀(j:Nat)(c:RV),Q[j]?=U c->W.cell? ⟨b,N+i.toNat*(bJ ty (.sl X)).length+j,Z⟩=U c.val)/\
   (∀(j:Nat)(c:RV)(M:CT),Q[j]?=U c->(bJ ty (.sl X))[j]?=U M->match M with
    |.int k=>∃n,c.val=.int k n|.bool=>∃x,c.val=.bool x
    |.bz _ k=>bG W ty k c):=by
 cases B with
 |sl X A w v H g f u t r q=>
  simp only[RV.pe,lenOf] at y;have p:i.toNat<Y H:=ae;have R:H[i.toNat]?=U H[i.toNat]:=dv p;obtain⟨o,b,N,rfl,d,m⟩:=u i.toNat _ R;refine⟨H[i.toNat],b,N,R,o,⟨w,v,rfl⟩,m,λj c M G F=> ?_⟩;cases M with|int k=>exact t _ j _ c k R G F|bool=>exact r _ j _ c R G F|bz z k=>exact q _ j _ c z k R G F
def aw2{r:RE}{i:K}{M:aE}{j:Nat}{X:CT}(H:(r.rv O).ah[(i.ai O).toNat]?=U M)(G:M[j]?=U L)(R:match X with|.int k=>∃n,L.val=.int k n|.bool=>∃y,L.val=.bool y|.bz _ k=>bG W ty k L):
  (GO r i j X).ai O V=L.val:=by
 have Q:aQ (r.rv O).ah (i.ai O) j=L:=by simp[aQ,H,G]
 cases X with
 |int F=>obtain⟨n,N⟩:=R;simp[GO,C.ai,K.ai,Q,bn,N]
 |bool=>obtain⟨n,N⟩:=R;simp[GO,C.ai,BE.ai,Q,jw,N]
 |bz z e=>simp only[GO,C.ai,RE.ai,RE.rv,Q];rw[alW R]
def xF(R:aA g m D ty V O s a W):∀(r:RE),r.JI=J->jr (r.ai O)=J
 |.v k,_=>by
  simp only[RE.ai,RE.rv];by_cases X:k<Y s.rs;exact M8 (adw R (dv X));have:O.rv k=default:=by
   have:=R.er
   grind [aj.rv]
  rw[this];rfl
 |.cell r i j k,_=>awZ k _|.k w,h=>h
def aw3(R:aA g m D ty V O s a W)(d:jx P ty)(hg:eD B O)(G:F.op=.load X n)(hk:(s.ev B n).fg=E)
  (h:(cw ty B s (.load X n)).gives O N):(execOp a.eval F).run P W=.ok (.value (N.ai O V)) W:=by
 have he:=de R hg n hk;simp only[execOp,G,dD,he];simp only[cw] at h;split at h;rename_i ti i A p k;rw[k];split at h;rename_i tt f Q;split at h;rename_i w M;cases h;have:=Wv (P:=P) (W:=W) (d _ _ p) (O:=O) (V:=V) (b:=ad V i) (base:=0) M (λj y hy=>by
  obtain⟨Q,G⟩:=AZ Q;have:=R.mem.box i tt f Q;rw[qC G] at this;simp[oF,this,uB,hy])
 simp only[jp] at this;simp only[C.ai,this,dC,fy];exact h.elim;exact h.elim;rename_i ti r w i A p k;rw[k];split at h;rename_i e a3;split at h;exact h.elim;rename_i hw;split at h;rename_i y M;obtain⟨Q,rfl⟩:=h;rw[M6] at Q;simp only[K.ai] at Q;have hh:=ri R aw a3;have a4:w=(bJ ty (.sl e)).length:=by simpa using Eq.symm (by simpa using hw:(bJ ty (.sl e)).length=w)
 obtain⟨aa,b,ag,h1,bf,⟨l,c,h3⟩,h4,h5⟩:=al1 hh (i.ai O) Q.1 Q.2;have:=Wv (P:=P) (W:=W) (d _ _ p) (O:=O) (V:=V) (b:=b) (base:=ag+(i.ai O).toNat*w) M (λj z H=>by
  simp only[ep] at H;cases hj:(dj w)[j]? with
  |none=>rw[hj] at H;cases H
  |some L=>
   have a9:j<w/\L=j:=by
    have:=du.1 hj;obtain⟨q1,q2⟩:=this;simp at q1 q2;exact⟨q1,q2.symm⟩
   obtain⟨bg,rfl⟩:=a9;rw[hj] at H;simp only[ga,dX] at H;have ba:(bJ ty (.sl e))[L]?=U ((bJ ty (.sl e)).getD L .bool):=by
    rw[di,dv ae];rfl
   have bb:L<Y aa:=ae;have ab:aa[L]?=U aa[L]:=dv bb;rw[<-H,aw2 (W:=W) (ty:=ty) h1 ab (h5 L _ _ ab ba)];rw[a4];exact h4 L _ ab)
 have hA:pf (RE.ai O r) ((i.ai O).toNat*w+A)=⟨b,ag+(i.ai O).toNat*w+A,Z⟩:=by
  simp only[RE.ai,h3,pf,Q8]
 simp only[C.ai,hA,this,dC,fy];exact h.elim;exact h.elim;rename_i ti e ks vs p k;rw[k];split at h;rename_i tt f Q;split at h;rename_i w M;split at h;rename_i al;obtain⟨an,rfl⟩:=h;simp only[gc] at al;cases ac:AO vs with
 |none=>rw[ac] at Q;cases Q
 |some i=>
  rw[ac] at Q;simp only[ak6] at Q;rw[Wz al] at an;obtain⟨u,hu⟩:=jC.1 an;obtain⟨A,rfl⟩:=alV ac (M7 hu);cases af:GS (vs.map (acG ti f)) with
  |none=>rw[af] at M;cases M
  |some ps=>
   rw[af] at M;simp only[ak6] at M;obtain⟨q,a0,bc⟩:=adv af hu;simp only[acG] at a0;have a1:=Wv (P:=P) (W:=W) (d _ _ p) (O:=O) (V:=V) (b:=ad V i) (base:=0) a0 (λj y hy=>by
    obtain⟨Q,G⟩:=AZ Q;have:=R.mem.box i tt f Q;rw[qC G] at this;simp[oF,this,uB,hy])
   simp only[jp] at a1;have bd:(C.gq e ks vs).ai O V=.pointer (U ⟨ad V i,A,Z⟩):=by
    simp only[C.ai];rw[WB hu rfl];rfl
   rw[bd,alT (xF R) M bc];simp only[a1,dC,fy]
 exact h.elim;exact h.elim;exact h.elim;exact h.elim
def aw4(Q:aA g m D ty V O s a W)(aa:jx P ty)(hg:eD B O)(ho:F.op=.fieldAddr X n R)(hk:(s.ev B n).fg=E)
  (h:(cw ty B s (.fieldAddr X n R)).gives O N):(execOp a.eval F).run P W=.ok (.value (N.ai O V)) W:=by
 have he:=de Q hg n hk;have ab:∀(G:List (Nat×TypeId))(am:eN)(q:Bool)(y:Nat)(p:TypeId)(H:TI)(A:Addr),ty X=U ⟨.struct G,am,q⟩->G[R]?=U (y,p)->ty p=U H->(Y H.am==0)=E->A.spot=Z->
   (Instr.fieldAt X (.pointer (U A)) R).run P W=.ok (.pointer (U ⟨A.block,A.off+y,Z⟩)) W:=by
  intro G am q y p H A h1 u h3 h4 h5;obtain⟨M,hF,ac⟩:=(aa _ _ h1).desc;rw[<-ac,ep] at u;cases z:M.toList[R]? with
  |none=>rw[z] at u;cases u
  |some fd=>
   rw[z] at u;simp at u;obtain⟨rfl,rfl⟩:=u;have af:M[R]?=U fd:=by simpa using z
   have ag:¬Y H.am=0:=by simpa using h4
   obtain⟨b,of,sp⟩:=A;simp only at h5;subst h5;simp only[Instr.fieldAt,Instr.sureAddr,fieldPlace,dD,eZ.gY hF,dC,af,fy,(aa _ _ h3).nP,aJ ag,xE]
 simp only[execOp,ho,dD,he];simp only[cw] at h;split at h;rename_i G am q i y l k;rw[k];split at h;rename_i j e z;split at h;rename_i H d;split at h;exact h.elim;rename_i c;cases h;simp only[C.ai,ab G am q j e H ⟨ad V i,y,Z⟩ l z d (by simpa using c) rfl,dC,fy];exact h.elim;exact h.elim;rename_i G am q r w i y l k;rw[k];split at h;rename_i j e z;split at h;rename_i H d;split at h;exact h.elim;rename_i c;cases h;have al:∀N L,(pf N L).spot=none:=by intro N L;unfold pf;split<;>rfl
 simp only[C.ai,ab G am q j e H _ l z d (by simpa using c) (al _ _),dC,fy];congr 4;unfold pf;split
 grind
 grind
 exact h.elim;exact h.elim;exact h.elim
end
section
variable{G:ar}{H:World}{D:bU}{P:Program}{u:Ty}{B:oa}{V:ar}{O:aj}{s:S}{a:Act}{W:World}
def aw5(Q:aA G H D u V O s a W)(z:jx P u)(w:eD B O)(r:F.op=.field X n R)(p:(s.ev B n).fg=E)
  (h:(cw u B s (.field X n R)).gives O N):(execOp a.eval F).run P W=.ok (.value (N.ai O V)) W:=by
 have m:=de Q w n p;simp only[execOp,r,dD,m];simp only[cw] at h;split at h;rename_i fs am q l k j;rw[j];split at h;rename_i o' t' L;split at h;rename_i ti i;split at h;rename_i y g;cases h;obtain⟨M,e,d⟩:=(z _ _ k).desc;rw[<-d,ep] at L;cases A:M.toList[R]? with
 |none=>rw[A] at L;cases L
 |some c=>
  rw[A] at L;simp at L;obtain⟨rfl,rfl⟩:=L;have b:M[R]?=U c:=by simpa using A
  simp only[C.ai,Instr.field,dD,eZ.gY e,dC,b,asAgg,fy,adq (z _ _ i) g]
 exact h.elim;exact h.elim;exact h.elim;exact h.elim
def aw6(R:aA G H D u V O s a W)(ab:jx P u)(hg:eD B O){y:Operand}(ho:F.op=.indexAddr X n y)(hk:(s.ev B n).fg=E)(al:(s.ev B y).fg=E)
  (h:(cw u B s (.indexAddr X n y)).gives O N):(execOp a.eval F).run P W=.ok (.value (N.ai O V)) W:=by
 have he:=de R hg n hk;have an:=de R hg y al;have ac:∀(Q:Nat)(e:TypeId)(am:eN)(q:Bool)(L:TI)(A:Addr)(k:IntKind)(m:Int),u X=U ⟨.arr Q e,am,q⟩->u e=U L->0<=m->m<Q->A.spot=Z->
   (Instr.indexAt X (.pointer (U A)) (.int k m)).run P W=.ok (.pointer (U ⟨A.block,A.off+m.toNat*Y L.am,Z⟩)) W:=by
  intro Q e am q L A k m h1 h2 h3 h4 h5;have hd:P.underlying X=U (.array Q e):=(ab _ _ h1).desc;obtain⟨b,of,sp⟩:=A;simp only at h5;subst h5;simp only[Instr.indexAt,asIntOf,dD,fy,dC,eZ.gY hd,Instr.sureAddr,h3,h4,and_self,dP,(ab _ _ h2).nP,xE]
 simp only[execOp,ho,dD,he,an];simp only[cw] at h;split at h;rename_i Q e am q i aa k m g d hy;rw[d,hy];split at h;rename_i L f;split at h;rename_i z;cases h;simp only[aC,dq] at z;simp only[C.ai,K.ai,ac Q e am q L ⟨ad V i,aa,Z⟩ k m g f z.1 z.2 rfl,dC,fy];exact h.elim;exact h.elim;rename_i Q e am q r w i aa k m g d hy;rw[d,hy];have af:∀N Q,(pf N Q).spot=none:=by intro N Q;unfold pf;split<;>rfl
 have ag:∀(N:Value)(p q:Nat),(⟨(pf N p).block,(pf N p).off+q,Z⟩:Addr)=pf N (p+q):=by intro N p q;unfold pf;split<;>simp[Q8]
 split at h;rename_i L f;split at h;rename_i hc;obtain⟨M,rfl⟩:=h;rw[M6] at M;simp only[aC,gc] at hc;obtain⟨⟨⟨h1,h2⟩,h3⟩,-⟩:=hc;subst h1 h2 h3;simp only[K.ai] at M;simp only[C.ai,ac Q e am q L _ k (m.ai O) g f M.1 M.2 (af _ _),dC,fy,ag];simp[K.ai];split at h;rename_i m;split at h;rename_i z;cases h;simp only[aC,dq] at z;simp only[C.ai,K.ai,ac Q e am q L _ k m g f z.1 z.2 (af _ _),dC,fy,ag,Q8];exact h.elim;exact h.elim;exact h.elim;rename_i Q e am q r w i aa k m a3 g d hy;rw[d,hy];have af:∀N Q,(pf N Q).spot=none:=by intro N Q;unfold pf;split<;>rfl
 have ag:∀(N:Value)(p q:Nat),(⟨(pf N p).block,(pf N p).off+q,Z⟩:Addr)=pf N (p+q):=by intro N p q;unfold pf;split<;>simp[Q8]
 split at h;rename_i L f;split at h;rename_i z;cases h;simp only[aC,dq] at z;simp only[C.ai,K.ai,ac Q e am q L _ k m g f z.1 z.2 (af _ _),dC,fy,ag,Q8];exact h.elim;exact h.elim;rename_i e am q r k m g d hy;rw[d,hy];split at h;rename_i L e' f a0;obtain⟨M,rfl⟩:=h;rw[M6] at M;simp only[K.ai] at M;have hh:=al1 (ri R aw a0) (m.ai O) M.1 M.2;obtain⟨a4,b,aa,-,-,⟨l,c,hv⟩,-⟩:=hh;have hd:P.underlying X=U (.slice e):=(ab _ _ g).desc;rw[hv] at M;simp only[lenOf] at M;simp only[C.ai,RE.ai,hv,Instr.indexAt,asIntOf,dD,fy,dC,eZ.gY hd,M.1,M.2,and_self,dP,(ab _ _ f).nP,xE,pf,yX];exact h.elim;rename_i e am q i aa a9 ba k m g d hy;rw[d,hy];split at h;rename_i L f;split at h;rename_i z;cases h;simp only[aC,dq] at z;have hd:P.underlying X=U (.slice e):=(ab _ _ g).desc;simp only[C.ai,K.ai,Instr.indexAt,asIntOf,dD,fy,dC,eZ.gY hd,z.1,z.2,and_self,dP,(ab _ _ f).nP,xE];exact h.elim;exact h.elim;rename_i Q e am q i aa k m bb g d hy;rw[d,hy];split at h;rename_i L f;obtain⟨M,rfl⟩:=h;rw[M6] at M;simp only[K.ai] at M;have a1:(C.gq m (EC Q) ((dj Q).map λj=>C.loc i (aa+j*Y L.am))).ai O V=.pointer (U ⟨ad V i,aa+(m.ai O).toNat*Y L.am,Z⟩):=by
  simp only[C.ai];rw[WB (alU M.1 M.2) rfl];rfl
 rw[a1];simp only[C.ai,ac Q e am q L ⟨ad V i,aa,Z⟩ k (m.ai O) g f M.1 M.2 rfl,dC,fy];exact h.elim;exact h.elim
def aw7(R:aA G H D u V O s a W)(L:jx P u)(hg:eD B O){y:Operand}(ho:F.op=.index X n y)(hk:(s.ev B n).fg=E)(af:(s.ev B y).fg=E)
  (h:(cw u B s (.index X n y)).gives O N):(execOp a.eval F).run P W=.ok (.value (N.ai O V)) W:=by
 have he:=de R hg n hk;have ag:=de R hg y af;simp only[execOp,ho,dD,he,ag];simp only[cw] at h;split at h;rename_i Q e am q l k m A w i;rw[w,i];split at h;rename_i b g;split at h;rename_i hm;split at h;rename_i z hp;cases h;simp at hm;have d:P.underlying X=U (.array Q e):=(L _ _ A).desc;simp only[C.ai,K.ai,Instr.index,asIntOf,dD,fy,dC,eZ.gY d,hm.1,hm.2,and_self,dP,(L _ _ g).nP,adq (L _ _ g) hp];exact h.elim;exact h.elim;exact h.elim;rename_i Q e am q l k m a1 A w i;rw[w,i];split at h;rename_i b g;split at h;rename_i z c;obtain⟨M,rfl⟩:=h;rw[M6] at M;simp only[K.ai] at M;cases aa:GS ((dj Q).map λj=>zh b l (j*Y b.am)) with
 |none=>rw[aa] at c;cases c
 |some ps=>
  rw[aa] at c;simp at c;obtain⟨p,al,an⟩:=adv (vs:=dj Q) aa (by have:=alU (f:=λj=>j) M.1 M.2;simpa using this);have d:P.underlying X=U (.array Q e):=(L _ _ A).desc;rw[alT (xF R) c an];simp only[C.ai,Instr.index,asIntOf,dD,fy,dC,eZ.gY d,M.1,M.2,and_self,dP,(L _ _ g).nP,adq (L _ _ g) al]
 exact h.elim;exact h.elim;rename_i am q r k m A w i;rw[w,i];split at h;rename_i a0;obtain⟨M,rfl⟩:=h;rw[M6] at M;obtain⟨ab,ac⟩:=G9 R a0;unfold RE.ai at ac;have d:P.underlying X=U .string:=(L _ _ A).desc;simp only[K.ai,ac,lenOf] at M;have a3:(m.ai O).toNat<ab.size:=ae;simp only[C.ai,RE.ai,ac,K.ai,Instr.index,asIntOf,dD,fy,dC,eZ.gY d,M.1,dP,G7];have:ab[(m.ai O).toNat]?=U ab[(m.ai O).toNat]:=aw;rw[this];rfl;exact h.elim;exact h.elim
def aw8(X:BinOp)(R:VQ X=J)(t:TypeId)(k:IntKind)(m n:Int):(binOp X t (.int k m) (.int k n)).run P W=.ok (.bool (fp X m n)) W:=by
 cases X<;>simp[VQ] at R<;>simp[binOp,Op.intCmp,fp]
def aw9(X:BinOp)(R:acz X=J)(t:TypeId)(k:IntKind)(m n:Int):(binOp X t (.int k m) (.int k n)).run P W=.ok (.int k (be X k m n)) W:=by
 cases X<;>simp[acz] at R<;>simp[binOp,Op.intArith,Op.intBits,be]
def al2(X:BinOp)(R:acA X=J)(t:TypeId)(k:IntKind)(m n:Int)(Q:n≠0):(binOp X t (.int k m) (.int k n)).run P W=.ok (.int k (be X k m n)) W:=by
 cases X<;>simp[acA] at R<;>simp[binOp,Op.intDiv,be,Q]
def adx(X:BinOp)(t:TypeId)(x y:Operand)(k:IntKind)(n:Int)(w:Value):(eqGuard X t x y (.int k n) w).run P W=.ok () W:=by cases X<;>rfl
def axa(X:BinOp)(t:TypeId)(x y:Operand)(n:Bool)(w:Value):(eqGuard X t x y (.bool n) w).run P W=.ok () W:=by cases X<;>rfl
def al3(X:BinOp)(t:TypeId)(x y:Operand)(n:ByteArray)(w:Value):(eqGuard X t x y (.string n) w).run P W=.ok () W:=by cases X<;>rfl
def al4(R:P.underlying X=U .bool)(m n:Bool):(GM X (.bool m) (.bool n)).run P W=.ok (m==n) W:=by
 have:GM X (.bool m) (.bool n)=Ew (9999+1) X (.bool m) (.bool n):=rfl;rw[this,Ew,dD,eZ.gY R];rfl
def axb(R:P.underlying X=U .bool)(m n:Bool):(binOp .eql X (.bool m) (.bool n)).run P W=.ok (.bool (m==n)) W:=by
 show((GM X (.bool m) (.bool n))>>=λb=>(pure (.bool b):Sem Value)).run P W=_;rw[dD,al4 R];rfl
def axc(R:P.underlying X=U .bool)(m n:Bool):(binOp .neq X (.bool m) (.bool n)).run P W=.ok (.bool !(m==n)) W:=by
 show((GM X (.bool m) (.bool n))>>=λb=>(pure (.bool !b):Sem Value)).run P W=_;rw[dD,al4 R];rfl
def ady(R:jx P u)(h:Rg (u X)=J):∃a b c,P.underlying X=U (.func a b c):=by
 unfold Rg at h;split at h;rename_i k q Q;obtain⟨d,N,⟨-,M⟩,-,-⟩:=(R _ _ Q).desc
 grind
 cases h
def adz{x y:Operand}{Q:_}{N:_}{M:_}(L:P.underlying X=U (.func Q N M))(v:Value)(n:Bool)(R:(v=.nilFunc/\n=J)\/(∃f a b,v=.func f a b)/\n=E):
  (do eqGuard .eql X x y v .nilFunc;binOp .eql X v .nilFunc).run P W=.ok (.bool n) W/\(do eqGuard .neq X x y v .nilFunc;binOp .neq X v .nilFunc).run P W=.ok (.bool !n) W:=by
 have H:(GM X v .nilFunc).run P W=.ok n W:=by
  have G:GM X v .nilFunc=Ew (9999+1) X v .nilFunc:=rfl;rw[G,Ew,dD,eZ.gY L,dC];rcases R with⟨rfl,rfl⟩|⟨⟨f,a,b,rfl⟩,rfl⟩<;>rfl
 rcases R with⟨rfl,rfl⟩|⟨⟨f,a,b,rfl⟩,rfl⟩<;>constructor<;>simp[eqGuard,binOp,H]
def al5{e:K}:∀{ks:bA}{vs:aq},vs.all Mz=J->Y ks=Y vs->
  (lw (e.ai O) ks (C.az O V vs)=.nilFunc/\(EA e ks vs).ai O=J)\/((∃f a b,lw (e.ai O) ks (C.az O V vs)=.func f a b)/\(EA e ks vs).ai O=E)
 |[],[],_,_=>.inl ⟨rfl,rfl⟩|[],_::_,_,h=>by simp at h|_::_,[],_,h=>by simp at h
 |k::ks,v::vs,R,N=>by
  simp only[VL,aC] at R;have L:=al5 (e:=e) (ks:=ks) (vs:=vs) R.2 (by simpa using N);have X:=R.1;unfold Mz at X;split at X;rename_i g bE;simp only[C.az,C.ai,lw,EA,BE.ai,fp,K.ai];by_cases Q:e.ai O=k;right;obtain⟨H,a2,G,M⟩:=adl (C.az O V bE) X;simp[Q,jr,M]
  grind
  simp only[C.az,C.ai,lw,EA,BE.ai,fp,K.ai];by_cases Q:e.ai O=k;left;simp[Q,RE.ai,RE.rv,jr]
  grind
  cases X
def axd(R:aA G H D u V O s a W)(l:jx P u)(hg:eD B O){r:BinOp}{t2:TypeId}{y:Operand}(ho:F.op=.binOp r X n y t2)(hk:(s.ev B n).fg=E)(aa:(s.ev B y).fg=E)
  (h:(cw u B s (.binOp r X n y t2)).gives O N):(execOp a.eval F).run P W=.ok (.value (N.ai O V)) W:=by
 have he:=de R hg n hk;have ab:=de R hg y aa;simp only[execOp,ho];rw[dD,he,ab];simp only[cw] at h;split at h;rename_i k m k' Q M L;rw[M,L];split at h;rename_i ac;have af:r=.shr:=by cases r<;>simp[alj] at ac;rfl
 subst af;split at h;rename_i Q;split at h;rename_i z;have j:¬Q<0:=by simp at z;omega
 cases h;simp only[C.ai,M5,K.ai];rw[dD,adx,dC];simp[binOp,Op.shift,be,j];exact h.elim;obtain⟨z,rfl⟩:=h;have a0:0<=Q.ai O:=by
  grind [BE.ai,K.ai,fp]
 have j:¬Q.ai O<0:=ae;simp only[C.ai,M5];rw[dD,adx,dC];simp[binOp,Op.shift,be,j];split at h;exact h.elim;rename_i ag;have al:k=k':=by simpa using ag
 subst al;simp only[C.ai];rw[dD,adx,dC];split at h;rename_i hc;cases h;simp only[aw8 r hc,dC,fy,C.ai,EX];split at h;rename_i hc;cases h;simp only[aw9 r hc,dC,fy,C.ai,M5];split at h;rename_i hc;split at h;rename_i Q;split at h;exact h.elim;rename_i z;cases h;have j:Q≠0:=by simpa using z
 simp only[C.ai,M5,K.ai];rw[al2 r hc _ _ _ _ j];rfl;obtain⟨hb,rfl⟩:=h;rw[EX] at hb;have j:Q.ai O≠0:=by simpa[fp,K.ai] using hb
 simp only[C.ai,M5];rw[al2 r hc _ _ _ _ j];rfl;exact h.elim;rename_i m Q M L;rw[M,L];simp only[C.ai];rw[dD,axa,dC];split at h;rename_i q i;cases h;obtain⟨d,A,-,-,hb⟩:=(l _ _ i).desc;rw[hb rfl] at A;rw[axb A];simp[C.ai,ads];rename_i q i;cases h;obtain⟨d,A,-,-,hb⟩:=(l _ _ i).desc;rw[hb rfl] at A;rw[axc A];simp[C.ai,ads,RU];exact h.elim;rename_i M L;rw[M,L];split at h;exact h.elim;rename_i w;obtain⟨d1,d2,d3,A⟩:=ady l (by simpa using w);obtain⟨q1,q2⟩:=adz (x:=n) (y:=y) (W:=W) A .nilFunc J (.inl ⟨rfl,rfl⟩);have z:C.ai O V (.ak (.k .nilFunc))=.nilFunc:=rfl;rw[z];split at h;cases h;rw[q1];rfl;cases h;rw[q2];rfl;exact h.elim;rename_i m Q a3 M L;rw[M,L];split at h;rename_i g c;cases h;obtain⟨p,b⟩:=G9 R g;obtain⟨q,hq⟩:=G9 R c;simp only[C.ai,b,hq];rw[dD,al3,dC];unfold RE.ai at b hq;simp[binOp,Op.stringOp,BE.ai,b,hq,xA];rename_i g c;cases h;obtain⟨p,b⟩:=G9 R g;obtain⟨q,hq⟩:=G9 R c;simp only[C.ai,b,hq];rw[dD,al3,dC];unfold RE.ai at b hq;simp[binOp,Op.stringOp,BE.ai,b,hq,xA];exact h.elim;rename_i f bE M L;rw[M,L];split at h;exact h.elim;rename_i w;simp only[lq,not_or,jT,Mp] at w;obtain⟨d1,d2,d3,A⟩:=ady l w.1;obtain⟨q1,q2⟩:=adz (x:=n) (y:=y) (W:=W) A ((C.fn f bE).ai O V) E (.inr ⟨let⟨a1,b1,c1,e1⟩:=adl _ (by simpa using w.2);⟨.func a1,b1,c1,e1⟩,rfl⟩);have z:C.ai O V (.ak (.k .nilFunc))=.nilFunc:=rfl;rw[z];split at h;cases h;rw[q1];rfl;cases h;rw[q2];rfl;exact h.elim;rename_i e ks vs M L;rw[M,L];split at h;rename_i w;simp only[aC,gc] at w;obtain⟨d1,d2,d3,A⟩:=ady l w.2;have an:=al5 (O:=O) (V:=V) (e:=e) w.1.1 w.1.2;obtain⟨q1,q2⟩:=adz (x:=n) (y:=y) (W:=W) A (lw (e.ai O) ks (C.az O V vs)) ((EA e ks vs).ai O) an;have z:C.ai O V (.ak (.k .nilFunc))=.nilFunc:=rfl;rw[z,C.ai];split at h;cases h;rw[q1];rfl;cases h;rw[q2];simp[C.ai,RU];exact h.elim;exact h.elim;rename_i m Q M L;rw[M,L];simp only[C.ai];split at h;rename_i e he;cases h;obtain⟨am,d,i,g,c,h3⟩:=al0 R he;have:=((l _ _ i).eq rfl _ _ _ n y W g c h3).1;rw[this];rfl;rename_i e he;cases h;obtain⟨am,d,i,g,c,h3⟩:=al0 R he;have:=((l _ _ i).eq rfl _ _ _ n y W g c h3).2;rw[this];simp[C.ai,RU];exact h.elim;exact h.elim
end
section
variable{g:ar}{u:World}{D:bU}{P:Program}{d:Ty}{B:oa}{V:ar}{O:aj}{s:S}{a:Act}{W:World}
def WC(X:∀r:RE,r.JI=J->jr (r.ai O)=J)(h:N.JJ=J):(N.ai O V).cells.toList=C.az O V N.cells:=by
 cases N with
 |agg l=>simp[C.ai,C.cells,Value.cells]
 |ak r=>
  have:jr (r.ai O)=true:=X r (by cases r<;>simp_all[C.JJ,RE.JI]);simp only[C.ai,C.cells,C.az];revert this;cases r.ai O<;>simp[jr,Value.cells]
 |gq e R Q=>
  simp only[C.ai,C.cells,C.az];exact alO (adp _ _ _)
 |fn f l=>
  simp only[C.ai,C.cells,C.az];exact alO (Wr _ _)
 |_=>simp[C.ai,C.cells,Value.cells,C.az,undef]
def al6:∀(M l:aq)(R:Nat),C.az O V (mj l R M)=(C.az O V M).zipIdx.foldl (λQ x=>Q.set (R+x.2) x.1) (C.az O V l)
 |[],l,R=>by simp[mj,C.az]
 |v::M,l,R=>by
  rw[mj,al6 M (l.set R v) (R+1)];simp only[C.az,List.zipIdx_cons,acr,yX,jp];rw[show C.az O V (l.set R v)=(C.az O V l).set R (v.ai O V) by simp[oI]];generalize(C.az O V l).set R (v.ai O V)=X;have:∀(N:fz)(n:Nat)(X:fz),(N.zipIdx n).foldl (λQ x=>Q.set (R+1+x.2) x.1) X=(N.zipIdx (n+1)).foldl (λQ x=>Q.set (R+x.2) x.1) X:=by
   intro N;induction N with|nil=>intro n X;rfl|cons w N L=>intro n X;simp;rw[L,show R+1+n=R+(n+1) from ae]
  grind
def al7:∀(l:List (Value×Nat))(R:Nat)(X:mR),(l.foldl (λQ (x:Value×Nat)=>Q.setIfInBounds (R+x.2) x.1) X).toList=l.foldl (λQ x=>Q.set (R+x.2) x.1) X.toList
 |[],_,_=>rfl|x::l,R,X=>by simp;rw[al7 l R];simp
def RX(R:∀r:RE,r.JI=J->jr (r.ai O)=J)(place:Nat->Option (Nat×Nat)):∀(parts:List (Nat×C))(cells l:aq),AN place cells parts=U l->
  Instr.fill place (C.az O V cells).toArray (parts.map λp=>(p.1,p.2.ai O V))=U (C.az O V l).toArray
 |[],cells,l,h=>by simp[AN] at h;simp[Instr.fill,h]
 |(i,v)::L,cells,l,h=>by
  simp only[AN] at h;cases X:place i with
  |none=>rw[X] at h;cases h
  |some q=>
   obtain⟨Q,H⟩:=q;rw[X] at h;simp only at h;split at h;cases h;rename_i N;simp at N;obtain⟨⟨G,y⟩,F⟩:=N;have M:=WC (V:=V) R F;have B:(v.ai O V).cells.size=H:=by rw[<-GI,M];simp[G]
   simp only[dH,Instr.fill,X,B];rw[aJ bS];have A:=RX R place L _ l h;rw[<-A];congr 1;apply nH;have e:((v.ai O V).cells.zipIdx.foldl (λz (x:Value×Nat)=>z.setIfInBounds (Q+x.2) x.1) (C.az O V cells).toArray).toList=C.az O V (mj cells Q v.cells):=by
    rw[<-aJf,al7,al6,Array.toList_zipIdx,M]
   omega
def axe(c:CT):(Ey c).ai O V=rZ c:=by cases c<;>simp[Ey,C.ai,rZ,K.ai,BE.ai,RE.ai,RE.rv]
def al8(X:TI):C.az O V (et X)=X.am.map rZ:=by
 simp only[et,oI,oX];congr 1;funext c;exact axe c
def M9(h:eZ P X t):∃z,(zeroValue X).run P W=.ok z W/\z.cells=(C.az O V (et t)).toArray:=by
 obtain⟨i,R,-,z,Q,N⟩:=h.M4;exact⟨z,by simp[zeroValue,typeInfo,R,Q],by rw[al8,<-N]⟩
def axf(R:aA g u D d V O s a W)(H:jx P d)(hg:eD B O){parts:Array (Nat×Operand)}(ho:F.op=.build X parts)(hk:∀p∈parts.toList,(s.ev B p.2).fg=E)
  (h:(cw d B s (.build X parts)).gives O N):(execOp a.eval F).run P W=.ok (.value (N.ai O V)) W:=by
 have b:(parts.map λ(i,x)=>(i,a.eval x)).toList=(parts.toList.map λp=>(p.1,s.ev B p.2)).map λp=>(p.1,p.2.ai O V):=by
  simp only[yW,oX];apply ky;intro p hp;simp[de R hg p.2 (hk p hp)]
 simp only[execOp,ho,dD];simp only[cw] at h;split at h;rename_i y am q G;split at h;exact h.elim;rename_i r;have r:∀f∈y,(d f.2).isSome=true:=by
  have:(y.all λf=>(d f.2).isSome)=true:=by simpa only[jT,Mp] using r
  exact gC.1 this
 split at h;rename_i l M;cases h;obtain⟨Q,hF,aa⟩:=(H _ _ G).desc;obtain⟨z,k,j⟩:=M9 (P:=P) (W:=W) (O:=O) (V:=V) (H _ _ G);have ac:∀(L:List Field),(∀f∈L,∃A,d f.type=U A)->(L.mapM (m:=Sem) λf=>do pure (f.offset,<-Go.sizeOf f.type)).run P W=.ok (L.map λf=>(f.offset,((d f.type).map (·.am.length)).getD 0)) W:=by
  intro L hL;induction L with
  |nil=>rfl
  |cons f L ih=>
   obtain⟨A,w⟩:=hL f aw;have:=ih (λf M=>hL f (by simp[M]));simp only[awr,dD,(H _ _ w).nP,dC,fy,this,dH,w,ga,yV]
 have ab:∀f∈Q.toList,∃A,d f.type=U A:=by
  intro f M;have:(f.offset,f.type)∈y:=by rw[<-aa];exact fo.2 ⟨f,M,rfl⟩
  have:=r _ this;exact jC.1 this
 have hm:=ac Q.toList ab;have c:=RX (V:=V) (xF R) _ _ _ _ M;simp only[Instr.build,dD,k,dC,eZ.gY hF,aIV,Sem.run_map,hm,b,j];have af:(λi=>(Q.toList.map λf=>(f.offset,((d f.type).map (·.am.length)).getD 0)).toArray[i]?)=acB d y:=by
  funext i;rw[<-aa,acB];simp only[ak0,ep];cases hi:Q.toList[i]? with
  |none=>simp
  |some f=>
   obtain⟨A,w⟩:=ab f (jD hi);simp[w]
 rw[af,c];simp[C.ai];exact h.elim;rename_i n e am q G;split at h;rename_i te ag;split at h;rename_i l M;cases h;obtain⟨z,k,j⟩:=M9 (P:=P) (W:=W) (O:=O) (V:=V) (H _ _ G);have hd:P.underlying X=U (.array n e):=(H _ _ G).desc;have c:=RX (V:=V) (xF R) _ _ _ _ M;simp only[Instr.build,dD,k,dC,eZ.gY hd,(H _ _ ag).nP,b,j,c];simp[C.ai];exact h.elim;exact h.elim;exact h.elim
def axg(R:aA g u D d V O s a W)(z:jx P d)(hg:eD B O){j f mx:Option Operand}(ho:F.op=.slice X n j f mx)(hk:(s.ev B n).fg=E)(af:∀y,j=U y->(s.ev B y).fg=E)
  (h:(cw d B s (.slice X n j f mx)).gives O N):(execOp a.eval F).run P W=.ok (.value (N.ai O V)) W:=by
 have he:=de R hg n hk;simp only[execOp,ho,dD,he];simp only[cw] at h;split at h;rename_i Q e am q i ag ht hx;rw[hx];have c:P.underlying X=U (.array Q e):=(z _ _ ht).desc;split at h;rename_i te G M w;cases h;have al:j=none:=by simpa using M
 have ab:f=none:=by simpa using w
 subst al ab;simp[C.ai,Instr.sliceAt,eZ.gY c,Instr.sureAddr,Instr.sliceBounds,(z _ _ G).nP,xE];rename_i te k l G M w;split at h;rename_i H;cases h;simp only[aC,dq] at H;have ab:f=none:=by simpa using w
 subst ab;cases j with
 |none=>cases M
 |some y=>
  simp only[ga,dX] at M;have L:=de R hg y (af y rfl);rw[M] at L;have an:l<=Q:=ae;have a0:¬Q=l.toNat:=ae;simp[C.ai,K.ai,Instr.sliceAt,eZ.gY c,Instr.sureAddr,Instr.sliceBounds,Instr.sliceBound,asIntOf,L,H.1,an,(z _ _ G).nP,xE,a0]
 exact h.elim;exact h.elim;rename_i e am q r m ht hx;rw[hx];have c:P.underlying X=U (.slice e):=(z _ _ ht).desc;split at h;rename_i hh qq M w;cases f with
 |none=>cases M
 |some y=>
  simp only[ga,dX] at M;have L:=de R hg y (by rw[M];rfl);have p:=de R hg m (by rw[w];rfl);rw[M] at L;rw[w] at p;split at h;rename_i hn;split at h;rename_i H;cases h;simp only[aC] at H;obtain⟨⟨c1,c2⟩,c3⟩:=H;obtain⟨te,G⟩:=jC.1 c3;rw[K.bX _ _ c1] at L;rw[K.bX _ _ c2] at p;unfold RE.isNil at hn;split at hn;simp[C.ai,RE.ai,RE.rv,K.ai,Instr.sliceAt,eZ.gY c,Instr.slice,Instr.sliceBounds,Instr.sliceBound,asIntOf,L,p,(z _ _ G).nP];cases hn;exact h.elim;split at h;rename_i a1;split at h;rename_i H;cases h;simp only[aC] at H;obtain⟨⟨c1,c2⟩,c3⟩:=H;obtain⟨te,G⟩:=jC.1 c3;rw[K.bX _ _ c1] at L;rw[K.bX _ _ c2] at p;have hl:=ri R aw a1;obtain⟨rv,aa⟩:∃rv,r.rv O=rv:=⟨_,rfl⟩;rw[aa] at hl;cases hl with
  |sl _ A Q a3 a4 g1 g2 g3 _ _ _=>
   have hv:r.ai O=.slice A Q a3:=by unfold RE.ai;rw[aa];rfl
   have a9:(K.len r).ai O=(Q:Int):=by simp only[K.ai];rw[aa];rfl
   simp only[C.ai,a9] at L p;have hA:(if Q=0 then A else A.map (·.add (0*Y te.am)))=A:=by
    split;rfl;obtain⟨ac,ba⟩:∃ac,a4[0]?=U ac:=⟨_,dv ae⟩;obtain⟨-,b,ag,rfl,-⟩:=g3 0 ac ba;simp[xE]
   have bb:(C.fn 3000000 [.ak r]).ai O V=.slice A Q Q:=by
    show adj (r.rv O).val=_;rw[aa];rfl
   rw[bb];simp[C.ai,hv,Instr.sliceAt,eZ.gY c,Instr.slice,Instr.sliceBounds,Instr.sliceBound,asIntOf,L,p,(z _ _ G).nP,g2];simpa using hA
  exact h.elim;exact h.elim
 exact h.elim;exact h.elim
def axh(R:aA g u D d V O s a W)(y:jx P d)(m:eD B O){c:Call}(k:F.op=.call c)(p:c.callee=.builtin .len)(j:∀x∈c.args.toList,(s.ev B x).fg=E)
  (h:(cw d B s (.call c)).gives O N):(execOp a.eval F).run P W=.ok (.value (N.ai O V)) W:=by
 have f:c.args.map a.eval=((c.args.toList.map (s.ev B)).map (C.ai O V)).toArray:=by
  apply nH;simp only[yW,oX];exact ky λx b=>de R m x (j x b)
 simp only[execOp,k,resolve,p,dD,fy,dC,invoke,builtin,f];simp only[cw,p] at h;split at h;rename_i t L H;have M:c.argTypes[0]?=U t:=by have:=j7 (λl=>l[0]?) L;simpa using this
 rw[H];split at h;rename_i e am q X;cases h;have Q:P.underlying t=U (.slice e):=(y _ _ X).desc;simp[Builtin.len_,M,C.ai,K.ai,RE.ai,RE.rv,eZ.gY Q,goInt];exact h.elim;rename_i t r aa L H;have M:c.argTypes[0]?=U t:=by have:=j7 (λl=>l[0]?) L;simpa using this
 rw[H];split at h;rename_i e am q e' X w;cases h;have Q:P.underlying t=U (.slice e):=(y _ _ X).desc;obtain⟨A,l,cc,G⟩:=RW R w;have z:=G;unfold RE.ai at z;simp[Builtin.len_,M,C.ai,K.ai,G,z,eZ.gY Q,lenOf,goInt];rename_i am q X w;cases h;have Q:P.underlying t=U .string:=(y _ _ X).desc;obtain⟨ab,G⟩:=G9 R w;have z:=G;unfold RE.ai at z;simp[Builtin.len_,M,C.ai,K.ai,G,z,eZ.gY Q,lenOf,goInt];exact h.elim;rename_i t i ac n af L H;have M:c.argTypes[0]?=U t:=by have:=j7 (λl=>l[0]?) L;simpa using this
 rw[H];split at h;rename_i e am q X;cases h;have Q:P.underlying t=U (.slice e):=(y _ _ X).desc;simp[Builtin.len_,M,C.ai,K.ai,eZ.gY Q,goInt];exact h.elim;exact h.elim
def al9(R:aA g u D d V O s a W)(G:eD B O){c:Call}(L:F.op=.call c)(X:c.callee=.builtin .min\/c.callee=.builtin .max)(A:∀x∈c.args.toList,(s.ev B x).fg=E)
  (h:(cw d B s (.call c)).gives O N):(execOp a.eval F).run P W=.ok (.value (N.ai O V)) W:=by
 have H:c.args.map a.eval=((c.args.toList.map (s.ev B)).map (C.ai O V)).toArray:=by
  apply nH;simp only[yW,oX];exact ky λx z=>de R G x (A x z)
 rcases X with X|X;simp only[execOp,L,resolve,X,dD,fy,dC,invoke,builtin,H];simp only[cw,X] at h;split at h;rename_i k x l Q;rw[Q];split at h;rename_i e M;cases h;have:=adt (P:=P) (W:=W) (O:=O) (V:=V) E k l x e M
 grind [iZ,C.ai,Builtin.min_,oI,dC]
 exact h.elim;exact h.elim;simp only[execOp,L,resolve,X,dD,fy,dC,invoke,builtin,H];simp only[cw,X] at h;split at h;rename_i k x l Q;rw[Q];split at h;rename_i e M;cases h;have:=adt (P:=P) (W:=W) (O:=O) (V:=V) J k l x e M
 grind [C.ai,Builtin.max_,oI,dC]
 exact h.elim;exact h.elim
end
section
variable{g:ar}{A:World}{D:bU}{P:Program}{f:Ty}{B:oa}{V:ar}{O:aj}{s:S}{a:Act}{W:World}
def adA{l:bA}(h:r=E->Y l=1):zu (gT r l)=l:=by
 cases r;obtain⟨x,rfl⟩:=pI.1 (h rfl);rfl;simp[gT,zu,Function.comp_def,bn]
def adB{x y z:K}(h:JM R r N=U (x,y,z)):N.ai O V=gT r ([x.ai O,y.ai O,z.ai O].take R)/\([x.ai O,y.ai O,z.ai O].take R).length=R:=by
 unfold JM at h;split at h;split at h;rename_i X;cases h;simp at X
 grind [gT,C.ai]
 cases h;split at h;rename_i X;cases h;simp at X
 grind [gT,C.ai,C.az]
 cases h;split at h;rename_i X;cases h;simp at X
 grind [gT,C.ai,C.az]
 cases h;split at h;rename_i X;cases h;simp at X
 grind [gT,C.ai,C.az]
 cases h;cases h
def adC:∀{l:uo}{m:Nat}{e:MapEntry},e∈gD m l->∃p∈l,e.key=p.1
 |[],m,e,h=>by simp[gD] at h
 |x::r,m,e,h=>by
  simp only[gD,ey] at h;rcases h with rfl|h;simp;obtain⟨p,X,R⟩:=adC h
  grind
def Hd(n:Nat)(X:aE):Prop:=∃l:bA,Y l=n/\X.take n=l.map λx=>.mk (.int I x) []
def RY{ag:Bool}(M:ag=E->R=1){X:aE}(h:Hd R X):∃l:bA,Y l=R/\rX ag (X.take R)=gT ag l/\(X.take R).map (λc=>bn c.val)=l:=by
 obtain⟨l,Q,N⟩:=h;refine⟨l,Q, ?_,by rw[N];simp[Function.comp_def,bn]⟩;rw[N];cases ag;obtain⟨x,rfl⟩:=pI.1 (Q.trans (M rfl));rfl;simp[rX,gT]
def ama{n:Nat}{Q va:Bool}(N:Q=E->n=1){X:bA}(L:(X.take n).length=n):∀{rows:av}{m i:Nat},(∀R∈rows,Hd n R)->
  (mu n X rows=Z/\pm (X.take n) (gD m (rows.map (xC n Q va))) i=Z)\/∃R j,mu n X rows=U R/\R∈rows/\pm (X.take n) (gD m (rows.map (xC n Q va))) i=U (j,rX va (R.drop n))
 |[],m,i,_=>.inl ⟨rfl,rfl⟩
 |R::rows,m,i,h=>by
  obtain⟨l,H,G,F⟩:=RY (ag:=Q) N (h R aw);simp only[mu,awi,dH,gD,pm,xC,G];rw[adA (λe=>H.trans (N e))];have B:mq n X R=decide (l=X.take n):=by simp only[mq,F]
  rw[B];by_cases A:l=X.take n
  grind
  simp only[A,decide_false,jE];rcases ama (rows:=rows) (m:=m+1) (i:=i+1) (va:=va) N L (λr z=>h r (by simp[z])) with M|⟨r,j,M,y,x⟩;exact .inl M;exact .inr ⟨r,j,M,by simp[y],x⟩
def amc(O:aj)(V:ar){k e:TypeId}(F:P.underlying X=U (.map k e))(B:vQ P k R r)(A:eZ P e t){l:uo}(y:W.heap[M]?=U (rh l)){L:bA}(u:Y L=R)
  (g:∀p∈l,∃N:bA,Y N=R/\p.1=gT r N)(H:Bool):
  ∃z,(zeroValue e).run P W=.ok z W/\(Instr.lookup X (.map (U M)) (gT r L) H).run P W=.ok (let Q:=match pm L (gD 0 l) 0 with
   |U (_,v)=>(v,J)
   |none=>(z,E);if H then .tuple #[Q.1,.bool Q.2] else Q.1) W:=by
 obtain⟨z,G,f⟩:=M9 (P:=P) (W:=W) (O:=O) (V:=V) A;refine⟨z,G, ?_⟩;have q:∀x∈gD 0 l,∃N:bA,Y N=R/\x.key=gT r N:=λx o=>by
  obtain⟨p,d,c⟩:=adC o
  grind
 obtain⟨m,i⟩:=B.2 L (gD 0 l) W u q;have h:=MapKept.run_getObj_map (P:=P) (w:=W) y;simp only[Instr.lookup,dD,eZ.gY F,dC,h,fy,m,i];cases hf:pm L (gD 0 l) 0 with|none=>simp[G]|some p=>obtain⟨j,v⟩:=p;simp
structure Kd(f:Ty)(sh:Sh)(row:aE):Prop where
 len:Y row=(bJ f (.mr sh)).length
 int:∀(j:Nat)(c:RV)(k:IntKind),row[j]?=U c->(bJ f (.mr sh))[j]?=U (.int k)->∃n,c=.mk (.int k n) []
 bool:∀(j:Nat)(c:RV),row[j]?=U c->(bJ f (.mr sh))[j]?=U .bool->∃x,c=.mk (.bool x) []
def axi{R:Sh}(h:bG W f (.mr R) L):∀X∈L.ah,Kd f R X:=by
 cases h with
 |mr R A H G F z=>
  intro X B;obtain⟨i,Q⟩:=sP B;exact⟨H i X Q,λj c k N M=>G i j X c k Q N M,λj c N M=>F i j X c Q N M⟩
def Ke(R:aA g A D f V O s a W){X:Sh}{r:RE}(h:r.pK f s X=J):∀Q∈(r.rv O).ah,Kd f X Q:=by
 unfold RE.pK at h;rcases av2.1 h with h|h;exact axi (ri R aw (GN h));unfold RE.nil at h;split at h;intro Q N;simp[RE.rv] at N;cases h
def Na{e:TypeId}{va:Bool}(Q:ur f X R r=J)(M:f e=U t):∃N:eN,bJ f (.mr ⟨X,e,R,r,va⟩)=N++t.am/\Y N=R/\∀c∈N,c=.int I:=by
 unfold ur at Q;split at Q;rename_i tk L;simp only[aC,gc] at Q
 grind [bJ,acD]
 cases Q
def Nb{e:TypeId}{N:Bool}(H:ur f X R r=J)(G:f e=U t){Q:aE}(h:Kd f ⟨X,e,R,r,N⟩ Q):Hd R Q:=by
 obtain⟨v,M,F,B⟩:=Na (va:=N) H G;have A:=h.len;rw[M,fT,F] at A;refine⟨(Q.take R).map λc=>bn c.val,bS, ?_⟩;apply kX;intro j;rw[ep,ep,pJ];by_cases z:j<R;rw[aH z];have L:j<Y Q:=ae;rw[dv L];have y:(bJ f (.mr ⟨X,e,R,r,N⟩))[j]?=U (.int I):=by
  rw[M,fO ae,dv ae];congr 1;exact B _ (sQ _)
 obtain⟨x,w⟩:=h.int j _ I (dv L) y;simp only[ga,w,RV.pe,bn]
 grind
def adD{r:RE}{n:Nat}{x y z:K}{X:aE}(H:mu n [x.ai O,y.ai O,z.ai O] (r.rv O).ah=U X):∀{am:eN}{j:Nat},am.all oc=J->Y X=j+Y am->
  (∀(i:Nat)(k:IntKind),am[i]?=U (.int k)->∃m,X[j+i]?=U (.mk (.int k m) []))->(∀(i:Nat),am[i]?=U .bool->∃m,X[j+i]?=U (.mk (.bool m) []))->
  C.az O V (rQ r n x y z j am)=(X.drop j).map RV.val
 |[],j,_,R,_,_=>by rw[avV (by simp at R;omega)];rfl
 |.int k::am,j,Q,R,M,L=>by
  obtain⟨m,N⟩:=M 0 k rfl;have G:=adD H (am:=am) (j:=j+1) (by simpa[oc] using Q) (by simp at R⊢;omega) (λi k h=>by have:=M (i+1) k (by simpa using h);rwa [show j+(i+1)=j+1+i from ae] at this) (λi h=>by have:=L (i+1) (by simpa using h);rwa [show j+(i+1)=j+1+i from ae] at this);have F:X.drop j=.mk (.int k m) []::X.drop (j+1):=by
   rw[yX] at N
   grind [Cg]
  rw[yX] at N
  grind [rQ,C.az,C.ai,K.ai,RV.pe,bn]
 |.bool::am,j,Q,R,M,L=>by
  obtain⟨m,N⟩:=L 0 rfl;have G:=adD H (am:=am) (j:=j+1) (by simpa[oc] using Q) (by simp at R⊢;omega) (λi k h=>by have:=M (i+1) k (by simpa using h);rwa [show j+(i+1)=j+1+i from ae] at this) (λi h=>by have:=L (i+1) (by simpa using h);rwa [show j+(i+1)=j+1+i from ae] at this);have F:X.drop j=.mk (.bool m) []::X.drop (j+1):=by
   rw[yX] at N
   grind [Cg]
  rw[yX] at N
  grind [rQ,C.az,C.ai,BE.ai,RV.pe,jw]
 |.bz _ _::am,j,Q,_,_,_=>by simp[oc] at Q
def adF{r:RE}{n:Nat}{x y z:K}(R:mu n [x.ai O,y.ai O,z.ai O] (r.rv O).ah=Z):∀{am:eN}{j:Nat},am.all oc=J->C.az O V (rQ r n x y z j am)=am.map rZ
 |[],j,_=>rfl
 |.int k::am,j,X=>by
  simp only[rQ,C.az,C.ai,K.ai,R,dH,rZ,adF R (am:=am) (j:=j+1) (by simpa[oc] using X)]
 |.bool::am,j,X=>by
  simp only[rQ,C.az,C.ai,BE.ai,R,dH,rZ,adF R (am:=am) (j:=j+1) (by simpa[oc] using X)]
 |.bz _ _::am,j,X=>by simp[oc] at X
def WD{r:RE}{n:Nat}{x y z:K}:∀{am:eN}{j:Nat},(rQ r n x y z j am).length=Y am
 |[],j=>rfl|.int _::am,j=>by simp[rQ,WD (am:=am)]|.bool::am,j=>by simp[rQ,WD (am:=am)]|.bz _ _::am,j=>by simp[rQ,WD (am:=am)]
def adG(h:eZ P X t){z:Value}(R:(zeroValue X).run P W=.ok z W):z=if t.d.isAgg then .agg (t.am.map rZ).toArray else(t.am.map rZ).headD undef:=by
 obtain⟨i,Q,-,M,N,L⟩:=h.M4;have H:z=M:=by simp[zeroValue,typeInfo,Q,N] at R;exact R.symm
 subst H;have G:=h.alP i z Q N;rw[<-G,<-L];cases z<;>simp[Wu,Value.cells]
def CM(h:eZ P X t)(Q:t.d.isAgg=E):Y t.am=1:=by
 obtain⟨i,N,H,z,M,L⟩:=h.M4;have:=h.alP i z N M;rw[Q] at this;have R:=j7 Y L;simp only[oW] at R;rw[<-R];cases z<;>simp[Wu] at this<;>rfl
def Nc:∀{R:aq}{X:bA},rT R=U X->ET (C.az O V R)=(X.zip (oe R)).map (λp=>(.int I p.1,p.2.ai O V))/\Y X=(oe R).length
 |[],X,h=>by simp[rT] at h;subst h;exact⟨rfl,rfl⟩|[v],X,h=>by unfold rT at h;split at h<;>simp_all
 |u::v::r,X,h=>by
  unfold rT at h;split at h
  grind
  rename_i k M L N;cases N;cases Q:rT r with
  |none=>rw[Q] at h;cases h
  |some H=>
   rw[Q] at h;simp at h;subst h;obtain⟨G,F⟩:=Nc Q
   grind [C.az,C.ai,K.ai,ET,oe,Es]
  cases h
def amd{x:Int}:∀{ks:bA}{vs:aq}{m i:Nat},(pm [x] (gD m ((ks.zip vs).map λp=>(.int I p.1,p.2.ai O V))) i).map (·.2)=(eW x ks vs).map (C.ai O V)
 |[],vs,m,i=>by simp[gD,pm,eW]|_::_,[],m,i=>by simp[gD,pm,eW]
 |k::ks,v::vs,m,i=>by
  simp only[Es,dH,gD,pm,zu,Et,and_true,eW];by_cases h:x=k
  grind
  rw[aJ (λe=>h e.symm),aJ h];exact amd
theorem He{X:RE}{Q:Bool}:j9 xl (C.bL O V [.ak X,.int I (.c (R:Int)),.bool (.c r),.bool (.c Q)])=rh ((X.rv O).ah.map (xC R r Q)):=by
 simp[j9,xl,vC,C.bL,C.gf,C.ai,K.ai,BE.ai]
def Hf:j9 vC (C.bL O V v)=rh (ET (C.az O V v)):=by
 simp only[j9,dP,alM]
def axj(R:aA g A D f V O s a W)(a0:jx P f)(hg:eD B O){ix:Operand}(ho:F.op=.lookup X n ix r)(hk:(s.ev B n).fg=E)(bs:(s.ev B ix).fg=E)
  (h:(cw f B s (.lookup X n ix r)).gives O N):(execOp a.eval F).run P W=.ok (.value (N.ai O V)) W:=by
 have he:=de R hg n hk;have bx:=de R hg ix bs;simp only[execOp,ho,dD,he,bx];simp only[cw] at h;split at h;rename_i k e Q ag am q i ht hx;rw[hx];have hd:P.underlying X=U (.map k e):=(a0 _ _ ht).desc;have hK:vQ P k Q ag:=(a0 _ _ ht).key k e Q ag rfl;unfold VT at h;split at h;rename_i L G xb xc bt cs g1 g2 g3;have aa:=a0 _ _ g1;split at h;exact h.elim;rename_i al;have al:ur f k Q ag=true:=by simpa using al
 obtain⟨b0,a1⟩:=adB (O:=O) (V:=V) g2;have ac:=R.mem.box i bt cs g3;simp only[C.ai,b0];split at h;rename_i fh;simp only[gc] at fh;subst fh;split at h;rename_i M nk ka va;split at h;rename_i bb;simp only[aC,gc] at bb;obtain⟨⟨⟨⟨⟨c1,c2⟩,c3⟩,c4⟩,c5⟩,-⟩:=bb;subst c2 c3 c4;rw[He] at ac;have bc:=Ke R c1;have bd:∀b∈(M.rv O).ah,Hd Q b:=λb hr=>Nb al g1 (bc b hr)
 obtain⟨z,hz,a3⟩:=amc O V hd hK aa ac a1 (λp hp=>by
  obtain⟨b,hr,rfl⟩:=fo.1 hp;obtain⟨l,q1,q2,-⟩:=RY hK.1 (bd b hr);exact⟨l,q1,q2⟩) r
 rw[a3];simp only[VS,PR.gives] at h;subst h;have an:L.d.isAgg=E->(rQ M Q G xb xc Q L.am).length=1:=λha=>by rw[WD];exact CM aa ha
 rcases ama (m:=0) (i:=0) (va:=L.d.isAgg) hK.1 a1 bd with⟨f1,f2⟩|⟨b,j,f1,f2,f3⟩;have hv:(uq L.d.isAgg (rQ M Q G xb xc Q L.am)).ai O V=z:=by
  rw[EY an,adF f1 c5];exact(adG aa hz).symm
 simp only[f2];cases r;simp only[iZ,jE,hv];rfl;simp only[dP,C.ai,C.az,hv,BE.ai,f1];rfl;obtain⟨kc,r1,r2,r3⟩:=Na (va:=L.d.isAgg) al g1;have a4:=bc b f2;have b1:Y b=Q+Y L.am:=by rw[a4.len,r1,fT,r2]
 have bf:∀(m:Nat)(ct:CT),L.am[m]?=U ct->(bJ f (.mr ⟨k,e,Q,_,L.d.isAgg⟩))[Q+m]?=U ct:=λm ct hm=>by
  rw[r1,jo ae,r2,show Q+m-Q=m from ae];exact hm
 have bg:∀(m:Nat)(ct:CT),L.am[m]?=U ct->∃c,b[Q+m]?=U c:=λm ct hm=>by
  have:m<Y L.am:=(du.1 hm).1;exact⟨b[Q+m]' ae,dv _⟩
 have b2:=adD (V:=V) f1 (am:=L.am) (j:=Q) c5 b1 (λm kk hm=>by
  obtain⟨c,hc⟩:=bg m _ hm;obtain⟨x',a9⟩:=a4.int (Q+m) c kk hc (bf m _ hm);exact⟨x',by rw[hc,a9]⟩) (λm hm=>by
  obtain⟨c,hc⟩:=bg m _ hm;obtain⟨x',a9⟩:=a4.bool (Q+m) c hc (bf m _ hm);exact⟨x',by rw[hc,a9]⟩)
 have hv:(uq L.d.isAgg (rQ M Q G xb xc Q L.am)).ai O V=rX L.d.isAgg (b.drop Q):=by
  rw[EY an,b2,rX];cases b3:L.d.isAgg;have h1:=CM aa b3;obtain⟨c,hc⟩:=pI.1 (show(b.drop Q).length=1 from bS);rw[hc];rfl;rfl
 simp only[f3];cases r;simp only[iZ,jE,hv];rfl;simp only[dP,C.ai,C.az,hv,BE.ai,f1];rfl;exact h.elim;exact h.elim;split at h;rename_i fh;simp only[gc] at fh;subst fh;split at h;rename_i bk;simp only[aC,gc,jT] at bk;obtain⟨rfl,rfl⟩:=bk;rw[Hf] at ac;split at h;rename_i v0 y H;simp only[VS,PR.gives] at h;subst h;unfold alk at H;split at H;rename_i ks b4;obtain⟨p1,p2⟩:=Nc (O:=O) (V:=V) b4;rw[p1] at ac;obtain⟨z,hz,a3⟩:=amc O V hd hK aa ac a1 (λp hp=>by
  obtain⟨u,hu,rfl⟩:=fo.1 hp;exact⟨[u.1],rfl,rfl⟩) r
 rw[a3];have ab:=amd (O:=O) (V:=V) (x:=G.ai O) (ks:=ks) (vs:=oe cs) (m:=0) (i:=0);have bl:(∀u,eW (G.ai O) ks (oe cs)=U u->v0.ai O V=u.ai O V/\y.ai O=J)/\(eW (G.ai O) ks (oe cs)=Z->v0.ai O V=z/\y.ai O=E):=by
  split at H;rename_i x0;simp only[K.ai] at*;split at H;rename_i u hu;cases H;exact⟨λu' af=>by rw[hu] at af;cases af;exact⟨rfl,rfl⟩,λhn=>by rw[hu] at hn;cases hn⟩;rename_i hu;cases H;refine⟨λu' af=>(by rw[hu] at af;cases af),λ_=>⟨?_,rfl⟩⟩;rw[EY (λha=>by simp[et];exact CM aa ha),al8];exact(adG aa hz).symm;rename_i b7;split at H;rename_i b5;cases ba:EB G ks ((oe cs).map C.cells) 0 L.am with
  |none=>rw[ba] at H;cases H
  |some l=>
   rw[ba] at H;simp only[ga,dX,JE] at H;obtain⟨rfl,rfl⟩:=H;obtain⟨s0,s1,s2⟩:=Wy (O:=O) (V:=V) ba;rw[Ww] at s1 s2;have an:L.d.isAgg=E->Y l=1:=λha=>by rw[s0];exact CM aa ha
   rw[EY an,Wz p2];refine⟨λu hu=> ?_,λhu=> ?_⟩;have br:=gC.1 b5 u (M7 hu);have b6:Y u.cells=0+Y L.am:=by
    simp only[Cr,aC,gc] at br;omega
   rw[s1 u.cells (by rw[hu];rfl) b6,hu,WA (xF R) br];exact⟨rfl,rfl⟩;rw[s2 (by rw[hu];rfl),hu];exact⟨(adG aa hz).symm,rfl⟩
  cases H
 have hL:[G.ai O,xb.ai O,xc.ai O].take 1=[G.ai O]:=rfl;rw[hL] at*;cases hp:eW (G.ai O) ks (oe cs) with
 |some u=>
  rw[hp] at ab;obtain⟨q1,q2⟩:=bl.1 u hp;cases hf:pm [G.ai O] (gD 0 ((ks.zip (oe cs)).map λp=>(.int I p.1,p.2.ai O V))) 0 with
  |none=>rw[hf] at ab;cases ab
  |some jv=>
   obtain⟨j,w⟩:=jv;rw[hf] at ab;simp only[ga,dX] at ab;subst ab;cases r;simp only[iZ,jE,q1];rfl;simp only[dP,C.ai,C.az,q1,q2];rfl
 |none=>
  rw[hp] at ab;obtain⟨q1,q2⟩:=bl.2 hp;cases hf:pm [G.ai O] (gD 0 ((ks.zip (oe cs)).map λp=>(.int I p.1,p.2.ai O V))) 0 with
  |some jv=>rw[hf] at ab;cases ab
  |none=>
   cases r;simp only[iZ,jE,q1];rfl;simp only[dP,C.ai,C.az,q1,q2];rfl
 cases H;exact h.elim;exact h.elim;exact h.elim;exact h.elim;exact h.elim
end
section
variable{u:ar}{A:World}{D:bU}{P:Program}{g:Ty}{B:oa}{V:ar}{O:aj}{s:S}{a:Act}{W:World}
def ame(R:aA u A D g V O s a W)(G:jx P g)(M:eD B O)(o:Oper)(X:∀x∈o.op.operands.toList,(s.ev B x).fg=E)
  (h:(cw g B s o.op).gives O N):(execOp a.eval o).run P W=.ok (.value (N.ai O V)) W:=by
 cases Q:o.op with
 |move x=>
  rw[Q] at h X;have H:=de R M x (X x cq);simp only[cw,PR.gives] at h;simp[execOp,Q,H,h]
 |assign x=>
  rw[Q] at h X;have H:=de R M x (X x cq);simp only[cw,PR.gives] at h;simp[execOp,Q,H,h]
 |pick c x y=>
  rw[Q] at h X;have z:=de R M c (X c cq);have L:=de R M x (X x cq);have hy:=de R M y (X y cq);simp only[cw] at h;split at h;rename_i ag;cases h;rw[ag] at z;simp[execOp,Q,z,L,C.ai,BE.ai,asBool];rename_i ag;cases h;rw[ag] at z;simp[execOp,Q,z,hy,C.ai,BE.ai,asBool];exact h.elim
 |load t x=>rw[Q] at h X;exact aw3 R G M Q (X x cq) h|fieldAddr t x f=>rw[Q] at h X;exact aw4 R G M Q (X x cq) h|field t x f=>rw[Q] at h X;exact aw5 R G M Q (X x cq) h|indexAddr t x y=>rw[Q] at h X;exact aw6 R G M Q (X x cq) (X y cq) h|index t x y=>rw[Q] at h X;exact aw7 R G M Q (X x cq) (X y cq) h|binOp op t x y t2=>rw[Q] at h X;exact axd R G M Q (X x cq) (X y cq) h
 |unOp op t x=>
  rw[Q] at h X;have H:=de R M x (X x cq);simp only[cw] at h;split at h;rename_i b L;cases h;simp[execOp,Q,H,L,C.ai,Op.unary,RU];rename_i k e L;cases h;simp[execOp,Q,H,L,C.ai,Op.unary,Op.intArith,M5,be,K.ai];exact h.elim
 |convert t1 t2 x=>
  rw[Q] at h X;have H:=de R M x (X x cq);simp only[cw] at h;split at h;rename_i k1 q1 k2 q2 k n h1 h2 L;cases h;obtain⟨d1,ac,-,al,-⟩:=(G _ _ h1).desc;obtain⟨d2,af,-,an,-⟩:=(G _ _ h2).desc;rw[al _ rfl] at ac;rw[an _ rfl] at af;simp[execOp,Q,H,L,C.ai,convert,eZ.gY ac,eZ.gY af,Conv.intToInt,K.ai];rename_i k1 q1 k2 q2 k n hn h1 h2 L;cases h;obtain⟨d1,ac,-,al,-⟩:=(G _ _ h1).desc;obtain⟨d2,af,-,an,-⟩:=(G _ _ h2).desc;rw[al _ rfl] at ac;rw[an _ rfl] at af;simp[execOp,Q,H,L,C.ai,convert,eZ.gY ac,eZ.gY af,Conv.intToInt,K.ai];exact h.elim
 |makeInterface t x=>
  rw[Q] at h X;have H:=de R M x (X x cq);simp only[cw] at h;split at h;exact h.elim;rename_i ti ba ht;cases h;have hd:=(G _ _ ht).desc;have ab:∀d,P.underlying t=U d->(∀m,d≠ .interface m)->(Instr.makeInterface t (a.eval x)).run P W=.ok (.iface t (a.eval x)) W:=by
   intro d h1 h2;simp only[Instr.makeInterface,dD,eZ.gY h1,dC];cases d<;>first|rfl|exact bB rfl (h2 _)
  have:(Instr.makeInterface t (a.eval x)).run P W=.ok (.iface t (a.eval x)) W:=by
   obtain⟨d,am,q⟩:=ti;cases d with
   |one=>obtain⟨d,h1,⟨h2,-⟩,-⟩:=hd;exact ab d h1 (λm j=>by rw[j] at h2;exact h2)
   |gI=>exact bB rfl (ba _ _)|str=>exact ab _ hd (λm j=>by cases j)|slice e=>exact ab _ hd (λm j=>by cases j)|arr n e=>exact ab _ hd (λm j=>by cases j)|struct fs=>obtain⟨F,h1,-⟩:=hd;exact ab _ h1 (λm j=>by cases j)
   |map k e=>exact ab _ hd (λm j=>by cases j)
  rw[H] at this;simp[execOp,Q,H,this,C.ai];exact h.elim
 |makeFunc fn first bE=>
  rw[Q] at h X;simp only[cw] at h;split at h;rename_i f hf;cases aa:kz f 1000000;rw[aa] at h;exact h.elim;rw[aa] at h;cases h;have a0:first= #[]:=by apply nH;simpa using hf
  subst a0;have a4:bE.map a.eval=(C.az O V (bE.toList.map (s.ev B))).toArray:=by
   apply nH;simp only[yW,oI,oX];exact ky λx L=>de R M x (X x (by simp[io];simpa using L))
  simp[execOp,Q,Instr.makeFunc,C.ai,a4,adk aa];rename_i f x hf;cases aa:kz f 1000000;rw[aa] at h;exact h.elim;rw[aa] at h;cases h;have a0:first= #[x]:=by apply nH;simpa using hf
  subst a0;have a4:bE.map a.eval=(C.az O V (bE.toList.map (s.ev B))).toArray:=by
   apply nH;simp only[yW,oI,oX];exact ky λx L=>de R M x (X x (by simp[io];exact .inr (by simpa using L)))
  have L:=de R M x (X x cq);have hb:kz (f+1000000) 1000000=false:=by
   rw[<-ak7,Nat.blt_eq];omega
  have bb:kz (f+1000000) 2000000=true:=by
   rw[Nat.blt_eq] at aa⊢;omega
  simp[execOp,Q,Instr.makeFunc,C.ai,C.az,a4,L,zt,hb,bb];exact h.elim
 |extract x i=>
  rw[Q] at h X;have H:=de R M x (X x cq);simp only[cw] at h;split at h;rename_i l L;split at h;rename_i y hy;simp only[PR.gives] at h;subst h;have:(C.az O V l).toArray[i]?=U (N.ai O V):=by simp[uB,hy]
  simp[execOp,Q,H,L,C.ai,Instr.extract,this,-ak0];exact h.elim;exact h.elim
 |nilCheck x=>
  rw[Q] at h X;have H:=de R M x (X x cq);simp only[cw] at h;split at h;rename_i i bc L;cases h;simp[execOp,Q,H,L,C.ai];rename_i r w i bc L;cases h;simp[execOp,Q,H,L,C.ai];rename_i f bE L;cases aa:kz f 2000000;rw[aa] at h;exact h.elim;rw[aa] at h;cases h;obtain⟨a1,a2,a3,e1⟩:=adl (C.az O V bE) aa;simp[execOp,Q,H,L,C.ai,e1];exact h.elim
 |slice t x lo hi mx=>
  rw[Q] at h X;exact axg R G M Q (X x cq) (λy hy=>X y (by subst hy;simp[io])) h
 |build t parts=>
  rw[Q] at h X;exact axf R G M Q (λp hp=>X p.2 (by simp[io];exact⟨p.1,by simpa using hp⟩)) h
 |lookup t x ix ok=>
  rw[Q] at h X;exact axj R G M Q (X x cq) (X ix cq) h
 |call c=>
  rw[Q] at h X;have a9:∀x∈c.args.toList,(s.ev B x).fg=false:=λx L=>X x (by simp[io,Cl];exact .inr (by simpa using L))
  cases z:c.callee with
  |builtin b=>
   cases b with|len=>exact axh R G M Q z a9 h|min=>exact al9 R M Q (.inl z) a9 h|max=>exact al9 R M Q (.inr z) a9 h|_=>simp only[cw,z,PR.gives] at h
  |value f=>simp only[cw,z,PR.gives] at h|invoke r m=>simp only[cw,z,PR.gives] at h
 |_=>rw[Q] at h;simp only[cw,PR.gives] at h
end
section
variable{p:ar}{q:World}{D:bU}{P:Program}{ty:Ty}{f:oa}{V:ar}{O:aj}{s:S}{a:Act}{W:World}
def EZ{o:Obj}(h:Q.heap[R]?=U o):R<Q.heap.size:=(lL.1 h).1
def ef.world{X:vz}{R:CJ}{W':World}(h:ef q D X x R Q)(N:∀(b:Nat)(o:Obj),Q.heap[b]?=U o->(∀L t H,o≠ .cells L t H)->W'.heap[b]?=U o):ef q D X x R W':=
 ⟨h.len,h.rY,λn l r G F B=>let⟨a,b,c⟩:=h.dK n l r G F B;⟨a,N _ _ b (λ_ _ _ h=>by cases h),c⟩,h.inj,let⟨A,a,z,b,c⟩:=h.mz;⟨A,a,z,b,λd M=>⟨N _ _ (c d M).1 (λ_ _ _ h=>by cases h),(c d M).2⟩⟩⟩
def Nd:Obj->Bool
 |.loop _|.deferred _=>J|_=>E
def amf{o:Obj}(h:Nd o=J):∀X t R,o≠ .cells X t R:=λX t R e=>by subst e;cases h
def amg{o:Obj}(h:Nd o=J):∀t l,o≠j9 t l:=by
 intro t l e;subst e;unfold j9 at h;split at h;cases h;split at h;split at h<;>cases h;split at h;split at h<;>cases h;cases h
def ef.axk{X:vz}{R:CJ}{N:World}(h:ef q D X x R Q)(M:∀(b:Nat)(o:Obj),Q.heap[b]?=U o->Nd o=J->N.heap[b]?=U o):ef q D X x R N:=
 ⟨h.len,h.rY,λn l r H G F=>let⟨a,b,c⟩:=h.dK n l r H G F;⟨a,M _ _ b rfl,c⟩,h.inj,let⟨B,a,A,b,c⟩:=h.mz;⟨B,a,A,b,λd L=>⟨M _ _ (c d L).1 rfl,(c d L).2⟩⟩⟩
def ef.below{X:vz}{R:CJ}{N:World}(h:ef q D X x R Q)(L:Below Q.heap.size Q N):ef q D X x R N:=
 h.world λb o M _=>(L.block b (EZ M)).trans M
theorem ef.cells{M:vz}{L:CJ}{H:World}(h:ef q D M x L Q){G:mR}{F:Nat×Nat}(B:Q.heap[R]?=U (.cells G X F))(A:∀b,b≠R->b<Q.heap.size->H.heap[b]?=Q.heap[b]?):ef q D M x L H:=
 h.world λb o N z=>(A b (λe=>by subst e;rw[B] at N;cases N;exact z _ _ _ rfl) (EZ N)).trans N
def bG.Kf{F:World}(h:bG Q ty y L)(B:∀b,dW ty y L b->F.heap[b]?=Q.heap[b]?)(hs:Q.heap.size<=F.heap.size):bG F ty y L:=by
 induction h with
 |sl e A R p N x w u g f ho t=>
  refine bG.sl e A R p N x w (λi M X=> ?_) g f (λi j M c z o X H n=>t i j M c z o X H n (λb r=>B b (dW.deep e _ _ i j M c z o b X H n r)));obtain⟨d,b,m,rfl,⟨gK,t0,aa,q2⟩,q3⟩:=u i M X;have ab:0<R:=by have:=(du.1 X).1;omega
  obtain⟨q,rfl⟩:∃q,R=q+1:=⟨R-1,ae⟩;have G:=B b (dW.here e ⟨b,m,Z⟩ q p N);refine⟨d,b,m,rfl,⟨gK,t0,aa,G.trans q2⟩,λj c H=> ?_⟩;have l:=q3 j c H;simp only[oF,G] at l⊢;exact l
 |str s=>exact bG.str s|bz v hv=>exact bG.bz v hv|own e L h hn t=>exact bG.own e L (t λb r=>B b (dW.own e L b r)) hn|aT L h=>exact bG.aT L h|mr sh N x w u G=>exact bG.mr sh N x w u G
def bG.lt(h:bG Q ty y L)(X:dW ty y L R):R<Q.heap.size:=by
 induction h generalizing R with
 |sl e A t r N q p H o n m M=>
  cases X with
  |here e a l c N=>
   have G:0<Y N:=ae;obtain⟨-,R,g,f,⟨_,_,_,d⟩,-⟩:=H 0 _ (dv G)
   grind
  |deep e v N i j F c z y R B x w u=>exact M i j F c z y B x w u
 |str s=>cases X|bz v hv=>cases X
 |own e L h hn M=>cases X with|own e L R X=>exact M X
 |aT L h=>cases X|mr sh N=>cases X
def bG.grow{G:World}(h:bG Q ty y L)(x:Below Q.heap.size Q G):bG G ty y L:=by
 induction h with
 |sl e A w u X R N M t r ho H=>
  refine bG.sl e A w u X R N (λi q p=> ?_) t r H;obtain⟨o,b,n,rfl,⟨gK,m,l,F⟩,g⟩:=M i q p;have B:=x.block b (EZ F);refine⟨o,b,n,rfl,⟨gK,m,l,B.trans F⟩,λj c f=> ?_⟩;have z:=g j c f;simp only[oF,B] at z⊢;exact z
 |str s=>exact bG.str s|bz v d=>exact bG.bz v d|own e L h hn H=>exact bG.own e L H hn|aT L h=>exact bG.aT L h|mr sh X R N M h4=>exact bG.mr sh X R N M h4
def jJ.lt{Q:bo}(X:jJ p q V O w ty Q W)(h:aL w R=J):ad V R<W.heap.size:=by
 unfold aL at h;obtain⟨⟨t,N⟩,M⟩:=jC.1 h;exact(lL.1 (X.box R t N M)).1
def jJ.below{N:bo}(R:jJ p q V O w ty N W)(X:Below W.heap.size W Q):jJ p q V O w ty N Q:=by
 refine⟨R.base.call X,R.own,R.inj,λi t M h=> ?_,λk e L H G=> ?_⟩;rw[X.block _ (R.lt (by simp[aL,h]))];exact R.box i t M h;obtain⟨F,B⟩:=R.ak k e L H G;exact⟨F.grow X,B⟩
def AY.lt{Q:bo}(h:AY p q V O w ty Q W R X L M):M<W.heap.size:=by
 obtain⟨N,H,db,-,G,-⟩:=h.mem
 grind
def AY.world{Q:bo}{W':World}(h:AY p q V O w ty Q W R X L M)(N:W'.heap[M]?=W.heap[M]?):AY p q V O w ty Q W' R X L M:=by
 obtain⟨H,G,db,F,B,A⟩:=h.mem;exact⟨h.own,⟨H,G,db,F,N.trans B,A⟩,h.box,h.alone,h.inner⟩
def aA.below{Q:World}(R:aA p q D ty V O s a W)(X:Below W.heap.size W Q):aA p q D ty V O s a Q:=
 ⟨R.mem.below X,R.gE,R.ei,R.eb,R.er,R.dm.below X,R.size,R.tmps,λk e N b M L H=>let t:=R.eP k e N b M L H;t.world (X.block b t.lt)⟩
theorem aA.put(R:aA p q D ty V O s a W)(X:cH)(v:C):aA p q D ty V O (s.put X v) (a.put X (v.ai O V)) W:=by
 cases X with
 |none=>exact R
 |some d=>
  refine⟨R.mem,R.gE,R.ei,R.eb,R.er,R.dm,by simp[S.put,Act.put,R.size],λt Q h=> ?_,R.eP⟩;simp only[S.put,Cp,yU] at h;simp only[Act.put];split at h
  grind [R.size]
  rename_i M;rcases R.tmps t Q h with N|N
  grind
  grind
def aA.zv(R:aA p q D ty V O s a W)(X:s.bd=J):C.dQ (Y O.i) (Y O.b) (Y O.r) (aL s.au) s.tmps=J/\C.rU (Y O.i) (Y O.b) (Y O.r) (aL s.au) s.au=true:=by
 simp only[S.bd,aC] at X;rw[R.ei,R.eb,R.er];exact X
structure oL(bx:bm)(O O':aj)(V V':ar):Prop where
 agree:jg O O' (Y O.i) (Y O.b) (Y O.r)
 li:Y O.i<=Y O'.i
 lb:Y O.b<=Y O'.b
 lr:Y O.r<=Y O'.r
 ad:∀k,aL bx k=J->ad V' k=ad V k
def oL.refl(X:bm)(O:aj)(V:ar):oL X O O V V:=⟨jg.refl _ _ _ _,cd _,cd _,cd _,λ_ _=>rfl⟩
def oL.trans{X R:bm}{O Q N:aj}{V M L:ar}(h:oL X O Q V M)(k:oL R Q N M L)(G:∀i,aL X i=J->aL R i=J):oL X O N V L:=
 ⟨h.agree.trans (k.agree.mono h.li h.lb h.lr),mg h.li k.li,mg h.lb k.lb,mg h.lr k.lr,λj H=>(k.ad j (G j H)).trans (h.ad j H)⟩
def axl(O:aj)(x:XV):Y O.i<=(O.add x).i.length/\Y O.b<=(O.add x).b.length/\Y O.r<=(O.add x).r.length:=by cases x<;>simp[aj.add]
def WE:∀(X:aZ)(O:aj),Y O.i<=(O.ext X).i.length/\Y O.b<=(O.ext X).b.length/\Y O.r<=(O.ext X).r.length
 |[],O=>by simp[aj.ext]
 |x::X,O=>by
  have R:=axl O x;have Q:=WE X (O.add x);simp only[aj.ext];omega
def CN(R:bm)(O:aj)(X:aZ)(V:ar):oL R O (O.ext X) V V:=by
 have h:=WE X O;exact⟨EU X O,h.1,h.2.1,h.2.2,λ_ _=>rfl⟩
theorem oL.ai{X:aj}{R:ar}(h:oL w k X x R)(Q:N.bd (Y k.i) (Y k.b) (Y k.r) (aL w)=J):N.ai X R=N.ai k x:=C.eh h.agree h.ad N Q
theorem oL.az{X:aj}{R:ar}(h:oL w k X x R)(Q:C.dQ (Y k.i) (Y k.b) (Y k.r) (aL w) v=J):C.az X R v=C.az k x v:=C.M3 h.agree h.ad v Q
theorem oL.bL{X:aj}{R:ar}(h:oL w k X x R)(Q:C.dQ (Y k.i) (Y k.b) (Y k.r) (aL w) v=J):C.bL X R v=C.bL k x v:=RT h.agree h.ad v Q
def eD.ext{O:aj}{N:ar}(h:eD f O)(R:oL w O k x N):eD f k:=by
 intro X M;obtain⟨Q,L⟩:=h X M;exact⟨QW Q R.lr,by rw[R.agree.r _ Q];exact L⟩
theorem E0{V:ar}{n x k:Nat}(h:k≠n):ad (V.set n x) k=ad V k:=by simp[ad,AJ (Ne.symm h)]
def E1(h:R<Y x):ad (x.set R M) R=M:=by simp[ad,h]
def uC(h:rf w R X=J):gt w R=true:=by simp only[rf,aC] at h;exact h.1
def Nf(h:rf w R X=J):mT X=false:=by simp only[rf,aC,jT] at h;exact h.2
def pn(h:gt w R=J):aL w R=E/\R<Y w:=by
 grind [aL,bT,gt]
def amh(h:gt w R=J)(O:aj)(V:ar)(x:Nat):oL w O O V (V.set R x):=
 ⟨jg.refl _ _ _ _,cd _,cd _,cd _,λk X=>E0 (λe=>by subst e;rw[(pn h).1] at X;cases X)⟩
theorem xG{x:Option (TypeId×aq)}(h:M≠R):bP (w.set R x) M=bP w M:=by simp[bT,AJ (Ne.symm h)]
theorem E2{x:TypeId×aq}(h:R<Y w):bP (w.set R (U x)) R=U x:=by simp[bT,h]
def qD{x:TypeId×aq}(h:R<Y w):aL (w.set R (U x)) M=J<->M=R\/aL w M=true:=by
 grind [aL,E2,xG]
def aA.alloc(R:aA p q D ty V O s a W){n:Nat}(v:gt s.au n=J)(t:TypeId)(F:aq)(G:s.eX F=J):
  aA p q D ty (V.set n W.heap.size) O (s.cY n t F) a (W.alloc (j9 t (C.bL O V F))):=by
 simp only[S.eX,aC] at G;obtain⟨z,G⟩:=G;obtain⟨r,o⟩:=R.zv z;rw[<-R.ei,<-R.eb,<-R.er] at G;obtain⟨m,M⟩:=pn v;have y:=amh v O V W.heap.size;have B:Below W.heap.size W (W.alloc (j9 t (C.bL O V F))):=(Below.refl _ _).alloc (cd _) _;have L:n<Y V:=by rw[R.gE];exact M
 have H:∀i,aL s.au i=J->i≠n:=λi Q e=>by subst e;rw[m] at Q;cases Q
 refine⟨⟨R.mem.base.alloc _, ?_, ?_, ?_, ?_⟩,by simp[S.cY,R.gE],R.ei,R.eb,R.er,R.dm.below B,R.size, ?_,λk e x b X N A=> ?_⟩;intro i Q;rcases(qD M).1 Q with rfl|h;rw[E1 L];exact .inl R.mem.base.size;rw[E0 (H i h)];exact R.mem.own i h;intro i j Q u h;rcases(qD M).1 Q with rfl|X;rcases(qD M).1 u with rfl|N;rfl;rw[E1 L,E0 (H j N)] at h;have:=R.mem.lt N;omega;rcases(qD M).1 u with rfl|N;rw[E1 L,E0 (H i X)] at h;have:=R.mem.lt X;omega;rw[E0 (H i X),E0 (H j N)] at h;exact R.mem.inj i j X N h;intro i w l h;by_cases X:i=n;subst X;rw[S.cY,E2 M] at h;simp at h;obtain⟨rfl,rfl⟩:=h;rw[E1 L,y.bL G];exact VA W _;rw[S.cY,xG X] at h;rw[E0 X,B.block _ (R.mem.lt (by simp[aL,h])),y.bL (tq o h)];exact R.mem.box i w l h;intro k e x X N;obtain⟨A,h4⟩:=R.mem.ak k e x X N;refine⟨A.grow B,λb z i Q=> ?_⟩;rcases(qD M).1 Q with rfl|h;rw[E1 L];have:=A.lt z;omega
 grind [E0]
 intro w g h;rcases R.tmps w g h with X|X
 grind
 right;rw[y.ai (xD r h)];exact X;have t:=R.eP k e x b X N A;obtain⟨f,d,db,c,q2,q3⟩:=t.mem;refine⟨t.own,⟨f,d,db,c,(B.block b t.lt).trans q2,q3⟩,λi Q=> ?_,t.alone,t.inner⟩;rcases(qD M).1 Q with rfl|h;rw[E1 L];have:=t.lt;omega;rw[E0 (H i h)];exact t.box i h
def A4(l:fz)(X:Nat):fz->fz
 |[]=>l|v::r=>A4 (l.set X v) (X+1) r
def adH:∀(R l:fz)(X:Nat),(A4 l X R).length=Y l
 |[],l,X=>rfl|v::R,l,X=>by rw[A4,adH];simp
theorem ami:∀(X l:aq)(R:Nat),C.az O V (mj l R X)=A4 (C.az O V l) R (C.az O V X)
 |[],l,R=>rfl
 |v::X,l,R=>by
  rw[mj,ami X,C.az,A4];congr 1;simp[oI]
def amj{v:Value}(h:jr v=J):v.oneCell'=true:=by cases v<;>simp_all[jr,Value.oneCell']
def adI(b X:Nat)(t:TypeId):∀(Q:fz)(i:Nat)(db:mR)(W:World),W.heap[b]?=U (.cells db t (0,0))->X+i+Y Q<=db.size->(∀v∈Q,jr v=J)->
  ∃R,(storeCells ⟨b,X,Z⟩ Q i).run P W=.ok () R/\R.heap[b]?=U (.cells (A4 db.toList (X+i) Q).toArray t (0,0))/\(∀k,k≠b->R.heap[k]?=W.heap[k]?)/\R.heap.size=W.heap.size/\R.os=W.os/\R.tape=W.tape/\R.output=W.output
 |[],i,db,W,N,_,_=>⟨W,rfl,by simpa[A4] using N,λ_ _=>rfl,rfl,rfl,rfl,rfl⟩
 |v::Q,i,db,W,N,H,M=>by
  simp at H;have n:X+i<db.size:=ae;have G:W.cell? ⟨b,X+i,Z⟩=U db[X+i]:=by simp[oF,N]
  have F:W.frozen? ⟨b,X+i,Z⟩=false:=by simp[VM,N]
  have B:(store ((⟨b,X,Z⟩:Addr).add i) v).run P W=.ok () (W.setCell ⟨b,X+i,Z⟩ v):=by
   rw[xE,run_store P W _ v _ (amj (M v aw)),G];simp[F]
  have A:(W.setCell ⟨b,X+i,Z⟩ v).heap[b]?=U (.cells (db.setIfInBounds (X+i) v) t (0,0)):=by
   simp[acv,QT,N]
  obtain⟨R,z,y,w,u,r,q,p⟩:=adI b X t Q (i+1) (db.setIfInBounds (X+i) v) (W.setCell ⟨b,X+i,Z⟩ v) A bS (λx o=>M x (by simp[o]));refine⟨R,by simp only[storeCells,dD,B,dC,z], ?_,λk L=>(w k L).trans (Below.heap_setCell _ _ _ _ L),u.trans aw,r,q,p⟩;rw[y,A4]
  grind
def amk(R:aA p q D ty V O s a W):∀{l:aq},GP l=J->∀v∈C.az O V l,jr v=J
 |[],_,v,X=>by simp[C.az] at X
 |x::N,h,v,X=>by
  simp only[VP,aC] at h;simp only[C.az,ey] at X;rcases X with rfl|X;have Q:=h.1;cases x<;>simp[C.single] at Q<;>try rfl
  rename_i r;exact xF R r (by cases r<;>simp_all[RE.JI]);simp only[C.ai];exact Wr _ _;simp only[C.ai];exact adp _ _ _;exact amk R h.2 v X
def aA.store(Q:aA p q D ty V O s a W){H:TypeId}(n:eZ P X t){off:Nat}{G:aq}{v:C}(M:bP s.au R=U (H,G))(fh:mT H=E)(m:Y v.cells=Y t.am)(ho:off+Y v.cells<=Y G)(l:GP v.cells=J)(u:(v.ai O V).cells.toList=C.az O V v.cells):
  ∃F,(Instr.storeAt X (.pointer (U ⟨ad V R,off,Z⟩)) (v.ai O V)).run P W=.ok () F/\aA p q D ty V O (s.cY R H (mj G off v.cells)) a F:=by
 have y:=Q.mem.box R H G M;rw[qC fh] at y;obtain⟨F,g,h2,B,f,d,c,h7⟩:=adI (P:=P) (ad V R) off H (C.az O V v.cells) 0 _ W y bS (amk Q l);have aa:(v.ai O V).cells.size=Y t.am:=by rw[<-GI,u];simp[m]
 have hi:R<Y s.au:=(du.1 (kC.1 M)).1;have A:aL s.au R=true:=by simp[aL,M]
 have z:∀j,aL (s.au.set R (U (H,mj G off v.cells))) j=J->aL s.au j=true:=λj N=>by
  rcases(qD hi).1 N with rfl|h;exact A;exact h
 refine⟨F, ?_,⟨⟨?_,λj N=>Q.mem.own j (z j N),λj k N x=>Q.mem.inj j k (z j N) (z k x), ?_, ?_⟩,by simpa[S.cY] using Q.gE,Q.ei,Q.eb,Q.er,Q.dm.cells y (λb M _=>B b M),Q.size,Q.tmps,λk e w b q1 q2 q3=> ?_⟩⟩;simp only[Instr.storeAt,Instr.sureAddr,storeVar,dD,fy,dC,n.nP,aa,u,ne_eq,not_true_eq_false,jE,g];refine⟨d.trans Q.mem.base.os,c.trans Q.mem.base.tape,h7.trans Q.mem.base.output,by rw[f];exact Q.mem.base.size,λk x hn=> ?_⟩;have ab:k≠ad V R:=by
  rintro rfl;rcases Q.mem.own R A with h|h;omega
  grind
 rw[B k ab];exact Q.mem.base.block k x hn;intro j L ac N;by_cases r:j=R
 grind [S.cY,E2,JA,JE,qC,ami]
 rw[S.cY,xG r] at N;rw[B _ (λh=>r (Q.mem.inj j R (by simp[aL,N]) A h))];exact Q.mem.box j L ac N;intro k e w af ag;obtain⟨al,o⟩:=Q.mem.ak k e w af ag;exact⟨al.Kf (λb M=>B b (λh=>o b M R A h.symm)) ae,λb M j N=>o b M j (z j N)⟩;have X:=Q.eP k e w b q1 q2 q3;have L:=X.world (W':=F) (B b (λh=>X.box R A h.symm));exact⟨L.own,L.mem,λj N=>L.box j (z j N),L.alone,L.inner⟩
end
def Ng(X:ar):∀(l:bo)(n i:Nat),(jG X n l)[i]?=(l[i]?).map λx=>if X.contains (n+i) then .aT else x
 |[],n,i=>by simp[jG]|x::R,n,0=>by simp[jG]
 |x::R,n,i+1=>by
  simp only[jG,vw];rw[Ng X R (n+1) i,show n+1+i=n+(i+1) from ae]
def Nh(X:ar):∀(l:bo)(n i:Nat),(kY X n l)[i]?=(l[i]?).map (AP (X.contains (n+i)))
 |[],n,i=>by simp[kY]|x::R,n,0=>by simp[kY]
 |x::R,n,i+1=>by
  simp only[kY,vw];rw[Nh X R (n+1) i,show n+1+i=n+(i+1) from ae]
def adJ(X:ar):∀(l:bo)(n i:Nat),(ED X n l)[i]?=(l[i]?).map (Rj (X.contains (n+i)))
 |[],n,i=>by simp[ED]|x::R,n,0=>by simp[ED]
 |x::R,n,i+1=>by
  simp only[ED,vw];rw[adJ X R (n+1) i,show n+1+i=n+(i+1) from ae]
def CO(X:ar):∀(l:bo)(n:Nat),(jG X n l).length=Y l
 |[],n=>rfl|x::R,n=>by simp[jG,CO X R (n+1)]
def CP(X:ar):∀(l:bo)(n:Nat),(kY X n l).length=Y l
 |[],n=>rfl|x::R,n=>by simp[kY,CP X R (n+1)]
def aml(X:ar):∀(l:bo)(n:Nat),(ED X n l).length=Y l
 |[],n=>rfl|x::R,n=>by simp[ED,aml X R (n+1)]
def sa(e X:RK):Prop:=X=e\/X=.aT\/∃t,e=.own t/\X=.sl t
structure rj(rs rs':bo):Prop where
 len:Y rs'=Y rs
 get:∀(k:Nat)(e':RK),rs'[k]?=U e'->∃e,rs[k]?=U e/\sa e e'
def rj.refl(X:bo):rj X X:=⟨rfl,λk e h=>⟨e,h,.inl rfl⟩⟩
def sa.trans{b c:RK}(h:sa y b)(k:sa b c):sa y c:=by
 rcases k with rfl|rfl|⟨t,rfl,rfl⟩;exact h;exact .inr (.inl rfl);rcases h with h|h|⟨R,Q,X⟩;exact .inr (.inr ⟨t,h.symm,rfl⟩);cases h;cases X
def rj.trans{a b c:bo}(h:rj a b)(k:rj b c):rj a c:=
 ⟨k.len.trans h.len,λi e X=>let⟨R,Q,N⟩:=k.get i e X;let⟨M,L,H⟩:=h.get i R Q;⟨M,L,H.trans N⟩⟩
def axm(b:Bool)(e:RK):sa e (AP b e):=by
 cases e<;>simp only[AP]
 case own t=>cases b;exact .inl rfl;exact .inr (.inr ⟨t,rfl,rfl⟩)
 all_goals exact .inl rfl
def amm(b:Bool)(e:RK):sa e (Rj b e):=by
 cases e<;>simp only[Rj]
 case own t=>cases b;exact .inr (.inl rfl);exact .inr (.inr ⟨t,rfl,rfl⟩)
 all_goals exact .inl rfl
def RZ(Q:ar)(X:bo):rj X (kY Q 0 X):=by
 refine⟨CP _ _ _,λk N h=> ?_⟩;rw[Nh] at h;cases R:X[k]? with|none=>rw[R] at h;cases h|some e=>rw[R] at h;simp only[ga,dX] at h;exact⟨e,rfl,h▸axm _ e⟩
def adK(Q:ar)(X:bo):rj X (ED Q 0 X):=by
 refine⟨aml _ _ _,λk N h=> ?_⟩;rw[adJ] at h;cases R:X[k]? with|none=>rw[R] at h;cases h|some e=>rw[R] at h;simp only[ga,dX] at h;exact⟨e,rfl,h▸amm _ e⟩
def bG.lR{X:RK}(h:bG Q l y L)(w:sa y X):bG Q l X L:=by
 rcases w with rfl|rfl|⟨t,rfl,rfl⟩;exact h;exact bG.aT L (M8 h);exact alY h
def dW.lR{X:RK}(w:sa y X)(h:dW l X L R):dW l y L R:=by
 rcases w with rfl|rfl|⟨t,rfl,rfl⟩;exact h;cases h;exact dW.own _ _ _ h
def AX.lR{d:Ty}{e R:RK}{Q:RV}{b:Nat}(w:sa e R)(h:AX d R Q b):AX d e Q b:=by
 rcases h with h|⟨⟨t,rfl⟩,h⟩;exact .inl (h.lR w);rcases w with rfl|X|⟨N,_,X⟩;exact .inr ⟨⟨t,rfl⟩,h⟩;cases X;cases X
def sa.own(w:sa y (.own X)):y=.own X:=by
 rcases w with h|h|⟨R,_,h⟩
 grind
 cases h;cases h
section
variable{p:ar}{q:World}{D:bU}{P:Program}{d:Ty}{B:oa}{V:ar}{O:aj}{s:S}{a:Act}{W:World}
def jJ.lR{X:bm}{Q N:bo}(R:jJ p q V O X d Q W)(h:rj Q N):jJ p q V O X d N W:=
 ⟨R.base,R.own,R.inj,R.box,λk e M B L=>let⟨H,G,F⟩:=h.get k e B;⟨(R.ak k H M G L).1.lR F,λb A i z=>(R.ak k H M G L).2 b (A.lR F) i z⟩⟩
def aA.lR(R:aA p q D d V O s a W){X:bo}(h:rj s.rs X):aA p q D d V O {s with rs:=X} a W:=by
 refine⟨R.mem.lR h,R.gE,R.ei,R.eb,R.er.trans h.len.symm,R.dm,R.size,R.tmps,λk e N b M L H=> ?_⟩;obtain⟨o,G,F⟩:=h.get k _ M;have:=F.own;subst this;have t:=R.eP k e N b G L H;exact⟨t.own,t.mem,t.box,λQ B A z y x w=>let⟨v,u,r⟩:=h.get Q B y;t.alone Q v A z u x (w.lR r),t.inner⟩
def aA.eG(N:aA p q D d V O s a W)(g:s.rs[R]?=U (.own X))(hr:O.r[R]?=U L)(B:W.grownBy Q L.lx):
  aA p q D d V O {s with rs:=jG [R] 0 s.rs} a Q:=by
 have m:∀M G,(jG [R] 0 s.rs)[M]?=U G->(M=R/\G=.aT)\/(M≠R/\s.rs[M]?=U G):=by
  intro M G h;rw[Ng] at h;cases f:s.rs[M]? with
  |none=>rw[f] at h;cases h
  |some x=>
   rw[f] at h;simp only[jp,ga,dX] at h;by_cases F:M=R;subst F;left;simp at h;exact⟨rfl,h.symm⟩;right;simp[F] at h;exact⟨F,by rw[h]⟩
 have y:∀b,L.lx=U b->AY p q V O s.au d s.rs W R X L b:=λb H=>N.eP R X L b g hr H
 have ab:fq p q Q:=N.mem.base.grown B (λb H=>((y b H).own).symm.imp_left alH);refine⟨⟨ab,N.mem.own,N.mem.inj,λi t cs h=> ?_,λM G A l z=> ?_⟩,N.gE,N.ei,N.eb,by simp[CO];exact N.er, ?_,N.size,N.tmps,λM G A b l z w=> ?_⟩;rw[B.block _ (N.mem.lt (by simp[aL,h])) (λH=>(y _ H.symm).box i (by simp[aL,h]) rfl)];exact N.mem.box i t cs h;rcases m M G l with⟨rfl,rfl⟩|⟨v,u⟩;refine⟨bG.aT _ ?_,λb H=>by cases H⟩;exact M8 (N.mem.ak M _ A g z).1;obtain⟨w,h4⟩:=N.mem.ak M G A u z;exact⟨w.Kf (λb H=>B.block b (w.lt H) (λF=>(y b F.symm).alone M G A v u z (.inl H))) B.size,h4⟩;cases H:L.lx with
 |none=>exact N.dm.world λb o h _=>(B.block b (EZ h) (by rw[H];simp)).trans h
 |some b0=>
  obtain⟨c,aa,db,q1,j,q3⟩:=(y b0 H).mem;exact N.dm.cells j (λb v ac=>B.block b ac (λX=>v (by rw[H] at X;cases X;rfl)))
 rcases m M _ l with⟨-,F⟩|⟨v,u⟩;cases F;have t:=N.eP M G A b u z w;have hw:Q.heap[b]?=W.heap[b]?:=B.block b t.lt (λF=>(y b F.symm).alone M _ A v u z (.inr ⟨⟨G,rfl⟩,w⟩));obtain⟨c,aa,db,q1,j,q3⟩:=t.mem;refine⟨t.own,⟨c,aa,db,q1,hw.trans j,q3⟩,t.box,λk2 e2 af g1 g2 g3 n=> ?_,t.inner⟩;rcases m k2 e2 g2 with⟨rfl,rfl⟩|⟨_,ag⟩;rcases n with n|⟨⟨t',al⟩,_⟩;cases n;cases al;exact t.alone k2 e2 af g1 ag g3 n
def aA.grown(R:aA p q D d V O s a W)(X:W.grownBy Q Z):aA p q D d V O s a Q:=
 R.below ⟨X.os,X.tape,X.output,X.size,λk N=>X.block k N aw⟩
def tu(X:bm)(O:aj)(x:XV)(V:ar):oL X O (O.add x) V V:=by
 have h:=CN X O [x] V;exact h
def Kg{v:RV}(h:(O.add (.r L)).r[R]?=U v):(R<Y O.r/\O.r[R]?=U v)\/(R=Y O.r/\v=L):=by
 grind [aj.add]
structure axn(p:ar)(q:World)(V:ar)(O:aj)(bx:bm)(d:Ty)(rs:bo)(W:World)(e:TypeId)(rv:RV)(b:Nat):Prop where
 own:q.heap.size<=b\/b∈rg q.heap.size p
 mem:∃len cap db,rv.val=.slice (U ⟨b,0,Z⟩) len cap/\W.heap[b]?=U (.cells db e (0,0))/\len<=cap/\cap<=maxLen/\db.size=cap*(bJ d (.sl e)).length
 box:∀i,aL bx i=J->ad V i≠b
 alone:∀(k':Nat)(e':RK)(rv':RV),rs[k']?=U e'->O.r[k']?=U rv'->¬AX d e' rv' b
 inner:¬oJ d e rv.ah b
theorem aA.add(R:aA p q D d V O s a W)(w:s.bd=J){N:RK}{rv:RV}(c:bG W d N rv)(hx:∀b,dW d N rv b->∀i,aL s.au i=J->ad V i≠b)
  (ho:∀(k:Nat)(e:TypeId)(H:RV)(b:Nat),s.rs[k]?=U (.own e)->O.r[k]?=U H->H.lx=U b->¬AX d N rv b)
  (u:∀e b,N=.own e->rv.lx=U b->axn p q V O s.au d s.rs W e rv b):aA p q D d V (O.add (.r rv)) {s with rs:=s.rs++[N]} a W:=by
 obtain⟨o,n⟩:=R.zv w;have A:=tu s.au O (.r rv) V;have bZ:∀{k:Nat}{e:RK},(s.rs++[N])[k]?=U e->(k<Y O.r/\s.rs[k]?=U e)\/(k=Y O.r/\e=N):=by
  grind [R.er]
 refine⟨⟨R.mem.base,R.mem.own,R.mem.inj,λi t m h=> ?_,λk e v X M=> ?_⟩,R.gE,R.ei,R.eb,by simp[aj.add,R.er],R.dm,R.size,λt l h=> ?_,λk e v b X M z=> ?_⟩;rw[A.bL (tq n h)];exact R.mem.box i t m h;rcases bZ X with⟨G,X⟩|⟨rfl,rfl⟩;rcases Kg M with⟨_,M⟩|⟨rfl,rfl⟩;exact R.mem.ak k e v X M;omega;rcases Kg M with⟨G,_⟩|⟨_,rfl⟩;omega
 grind
 rcases R.tmps t l h with X|X
 grind
 right;rw[A.ai (xD o h)];exact X;rcases bZ X with⟨G,j⟩|⟨rfl,g⟩;rcases Kg M with⟨_,f⟩|⟨rfl,rfl⟩;have t:=R.eP k e v b j f z;refine⟨t.own,t.mem,t.box,λF B H y L Q=> ?_,t.inner⟩;rcases bZ L with⟨x,L⟩|⟨x,aa⟩;rcases Kg Q with⟨_,Q⟩|⟨rfl,rfl⟩;exact t.alone F B H y L Q;omega;rcases Kg Q with⟨ab,_⟩|⟨_,ac⟩;omega
 grind
 omega;rcases Kg M with⟨G,_⟩|⟨_,rfl⟩;omega;have t:=u e b g.symm z;refine⟨t.own,t.mem,t.box,λF B H y L Q=> ?_,t.inner⟩;rcases bZ L with⟨x,L⟩|⟨rfl,_⟩;rcases Kg Q with⟨_,Q⟩|⟨rfl,rfl⟩;exact t.alone F B H L Q;omega;omega
end
variable{i:av}
structure fW(W:World)(o:Ty)(e:TypeId)(rows:av):Prop where
 len:∀(i:Nat)(row:aE),rows[i]?=U row->Y row=(bJ o (.sl e)).length
 int:∀(i j:Nat)(row:aE)(c:RV)(k:IntKind),rows[i]?=U row->row[j]?=U c->(bJ o (.sl e))[j]?=U (.int k)->∃n,c.val=.int k n
 bool:∀(i j:Nat)(row:aE)(c:RV),rows[i]?=U row->row[j]?=U c->(bJ o (.sl e))[j]?=U .bool->∃x,c.val=.bool x
 bz:∀(i j:Nat)(row:aE)(c:RV)(z:Value)(k:RK),rows[i]?=U row->row[j]?=U c->(bJ o (.sl e))[j]?=U (.bz z k)->bG W o k c
def eH(rows:av):fz:=rows.flatMap λX=>X.map RV.val
theorem CQ{w:Nat}:∀{rows:av},(∀(i:Nat)(X:aE),rows[i]?=U X->Y X=w)->(eH rows).length=Y rows*w
 |[],_=>by simp[eH]
 |r::R,h=>by
  have N:=h 0 r rfl;have M:=CQ (rows:=R) (λi X Q=>h (i+1) X (by simpa using Q))
  grind [eH,fT,oW,n9,sT]
def R6{w:Nat}:∀{rows:av},(∀(i:Nat)(row:aE),rows[i]?=U row->Y row=w)->∀{i j:Nat}{row:aE}{c:RV},rows[i]?=U row->row[j]?=U c->(eH rows)[i*w+j]?=U c.val
 |[],_,i,j,row,c,h,_=>by simp at h
 |r::Q,h,0,j,row,c,X,R=>by
  simp at X;subst X;have M:j<Y r:=(du.1 R).1;simp only[eH,awa,Nat.zero_mul,jp]
  grind
 |r::Q,h,i+1,j,row,c,X,R=>by
  have L:=h 0 r rfl;have H:=R6 (rows:=Q) (λi row N=>h (i+1) row (by simpa using N)) (i:=i) (by simpa using X) R
  grind [eH,sT]
def Ni{w:Nat}:∀{rows:av},(∀(i:Nat)(X:aE),rows[i]?=U X->Y X=w)->∀{q:Nat}{u:Value},(eH rows)[q]?=U u->∃i j X c,rows[i]?=U X/\X[j]?=U c/\q=i*w+j/\u=c.val
 |[],_,q,u,h=>by simp[eH] at h
 |r::N,h,q,u,R=>by
  have B:=h 0 r rfl;simp only[eH,awa] at R;by_cases M:q<Y r;rw[fO (by simpa using M),ep] at R;cases Q:r[q]? with|none=>rw[Q] at R;cases R|some c=>rw[Q] at R;simp at R;exact⟨0,q,r,c,rfl,Q,aw,R.symm⟩
  rw[jo bS] at R;obtain⟨i,j,X,c,L,H,A,G⟩:=Ni (rows:=N) (λi X F=>h (i+1) X (by simpa using F)) R;refine⟨i+1,j,X,c,by simpa using L,H, ?_,G⟩
  grind
def adL(a b:av):eH (a++b)=eH a++eH b:=by simp[eH]
section
variable{W W':World}{o:Ty}{e:TypeId}{rows aF:av}
def fW.zw{v:Value}(h:bG W o (.sl e) (.mk v rows)):fW W o e rows:=by
 cases h with|sl e A H G rows F B X R Q N=>exact⟨λi M L=>(X i M L).1,R,Q,N⟩
def uD{A:oY}(h:bG W o (.sl e) (.mk (.slice A R M) rows)):Y rows=R/\R<=M:=by
 cases h with|sl e A R M rows X Q N L H G=>exact⟨X,Q⟩
def R7{A:oY}(h:bG W o (.sl e) (.mk (.slice A R M) rows)):∀(q:Nat)(u:Value),(eH rows)[q]?=U u->∃b X,A=U ⟨b,X,Z⟩/\(∃Q t N,W.heap[b]?=U (.cells Q t N))/\W.cell? ⟨b,X+q,Z⟩=U u:=by
 intro q u L;have H:=fW.zw h;obtain⟨i,j,G,c,F,B,rfl,rfl⟩:=Ni H.len L;cases h with
 |sl e A R M rows z y x w v r=>
  grind
def adM(h:fW W o e rows){b X R:Nat}(N:∃M t L,W.heap[b]?=U (.cells M t L))(H:∀(q:Nat)(u:Value),(eH rows)[q]?=U u->W.cell? ⟨b,X+q,Z⟩=U u)(G:Y rows<=R):bG W o (.sl e) (.mk (.slice (U ⟨b,X,Z⟩) (Y rows) R) rows):=
 bG.sl e _ _ _ _ rfl G (λi F Q=>⟨h.len i F Q,b,X,rfl,N,λj c B=>by
  have:=H _ _ (R6 h.len Q B)
  rwa [<-Q8] at this⟩) h.int h.bool h.bz
def E3(A:oY)(Q:Nat):bG W o (.sl e) (.mk (.slice A 0 Q) []):=
 bG.sl e _ _ _ _ rfl (rP _) (λi R X=>by simp at X) (λi j R c k X=>by simp at X) (λi j R c X=>by simp at X) (λi j R c z k X=>by simp at X)
def fW.single(h:fW W o e rows):∀u∈eH rows,jr u=true:=by
 intro u L;obtain⟨q,H⟩:=sP L;obtain⟨i,j,X,c,R,Q,rfl,rfl⟩:=Ni h.len H;have F:j<(bJ o (.sl e)).length:=by rw[<-h.len i X R];exact(du.1 Q).1
 cases N:(bJ o (.sl e))[j]? with
 |none=>rw[Em] at N;omega
 |some G=>
  cases G with
  |int k=>obtain⟨n,M⟩:=h.int i j X c k R Q N;rw[M];rfl
  |bool=>obtain⟨n,M⟩:=h.bool i j X c R Q N;rw[M];rfl
  |bz z k=>exact M8 (h.bz i j X c z k R Q N)
def fW.world(h:fW W o e rows)(M:∀b,oJ o e rows b->W'.heap[b]?=W.heap[b]?)(L:W.heap.size<=W'.heap.size):fW W' o e rows:=
 ⟨h.len,h.int,h.bool,λi j X c z k R Q N=>(h.bz i j X c z k R Q N).Kf (λb H=>M b ⟨i,j,X,c,z,k,R,Q,N,H⟩) L⟩
def fW.lt(h:fW W o e rows){b:Nat}(X:oJ o e rows b):b<W.heap.size:=by
 obtain⟨i,j,R,c,z,k,Q,N,M,L⟩:=X;exact(h.bz i j R c z k Q N M).lt L
def fW.nil:fW W o e []:=⟨λi X h=>by simp at h,λi j X c k h=>by simp at h,λi j X c h=>by simp at h,λi j X c z k h=>by simp at h⟩
def R8{b:av}{X:aE}(h:(i++b)[R]?=U X):i[R]?=U X\/b[R-Y i]?=U X:=by
 grind
def fW.iC(h:fW W o e rows)(R:fW W o e aF):fW W o e (rows++aF):=
 ⟨λi Q X=>(R8 X).elim (h.len _ _) (R.len _ _),λi j Q c k X=>(R8 X).elim (h.int _ _ _ _ _) (R.int _ _ _ _ _),
  λi j Q c X=>(R8 X).elim (h.bool _ _ _ _) (R.bool _ _ _ _),λi j Q c z k X=>(R8 X).elim (h.bz _ _ _ _ _ _) (R.bz _ _ _ _ _ _)⟩
def axo(h:oJ o e (rows++aF) R):oJ o e rows R\/oJ o e aF R:=by
 obtain⟨i,j,Q,c,z,k,X,N,M,L⟩:=h;exact(R8 X).imp (λX=>⟨_,j,Q,c,z,k,X,N,M,L⟩) (λX=>⟨_,j,Q,c,z,k,X,N,M,L⟩)
def R9(h:oJ o e [] R):False:=by
 obtain⟨i,j,Q,c,z,k,X,-⟩:=h;simp at X
def Sa{v:Value}(h:oJ o e rows R):dW o (.sl e) (.mk v rows) R:=by
 obtain⟨i,j,X,c,z,k,Q,N,M,L⟩:=h;exact dW.deep e v rows i j X c z k R Q N M L
def amn{v:Value}(h:dW o (.sl e) (.mk v rows) R):(∃a X Q,v=.slice (U a) (X+1) Q/\R=a.block)\/oJ o e rows R:=by
 cases h with|here e a X Q rows=>exact .inl ⟨a,X,Q,rfl,rfl⟩|deep e v rows i j N c z k R M L H G=>exact .inr ⟨i,j,N,c,z,k,M,L,H,G⟩
end
def axp(h:dW l y (cJ y L) R):dW l y L R:=by
 cases y with
 |sl e=>
  simp only[cJ] at h;split at h;exact h;cases h with|deep e L rows i j Q c z y R X=>simp at X
 |str=>cases h|bz=>cases h
 |own e=>
  simp only[cJ] at h;split at h;exact h;cases h with
  |own e M R N=>cases N with|deep e L rows i j Q c z y R X=>simp at X
 |aT=>cases h|mr H=>cases h
def amo(h:dW l y default R):False:=by
 cases h with
 |deep e v rows i j Q c z y R X=>simp at X
 |own e M R N=>cases N with|deep e v rows i j Q c z y R X=>simp at X
def WF(h:dW l y.rd L R):dW l y L R:=by
 cases y with|own t=>exact dW.own _ _ _ h|_=>exact h
def axq{Q:Int}{j:Nat}(M:JL (bJ l (.sl X))[j]?=y)(L:y≠ .bz)(h:dW l y (cJ y (aQ i Q j)) R):oJ l X i R:=by
 have N:=axp h;simp only[aQ,di] at N;cases H:i[Q.toNat]? with
 |none=>rw[H] at N;exact(amo (by simpa using N)).elim
 |some B=>
  rw[H] at N;simp at N;cases G:B[j]? with
  |none=>rw[G] at N;exact(amo (by simpa using N)).elim
  |some c=>
   rw[G] at N;cases F:(bJ l (.sl X))[j]? with
   |none=>rw[F] at M;exact bB M.symm L
   |some A=>
    rw[F] at M;subst M;cases A with|bz z x=>exact⟨_,j,B,c,z,x,H,G,F,by simpa[JL] using N⟩|int _=>exact bB rfl L|bool=>exact bB rfl L
def WG{o:Ty}{O:aj}{s:S}{b:Nat}:∀{r:RE}{e:RK},e≠ .bz->r.kind o s=e->dW o e (r.rv O) b->
  ∃X R,r.root=U X/\s.rs[X]?=U R/\((r=.v X/\R.rd=e)\/∃t,R.rd=.sl t/\oJ o t (O.rv X).ah b)
 |.v k,e,Q,h,N=>by
  simp only[RE.kind,di] at h;cases M:s.rs[k]? with|none=>rw[M] at h;exact bB (show e=.bz from h.symm) Q|some q=>rw[M] at h;simp at h;exact⟨k,q,rfl,M,.inl ⟨rfl,h⟩⟩
 |.cell r i j y,e,Q,h,N=>by
  simp only[RE.kind] at h;split at h;rename_i H G;split at h;rename_i F;subst h;simp only[RE.rv] at N;have L:=axq F Q N;have B:dW o (.sl H) (r.rv O) b:=by
   revert L;generalize r.rv O=v;intro L;obtain⟨v,rows⟩:=v;exact Sa L
  obtain⟨X,R,A,z,x⟩:=WG (r:=r) (e:=.sl H) aw G B;refine⟨X,R,A,z,.inr ?_⟩
  grind [RE.rv]
  grind
  grind
 |.k v,e,Q,h,N=>by
  cases v<;>simp only[RE.kind] at h
  case string s=>subst h;cases N
  all_goals exact bB h.symm Q
section
variable{p:ar}{d:World}{D:bU}{P:Program}{o:Ty}{B:oa}{V:ar}{O:aj}{s:S}{a:Act}{W:World}
def uE(X:aA p d D o V O s a W)(h:s.rs[R]?=U y):O.r[R]?=U (O.rv R):=by
 grind [X.er,aj.rv]
def Hg(v:RV):RV.mk v.val v.ah=v:=by cases v;rfl
def Nj{e0:RK}(h:e0.rd=.sl X)(Q:oJ o X (O.rv R).ah M):dW o e0 (O.rv R) M:=by
 apply WF;rw[h,<-Hg (O.rv R)];exact Sa Q
def Nk(Q:aA p d D o V O s a W)(H:s.rs[R]?=U (.own X))(F:O.r[R]?=U L)(x:L.lx=U M){t:TypeId}(N:s.rs[h]?=U y)(G:y.rd=.sl t)(B:oJ o t (O.rv h).ah M):False:=by
 have A:=Q.eP R X L M H F x;by_cases z:h=R;subst z;rw[H] at N;cases N;simp only[RK.rd,RK.sl.injEq] at G;subst G;have:=uE Q H;rw[F] at this;cases this;exact A.inner B;exact A.alone h y (O.rv h) z N (uE Q N) (.inl (Nj G B))
def Sb(Q:aA p d D o V O s a W)(F:s.rs[R]?=U (.own X))(B:O.r[R]?=U L)(A:L.lx=U M){r:RE}(w:y≠ .bz)(h:r.kind o s=y)(z:dW o y (r.rv O) M):r=.v R:=by
 obtain⟨H,u,m,G,N⟩:=WG w h z;rcases N with⟨rfl,N⟩|⟨t,N,q⟩;by_cases x:H=R;rw[x];have n:=Q.eP R X L M F B A;exact bB (.inl (WF (by rw[N];exact z))) (n.alone H u (O.rv H) x G (uE Q G));exact(Nk Q F B A G N q).elim
def Kh(X:aA p d D o V O s a W){r:RE}(F:y≠ .bz)(h:r.kind o s=y)(H:dW o y (r.rv O) R):O.ph o s.rs R/\∀i,aL s.au i=J->ad V i≠R:=by
 obtain⟨N,M,A,L,Q⟩:=WG F h H;have G:dW o M (O.rv N) R:=by
  rcases Q with⟨rfl,Q⟩|⟨t,Q,B⟩;exact WF (by rw[Q];exact H);exact Nj Q B
 exact⟨⟨N,M,L,G⟩,(X.mem.ak N M _ L (uE X L)).2 R G⟩
def amp(R:aA p d D o V O s a W){k:RK}{r:RE}(h:r.fits o s k=J):bG W o k (r.rv O):=by
 unfold RE.fits at h;split at h;rename_i e;simp at h;rcases h with h|h;exact ri R aw h;unfold RE.isNil at h;split at h;exact E3 Z 0;cases h;simp at h;exact ri R aw h;cases h
def adN{r:RE}(h:r.fits o s y=J)(X:dW o y (r.rv O) R):r.kind o s=y/\y≠ .bz:=by
 unfold RE.fits at h;split at h;rename_i e;simp at h;rcases h with h|h
 grind
 unfold RE.isNil at h;split at h;simp only[RE.rv] at X;cases X with|deep e v rows i j N c z y R Q=>simp at Q
 cases h
 grind
 cases h
def Ki:∀{am:eN}{R:aq},nN o s am R=J->Y R=Y am/\∀(j:Nat)(X:CT)(v:C),am[j]?=U X->R[j]?=U v->uu o s X v=J
 |[],[],_=>⟨rfl,λj X v h=>by simp at h⟩|[],_::_,h=>by simp[nN] at h|_::_,[],h=>by simp[nN] at h
 |c::G,v::F,h=>by
  simp only[nN,aC] at h;obtain⟨M,L⟩:=Ki h.2;refine⟨by simp[M],λj X H Q N=> ?_⟩;cases j with|zero=>simp at Q N;subst Q N;exact h.1|succ j=>exact L j X H (by simpa using Q) (by simpa using N)
def amq{X:CT}(h:uu o s X N=J):N.ai O V=(N.cj O).val:=by
 unfold uu at h;split at h<;>first|rfl|cases h
structure WH(W:World)(o:Ty)(am:eN)(row:aE):Prop where
 len:Y row=Y am
 int:∀(j:Nat)(c:RV)(k:IntKind),row[j]?=U c->am[j]?=U (.int k)->∃n,c.val=.int k n
 bool:∀(j:Nat)(c:RV),row[j]?=U c->am[j]?=U .bool->∃x,c.val=.bool x
 bz:∀(j:Nat)(c:RV)(z:Value)(k:RK),row[j]?=U c->am[j]?=U (.bz z k)->bG W o k c
def fW.of(h:∀(R:Nat)(Q:aE),i[R]?=U Q->WH W o (bJ o (.sl X)) Q):fW W o X i:=
 ⟨λR Q N=>(h R Q N).len,λR j Q c k N=>(h R Q N).int j c k,λR j Q c N=>(h R Q N).bool j c,λR j Q c z k N=>(h R Q N).bz j c z k⟩
def fW.get(h:fW W o X i){Q:aE}(N:i[R]?=U Q):WH W o (bJ o (.sl X)) Q:=
 ⟨h.len R Q N,λj c k=>h.int R j Q c k N,λj c=>h.bool R j Q c N,λj c z k=>h.bz R j Q c z k N⟩
def adO(R:aA p d D o V O s a W){am:eN}(h:nN o s am v=J):WH W o am (v.map (C.cj O)):=by
 obtain⟨B,A⟩:=Ki h;have G:∀(j:Nat)(c:RV)(H:CT),(v.map (C.cj O))[j]?=U c->am[j]?=U H->∃X,uu o s H X=J/\c=X.cj O:=by
  intro j c H M L;rw[ep] at M;cases F:v[j]? with|none=>rw[F] at M;cases M|some X=>rw[F] at M;simp at M;exact⟨X,A j H X L F,M.symm⟩
 refine⟨by simpa using B,λj c k M L=> ?_,λj c M L=> ?_,λj c z k M L=> ?_⟩;obtain⟨X,N,rfl⟩:=G j c _ M L;unfold uu at N;split at N;rename_i Q;cases Q;simp at N;subst N;exact⟨_,rfl⟩;rename_i Q;cases Q;rename_i Q;cases Q;cases N;obtain⟨X,N,rfl⟩:=G j c _ M L;unfold uu at N;split at N;rename_i Q;cases Q;exact⟨_,rfl⟩;rename_i Q;cases Q;cases N;obtain⟨X,N,rfl⟩:=G j c _ M L;unfold uu at N;split at N;rename_i Q;cases Q;rename_i Q;cases Q;rename_i Q;cases Q;exact amp R N;cases N
def adP{am:eN}(h:nN o s am v=J){j:Nat}{z:Value}(Q:(v.map (C.cj O))[j]?=U L)(G:am[j]?=U (.bz z y))(M:dW o y L R):
  ∃r:RE,v[j]?=U (.ak r)/\r.kind o s=y/\y≠ .bz/\dW o y (r.rv O) R:=by
 obtain⟨A,F⟩:=Ki h;rw[ep] at Q;cases H:v[j]? with
 |none=>rw[H] at Q;cases Q
 |some X=>
  rw[H] at Q;simp at Q;subst Q;have N:=F j _ X G H;unfold uu at N;split at N
  grind
  grind
  rename_i r B;cases B;exact⟨r,rfl,(adN (O:=O) N M).1,(adN (O:=O) N M).2,M⟩;cases N
def Hh:∀{am:eN}{l:yZ},oG o s am l=J->∀(i:Nat)(X:aq),l[i]?=U X->nN o s am X=J
 |am,[],_,i,X,h=>by simp at h|am,r::Q,h,0,X,R=>by simp only[oG,aC] at h;simp at R;subst R;exact h.1|am,r::Q,h,i+1,X,R=>by simp only[oG,aC] at h;exact Hh h.2 i X (by simpa using R)
def adQ{N:bo}(h:(kY x 0 N)[R]?=U (.own X)):N[R]?=U (.own X)/\R∉x:=by
 rw[Nh] at h;cases M:N[R]? with
 |none=>rw[M] at h;cases h
 |some Q=>
  rw[M] at h;simp only[jp,ga,dX] at h;cases Q<;>simp[AP] at h
  case own t=>
   grind
def amr{N:bo}(h:(jG x 0 N)[R]?=U y):(R∈x/\y=.aT)\/(R∉x/\N[R]?=U y):=by
 rw[Ng] at h;cases M:N[R]? with
 |none=>rw[M] at h;cases h
 |some X=>
  rw[M] at h;simp only[jp,ga,dX] at h;by_cases Q:R∈x;simp[Q] at h;exact .inl ⟨Q,h.symm⟩;simp[Q] at h;exact .inr ⟨Q,by rw[h]⟩
structure Hj(W W':World)(e:TypeId)(w:Nat)(old:cH)(rows:av)(A:oY)(cap:Nat):Prop where
 le:Y rows<=cap
 nil:A=Z->cap=0
 mem:cap=0\/∃b db,A=U ⟨b,0,Z⟩/\W'.heap[b]?=U (.cells db e (0,0))/\cap<=maxLen/\db.size=cap*w/\db.toList.take (Y rows*w)=eH rows/\(W.heap.size<=b\/old=U b)
def CR(o:Ty)(V:ar)(O:aj)(s:S)(e:TypeId)(rows:av)(dl:ar):Prop:=
 ∀b,oJ o e rows b->O.ph o s.rs b/\(∀i,aL s.au i=J->ad V i≠b)/\∀(k:Nat)(t:TypeId)(X:RV),s.rs[k]?=U (.own t)->O.r[k]?=U X->X.lx=U b->k∈dl
def Nl{X:bo}(h:s.bd=J)(R:Y X=Y s.rs):({s with rs:=X}:S).bd=true:=by
 simp only[S.bd,R] at h⊢;exact h
def aA.bind(R:aA p d D o V O s a W)(hb:s.bd=J){e:TypeId}{rows:av}{kill dl:ar}{old:cH}{W':World}{A:oY}{cap:Nat}
  (hk:(kill=[]/\old=Z)\/∃k t x,kill=[k]/\s.rs[k]?=U (.own t)/\O.r[k]?=U x/\old=x.lx)(a3:∀k∈kill,k∉dl)
  (n:W.grownBy W' old)(aa:fW W o e rows)(m:CR o V O s e rows dl)(z:Hj W W' e (bJ o (.sl e)).length old rows A cap):
  aA p d D o V (O.add (.r (.mk (.slice A (Y rows) cap) rows))) {s with rs:=kY dl 0 (jG kill 0 s.rs)++[.own e]} a W'/\∀b,dW o (.sl e) (.mk (.slice A (Y rows) cap) rows) b->d.heap.size<=b\/b∈rg d.heap.size p\/O.ph o s.rs b:=by
 have ab:∀b,old=U b->(d.heap.size<=b\/b∈rg d.heap.size p)/\b<W.heap.size/\(∀i,aL s.au i=J->ad V i≠b)/\(∀M L X,M∉kill->s.rs[M]?=U L->O.r[M]?=U X->¬AX o L X b)/\¬oJ o e rows b:=by
  intro b ac;rcases hk with⟨_,h0⟩|⟨k,t,x,rfl,Q,F,y⟩
  grind
  rw[y] at ac;have j:=R.eP k t x b Q F ac;refine⟨j.own,j.lt,j.box,λM L X hn=>j.alone M L X (by simpa using hn),λG=> ?_⟩;exact a3 k aw ((m b G).2.2 k t x Q F ac)
 have R1:aA p d D o V O {s with rs:=jG kill 0 s.rs} a W':=by
  rcases hk with⟨rfl,rfl⟩|⟨k,t,x,rfl,Q,F,rfl⟩;have:jG [] 0 s.rs=s.rs:=by
   apply kX;intro i;rw[Ng];cases s.rs[i]?<;>simp
  rw[this];exact R.grown n;exact R.eG Q F n
 have R2:=R1.lR (RZ dl _);have a4:fW W' o e rows:=aa.world (λb G=>n.block b (aa.lt G) (λh=>(ab b h.symm).2.2.2.2 G)) n.size;have a9:bG W' o (.sl e) (.mk (.slice A (Y rows) cap) rows):=by
  rcases z.mem with h0|⟨b,db,rfl,Q,F,y,h4,N⟩;have H:=z.le;have:rows=[]:=ui ae;subst this;exact E3 A cap;refine adM a4 ⟨_,_,_,Q⟩ (λq u g=> ?_) z.le;rw[<-h4,pJ] at g;split at g;simp only[oF,Q,jp];simpa using g;cases g
 have af:∀b,AX o (.own e) (.mk (.slice A (Y rows) cap) rows) b->(W.heap.size<=b\/old=U b)\/oJ o e rows b:=by
  intro b H;have ba:∀w,A=U w->cap≠0->w.block=b->(W.heap.size<=b\/old=U b):=by
   intro w hA hc al;rcases z.mem with h0|⟨v,db,Q,_,_,_,_,N⟩;omega
   grind
  rcases H with H|⟨-,H⟩;cases H with
  |own e x b H=>
   rcases amn H with⟨w,bl,br,Q,rfl⟩|Q;simp at Q;exact .inl (ba w Q.1 (by have:=z.le;omega) rfl)
   grind
  grind [RV.lx,RV.pe]
 have bb:∀{k:Nat}{L:RK},(kY dl 0 (jG kill 0 s.rs))[k]?=U L->∃f,(jG kill 0 s.rs)[k]?=U f/\sa f L:=λh=>(RZ dl _).get _ _ h
 constructor;refine R2.add (Nl (Nl hb (CO _ _ _)) (CP _ _ _)) (bG.own e _ a9 (λl c h=>by cases h;exact z.nil rfl)) (λb H i G=> ?_) (λk t X b Q F y H=> ?_) (λt b ht an=> ?_);rcases af b (.inl H) with(h|h)|h;have:=R.mem.lt G;omega
 grind
 exact(m b h).2.1 i G;obtain⟨bc,bf⟩:=adQ Q;rcases amr bc with⟨_,h⟩|⟨bg,ag⟩;cases h;rcases af b H with(h|h)|h;have:=(R.eP k t X b ag F y).lt;omega;exact(ab b h).2.2.2.1 k _ X bg ag F (.inr ⟨⟨t,rfl⟩,y⟩);exact bf ((m b h).2.2 k t X ag F y);cases ht;have bs:cap≠0:=by
  intro h;subst h;simp[RV.lx] at an
 rcases z.mem with h0|⟨v,db,rfl,Q,F,y,h4,N⟩;omega;have al:v=b:=by
  obtain⟨c',rfl⟩:∃c',cap=c'+1:=⟨cap-1,ae⟩;simpa[RV.lx] using an
 subst al;have bk:∀(M:Nat)(L:RK)(X:RV),(jG kill 0 s.rs)[M]?=U L->O.r[M]?=U X->¬AX o L X v:=by
  intro M L X g1 g2 B;rcases amr g1 with⟨_,rfl⟩|⟨hn,a1⟩;rcases B with B|⟨⟨t,ht⟩,_⟩;cases B;cases ht;rcases N with N|N;rcases B with B|⟨⟨t,rfl⟩,B⟩;have:=(R.mem.ak M L X a1 g2).1.lt B;omega;have:=(R.eP M t X v a1 g2 B).lt;omega
  grind
 refine⟨?_,⟨Y rows,cap,db,rfl,Q,z.le,F,y⟩,λi G=> ?_,λM L X g1 g2 B=> ?_,λG=> ?_⟩;rcases N with N|N;exact .inl (mg R.mem.base.size N)
 grind
 rcases N with N|N;have:=R.mem.lt G;omega
 grind
 obtain⟨f,g4,hw⟩:=bb g1;exact bk M f X g4 g2 (B.lR hw);rcases N with N|N;have:=aa.lt G;omega;exact(ab v N).2.2.2.2 G;intro b H;rcases af b (.inl (dW.own _ _ _ H)) with(h|h)|h;exact .inl (mg R.mem.base.size h)
 grind
 exact .inr (.inr (m b h).1)
end
section
variable{p:ar}{d:World}{D:bU}{P:Program}{o:Ty}{V:ar}{O:aj}{s:S}{a:Act}{W:World}
def mZ(A:oY)(X:Nat):cH:=match A,X with|U a,_+1=>U a.block|_,_=>Z
def Nn(A:oY)(n X:Nat)(R:av):(RV.mk (.slice A n X) R).lx=mZ A X:=by
 cases A<;>cases X<;>rfl
structure Kj(W:World)(e:TypeId)(w:Nat)(A:oY)(cap:Nat):Prop where
 nil:A=Z->cap=0
 mem:cap=0\/∃b db,A=U ⟨b,0,Z⟩/\W.heap[b]?=U (.cells db e (0,0))/\cap<=maxLen/\db.size=cap*w
def adR{e:TypeId}{X:av}{b n R:Nat}{db:mR}{t:TypeId}{Q:Nat×Nat}(h:bG W o (.sl e) (.mk (.slice (U ⟨b,0,Z⟩) n R) X))(N:W.heap[b]?=U (.cells db t Q)):
  db.toList.take (Y X*(bJ o (.sl e)).length)=eH X:=by
 have G:=CQ (fW.zw h).len;have F:∀(q:Nat)(u:Value),(eH X)[q]?=U u->db[q]?=U u:=by
  intro q u M;obtain⟨B,A,L,z,H⟩:=R7 h q u M;cases L;simpa[oF,N] using H
 apply kX
 grind
def axr{e t t2 tyR:TypeId}{G:TI}(a3:eZ P e G)(hw:Y G.am≠0)(ab:(bJ o (.sl e)).length=Y G.am)(r:P.underlying t=U (.slice e))(p:P.underlying t2=U (.slice e))
  {L N:av}{H n:oY}{X Q R cap2:Nat}(B:bG W o (.sl e) (.mk (.slice H X Q) L)){old:cH}(hr:(Kj W e (Y G.am) H Q/\old=mZ H Q)\/(X=Q/\0<R))
  (ac:Y N=R)(a4:fW W o e N)(a9:∀(q:Nat)(u:Value),(eH N)[q]?=U u->∃m,n=U m/\W.cell? (m.add q)=U u)
  (b8:X<=536870912)(ca:R<=536870912):
  ∃A ba W',(Builtin.append_ #[t,t2] tyR #[.slice H X Q,.slice n R cap2]).run P W=.ok (.slice A (X+R) ba) W'/\W.grownBy W' old/\Hj W W' e (Y G.am) old (L++N) A ba:=by
 obtain⟨i,y,w,z,hz,bf⟩:=a3.M4;have bg:=a3.bytes i y;have bk:z.cells.size=Y G.am:=by rw[<-GI,bf];simp
 obtain⟨dY,cc⟩:=uD B;have bl:=fW.zw B;have bb:(eH L).length=X*i.size:=by rw[CQ bl.len,dY,ab,w]
 have af:(eH N).length=R*i.size:=by rw[CQ a4.len,ac,ab,w]
 have ag:(eH (L++N)).length=(X+R)*Y G.am:=by rw[adL,fT,bb,af,w,sT]
 have l:(L++N).length=X+R:=by simp[dY,ac]
 have al:∀M:World,(∀x,M.cell? x=W.cell? x)->(Builtin.firstCells i.size R (.slice n R cap2)).run P M=.ok (eH N).toArray M:=by
  intro M g;cases n with
  |none=>
   have:eH N=[]:=by
    cases hq:eH N with|nil=>rfl|cons x xs=>obtain⟨m,h,_⟩:=a9 0 x (by rw[hq];rfl);cases h
   rw[run_firstCells_none,this]
  |some a2=>
   refine run_firstCells_some M i.size R a2 R cap2 _ af (λj v hj=> ?_);obtain⟨m,h,h'⟩:=a9 j v hj;cases h;rw[g];exact h'
 have br:∀M:World,(∀x,M.cell? x=W.cell? x)->(Builtin.firstCells i.size X (.slice H X Q)).run P M=.ok (eH L).toArray M:=by
  intro M g;cases H with
  |none=>
   have:eH L=[]:=by
    cases hq:eH L with|nil=>rfl|cons x xs=>obtain⟨b,bs,h,_⟩:=R7 B 0 x (by rw[hq];rfl);cases h
   rw[run_firstCells_none,this]
  |some f=>
   refine run_firstCells_some M i.size X f X Q _ bb (λj v hj=> ?_);obtain⟨b,bs,h,_,h'⟩:=R7 B j v hj;cases h;rw[g,xE];exact h'
 by_cases d:X+R<=Q
 
 obtain⟨bt,rfl⟩:Kj W e (Y G.am) H Q/\old=mZ H Q:=hr.resolve_right λq=>by have:=q.1;have:=q.2;omega
 rcases Jz Q with h0|h0;have e1:X=0:=ae;have e2:R=0:=ae;subst h0 e1 e2;have r1:L=[]:=ui dY;have r2:N=[]:=ui ac;subst r1 r2;refine⟨H,0,W, ?_,⟨rfl,rfl,rfl,cd _,λ_ _ _=>rfl⟩,⟨cd _,λ_=>rfl,.inl rfl⟩⟩;have F:=al W (λ_=>rfl);have aa:∀f:Addr,(storeCells f [] 0).run P W=.ok () W:=λ_=>rfl
 cases H with|none=>simp[Builtin.append_,run_underlying r,run_underlying p,Go.sizeOf,typeInfo,y,Builtin.lenOf,F,eH]|some f=>simp[Builtin.append_,run_underlying r,run_underlying p,Go.sizeOf,typeInfo,y,Builtin.lenOf,F,eH,aa]
 rcases bt.mem with g|⟨b,db,rfl,hg,an,bx⟩;omega;have b0:X*i.size+(eH N).length<=db.size:=by rw[af,bx,<-sT,w];exact GG _ d
 have F:=al W (λ_=>rfl);have aa:=run_storeCells_at P b (X*i.size) e (eH N) 0 db W hg (by simpa using b0) (λu hu=>amj (a4.single u hu));simp only[yX] at aa;have bc:mZ (U ⟨b,0,Z⟩) Q=U b:=by cases Q with|zero=>omega|succ c=>rfl
 refine⟨U ⟨b,0,Z⟩,Q,W.setRow b (db.toList.take (X*i.size)++eH N++db.toList.drop (X*i.size+(eH N).length)).toArray, ?_,⟨rfl,rfl,rfl,by simp[World.setRow],λk _ hk=>setRow_other W b k _ (λh=>hk (by rw[bc,h]))⟩,
  ⟨by rw[l];exact d,aw,.inr ⟨b,_,rfl,setRow_heap W b db _ e _ hg,an, ?_, ?_,.inr bc⟩⟩⟩
 simp[Builtin.append_,run_underlying r,run_underlying p,Go.sizeOf,typeInfo,y,Builtin.lenOf,d,F,Addr.add_lit,aa];simp only[Mq,fT,Mr,Cj,GI];omega;have bd:=adR B hg;rw[dY,ab,<-w] at bd;rw[l,bd,<-adL,<-ag];exact List.take_left
 
 have b1:X+R<=1073741824:=ae;have b2:(X+R)*i.bytes<=140737488355328:=by
  have:(X+R)*i.bytes<=1073741824*131072:=Mt b1 bg;omega
 have cf:=growslice_fits (show Q<X+R from ae) b2;have b3:X+R<=maxLen:=by simp only[maxLen];omega
 have b4:=grownCap_ge W (X+R) Q e;have an:=grownCap_le_maxLen W (X+R) Q e b3;have F:=al W.drew (λ_=>aw);have b5:=br W.drew (λ_=>aw);have b6:¬(9223372036854775807<((X:Int)+(R:Int))):=ae;have b7:¬(281474976710656<Builtin.nextslicecap (X+R) Q*i.bytes):=ae;refine⟨U ⟨W.heap.size,0,Z⟩,grownCap W (X+R) Q e,W.drew.alloc (.cells ((eH (L++N)).toArray++Builtin.zeroCells z.cells (grownCap W (X+R) Q e-(X+R))) e), ?_,
  ⟨rfl,rfl,rfl,aw,λk hk _=>Below.heap_alloc W.drew _ _ hk⟩,⟨by rw[l];exact b4,aw,.inr ⟨W.heap.size,_,rfl,VA W.drew _,an, ?_, ?_,.inl (cd _)⟩⟩⟩
 simp[Builtin.append_,run_underlying r,run_underlying p,Go.sizeOf,typeInfo,zeroValue,y,hz,Builtin.lenOf,d,b6,b7,Question.forced,F,b5,newRow,grownCap];congr 2;apply nH;simp[Ci,adL];simp only[Array.size_append,Mq,size_zeroCells,bk,ag,<-sT];congr 1;omega;simp only[Array.toList_append,l,<-ag];exact List.take_left
end
structure bC(s:S)(O:aj)(V:ar)(s':S)(O':aj)(V':ar):Prop where
 ext:oL s.au O O' V V'
 mono:∀i,aL s.au i=J->aL s'.au i=J
 len:Y s.au<=Y s'.au
 ax:s.ax<=s'.ax
def bC.refl(s:S)(O:aj)(V:ar):bC s O V s O V:=⟨oL.refl _ _ _,λ_ h=>h,cd _,cd _⟩
def bC.trans{s s' X:S}{O R Q:aj}{V N M:ar}(h:bC s O V s' R N)(k:bC s' R N X Q M):bC s O V X Q M:=
 ⟨h.ext.trans k.ext h.mono,λi L=>k.mono i (h.mono i L),mg h.len k.len,mg h.ax k.ax⟩
theorem bC.put{s s':S}{X:aj}{R:ar}(h:bC s k x s' X R)(d:cH)(v:C):bC s k x (s'.put d v) X R:=by
 cases d<;>exact⟨h.ext,h.mono,h.len,h.ax⟩
def OR.gives(O:aj)(X:S):OR->Prop
 |.ok x=>X=x|.aS b x=>b.ai O=J/\X=x|.split b R Q=>X=if b.ai O then R else Q|.no _=>False
def tw(P:Program)(o:Oper)(a:Act)(W:World)(v:Value)(X:World):Prop:=
 (execOp a.eval o).run P W=.ok (.value v) X\/((execOp a.eval o).run P W=.ok .skip X/\v=undef)
def adS{s:S}(h:gt s.au R=J)(t:TypeId)(X:aq)(d:cH)(v:C):bC s k x ((s.cY R t X).put d v) k (x.set R M):=by
 refine bC.put (s':=s.cY R t X) ⟨amh h k x M,λi Q=>(qD (pn h).2).2 (.inr Q),by simp[S.cY],by simp[S.cY]⟩ d v
def ams{s:S}{N:aq}(h:bP s.au R=U (X,v))(d:cH)(Q:C):bC s k x ((s.cY R X N).put d Q) k x:=by
 refine bC.put (s':=s.cY R X N) ⟨oL.refl _ _ _,λi M=>(qD (du.1 (kC.1 h)).1).2 (.inr M),by simp[S.cY],by simp[S.cY]⟩ d Q
def bC.lk{s X:S}{R:aj}{Q:ar}(h:bC s k x X R Q)(n:Nat):bC s k x {X with lk:=n} R Q:=⟨h.ext,h.mono,h.len,h.ax⟩
section
variable{g:ar}{u:World}{D:bU}{P:Program}{f:bv}{V:ar}{O:aj}{s:S}{a:Act}{W:World}
def aA.lk(R:aA g u D f.ty V O s a W)(n:Nat):aA g u D f.ty V O {s with lk:=n} a W:=⟨R.mem,R.gE,R.ei,R.eb,R.er,R.dm,R.size,R.tmps,R.eP⟩
def CU{s X:S}{d:cH}{r:PR}(h:(xu s d R r).gives k X):∃v,r.gives k v/\X=s.dI d v R:=by
 cases r with
 |ok v=>exact⟨v,rfl,h⟩
 |aS b v=>
  simp only[xu] at h;split at h;exact⟨v,⟨h.1,rfl⟩,h.2⟩;exact h.elim
 |no w=>exact h.elim
def amt(n:Nat)(l:aq):(zi n l).length=n*Y l:=by
 induction n with|zero=>simp[zi]|succ n X=>simp[zi,X,sT];omega
def adT(l:aq):∀(n k:Nat),k<n*Y l->(zi n l)[k]?=l[k%Y l]?
 |0,k,h=>by simp at h
 |n+1,k,h=>by
  have X:0<Y l:=by
   grind
  rw[zi];by_cases R:k<Y l
  grind [Nat.mod_eq_of_lt]
  rw[jo ae,adT l n (k-Y l) (by rw[sT] at h;omega)];congr 1;have:k=(k-Y l)+Y l:=ae
  conv=>rhs;rw[this,Nat.add_mod_right]
def Sc(R:aA g u D f.ty V O s a W)(B:jx P f.ty)(F:eD f.gl O)(m:OM){s':S}(h:(gJ f m s).gives O s'):
  ∃v W' V',tw P m.o a W v W'/\aA g u D f.ty V' O s' (a.put m.o.dst v) W'/\bC s O V s' O V':=by
 unfold gJ at h;split at h;exact h.elim;rename_i Q;have Q:∀x∈m.o.op.operands.toList,(s.ev f.gl x).fg=false:=by
  intro x hx;cases hh:(s.ev f.gl x).fg;rfl;exact bB (nF.2 ⟨x,hx,hh⟩) Q
 split at h
 
 rename_i t X;split at h;rename_i ti r;split at h;rename_i N;simp only[aC] at N;cases h;obtain⟨z,ac,af⟩:=M9 (P:=P) (W:=W) (O:=O) (V:=V) (B _ _ r);have G:=R.alloc (uC N.2) t (et ti) N.1;rw[qC (Nf N.2)] at G;have j:=pn (uC N.2);refine⟨.pointer (U ⟨W.heap.size,0,Z⟩),W.alloc (.cells (C.az O V (et ti)).toArray t),V.set m.ix W.heap.size,.inl ?_, ?_,adS (uC N.2) _ _ _ _⟩;rw[<-af];simp[execOp,X,Instr.alloc,ac,newVar,newRow];have:=G.put m.o.dst (.loc m.ix 0);rw[C.ai,E1 (by rw[R.gE];exact j.2)] at this;exact this;exact h.elim;exact h.elim
 
 rename_i t x X;rw[X] at Q;have he:=de R F x (Q x cq);split at h;rename_i ti r;split at h;rename_i N;simp only[aC] at N;cases h;obtain⟨⟨⟨-,d⟩,h2⟩,H⟩:=N;have ag:=WC (O:=O) (V:=V) (xF R) h2;have G:=R.alloc (uC H) t (s.ev f.gl x).cells d;rw[qC (Nf H)] at G;have j:=pn (uC H);refine⟨.pointer (U ⟨W.heap.size,0,Z⟩),W.alloc (.cells (C.az O V (s.ev f.gl x).cells).toArray t),V.set m.ix W.heap.size,.inl ?_, ?_,adS (uC H) _ _ _ _⟩;rw[<-ag];simp[execOp,X,Instr.box,newVar,newRow,he];have:=G.put m.o.dst (.loc m.ix 0);rw[C.ai,E1 (by rw[R.gE];exact j.2)] at this;exact this;exact h.elim;exact h.elim
 
 rename_i t L parts X;rw[X] at Q;have a3:(parts.map λ(i,x)=>(i,a.eval x)).toList=(parts.toList.map λp=>(p.1,s.ev f.gl p.2)).map λp=>(p.1,p.2.ai O V):=by
  simp only[yW,oX];apply ky;intro p hp;have:=de R F p.2 (Q p.2 (by simp[io];exact⟨p.1,by simpa using hp⟩));simp[this]
 split at h;rename_i e am q r;split at h;rename_i M al;split at h;rename_i l hf;split at h;rename_i N;simp only[aC,dq] at N;cases h;obtain⟨⟨d,h2⟩,H⟩:=N;have hd:P.underlying t=U (.slice e):=(B _ _ r).desc;obtain⟨z,ac,af⟩:=M9 (P:=P) (W:=W) (O:=O) (V:=V) (B _ _ al);have a4:=RX (V:=V) (xF R) _ _ _ _ hf;have aa:(et M).length=Y M.am:=by simp[et]
 have hzero:((ald (L*Y M.am)).map ((if L*Y M.am=0 then #[] else z.cells)[· %(if L*Y M.am=0 then #[] else z.cells).size]!))=(C.az O V (zi L (et M))).toArray:=by
  apply nH;apply kX;intro k;by_cases ab:k<L*Y M.am;have bb:¬L*Y M.am=0:=ae;have bc:0<Y M.am:=by
   rcases Jz (Y M.am) with A|A;rw[A] at ab;simp at ab;exact A
  have a9:k%Y M.am<(C.az O V (et M)).length:=by rw[M1,aa];exact Ra _ bc
  simp only[bb,jE,af,yW,av6,ep,Ep ab,ga,uB,adT _ _ _ (by rw[aa];exact ab),aa];rw[<-uB,dv a9];simp only[Mq,M1,aa];rw[getElem!_pos _ _ (by simpa using a9)];simp;rw[uk bS,uk (by simp[amt,aa];omega)]
 have G:=R.alloc (uC H) e l d;rw[qC (Nf H)] at G;have j:=pn (uC H);refine⟨.slice (U ⟨W.heap.size,0,Z⟩) L L,W.alloc (.cells (C.az O V l).toArray e),V.set m.ix W.heap.size,.inl ?_, ?_,adS (uC H) _ _ _ _⟩;have ba:¬L*Y M.am>2^24:=ae;by_cases A:L*Y M.am=0;simp only[aH A] at hzero;simp only[execOp,X,Instr.buildSlice,dD,eZ.gY hd,dC,(B _ _ al).nP,ba,jE,fy,aH A,a3];rw[hzero,a4];simp[newRow];simp only[aJ A] at hzero;simp only[execOp,X,Instr.buildSlice,dD,eZ.gY hd,dC,(B _ _ al).nP,ba,jE,fy,aJ A,a3,ac];rw[hzero,a4];simp[newRow];have:=G.put m.o.dst (.iP m.ix 0 L L);rw[C.ai,E1 (by rw[R.gE];exact j.2)] at this;exact this;exact h.elim;exact h.elim;exact h.elim;exact h.elim
 
 rename_i t x y X;rw[X] at Q;have an:=de R F x (Q x cq);have a0:=de R F y (Q y cq);split at h;rename_i ti i bf r hx;split at h;rename_i bt cs n;split at h;rename_i N;simp only[aC,gc,dq] at N;cases h;obtain⟨⟨⟨⟨d,h2⟩,H⟩,h4⟩,-⟩:=N;have ag:=WC (O:=O) (V:=V) (xF R) h4;obtain⟨n,bd⟩:=AZ n;obtain⟨W',hr,G⟩:=R.store (B _ _ r) n bd d h2 H ag;refine⟨undef,W',V,.inr ⟨?_,rfl⟩,G.put m.o.dst (.bI []),ams n _ _⟩;simp only[execOp,X,an,a0,hx,C.ai,dD,hr,dC,fy];exact h.elim;exact h.elim;exact h.elim
 
 rename_i c x y X;rw[X] at Q;have a1:=de R F c (Q c cq);have an:=de R F x (Q x cq);have a0:=de R F y (Q y cq);split at h;rename_i b n;simp only[OR.gives] at h;rw[n,C.ai] at a1;cases w:b.ai O;simp only[w,iZ,jE] at h;subst h;refine⟨_,W,V,.inl ?_,R.put _ _,(bC.refl _ _ _).put _ _⟩;simp[execOp,X,a1,w,asBool,a0];simp only[w,dP] at h;subst h;refine⟨_,W,V,.inl ?_,R.put _ _,(bC.refl _ _ _).put _ _⟩;simp[execOp,X,a1,w,asBool,an];exact h.elim
 
 rename_i t x X;obtain⟨v,w,rfl⟩:=CU h;exact⟨v.ai O V,W,V,.inl (ame R B F m.o Q (by rw[X];exact w)),(R.lk _).put _ _,((bC.refl _ _ _).lk _).put _ _⟩
 
 obtain⟨v,w,rfl⟩:=CU h;exact⟨v.ai O V,W,V,.inl (ame R B F m.o Q w),(R.lk _).put _ _,((bC.refl _ _ _).lk _).put _ _⟩
theorem aA.room{g:ar}{u:World}{D:bU}{V:ar}{O:aj}{s:S}{a:Act}{W:World}(R:aA g u D f.ty V O s a W)(n:Nat):
  aA g u D f.ty (V++ew n 0) O (s.room n) a W/\bC s O V (s.room n) O (V++ew n 0):=by
 have X:∀k,ad (V++ew n 0) k=ad V k:=by
  grind [ad]
 have G:∀i,bP (s.au++ew n Z) i=bP s.au i:=by
  grind [bT]
 have N:∀i,aL (s.au++ew n Z) i=aL s.au i:=λi=>by simp[aL,G]
 have B:=jg.refl O (Y O.i) (Y O.b) (Y O.r);have F:∀v,C.ai O (V++ew n 0) v=v.ai O V:=by
  intro v;have:ad (V++ew n 0)=ad V:=funext X;exact Wt this v
 have q:∀l,C.az O (V++ew n 0) l=C.az O V l:=λl=>by simp only[oI];exact ky λv _=>F v
 refine⟨⟨⟨R.mem.base,λi Q=> ?_,λi j Q A=> ?_,λi t z h=> ?_,λk e M L H=> ?_⟩,by simp[S.room,R.gE],R.ei,R.eb,R.er,R.dm,R.size,λt y h=> ?_,λk e M b L H x=> ?_⟩,⟨⟨B,cd _,cd _,cd _,λk _=>X k⟩,λi Q=> ?_,by simp[S.room],cd _⟩⟩;rw[X];exact R.mem.own i (by rw[<-N];exact Q);rw[X,X];exact R.mem.inj i j (by rw[<-N];exact Q) (by rw[<-N];exact A);rw[X,alN (funext X)];exact R.mem.box i t z (by rw[<-G];exact h);refine⟨(R.mem.ak k e M L H).1,λb w i Q=> ?_⟩;rw[X];exact(R.mem.ak k e M L H).2 b w i (by rw[<-N];exact Q);rw[F];exact R.tmps t y h;have t:=R.eP k e M b L H x;exact⟨t.own,t.mem,λi Q=>by rw[X];exact t.box i (by rw[<-N];exact Q),t.alone,t.inner⟩
 grind [S.room]
end
section
variable{p:ar}{g:World}{D:bU}{P:Program}{cf:bv}{V:ar}{O:aj}{s:S}{a:Act}{W:World}
def A5{d:cH}{aS:BE}{R:LE}{dl:ar}{b:BI}(h:kZ s d aS X y R x dl=U b):
  s.bd=J/\(∀y∈x,y∉dl)/\b=⟨aS,X,R,({s with rs:=kY dl 0 (jG x 0 s.rs)++[y]}:S).put d (.ak (.v (Y s.rs)))⟩:=by
 unfold kZ at h
 grind
def Kk{X:S}(N:aA p g D l V (O.add (.r L)) X a Q)(M:Y O.r=R)(d:cH):aA p g D l V (O.add (.r L)) (X.put d (.ak (.v R))) (a.put d L.val) Q:=by
 have:=N.put d (.ak (.v R));have e:C.ai (O.add (.r L)) V (.ak (.v R))=L.val:=by subst M;simp[C.ai,RE.ai,RE.rv,aj.rv,aj.add]
 grind
def Hk{rv:RV}(X:bo)(d:cH)(v:C):bC s O V (({s with rs:=X}:S).put d v) (O.add (.r rv)) V:=
 bC.put (s:=s) (s':={s with rs:=X}) ⟨tu _ _ _ _,λ_ h=>h,cd _,cd _⟩ d v
def Sd{n:K}(h:(JT n).ai O=J):n.ai O<=536870912:=by
 grind [EX,fp,K.ai,ME,JT]
def No(P:Program)(p:ar)(g:World)(D:bU)(R:Ty)(V:ar)(O:aj)(s:S)(a:Act)(W:World)(o:Oper)(b:BI):Prop:=
 ∃v Q X,tw P o a W v Q/\Kc R p g b.e b.x s.rs O X/\aA p g D R V (O.add (.r X)) b.s (a.put o.dst v) Q/\bC s O V b.s (O.add (.r X)) V
def Se(Q:aA p g D cf.ty V O s a W)(h:s.rs[R]?=U (.own X)):∃A n N,O.rv R=.mk (.slice A n N) (O.rv R).ah/\bG W cf.ty (.sl X) (.mk (.slice A n N) (O.rv R).ah)/\Kj W X (bJ cf.ty (.sl X)).length A N:=by
 have M:=adw Q h;have y:=uE Q h;have H:=λb G=>Q.eP R X _ b h y G
 revert M H;generalize O.rv R=x;intro M H;cases M with
 |own X x M F=>
  cases M with
  |sl X A L N B w v u t G r=>
   refine⟨A,L,N,rfl,bG.sl X A L N B w v u t G r,λq=>F L N (by rw[q];rfl), ?_⟩;rcases Jz N with o|o;omega;right;cases A with
   |none=>have:=F L N rfl;omega
   |some z=>
    have m:(RV.mk (.slice (U z) L N) B).lx=U z.block:=by rw[Nn];cases N with|zero=>omega|succ c=>rfl
    obtain⟨l,j,db,i,f,d,g4,g5⟩:=(H _ m).mem
    grind [RV.pe,Value.slice.injEq]
def axs(R:aA p g D cf.ty V O s a W){u:LE}{i:BE}(h:xt cf.ty s X r N=U (u,i,x))(d:i.ai O=J):
  ∃A n L,N.ai O V=.slice A n L/\bG W cf.ty (.sl X) (.mk (.slice A n L) (u.ah O))/\n<=536870912/\
   (∃q,((Kj W X (bJ cf.ty (.sl X)).length A L/\q=mZ A L)\/(n=L/\∃f l,N=.fn f l))/\((x=[]/\q=Z)\/∃k t F,x=[k]/\s.rs[k]?=U (.own t)/\O.r[k]?=U F/\q=F.lx))/\∀dl,CR cf.ty V O s X (u.ah O) dl:=by
 unfold xt at h;split at h;rename_i k;split at h;rename_i hc;cases h;have G:=hc.1;obtain⟨A,n,L,B,c,o⟩:=Se R G;have H:=Sd d;refine⟨A,n,L,by simp only[C.ai,RE.ai,RE.rv];rw[B];rfl,by simpa[LE.ah,RE.rv] using c, ?_,⟨_,.inl ⟨o,rfl⟩,.inr ⟨k,X,O.rv k,rfl,G,uE R G,by rw[B,Nn]⟩⟩,λdl b M=> ?_⟩;simp only[K.ai,RE.rv] at H;rw[B] at H;simp[lenOf] at H;omega;simp only[LE.ah,RE.rv] at M;have z:=Nj (O:=O) (e0:=.own X) rfl M;refine⟨⟨k,_,G,z⟩,(R.mem.ak k _ _ G (uE R G)).2 b z,λk' t F g1 g2 g3=>(Nk R g1 g2 g3 G rfl M).elim⟩;cases h;rename_i Q ac;split at h;rename_i aa;cases h;unfold RE.isNil at aa;split at aa;refine⟨Z,0,0,rfl,E3 _ _,ae,⟨_,.inl ⟨⟨λ_=>rfl,.inl rfl⟩,rfl⟩,.inl ⟨rfl,rfl⟩⟩,λdl b M=>(R9 (by simpa[LE.ah] using M)).elim⟩
 grind
 cases h;cases h;refine⟨_,0,0,rfl,E3 _ _,ae,⟨_,.inl ⟨⟨aw,.inl rfl⟩,rfl⟩,.inl ⟨rfl,rfl⟩⟩,λdl b M=>(R9 (by simpa[LE.ah] using M)).elim⟩;rename_i Q;split at h;rename_i y;cases h;have m:=ri R aw y;have H:=Sd d;simp only[K.ai] at H;have j:∀dl,CR cf.ty V O s X (Q.rv O).ah dl:=by
  intro dl b M;have z:dW cf.ty (.sl X) (Q.rv O) b:=by rw[<-Hg (Q.rv O)];exact Sa M
  obtain⟨q1,q2⟩:=Kh R aw y z;refine⟨q1,q2,λk' t F w k2 k3=> ?_⟩;have:=Sb R w k2 k3 aw y z;subst this;simp only[RE.kind,di,w,yV,RK.rd,RK.sl.injEq] at y;subst y;exact(Nk R w k2 k3 w rfl M).elim
 have hd:(C.fn 3000000 [.ak Q]).ai O V=adj (Q.rv O).val:=rfl;rw[hd];simp only[LE.ah];revert m H j;generalize Q.rv O=F;intro m H j;cases m with
 |sl X A v L ab B c o hi M ho=>
  exact⟨A,v,v,rfl,bG.sl X A v v ab B (cd _) o hi M ho,by simp[lenOf] at H;omega,⟨Z,.inr ⟨rfl,_,_,rfl⟩,.inl aw⟩,j⟩
 cases h;cases h
def WI{w:Nat}:∀{n:Nat}{l:aq}{i:Nat}{X:aq},(j8 w n l)[i]?=U X->X=(l.drop (i*w)).take w/\i<n
 |0,l,i,X,h=>by simp[j8] at h|n+1,l,0,X,h=>by simp[j8] at h;subst h;exact⟨aw,ae⟩
 |n+1,l,i+1,X,h=>by
  simp only[j8,vw] at h;obtain⟨R,Q⟩:=WI h
  grind [Q7,sT]
def WJ(w:Nat):∀(n:Nat)(l:aq),(j8 w n l).length=n
 |0,l=>rfl|n+1,l=>by simp[j8,WJ w n]
def WK:∀{l:aq}{r:RE}{k:Nat},C.ak r∈l->r.root=U k->k∈C.qo l
 |[],r,k,h,_=>by simp at h
 |x::R,r,k,h,X=>by
  simp only[C.qo,fc];rcases ey.1 h with rfl|h;left;simp[C.acM,X];right;exact WK h X
def amu(R:aA p g D cf.ty V O s a W){l:yZ}{dl:ar}(B:oG cf.ty s (bJ cf.ty (.sl X)) l=J)(A:∀N∈l,∀(r:RE)(k:Nat),C.ak r∈N->r.root=U k->k∈dl):
  CR cf.ty V O s X (l.map λN=>N.map (C.cj O)) dl:=by
 intro b ⟨i,j,N,c,z,k,Q,y,x,w⟩;rw[ep] at Q;cases M:l[i]? with
 |none=>rw[M] at Q;cases Q
 |some L=>
  rw[M] at Q;simp at Q;subst Q;obtain⟨r,v,H,G,F⟩:=adP (Hh B i L M) y x w;obtain⟨u,q⟩:=Kh R G H F;refine⟨u,q,λh t f o n m=> ?_⟩;have:=Sb R o n m G H F;subst this;exact A L (jD M) _ _ (jD v) rfl
def adU(R:aA p g D cf.ty V O s a W){l:yZ}(M:oG cf.ty s (bJ cf.ty (.sl X)) l=J):fW W cf.ty X (l.map λN=>N.map (C.cj O)):=by
 refine fW.of (λi N Q=> ?_);rw[ep] at Q;cases h:l[i]? with|none=>rw[h] at Q;cases Q|some L=>rw[h] at Q;simp at Q;subst Q;exact adO R (Hh M i L h)
def adV{e:TypeId}{l:aq}{w n:Nat}(z:(bJ cf.ty (.sl e)).length=w)(G:oG cf.ty s (bJ cf.ty (.sl e)) (j8 w n l)=J){q:Nat}{u:Value}(F:(∀(i:Nat)(X:aE),((j8 w n l).map λX=>X.map (C.cj O))[i]?=U X->Y X=w))
  (h:(eH ((j8 w n l).map λX=>X.map (C.cj O)))[q]?=U u):(C.az O V l)[q]?=U u:=by
 obtain⟨i,j,X,c,R,Q,rfl,rfl⟩:=Ni F h;rw[ep] at R;cases N:(j8 w n l)[i]? with
 |none=>rw[N] at R;cases R
 |some L=>
  rw[N] at R;simp at R;subst R;rw[ep] at Q;cases M:L[j]? with
  |none=>rw[M] at Q;cases Q
  |some v=>
   rw[M] at Q;simp at Q;subst Q;obtain⟨y,B⟩:=Ki (Hh G i L N);have x:j<Y L:=(du.1 M).1;obtain⟨H,A⟩:∃H,(bJ cf.ty (.sl e))[j]?=U H:=⟨_,dv ae⟩;rw[uB];have t:=(WI N).1;have:l[i*w+j]?=U v:=by
    grind
   rw[this];simp;exact amq (B j H v A M)
def axt(R:aA p g D cf.ty V O s a W)(af:cf.ty X=U t){F:LE}{n2:BE}(h:ta cf.ty s X t N=U (F,n2,x))(hn:n2.ai O=J):
  ∃A n L,N.ai O V=.slice A n L/\(F.ah O).length=n/\fW W cf.ty X (F.ah O)/\(∀(q:Nat)(u:Value),(eH (F.ah O))[q]?=U u->∃a0,A=U a0/\W.cell? (a0.add q)=U u)/\n<=536870912/\CR cf.ty V O s X (F.ah O) x:=by
 have f:bJ cf.ty (.sl X)=t.am:=by simp[bJ,af]
 unfold ta at h;split at h;rename_i r;split at h;rename_i ab;cases h;unfold RE.isNil at ab;split at ab;exact⟨Z,0,0,rfl,rfl,fW.nil,λq u H=>by simp[LE.ah,eH] at H,ae,λb M=>(R9 (by simpa[LE.ah] using M)).elim⟩
 grind
 split at h;rename_i B;cases h;have z:=ri R aw B;have w:=Sd hn;simp only[K.ai] at w;have d:CR cf.ty V O s X (r.rv O).ah []:=by
  intro b M;have hl:dW cf.ty (.sl X) (r.rv O) b:=by rw[<-Hg (r.rv O)];exact Sa M
  obtain⟨q1,q2⟩:=Kh R aw B hl;refine⟨q1,q2,λk' Q c o k2 k3=> ?_⟩;have:=Sb R o k2 k3 aw B hl;subst this;simp only[RE.kind,di,o,yV,RK.rd,RK.sl.injEq] at B;subst B;exact(Nk R o k2 k3 o rfl M).elim
 simp only[C.ai,RE.ai,LE.ah];revert z w d;generalize r.rv O=c;intro z w d;have m:=fW.zw (v:=c.val) (rows:=c.ah) (by rw[Hg];exact z);cases z with
 |sl X A G L ag l h2 h3 hi M ho=>
  refine⟨A,G,L,rfl,l,m,λq u H=> ?_,by simp[lenOf] at w;omega,d⟩;obtain⟨b,aa,g1,g2,g3⟩:=R7 (bG.sl X A G L ag l h2 h3 hi M ho) q u H
  grind [xE]
 cases h;rename_i i aa G L;split at h;rename_i bt cs M;split at h;rename_i hc;cases h;simp at hc;obtain⟨⟨l,h2⟩,h3⟩:=hc;have hf:oG cf.ty s (bJ cf.ty (.sl X)) (j8 (Y t.am) G (zg cs aa (G*Y t.am)))=true:=by rw[f];exact l
 have m:=adU R hf;refine⟨U ⟨ad V i,aa,Z⟩,G,L,rfl,by simp[LE.ah,WJ],by simpa[LE.ah] using m,λq u H=> ?_,by simp[ME] at h3;omega, ?_⟩;simp only[LE.ah] at H;have j:=adV (V:=V) (by rw[f]) hf (λi ac hr=>by rw[m.len i ac hr,f]) H;refine⟨_,rfl, ?_⟩;rw[uB,zg,pJ] at j;split at j;rw[xj,<-uB] at j;obtain⟨M,al⟩:=AZ M;have:=R.mem.box i bt cs M;rw[qC al] at this;rw[xE];simp[oF,this,j]
 grind
 refine amu R hf (λac an r k hr hk=> ?_);obtain⟨ii,a1⟩:=sP an;have:=(WI a1).1;subst this;exact WK (En (GH hr)) hk;cases h;cases h;cases h
end
section
variable{g:ar}{u:World}{D:bU}{P:Program}{d:bv}{V:ar}{O:aj}{s:S}{a:Act}{W:World}
def CV{x y:BE}(h:(xp x y).ai O=J):x.ai O=J/\y.ai O=true:=by
 rw[adr] at h
 grind
def A6{x y:K}(h:(qZ .leq x y).ai O=J):x.ai O<=y.ai O:=by
 grind [EX,fp]
def axu(R:aA g u D d.ty V O s a W)(L:jx P d.ty)(hg:eD d.gl O){c:Call}(m:F.op=.call c)(k:c.callee=.builtin .append){dr:Bool}{b:BI}(h:eY d F r dr s=U b)(hn:b.aS.ai O=J):
  No P g u D d.ty V O s a W F b:=by
 unfold eY at h;simp only[m,k] at h;split at h;rename_i t j x y ac i;split at h;rename_i e am q M bb q2 ht af;split at h;rename_i te H;split at h;cases h;rename_i aa;have he:e=M:=by by_cases X:e=M;exact X;exact bB (.inl X) aa
 have ag:Y te.am≠0:=λX=>aa (.inr X)
 subst he;split at h;rename_i N n1 bc Q n2 dl h1 h2;split at h;cases h;rename_i G;obtain⟨ce,al,rfl⟩:=A5 h;obtain⟨an,a0⟩:=CV hn;obtain⟨A1,m1,c1,e1,B,g3,⟨ab,g2,g4⟩,g5⟩:=axs (cf:=d) R h1 an;obtain⟨A2,m2,c2,M,w,k2,k3,k4,k5⟩:=axt R H h2 a0;have v:(bJ d.ty (.sl e)).length=Y te.am:=by simp[bJ,H]
 obtain⟨A,n,W',r1,r2,r3⟩:=axr (P:=P) (tyR:=F.type) (t:=t) (t2:=j) (cap2:=c2) (L _ _ H) ag v (L _ _ ht).desc (L _ _ af).desc B (old:=ab) (by
  rw[<-v];rcases g2 with g2|⟨q1,f,l,rfl⟩
  grind
  refine .inr ⟨q1, ?_⟩;simp at G;cases Q with
  |lit rr=>
   cases rr with|nil=>simp[acO] at G|cons r0 rr=>rw[<-w];simp[LE.ah]
  |_=>simp[acO] at G) w k2 k3 g3 k4
 have a1:(LE.iC N Q).ah O=N.ah O++Q.ah O:=rfl;have bd:(N.ah O++Q.ah O).length=m1+m2:=by rw[fT,(uD B).1,w]
 have a3:CR d.ty V O s e (N.ah O++Q.ah O) dl:=λb hb=>(axo hb).elim (g5 dl b) (k5 b)
 obtain⟨R',a4⟩:=R.bind ce (old:=ab) g4 al r2 ((fW.zw B).iC k2) a3 (by rw[v];exact r3);refine⟨.slice A (m1+m2) n,W',.mk (.slice A (N.ah O++Q.ah O).length n) (N.ah O++Q.ah O),.inl ?_,⟨⟨A,_,n,by rw[a1],rfl⟩,a4,λ_ _ _ _ h=>by cases h⟩, ?_,Hk _ _ _⟩;have ha:c.args.toList=[c.args.toList.getD 0 default,c.args.toList.getD 1 default]:=by
  have hl:Y c.args.toList=2:=by have:=j7 Y i;simpa using this
  match c.args.toList,hl with|[p,q],_=>rfl
 have bf:∀z∈c.args.toList,a.eval z=(s.ev d.gl z).ai O V:=by
  intro z hz;refine de R hg z ?_;have:s.ev d.gl z∈[x,y]:=by rw[<-i];exact List.mem_map_of_mem hz
  rcases ey.1 this with X|X;rw[X];cases x<;>first|rfl|(simp[xt] at h1)
  rw[VC.1 X];cases y<;>first|rfl|(simp[ta] at h2)
 have a9:c.args.map a.eval= #[x.ai O V,y.ai O V]:=by
  grind
 have ba:c.argTypes= #[t,j]:=by apply nH;rw[ac]
 simp only[execOp,m,resolve,k,dD,fy,dC,invoke,builtin,a9,ba,e1,M,r1];have:=Kk R' R.er F.dst
 grind [RV.pe]
 cases h;cases h;cases h;cases h
def axv(X:CT):((Ey X).cj O).val=rZ X:=by cases X<;>rfl
def axw(R:aA g u D d.ty V O s a W)(ab:jx P d.ty)(hg:eD d.gl O){xm:Operand}(ho:F.op=.makeSlice X n xm){dr:Bool}{b:BI}(h:eY d F r dr s=U b)(hn:b.aS.ai O=J):
  No P g u D d.ty V O s a W F b:=by
 unfold eY at h;simp only[ho] at h;split at h;rename_i e am q Q m ht a1 a3;split at h;rename_i M p;split at h;rename_i hc;simp only[aC,bne_iff_ne,ne_eq] at hc;obtain⟨⟨bc,bd⟩,bf⟩:=hc;obtain⟨ce,ch,rfl⟩:=A5 h;obtain⟨ac,af⟩:=CV hn;have ac:=A6 ac;have af:=Sd af;simp only[K.ai] at ac;obtain⟨N,l⟩:∃N:Nat,Q.ai O=(N:Int):=⟨(Q.ai O).toNat,ae⟩;rw[l] at af;have bg:N<=536870912:=ae;have hw:(bJ d.ty (.sl e)).length=Y M.am:=by simp[bJ,p]
 have f:bJ d.ty (.sl e)=M.am:=by simp[bJ,p]
 have ag:=de R hg n (by rw[a1];rfl);have al:=de R hg xm (by rw[a3];rfl);have bk:m=Q:=(K.bX _ _ bc).symm;rw[a1,C.ai,l] at ag;rw[a3,C.ai,bk,l] at al;obtain⟨i,hi,bl,z,hz,a4⟩:=(ab _ _ p).M4;have br:=(ab _ _ p).bytes i hi;have a9:z.cells.size=Y M.am:=by rw[<-GI,a4];simp
 have hf:oG d.ty s (bJ d.ty (.sl e)) [et M]=true:=by rw[f];exact bd
 have bs:WH W d.ty (bJ d.ty (.sl e)) ((et M).map (C.cj O)):=adO R (Hh hf 0 _ rfl);have bt:(LE.xo Q (et M)).ah O=ew N ((et M).map (C.cj O)):=by simp[LE.ah,l]
 have y:fW W d.ty e (ew N ((et M).map (C.cj O))):=fW.of (λi aa G=>by
  rw[Vv] at G;split at G;cases G;exact bs;cases G)
 have bx:CR d.ty V O s e (ew N ((et M).map (C.cj O))) []:=by
  intro b ⟨i,j,aa,c,z,k,B,H,L,hl⟩;rw[Vv] at B;split at B;cases B;exfalso;rw[ep,et,ep] at H;rw[f] at L;rw[L] at H;simp only[ga,dX,Ey,C.cj,RE.rv] at H;subst H;cases hl with
  |deep e v b0 i j aa c z k b g1=>simp at g1
  |own e' cl b hl=>
   have an:=(Ki (Hh hf 0 _ rfl)).2 j _ (.ak (.k z)) (by rw[f];exact L) (by simp[et,L,Ey]);simp[uu,RE.fits] at an
  |here e a0 b1 b2 b0=>
   have an:=(Ki (Hh hf 0 _ rfl)).2 j _ (.ak (.k (.slice (U a0) (b1+1) b2))) (by rw[f];exact L) (by simp[et,L,Ey]);simp[uu,RE.fits,RE.kind,RE.isNil] at an
  cases B
 have b3:(ald (N*Y M.am)).map (z.cells[· %z.cells.size]!)=(eH (ew N ((et M).map (C.cj O)))).toArray:=by
  apply nH;apply kX;intro q;have cn:(eH (ew N ((et M).map (C.cj O)))).length=N*Y M.am:=by rw[CQ y.len,hw];simp
  by_cases hq:q<N*Y M.am;have b4:0<Y M.am:=ae;have b5:q/Y M.am<N:=av0 (by rw[VO];exact hq);have hj:q%Y M.am<Y M.am:=Ra _ b4;have ba:M.am[q%Y M.am]?=U M.am[q%Y M.am]:=dv hj;have B:(ew N ((et M).map (C.cj O)))[q/Y M.am]?=U ((et M).map (C.cj O)):=by rw[Vv,aH b5]
  have H:((et M).map (C.cj O))[q%Y M.am]?=U ((Ey M.am[q%Y M.am]).cj O):=by simp[et,ba]
  have L:=R6 (w:=Y M.am) (λi aa G=>by rw[y.len i aa G,hw]) B H;have b6:q/Y M.am*Y M.am+q%Y M.am=q:=by rw[VO];exact awj q _
  rw[b6,axv] at L;simp only[yW,av6,ep,Ep hq,ga,a9];rw[L];congr 1;have bb:q%Y M.am<z.cells.size:=by rw[a9];exact hj
  rw[getElem!_pos z.cells _ bb];have:z.cells.toList[q%Y M.am]?=U (rZ M.am[q%Y M.am]):=by rw[a4,ep,ba];rfl
  rw[acl,Mn bb] at this;simpa using this;rw[uk bS,uk (by rw[aco];omega)]
 have b7:IntKind.i64.wrap (N:Int)=N:=IntWalk.i64_in _ ae;have co:(i.bytes:Int)*N<=2^46:=by
  have:i.bytes*N<=131072*536870912:=Mt br bg;have H:((i.bytes*N:Nat):Int)<=((131072*536870912:Nat):Int):=Int.ofNat_le.2 this;simp only[awk] at H;omega
 obtain⟨R',b8⟩:=R.bind ce (old:=Z) (kill:=[]) (dl:=[]) (A:=U ⟨W.heap.size,0,Z⟩) (cap:=N) (W':=W.alloc (.cells (eH (ew N ((et M).map (C.cj O)))).toArray e)) (.inl ⟨rfl,rfl⟩) aw (aJc W _ Z) y bx
  ⟨aw,aw,by
   rcases Jz N with x|x;exact .inl x;exact .inr ⟨W.heap.size,_,rfl,VA W _,by simp only[maxLen];omega,by
    rw[Mq,CQ y.len,hw];simp,by
    rw[aco,Jv];rw[CQ y.len];exact cd _,.inl (cd _)⟩⟩
 refine⟨.slice (U ⟨W.heap.size,0,Z⟩) N N,W.alloc (.cells (eH (ew N ((et M).map (C.cj O)))).toArray e),.mk (.slice (U ⟨W.heap.size,0,Z⟩) (ew N ((et M).map (C.cj O))).length N) _,.inl ?_,⟨⟨_,_,_,by rw[bt],rfl⟩,b8,λ_ _ _ _ h=>by cases h⟩, ?_,Hk _ _ _⟩;have hd:P.underlying X=U (.slice e):=(ab _ _ ht).desc;rw[<-b3];have c1:¬((N:Int)<0):=ae;have c2:¬((i.bytes:Int)*N>2^48):=ae;by_cases x:N*Y M.am=0;have ca:N=0:=by rcases Nat.mul_eq_zero.1 x with hh|hh;exact hh;exact bB hh bf
 subst ca;have cc:IntKind.i64.wrap 0=0:=IntWalk.i64_in 0 ae;simp[execOp,ho,ag,al,Instr.makeSlice,eZ.gY hd,asInt,asIntOf,typeInfo,hi,cc,Go.sizeOf,newRow,askRoom];congr 2;apply nH;simp[ald];simp[execOp,ho,ag,al,Instr.makeSlice,eZ.gY hd,asInt,asIntOf,typeInfo,hi,b7,c1,Go.sizeOf,bl,x,zeroValue,hz,newRow];intro hh;omega;have:=Kk R' R.er F.dst;rw[RV.pe] at this;simp only[List.length_replicate] at this⊢;exact this;cases h;cases h;cases h
def axx(Q:aA g u D d.ty V O s a W)(v:jx P d.ty)(hg:eD d.gl O){parts:Array (Nat×Operand)}(f:F.op=.buildSlice X R parts){dr:Bool}{b:BI}(h:eY d F r dr s=U b):
  No P g u D d.ty V O s a W F b:=by
 unfold eY at h;simp only[f] at h;split at h;cases h;split at h;rename_i e am q ht;split at h;rename_i M n;split at h;rename_i l hf;split at h;rename_i hc;simp only[aC,bne_iff_ne,ne_eq,gc,dq,jT] at hc;obtain⟨⟨⟨⟨⟨h1,h2⟩,h3⟩,h4⟩,h5⟩,h6⟩:=hc;obtain⟨ce,a0,rfl⟩:=A5 h;have G:bJ d.ty (.sl e)=M.am:=by simp[bJ,n]
 have c:oG d.ty s (bJ d.ty (.sl e)) (j8 (Y M.am) R l)=true:=by rw[G];exact h2
 have aa:=adU Q c;have a1:(LE.lit (j8 (Y M.am) R l)).ah O=(j8 (Y M.am) R l).map λL=>L.map (C.cj O):=rfl
 have m:((j8 (Y M.am) R l).map λL=>L.map (C.cj O)).length=R:=by simp[WJ]
 have a3:=amu Q c (dl:=C.qo l) (λL a4 N k B hk=>by
  obtain⟨ii,a9⟩:=sP a4;have:=(WI a9).1;subst this;exact WK (En (GH B)) hk)
 have j:(eH ((j8 (Y M.am) R l).map λL=>L.map (C.cj O))).length=R*Y M.am:=by rw[CQ (w:=Y M.am) (λi L B=>by rw[aa.len i L B,G]),m]
 have ba:eH ((j8 (Y M.am) R l).map λL=>L.map (C.cj O))=C.az O V l:=by
  apply kX;intro k;by_cases hk:k<R*Y M.am;have ab:k<(eH ((j8 (Y M.am) R l).map λL=>L.map (C.cj O))).length:=by rw[j];exact hk
  have:=adV (V:=V) (by rw[G]) c (λi L B=>by rw[aa.len i L B,G]) (dv ab);rw[this,dv ab];rw[uk (by rw[j];omega),uk (by rw[M1,h1];omega)]
 have bk:R<=536870912:=by simp only[ME] at h4;omega
 obtain⟨R',bb⟩:=Q.bind ce (old:=Z) (kill:=[]) (dl:=C.qo l) (A:=U ⟨W.heap.size,0,Z⟩) (cap:=R) (W':=W.alloc (.cells (eH ((j8 (Y M.am) R l).map λL=>L.map (C.cj O))).toArray e)) (.inl ⟨rfl,rfl⟩) a0 (aJc W _ Z) aa a3
  ⟨by rw[m];exact cd _,aw,by
   rcases Jz R with H|H;exact .inl H;exact .inr ⟨W.heap.size,_,rfl,VA W _,by simp only[maxLen];omega,by
    rw[Mq,j,G],by
    rw[aco,Jv];rw[j,m,G];exact cd _,.inl (cd _)⟩⟩
 refine⟨.slice (U ⟨W.heap.size,0,Z⟩) R R,W.alloc (.cells (eH ((j8 (Y M.am) R l).map λL=>L.map (C.cj O))).toArray e),.mk (.slice (U ⟨W.heap.size,0,Z⟩) ((j8 (Y M.am) R l).map λL=>L.map (C.cj O)).length R) _,.inl ?_,⟨⟨_,_,_,by rw[a1],rfl⟩,bb,λ_ _ _ _ h=>by cases h⟩, ?_,Hk _ _ _⟩;have hd:P.underlying X=U (.slice e):=(v _ _ ht).desc;have ac:(parts.map λ(i,x)=>(i,a.eval x)).toList=(parts.toList.map λp=>(p.1,s.ev d.gl p.2)).map λp=>(p.1,p.2.ai O V):=by
  simp only[yW,oX];apply ky;intro p hp;have:=de Q hg p.2 (by
   cases hh:(s.ev d.gl p.2).fg;rfl;exact bB (nF.2 ⟨p,hp,hh⟩) (by rw[h6];simp))
  simp[this]
 obtain⟨z,bc,bd⟩:=M9 (P:=P) (W:=W) (O:=O) (V:=V) (v _ _ n);have af:=RX (V:=V) (xF Q) _ _ _ _ hf;have y:(et M).length=Y M.am:=by simp[et]
 have hzero:((ald (R*Y M.am)).map ((if R*Y M.am=0 then #[] else z.cells)[· %(if R*Y M.am=0 then #[] else z.cells).size]!))=(C.az O V (zi R (et M))).toArray:=by
  apply nH;apply kX;intro k;by_cases ag:k<R*Y M.am;have bf:¬R*Y M.am=0:=ae;have bg:0<Y M.am:=Nat.pos_of_ne_zero h3;have al:k%Y M.am<(C.az O V (et M)).length:=by rw[M1,y];exact Ra _ bg
  simp only[bf,jE,bd,yW,av6,ep,Ep ag,ga,uB,adT _ _ _ (by rw[y];exact ag),y];rw[<-uB,dv al];simp only[Mq,M1,y];rw[getElem!_pos _ _ (by simpa using al)];simp;rw[uk bS,uk (by simp[amt,y];omega)]
 have an:¬R*Y M.am>2^24:=ae;rw[ba];by_cases H:R*Y M.am=0;simp only[aH H] at hzero;simp only[execOp,f,Instr.buildSlice,dD,eZ.gY hd,dC,(v _ _ n).nP,an,jE,fy,aH H,ac];rw[hzero,af];simp[newRow];simp only[aJ H] at hzero;simp only[execOp,f,Instr.buildSlice,dD,eZ.gY hd,dC,(v _ _ n).nP,an,jE,fy,aJ H,ac,bc];rw[hzero,af];simp[newRow];have:=Kk R' Q.er F.dst;rw[RV.pe] at this;rw[m] at this⊢;exact this;cases h;cases h;cases h;cases h
end
section
variable{p:ar}{g:World}{D:bU}{P:Program}{d:bv}{V:ar}{O:aj}{s:S}{a:Act}{W:World}
def WL{h:Nat}{X:aE}(Q:((i.take h).drop R)[M]?=U X):i[R+M]?=U X/\R+M<h:=by
 grind
def axy{h:Nat}(N:oJ l X ((i.take h).drop R) M):oJ l X i M:=by
 obtain⟨Q,j,L,c,z,k,H,G,F,B⟩:=N;exact⟨_,j,L,c,z,k,(WL H).1,G,F,B⟩
def axz{Q:Ty}{e:TypeId}{A:oY}{n R l h:Nat}{X:av}(M:bG W Q (.sl e) (.mk (.slice A n R) X))(r:l<=h)(p:h<=n):
  bG W Q (.sl e) (.mk (.slice (if R=l then A else A.map (·.add (l*(bJ Q (.sl e)).length))) (h-l) (R-l)) ((X.take h).drop l)):=by
 obtain⟨H,o⟩:=uD M;have G:((X.take h).drop l).length=h-l:=by simp[H];omega
 have F:=fW.zw M;have L:fW W Q e ((X.take h).drop l):=fW.of (λi N B=>F.get (WL B).1);by_cases z:l=h;have:(X.take h).drop l=[]:=ui ae;rw[this,z,acw];exact E3 _ _;have m:l<h:=ae;have y:R≠l:=ae;rw[aJ y];obtain⟨N,x⟩:∃N,X[l]?=U N:=⟨_,dv ae⟩;cases M with
 |sl e A k R X g f w d hb ho=>
  obtain⟨-,b,aa,rfl,v,-⟩:=w l N x;rw[<-G];simp only[ga,xE];refine adM L v (λq u t=> ?_) ae;obtain⟨i,j,ab,c,k1,k2,rfl,rfl⟩:=Ni L.len t
  grind
def adW(Q:aA p g D d.ty V O s a W)(ce:s.bd=J){r:RE}(G:r.kind d.ty s=.sl X){A:oY}(m:r.ai O=.slice A R M){l h:Nat}(j:l<=h)(f:h<=R){F:oY}{B:Nat}
  (L:F=if M=l then A else A.map (·.add (l*(bJ d.ty (.sl X)).length)))(c:B=M-l):
  aA p g D d.ty V (O.add (.r (.mk (.slice F (h-l) B) (((r.rv O).ah.take h).drop l)))) {s with rs:=kY r.root.toList 0 (jG [] 0 s.rs)++[.sl X]} a W/\
   (((r.rv O).ah.take h).drop l).length=h-l/\∀b,dW d.ty (.sl X) (.mk (.slice F (h-l) B) (((r.rv O).ah.take h).drop l)) b->g.heap.size<=b\/b∈rg g.heap.size p\/O.ph d.ty s.rs b:=by
 have z:=ri Q aw G;have v:r.rv O=.mk (.slice A R M) (r.rv O).ah:=by rw[<-m];exact(Hg _).symm
 rw[v] at z;have aa:=axz z j f;have y:∀b,dW d.ty (.sl X) (.mk (.slice F (h-l) B) (((r.rv O).ah.take h).drop l)) b->dW d.ty (.sl X) (r.rv O) b:=by
  intro b H;rw[v];rcases amn H with⟨a0,al,c0,N,rfl⟩|N;simp at N;obtain⟨N,u,q⟩:=N;obtain⟨x,rfl⟩:∃x,R=x+1:=⟨R-1,ae⟩;rw[N] at L;have ab:M≠l:=by have:=(uD z).2;omega
  rw[aJ ab] at L;cases A with
  |none=>simp at L
  |some o=>
   simp at L;have:a0.block=o.block:=by rw[L];unfold Addr.add;split<;>rfl
   rw[this];exact dW.here X o x M _
  exact Sa (axy N)
 have ac:jG [] 0 s.rs=s.rs:=by
  apply kX;intro i;rw[Ng];cases s.rs[i]?<;>simp
 rw[ac];have R1:=Q.lR (RZ r.root.toList s.rs);refine⟨?_,by have:=(uD z).1;simp;omega,λb H=>.inr (.inr (Kh Q aw G (y b H)).1)⟩;refine R1.add (Nl ce (CP _ _ _)) (by rw[L,c];exact aa) (λb H=>(Kh Q aw G (y b H)).2) (λk t rv b N u q w=> ?_) (λt b ht=>by cases ht);obtain⟨af,an⟩:=adQ N;rcases w with w|⟨⟨t',ag⟩,_⟩;have:=Sb Q af u q aw G (y b w)
 grind [RE.root]
 cases ag
def Sf{n:Int}(h:0<=n):∃N:Nat,n=(N:Int):=⟨n.toNat,ae⟩
def axA(R:aA p g D d.ty V O s a W)(aa:jx P d.ty)(hg:eD d.gl O){lo hi mx:Option Operand}(ho:F.op=.slice X n lo hi mx){dr:Bool}{b:BI}(h:eY d F r dr s=U b)(hn:b.aS.ai O=J):
  No P p g D d.ty V O s a W F b:=by
 unfold eY at h;simp only[ho] at h;split at h;cases h;have an:∀{y:Option Operand}{v:C},y.map (s.ev d.gl)=U v->v≠ .any->y.map a.eval=U (v.ai O V):=by
  intro y v hy G;cases y with
  |none=>cases hy
  |some z=>
   simp only[ga,dX] at hy⊢;rw[<-hy];exact de R hg z (by rw[hy];cases v<;>first|rfl|exact bB rfl G)
 have a0:∀{y:Option Operand},y.map (s.ev d.gl)=Z->y.map a.eval=none:=by
  intro y hy;cases y with|none=>rfl|some z=>cases hy
 split at h
 
 rename_i e am q Q k1 k2 ht w ac af ag;split at h;rename_i te j;split at h;rename_i hc;obtain⟨ce,a9,rfl⟩:=A5 h;have u:=de R hg n (by rw[w];rfl);rw[w,C.ai] at u;have hd:P.underlying X=U (.slice e):=(aa _ _ ht).desc;obtain⟨A,N,M,G⟩:∃A N M,Q.ai O=.slice A N M:=by
  rcases hc with hc|hc;exact RW R hc;unfold RE.isNil at hc;split at hc;exact⟨Z,0,0,rfl⟩;cases hc
 obtain⟨R',al⟩:=R.bind ce (old:=Z) (kill:=[]) (dl:=[]) (rows:=[]) (e:=e) (A:=A) (cap:=0) (W':=W) (.inl ⟨rfl,rfl⟩) aw ⟨rfl,rfl,rfl,cd _,λ_ _ _=>rfl⟩ fW.nil (λb hb=>(R9 hb).elim) ⟨aw,λ_=>rfl,.inl rfl⟩;refine⟨.slice A 0 0,W,.mk (.slice A 0 0) [],.inl ?_,⟨⟨A,0,0,rfl,rfl⟩,al,λ_ _ _ _ h=>by cases h⟩,Kk R' R.er F.dst,Hk _ _ _⟩;have e1:=an ac aw;have i:=an af aw;have f:=a0 ag;simp only[C.ai,K.ai] at e1 i;simp[execOp,ho,u,G,e1,i,f,Instr.sliceAt,eZ.gY hd,Instr.slice,Instr.sliceBounds,Instr.sliceBound,asIntOf,(aa _ _ j).nP];cases h;cases h
 
 rename_i e am q Q ih il ht w ac af ag;split at h;rename_i te j;split at h;rename_i m;obtain⟨ce,a9,rfl⟩:=A5 h;obtain⟨B,a4⟩:=CV hn;obtain⟨a4,k⟩:=CV a4;have B:=A6 B;have a4:=A6 a4;have k:=A6 k;have u:=de R hg n (by rw[w];rfl);rw[w,C.ai] at u;have hd:P.underlying X=U (.slice e):=(aa _ _ ht).desc;obtain⟨A,N,M,G⟩:=RW R m;have a1:lenOf (Q.rv O).val=N:=by have:=G;unfold RE.ai at this;rw[this];rfl
 simp only[K.ai,a1] at B k;obtain⟨L,hL⟩:=Sf B;obtain⟨H,hH⟩:=Sf (show 0<=ih.ai O from ae);have ba:N<=M:=by
  have:=ri R aw m;rw[<-Hg (Q.rv O),show(Q.rv O).val=.slice A N M from G] at this;exact(uD this).2
 obtain⟨R',a3,al⟩:=adW R ce m G (l:=L) (h:=H) ae ae rfl rfl;have ab:(LE.sub (.ak Q) il ih).ah O=((Q.rv O).ah.take H).drop L:=by simp[LE.ah,hL,hH]
 have hw:(bJ d.ty (.sl e)).length=Y te.am:=by simp[bJ,j]
 refine⟨.slice (if M=L then A else A.map (·.add (L*(bJ d.ty (.sl e)).length))) (H-L) (M-L),W,_,.inl ?_,⟨⟨_,_,_,by rw[ab],by rw[ab];exact a3⟩,al,λ_ _ _ _ h=>by cases h⟩,Kk R' R.er F.dst,Hk _ _ _⟩;have e1:=a0 ac;have i:=an af aw;have f:=an ag aw;simp only[C.ai,hL,hH] at i f;have c1:(H:Int)<=(M:Int):=ae;have c2:(L:Int)<=(H:Int):=ae;simp[execOp,ho,u,G,e1,i,f,Instr.sliceAt,eZ.gY hd,Instr.slice,Instr.sliceBounds,Instr.sliceBound,asIntOf,(aa _ _ j).nP,hw];simp[show H<=M from ae,show L<=H from ae];cases h;cases h
 
 rename_i e am q Q ih ht w ac af ag;split at h;rename_i te j;split at h;rename_i m;obtain⟨ce,a9,rfl⟩:=A5 h;obtain⟨B,k⟩:=CV hn;have B:=A6 B;have k:=A6 k;have u:=de R hg n (by rw[w];rfl);rw[w,C.ai] at u;have hd:P.underlying X=U (.slice e):=(aa _ _ ht).desc;obtain⟨A,N,M,G⟩:=RW R m;have a1:lenOf (Q.rv O).val=N:=by have:=G;unfold RE.ai at this;rw[this];rfl
 simp only[K.ai,a1] at B k;obtain⟨H,hH⟩:=Sf B;have ba:N<=M:=by
  have:=ri R aw m;rw[<-Hg (Q.rv O),show(Q.rv O).val=.slice A N M from G] at this;exact(uD this).2
 obtain⟨R',a3,al⟩:=adW R ce m G (l:=0) (h:=H) ae ae rfl rfl;have ab:(LE.sub (.ak Q) (.c 0) ih).ah O=((Q.rv O).ah.take H).drop 0:=by simp[LE.ah,hH,K.ai]
 have hw:(bJ d.ty (.sl e)).length=Y te.am:=by simp[bJ,j]
 refine⟨.slice (if M=0 then A else A.map (·.add (0*(bJ d.ty (.sl e)).length))) (H-0) (M-0),W,_,.inl ?_,⟨⟨_,_,_,by rw[ab],by rw[ab];exact a3⟩,al,λ_ _ _ _ h=>by cases h⟩,Kk R' R.er F.dst,Hk _ _ _⟩;have e1:=a0 ac;have i:=an af aw;have f:=a0 ag;simp only[C.ai,hH] at i;simp[execOp,ho,u,G,e1,i,f,Instr.sliceAt,eZ.gY hd,Instr.slice,Instr.sliceBounds,Instr.sliceBound,asIntOf,(aa _ _ j).nP,hw];intro hh;omega;cases h;cases h
 
 rename_i e am q Q il ht w ac af ag;split at h;rename_i te j;split at h;rename_i m;obtain⟨ce,a9,rfl⟩:=A5 h;obtain⟨B,k⟩:=CV hn;have B:=A6 B;have k:=A6 k;have u:=de R hg n (by rw[w];rfl);rw[w,C.ai] at u;have hd:P.underlying X=U (.slice e):=(aa _ _ ht).desc;obtain⟨A,N,M,G⟩:=RW R m;have a1:lenOf (Q.rv O).val=N:=by have:=G;unfold RE.ai at this;rw[this];rfl
 simp only[K.ai,a1] at B k;obtain⟨L,hL⟩:=Sf B;have ba:N<=M:=by
  have:=ri R aw m;rw[<-Hg (Q.rv O),show(Q.rv O).val=.slice A N M from G] at this;exact(uD this).2
 obtain⟨R',a3,al⟩:=adW R ce m G (l:=L) (h:=N) ae ae rfl rfl;have ab:(LE.sub (.ak Q) il (.len Q)).ah O=((Q.rv O).ah.take N).drop L:=by simp[LE.ah,hL,K.ai,a1]
 have hw:(bJ d.ty (.sl e)).length=Y te.am:=by simp[bJ,j]
 refine⟨.slice (if M=L then A else A.map (·.add (L*(bJ d.ty (.sl e)).length))) (N-L) (M-L),W,_,.inl ?_,⟨⟨_,_,_,by rw[ab],by rw[ab];exact a3⟩,al,λ_ _ _ _ h=>by cases h⟩,Kk R' R.er F.dst,Hk _ _ _⟩;have e1:=a0 ac;have i:=a0 af;have f:=an ag aw;simp only[C.ai,hL] at f;simp[execOp,ho,u,G,e1,i,f,Instr.sliceAt,eZ.gY hd,Instr.slice,Instr.sliceBounds,Instr.sliceBound,asIntOf,(aa _ _ j).nP,hw];intro hh;omega;cases h;cases h;cases h
mutual
theorem adX{k n:Nat}(h:(O.rv n).val=(O.rv k).val):∀(v:C),(v.iE k n).ai O V=v.ai O V
 |.int _ _|.bool _|.loc _ _|.iP _ _ _ _|.yl _|.any=>rfl
 |.ak (.v j)=>by
  grind [C.iE,C.ai,RE.ai,RE.rv]
 |.ak (.cell _ _ _ _)=>rfl|.ak (.k _)=>rfl
 |.el (.v j) w i o=>by
  grind [C.iE,C.ai,RE.ai,RE.rv]
 |.el (.cell _ _ _ _) _ _ _=>rfl|.el (.k _) _ _ _=>rfl|.agg l=>by simp only[C.iE,C.ai,Np h l]|.bI l=>by simp only[C.iE,C.ai,Np h l]|.fn f l=>by simp only[C.iE,C.ai,Np h l]|.gI t x=>by simp only[C.iE,C.ai,adX h x]|.mp _=>rfl|.gq e R X=>by simp only[C.iE,C.ai,Np h X]
theorem Np{k n:Nat}(h:(O.rv n).val=(O.rv k).val):∀(l:aq),C.az O V (C.qp k n l)=C.az O V l
 |[]=>rfl|x::X=>by simp only[C.qp,C.az,adX h x,Np h X]
end
def axB(v:C):v.iE R M=.any<->v=.any:=by
 cases v with
 |ak r=>cases r<;>simp[C.iE]<;>split<;>simp
 |el r w i o=>cases r<;>simp[C.iE]<;>split<;>simp
 |_=>simp[C.iE]
def amv{k n:Nat}:∀(l:aq)(i:Nat),(C.qp k n l)[i]?=(l[i]?).map (C.iE k n)
 |[],i=>by simp[C.qp]|x::X,0=>by simp[C.qp]|x::X,i+1=>by simp[C.qp,amv X i]
def amw{k n:Nat}:∀(l:aq),(C.qp k n l).length=Y l
 |[]=>rfl|x::X=>by simp[C.qp,amw X]
def Sg{k n:Nat}:∀(l:bm),(vE k n l).length=Y l
 |[]=>rfl|Z::X=>by simp[vE,Sg X]|U (t,R)::X=>by simp[vE,Sg X]
def adY(k n:Nat)(x:TypeId×aq):TypeId×aq:=(x.1,if mT x.1 then x.2 else C.qp k n x.2)
def WM{k n:Nat}:∀(l:bm)(i:Nat),bP (vE k n l) i=(bP l i).map (adY k n)
 |[],i=>by simp[vE,bT]|Z::X,0=>by simp[vE,bT]|U (t,R)::X,0=>by simp[vE,bT,adY]|Z::X,i+1=>by have:=WM X i (k:=k) (n:=n);simpa[vE,bT] using this|U (t,R)::X,i+1=>by have:=WM X i (k:=k) (n:=n);simpa[vE,bT] using this
def Kl{k n:Nat}(l:bm)(i:Nat):aL (vE k n l) i=aL l i:=by simp[aL,WM]
theorem aA.iE{B:Ty}(R:aA p g D B V O s a W){k n:Nat}(h:(O.rv n).val=(O.rv k).val):aA p g D B V O (s.iE k n) a W:=by
 have A:(s.iE k n).au=vE k n s.au:=rfl;refine⟨⟨R.mem.base,λi N=>R.mem.own i (by rw[<-Kl (k:=k) (n:=n)];exact N),λi j N z=>R.mem.inj i j (by rw[<-Kl (k:=k) (n:=n)];exact N) (by rw[<-Kl (k:=k) (n:=n)];exact z),λi t v X=> ?_,λH e G Q F=> ?_⟩,
  by simp[S.iE,Sg,R.gE],R.ei,R.eb,R.er,R.dm,by simp[S.iE,amw,R.size],λt u L=> ?_,λH e G b Q F y=> ?_⟩
 rw[A,WM] at X;cases M:bP s.au i with
 |none=>rw[M] at X;cases X
 |some x=>
  obtain⟨w,gK⟩:=x;rw[M] at X;simp only[ga,adY,dX,JE] at X;obtain⟨rfl,rfl⟩:=X;have r:=R.mem.box i w gK M
  grind [iZ,qC,Np]
 exact⟨(R.mem.ak H e G Q F).1,λb X i N=>(R.mem.ak H e G Q F).2 b X i (by rw[<-Kl (k:=k) (n:=n)];exact N)⟩;simp only[S.iE,amv] at L;cases M:s.tmps[t]? with
 |none=>rw[M] at L;cases L
 |some x=>
  rw[M] at L;simp at L;subst L;rcases R.tmps t x M with Q|Q;exact .inl ((axB x).2 Q);right;rw[adX h];exact Q
 have t:=R.eP H e G b Q F y;exact⟨t.own,t.mem,λi N=>t.box i (by rw[<-Kl (k:=k) (n:=n)];exact N),t.alone,t.inner⟩

def amx:∀(Q X:aE)(R:Nat),(ge X R Q).length=Y X
 |[],X,R=>rfl|v::Q,X,R=>by rw[ge,amx];simp
def WN:∀(R Q:aE)(X j:Nat),X+Y R<=Y Q->(ge Q X R)[j]?=if X<=j/\j<X+Y R then R[j-X]? else Q[j]?
 |[],Q,X,j,_=>by simp[ge];intro N M;omega
 |v::R,Q,X,j,h=>by
  simp at h;rw[ge,WN R _ (X+1) j bS]
  grind
def amy:∀(R l:fz)(X j:Nat),X+Y R<=Y l->(A4 l X R)[j]?=if X<=j/\j<X+Y R then R[j-X]? else l[j]?
 |[],l,X,j,_=>by simp[A4];intro Q N;omega
 |v::R,l,X,j,h=>by
  simp at h;rw[A4,amy R _ (X+1) j bS]
  grind
def Nq{f:aE->aE}{X:aE}(h:(i.modify R f)[M]?=U X):(M=R/\∃Q,i[R]?=U Q/\X=f Q)\/(M≠R/\i[M]?=U X):=by
 grind
def axC{w:Nat}{l:fz}(Q:∀(X:Nat)(R:aE),i[X]?=U R->Y R=w)(L:Y l=Y i*w)(h:∀(X j:Nat)(R:aE)(c:RV),i[X]?=U R->R[j]?=U c->l[X*w+j]?=U c.val):l=eH i:=by
 apply kX;intro q;by_cases N:q<(eH i).length;have M:=dv N;obtain⟨X,j,R,c,H,G,F,B⟩:=Ni Q M
 grind
 grind [CQ]
def axD(R:aA p g D d.ty V O s a W)(ch:jx P d.ty)(hg:eD d.gl O){y:Operand}(ho:F.op=.store X n y){dr:Bool}{b:BI}(h:eY d F r dr s=U b)(hn:b.aS.ai O=J):
  No P p g D d.ty V O s a W F b:=by
 unfold eY at h;simp only[ho] at h;split at h;cases h;split at h;rename_i B k w i L cl hx;split at h;rename_i e hk;split at h;rename_i te cn;split at h;rename_i hc;simp only[aC,gc,dq] at hc;obtain⟨⟨⟨⟨co,a3⟩,cp⟩,af⟩,cu⟩:=hc;cases hb:kZ s Z (xq i (.len (.v k))) e (.own e) (.set (.ak (.v k)) i L (s.ev d.gl y).cells) [k] (C.qo (s.ev d.gl y).cells) with
 |none=>rw[hb] at h;cases h
 |some b0=>
  rw[hb] at h;simp only[ga,dX] at h;obtain⟨ce,cv,rfl⟩:=A5 hb;subst h;have bs:bJ d.ty (.sl e)=te.am:=by simp[bJ,cn]
  have hw:(bJ d.ty (.sl e)).length=w:=by rw[bs];exact co
  obtain⟨A,Q,aa,g1,g2,g3⟩:=Se R hk;have ba:=uE R hk;simp only[xq] at hn;obtain⟨a4,ag⟩:=CV hn;have a4:=A6 a4;rw[EX] at ag;simp only[fp,K.ai,RE.rv] at a4 ag;have ag:=GN ag;rw[g1] at ag;simp only[RV.pe,lenOf] at ag;obtain⟨N,hI⟩:=Sf a4;have c9:N<Q:=ae;obtain⟨bt,bx⟩:=uD g2;have a1:=fW.zw g2;obtain⟨bk,db,hA,b1,cx,a9⟩:∃b db,A=U ⟨b,0,Z⟩/\W.heap[b]?=U (.cells db e (0,0))/\aa<=maxLen/\db.size=aa*(bJ d.ty (.sl e)).length:=by
   rcases g3.mem with h0|h0;omega;exact h0
  subst hA;have cy:mZ (U ⟨bk,0,Z⟩) aa=U bk:=by cases aa with|zero=>omega|succ c=>rfl
  have cA:s.ev d.gl y≠ .any:=by
   intro hy;rw[hy] at af a3;simp only[C.cells,Vy] at a3;rw[<-a3] at af;cases hd:(te.am.drop L).take 1 with|nil=>rw[hd] at af;simp[nN,C.cells] at af|cons c cs=>rw[hd] at af;simp[nN,C.cells,uu] at af
  have cB:=de R hg y (by cases hh:s.ev d.gl y<;>first|rfl|exact bB hh cA);have cC:=de R hg n (by rw[hx];rfl);have cD:=WC (O:=O) (V:=V) (xF R) cu;obtain⟨f1,f2⟩:=Ki af;have bq:(s.ev d.gl y).cells.length=Y B.am:=a3;have dc:((te.am.drop L).take (Y B.am)).length=Y B.am:=bS;have b2:∀(j:Nat),j<Y B.am->((te.am.drop L).take (Y B.am))[j]?=(bJ d.ty (.sl e))[L+j]?:=by
   intro j hj;rw[pJ,aH hj,xj,bs]
  have b3:C.az O V (s.ev d.gl y).cells=((s.ev d.gl y).cells.map (C.cj O)).map RV.val:=by
   apply kX;intro j;rw[uB,ep,ep];cases hv:(s.ev d.gl y).cells[j]? with
   |none=>rfl
   |some v=>
    have hj:j<Y B.am:=by rw[<-bq];exact(du.1 hv).1
    obtain⟨ct,cO⟩:∃ct,((te.am.drop L).take (Y B.am))[j]?=U ct:=⟨_,dv ae⟩;simp only[ga];rw[amq (f2 j ct v cO hv)]
  have al:=adO R af;have b4:(LE.set (.ak (.v k)) i L (s.ev d.gl y).cells).ah O=(O.rv k).ah.modify N λH=>ge H L ((s.ev d.gl y).cells.map (C.cj O)):=by simp[LE.ah,RE.rv,hI]
  have bb:((s.ev d.gl y).cells.map (C.cj O)).length=Y B.am:=by simp[bq]
  generalize cW:(s.ev d.gl y).cells.map (C.cj O)=vv at*;have bc:∀G:aE,Y G=(bJ d.ty (.sl e)).length->L+Y vv<=Y G:=λG h0=>by rw[h0,hw,bb];exact cp
  have bd:fW W d.ty e ((O.rv k).ah.modify N λH=>ge H L vv):=by
   refine fW.of (λm H hr=> ?_);rcases Nq hr with⟨rfl,G,f,rfl⟩|⟨bf,f⟩
   ·have q:=a1.get f;have c0:=bc G q.len;refine⟨by rw[amx];exact q.len,λj c kk ab ac=> ?_,λj c ab ac=> ?_,λj c z kk ab ac=> ?_⟩
    all_goals
     rw[WN _ _ _ _ c0] at ab;split at ab;rename_i hj;have bg:j-L<Y B.am:=ae;have an:=b2 _ bg;rw[show L+(j-L)=j from ae,ac] at an
     first
      |exact al.int (j-L) c _ ab an
      |exact al.bool (j-L) c ab an
      |exact al.bz (j-L) c _ _ ab an
     first
      |exact q.int j c _ ab ac
      |exact q.bool j c ab ac
      |exact q.bz j c _ _ ab ac
   exact a1.get f
  have c1:CR d.ty V O s e ((O.rv k).ah.modify N λH=>ge H L vv) (C.qo (s.ev d.gl y).cells):=by
   intro b ⟨m,j,H,c,z,kk,h1,l,h3,hl⟩;have elder:∀G,(O.rv k).ah[m]?=U G->G[j]?=U c->O.ph d.ty s.rs b/\(∀i,aL s.au i=J->ad V i≠b)/\∀(k':Nat)(X:TypeId)(rv:RV),s.rs[k']?=U (.own X)->O.r[k']?=U rv->rv.lx=U b->k'∈C.qo (s.ev d.gl y).cells:=by
    intro G q1 q2;have hi:oJ d.ty e (O.rv k).ah b:=⟨m,j,G,c,z,kk,q1,q2,h3,hl⟩;have b5:=Nj (O:=O) (e0:=.own e) rfl hi;exact⟨⟨k,_,hk,b5⟩,(R.mem.ak k _ _ hk ba).2 b b5,λk' X rv q3 q4 q5=>(Nk R q3 q4 q5 hk rfl hi).elim⟩
   rcases Nq h1 with⟨rfl,G,f,rfl⟩|⟨bf,f⟩;rw[WN _ _ _ _ (bc G (a1.len _ _ f))] at l;split at l;rename_i hj;have bg:j-L<Y B.am:=ae;have an:((te.am.drop L).take (Y B.am))[j-L]?=U (.bz z kk):=(b2 _ bg).trans (by rw[show L+(j-L)=j from ae];exact h3);rw[<-cW] at l;obtain⟨M,q1,q2,q3,q4⟩:=adP af l an hl;obtain⟨p1,p2⟩:=Kh R q3 q2 q4;refine⟨p1,p2,λk' X rv k1 k2 k3=> ?_⟩;have:=Sb R k1 k2 k3 q3 q2 q4;subst this;exact WK (jD q1) rfl;exact elder G f l;exact elder H f l
  have bl:(C.az O V (s.ev d.gl y).cells).length=Y B.am:=by simp[bq]
  have c2:N*w+L+Y B.am<=aa*w:=by
   have:(N+1)*w<=aa*w:=GG _ ae;rw[sT] at this;omega
  obtain⟨W',r1,r2,r3,r4,r5,r6,r7⟩:=adI (P:=P) bk (N*w+L) e (C.az O V (s.ev d.gl y).cells) 0 db W b1 (by rw[bl,a9,hw];omega) (λu hu=>by
   rw[b3] at hu;obtain⟨c,c3,rfl⟩:=fo.1 hu;obtain⟨j,hj⟩:=sP c3;have dd:j<Y B.am:=by rw[<-bb];exact(du.1 hj).1
   obtain⟨ct,ac⟩:∃ct,((te.am.drop L).take (Y B.am))[j]?=U ct:=⟨_,dv ae⟩;cases ct with
   |int kk=>obtain⟨n',br⟩:=al.int j c kk hj ac;rw[br];rfl
   |bool=>obtain⟨n',br⟩:=al.bool j c hj ac;rw[br];rfl
   |bz z kk=>exact M8 (al.bz j c z kk hj ac))
  have a0:((O.rv k).ah.modify N λH=>ge H L vv).length=Q:=by simp[bt]
  have b6:=adR g2 b1;rw[bt,hw] at b6;obtain⟨R',c4⟩:=R.bind ce (old:=U bk) (kill:=[k]) (dl:=C.qo (s.ev d.gl y).cells) (A:=U ⟨bk,0,Z⟩) (cap:=aa) (W':=W') (.inr ⟨k,e,_,rfl,hk,ba,by rw[g1,Nn,cy]⟩) cv
   ⟨r5,r6,r7,ae,λq _ hq=>r3 q (λh=>hq (by rw[h]))⟩ bd c1
   ⟨by rw[a0];exact bx,aw,.inr ⟨bk,_,rfl,r2,cx,by rw[hw,Mq,adH,GI,a9,hw],by
    rw[a0,hw];refine axC (w:=w) (λm H hr=>by rw[bd.len m H hr,hw]) ?_ (λm j H c h1 l=> ?_);rw[a0,Mr,aco,adH,GI,a9,hw];exact Ms (GG _ bx);have df:m<Q:=by rw[<-a0];exact(du.1 h1).1
    have dk:j<w:=by rw[<-hw,<-bd.len m H h1];exact(du.1 l).1
    have b7:m*w+j<Q*w:=by
     have:(m+1)*w<=Q*w:=GG _ ae;rw[sT] at this;omega
    rw[pJ,aH b7,aco,yX,amy _ _ _ _ (by rw[bl,GI,a9,hw];exact c2),bl];have b8:∀G:aE,(O.rv k).ah[m]?=U G->G[j]?=U c->db.toList[m*w+j]?=U c.val:=by
     intro G q1 q2;have:=R6 (w:=w) (λi H hr=>by rw[a1.len i H hr,hw]) q1 q2;rw[<-b6,pJ,aH b7] at this;exact this
    rcases Nq h1 with⟨rfl,G,f,rfl⟩|⟨bf,f⟩;rw[WN _ _ _ _ (bc G (a1.len _ _ f)),bb] at l;by_cases hj:L<=j/\j<L+Y B.am;rw[aH hj] at l;rw[aH ae,b3,show m*w+j-(m*w+L)=j-L from ae,ep,l];rfl;rw[aJ hj] at l;rw[aJ ae];exact b8 G f l;have c5:¬(N*w+L<=m*w+j/\m*w+j<N*w+L+Y B.am):=by
     rintro⟨q1,q2⟩;rcases aJg bf with dn|ds;have:(m+1)*w<=N*w:=GG _ ae;rw[sT] at this;omega;have:(N+1)*w<=m*w:=GG _ ae;rw[sT] at this;omega
    rw[aJ c5];exact b8 H f l,.inr rfl⟩⟩
  have c6:k<Y O.r:=(du.1 ba).1;have R2:=R'.iE (k:=k) (n:=Y s.rs) (by
   rw[<-R.er];have e1:(O.add (.r (.mk (.slice (U ⟨bk,0,Z⟩) ((O.rv k).ah.modify N λH=>ge H L vv).length aa) ((O.rv k).ah.modify N λH=>ge H L vv)))).rv (Y O.r)=.mk (.slice (U ⟨bk,0,Z⟩) ((O.rv k).ah.modify N λH=>ge H L vv).length aa) ((O.rv k).ah.modify N λH=>ge H L vv):=by simp[aj.rv,aj.add]
   have e2:(O.add (.r (.mk (.slice (U ⟨bk,0,Z⟩) ((O.rv k).ah.modify N λH=>ge H L vv).length aa) ((O.rv k).ah.modify N λH=>ge H L vv)))).rv k=O.rv k:=by simp[aj.rv,aj.add,fO,c6]
   rw[e1,e2,RV.pe,a0];have:=j7 RV.val g1;exact this.symm)
  refine⟨undef,W',_,.inr ⟨?_,rfl⟩,⟨⟨_,_,_,by rw[b4],by rw[b4]⟩,c4,λk' _ _ _ hx=>by
   cases hx;rw[RV.pe,a0];exact(j7 RV.val g1).symm⟩,R2.put F.dst (.bI []), ?_⟩
  have c7:(O.rv k).val=.slice (U ⟨bk,0,Z⟩) Q aa:=by rw[g1];rfl
  have ca:((s.ev d.gl y).ai O V).cells.toList=C.az O V (s.ev d.gl y).cells:=cD;have c8:((s.ev d.gl y).ai O V).cells.size=Y B.am:=by rw[<-GI,ca];simp[bq]
  simp only[execOp,ho,cC,cB,hx,C.ai,RE.ai,RE.rv,c7,pf,hI,rN,jp,Instr.storeAt,Instr.sureAddr,storeVar,dD,fy,dC,(ch _ _ cl).nP,c8,ca,ne_eq,not_true_eq_false,jE,r1];have cc:bC s O V ({s with rs:=kY (C.qo (s.ev d.gl y).cells) 0 (jG [k] 0 s.rs)++[.own e]}:S) _ V:=Hk (rv:=.mk (.slice (U ⟨bk,0,Z⟩) ((O.rv k).ah.modify N λH=>ge H L vv).length aa) ((O.rv k).ah.modify N λH=>ge H L vv)) _ Z (.bI []);refine bC.put (s:=s) (s':=(({s with rs:=kY (C.qo (s.ev d.gl y).cells) 0 (jG [k] 0 s.rs)++[.own e]}:S).put Z (.ak (.v (Y s.rs)))).iE k (Y s.rs)) ⟨cc.ext,λq hq=> ?_,by simp[S.put,S.iE,Sg],cc.ax⟩ _ _;simp only[S.put,S.iE,Kl];exact hq
 cases h;cases h;cases h;cases h
def adZ(R:aA p g D d.ty V O s a W)(Q:jx P d.ty)(N:eD d.gl O){H:Bool}{b:BI}(h:eY d F r H s=U b)(M:b.aS.ai O=J):No P p g D d.ty V O s a W F b:=by
 cases X:F.op with
 |call c=>
  cases L:c.callee with
  |builtin G=>cases G with|append=>exact axu R Q N X L h M|_=>simp[eY,X,L] at h
  |_=>simp[eY,X,L] at h
 |makeSlice t n m=>exact axw R Q N X h M|buildSlice t B parts=>exact axx R Q N X h|slice t x A z w=>exact axA R Q N X h M|store t x y=>exact axD R Q N X h M|_=>simp[eY,X] at h
end
