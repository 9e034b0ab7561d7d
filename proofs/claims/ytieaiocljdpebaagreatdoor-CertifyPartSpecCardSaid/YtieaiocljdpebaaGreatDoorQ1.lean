/- Part 1 of the proof; the last part says what is shown. -/
import GoSem.Step
import Derived.Below
import Derived.Laws.AppendOwn
import Derived.Deep.Draws
import Derived.RangeFuncRecord
import Derived.CallsIn
import Derived.OrdersIn
import Derived.Sort.LoopGhostIn
import Derived.RangeFuncCalls
import Derived.Laws.Cells
import Derived.MapKept
import Derived.IntWalk
set_option linter.all false
set_option maxRecDepth 100000
set_option maxHeartbeats 100000000
open Bool renaming and_eq_true->aA,not_eq_true'->iK,or_eq_true->jy,false_eq_true->jR,eq_iff_iff->vx,not_eq_false->H5,rec->KS,or_eq_true_iff->aw3,and_assoc->axg,true_or->axo,true->J,false->E
open Nat renaming lor->cd,le_refl->cg,zero_add->jz,beq->jL,gcd->lC,shiftLeft->mF,le_trans->qL,add_mul->rI,add_zero->zU,eq_zero_or_pos->BG,testBit_or->FG,zero_le->FJ,mul_le_mul_right->H3,add_assoc->H8,mod_lt->Ia,rec->Ib,min_eq_left->OF,testBit_add_one->T1,mul_le_mul->Ub,mul_comm->Uc,lt_of_lt_of_le->aa0,sub_self->abd,div_add_mod->ajS,beq_eq->aj0,testBit_shiftLeft->awZ,div_lt_of_lt_mul->aw2,one_shiftLeft->aw8,testBit_zero->axb,eq_of_beq_eq_true->aKy,testBit_two_pow->aKF,lt_or_gt_of_ne->aKJ
open List renaming getElem?_eq_some_iff->cj,getElem?_eq_getElem->cL,getD_eq_getElem?_getD->dL,mem_cons->dS,getElem?_map->dX,getElem?_append_left->dZ,replicate->eH,map_cons->eW,mem_append->fh,range->fj,all_eq_true->f9,length_append->gU,mem_map->iL,getElem?_append_right->jd,getElem?_eq_none->ke,mem_of_getElem?->ki,map_congr_left->kJ,ext_getElem?->kK,any_eq_true->lT,getElem?_take->nA,length_eq_one_iff->pj,getElem_mem->pl,map_map->pn,length_cons->qI,length_map->qJ,getElem?_set_ne->sI,eq_nil_of_length_eq_zero->uc,getElem?_cons_succ->ud,getElem?_of_mem->ue,getElem?_drop->vw,getElem?_set->wU,range'->yt,rec->zV,getElem?_eq_none_iff->Dr,mem_of_mem_drop->Dt,getElem?_replicate->Fw,mem_cons_of_mem->Fy,mem_of_mem_take->Fz,getElem?_range->FB,length_take->FD,length_drop->FE,foldl_cons->FF,drop_eq_getElem_cons->HZ,getElem?_set_self->H0,size_toArray->H6,take_of_length_le->KM,append_assoc->KO,find?_cons->KP,getElem?_modify->OC,drop_drop->OH,all_cons->OI,mem_singleton->T3,mem_of_find?_eq_some->aaU,length_singleton->aaV,range_eq_range'->aaY,toList_toArray->aaZ,zip_cons_cons->aa1,flatMap_cons->aa3,range'_succ->aa4,find?_some->aa7,drop_eq_nil_of_le->awY,getElem?_toArray->aw0,drop_zero->axh,mapM_cons->axi,length->Y
open Go.Result renaming andThen_ok->dq
open Go.Sem renaming run_bind->dt,run_pure->fF
open Option renaming map_some->eo,isSome_iff_exists->lB,getD_some->pZ,bind_some->aa5,getD_none->ajP,some->U,none->Z
open Go.Op renaming operands->iY,equalIn->Dw,equal->FL
open Go.Region renaming binds->axp
open Go.World renaming cell?->oC,putObj_heap_other->vu,putObj->H9,alloc_heap_new->TZ,setCell->abb,frozen?->abc,grownBy_alloc->aKG
open Array renaming ext'->oD,getElem?_eq_some_iff->pi,toList_map->yr,length_toList->FA,getElem?_modify->TY,getElem?_toList->aaW,getElem?_setIfInBounds_ne->ajE,range->ajY,getElem?_eq_getElem->awW,toList_range->aw6,mapM_eq_mapM_toList->aKn,getElem?_eq_none->aKu,foldl_toList->aKI
open Int renaming toNat_natCast->zR
open List.cons renaming injEq->zT
open Go.Call renaming operands->BH
open Prod.mk renaming injEq->FH
open Go.IntKind renaming i64->I
namespace Go.Proofs.YtieaiocljdpebaaGreatDoor.Y
variable{R Q h:Nat}
def aa{p:Prop}(h:p:=by omega):p:=h
def aw{p:Prop}(h:p:=by simp):p:=h
def eS{p:Prop}(h:p:=by assumption):p:=h
def dM{p:Prop}(h:p:=by decide):p:=h
def dh{p:Prop}(h:p:=by simp;omega):p:=h
def cQ{p:Prop}(h:p:=by simp[iY]):p:=h
def po{p:Prop}(h:p:=by dsimp only;decide):p:=h
def cz:= @decide_eq_true_eq
def du:= @beq_iff_eq
def aL:= @if_pos
def aP:= @if_neg
def cN:= @if_true
def gD:= @if_false
def aG:= @absurd
def ku:= @congrArg
def wX:= @of_decide_eq_true
def cS:= @Option.some.injEq
def me:= @Option.some.inj
structure Sh where
 kt:TypeId
 vt:TypeId
 nk:Nat
 ka:Bool
 va:Bool
 deriving DecidableEq
abbrev aq:=List Nat
abbrev cH:=Option Nat
abbrev bw:=List Int
abbrev kw:=List TypeId
abbrev j5:=Option (List TypeId)
abbrev dU:=Array Oper
abbrev qM:=List Oper
abbrev nD:=List (Nat×Nat×Nat)
abbrev sJ:=List ResultVar
abbrev Dx:=List (Nat×Nat)
abbrev gE:=List Value
abbrev mG:=Array Value
abbrev mf:=List Bool
abbrev oE:=Option Addr
abbrev uf:=List (Value×Value)
inductive RK where
 |sl (e:TypeId)
 |str
 |aS
 |own (e:TypeId)
 |am
 |mr (sh:Sh)
 deriving DecidableEq
abbrev bz:=List RK
def RK.rd:RK->RK
 |.own e=>.sl e
 |k=>k
inductive CT where
 |int (k:IntKind)
 |bool
 |aS (z:Value) (k:RK)
abbrev fp:=List CT
inductive TD where
 |one
 |gF
 |str
 |slice (e:TypeId)
 |arr (n:Nat) (e:TypeId)
 |struct (fs:List (Nat×TypeId))
 |map (k e:TypeId) (n:Nat) (ag:Bool)
structure TI where
 d:TD
 ak:fp
 eq:Bool:=E
abbrev gV:=Option TI
mutual
inductive K where
 |c (n:Int)
 |v (k:Nat)
 |bin (op:BinOp) (k:IntKind) (a b:K)
 |conv(k:IntKind) (a:K)
 |len (r:RE)
 |mm (mx:Bool) (a b:K)
 |dV (b:BE) (x y:K)
 |cell (r:RE) (i:K) (j:Nat)
 |nX (r:RE) (i:K)
 |look (r:RE) (n:Nat) (a b c:K) (j:Nat)
inductive BE where
 |c (b:Bool)
 |v (k:Nat)
 |cmp (op:BinOp) (a b:K)
 |not (a:BE)
 |and (a b:BE)
 |beq (a b:BE)
 |dV (b x y:BE)
 |cell (r:RE) (i:K) (j:Nat)
 |seq (a b:RE)
 |look (r:RE) (n:Nat) (a b c:K) (j:Nat)
 |has (r:RE) (n:Nat) (a b c:K)
inductive RE where
 |v (k:Nat)
 |cell (r:RE) (i:K) (j:Nat) (k:RK)
 |k (v:Value)
end
inductive C where
 |int (k:IntKind) (e:K)
 |bool (b:BE)
 |aj (r:RE)
 |loc (i off:Nat)
 |el (r:RE) (w:Nat) (i:K) (off:Nat)
 |jM (i off len cap:Nat)
 |agg (l:List C)
 |b9 (l:List C)
 |fn (f:FuncId) (caps:List C)
 |gF (t:TypeId) (x:C)
 |yl (n:Nat)
 |any
 |mp (i:Nat)
 |gz (e:K) (ks:List Int) (vs:List C)
abbrev ap:=List C
abbrev yu:=List (List C)
abbrev Ic:=Option (List C)
inductive PX where
 |ret
 |exit (id:Nat)
 deriving DecidableEq
inductive Ie where
 |ready
 |busy
 |done (e:PX)
 deriving DecidableEq
abbrev vy:=List Ie
abbrev bK:=List (Option (TypeId×ap))
structure S where
 tmps:ap
 ao:bK
 ni:Nat
 nb:Nat
 rs:bz
 aC:Nat
 lk:Nat
 pd:vy
noncomputable def cJ(l:bK)(i:Nat):Option (TypeId×ap):=zV (motive:=λ_=>Nat->Option (TypeId×ap)) (λ_=>Z) (λx _ X t=>Ib (motive:=λ_=>Option (TypeId×ap)) x (λm _=>X m) t) l i
def dC:∀(l:bK)(i:Nat),cJ l i=(match l[i]? with
  |U (U b)=>U b
  |_=>Z)
 |[],_=>rfl
 |Z::_,0=>rfl
 |U _::_,0=>rfl
 |_::l,i+1=>by rw[ud];exact dC l i
noncomputable section
def vz:TypeId:=1099511627776
def wY:TypeId:=1099511627777
def yv:TypeId:=1099511627778
def rJ(t:TypeId):Bool:=decide (vz<=t)
def mg(l:bK)(i:Nat):Option (TypeId×ap):=match cJ l i with
 |U (t,X)=>if rJ t then Z else U (t,X)
 |none=>Z
inductive LK where
 |int (k:IntKind)
 |bool
 |aj (k:RK)
 deriving DecidableEq
abbrev aY:=List LK
inductive XE where
 |normal
 |ret
 |exit (id:Nat)
 |bD (v:C)
inductive LE where
 |aj (r:RE)
 |lit (l:List (List C))
 |nY (a b:LE)
 |sK (n:K) (row:List C)
 |set (a:LE) (i:K) (off:Nat) (cs:List C)
 |sub (a:LE) (lo hi:K)
 |ins (a:LE) (n:Nat) (cs:List C)
inductive bq where
 |lex (cs:List Nat) (desc:Bool)
 |ratio (n d:Nat)
 |dp (k:Nat) (o:bq) (as:List K)
abbrev BL:=List (FuncId×FuncId×TypeId×bq×Bool)
inductive T where
 |out (e:XE) (s:S)
 |ret (v:C) (bx:bK) (rs:List RK)
 |bD (v:C)
 |bi (b:BE) (t f:T)
 |bA (b:BE) (t:T)
 |call (f:FuncId) (args:List C) (bx:bK) (rs:List RK) (ks:List LK) (jf:C) (t:T)
 |loop (aC:Nat) (ks:List LK) (x0:List C) (t:T)
 |back (aC:Nat) (x:List C)
 |new (e:TypeId) (x:LE) (rs rsn:List RK) (t:T)
 |ae (k:RK) (x:LE) (rs:List RK) (t:T)
 |gA (g h:BE) (t f:T)
 |pick (n:K) (g h:BE) (t f:T)
 |ez (f g:FuncId) (e:TypeId) (sp:bq) (st:Bool) (r:RE) (rs:List RK) (t:T)
 |stuck (msg:String)
def KT:Value->C
 |.int k n=>.int k (.c n)
 |.bool b=>.bool (.c b)
 |v=>.aj (.k v)
def OO:Value->C
 |.int k n=>.int k (.c n)
 |.bool b=>.bool (.c b)
 |.agg X=>.agg (X.toList.map KT)
 |v=>.aj (.k v)
def nth(l:ap)(t:Nat):C:=zV (motive:=λ_=>Nat->C) (λ_=>.any) (λx _ X t=>Ib (motive:=λ_=>C) x (λm _=>X m) t) l t
def aj2(l:ap)(d:Nat)(v:C):ap:=zV (motive:=λ_=>Nat->ap) (λ_=>[]) (λx X W d=>Ib (motive:=λ_=>ap) (v::X) (λm _=>x::W m) d) l d
@[simp] def yw:∀(l:ap)(t:Nat),nth l t=l.getD t .any
 |[],_=>rfl
 |_::_,0=>rfl
 |_::X,t+1=>yw X t
@[simp] def wZ:∀(l:ap)(d:Nat)(v:C),aj2 l d v=l.set d v
 |[],_,_=>rfl
 |_::_,0,_=>rfl
 |x::X,d+1,v=>ku (x::·) (wZ X d v)
def S.ev(X:nD)(s:S):Operand->C
 |.tmp t=>nth s.tmps t
 |.const v=>OO v
 |.global g=>match X.find? (λx=>x.1==g) with
  |U (_,k,w)=>.el (.v k) w (.c 0) 0
  |none=>.any
 |.func f=>.fn f []
def S.put(s:S)(X:cH)(v:C):S:=
 match X with
 |U d=>{s with tmps:=aj2 s.tmps d v}
 |none=>s
def FM(r:RE)(i:K)(j:Nat):CT->C
 |.int k=>.int k (.cell r i j)
 |.bool=>.bool (.cell r i j)
 |.aS _ k=>.aj (.cell r i j k)
def Dy:CT->C
 |.int k=>.int k (.c 0)
 |.bool=>.bool (.c E)
 |.aS z _=>.aj (.k z)
def TD.isAgg:TD->Bool
 |.arr _ _|.struct _=>J
 |_=>E
def C.cells:C->ap
 |.agg l=>l
 |v=>[v]
def jT:Value->Bool
 |.agg _|.tuple _=>E
 |_=>J
def RE.If:RE->Bool
 |.k w=>jT w
 |_=>J
def C.Ig:C->Bool
 |.aj (.k w)=>jT w
 |_=>J
def C.single:C->Bool
 |.aj (.k w)=>jT w
 |.agg _|.b9 _|.any=>E
 |_=>J
noncomputable def FN(l:ap):Bool:=zV (motive:=λ_=>Bool) J (λx _ X=>KS (motive:=λ_=>Bool) E X x.single) l
def Ue:(FN []=J)/\(∀x X,FN (x::X)=(x.single&&FN X)):=⟨rfl,λx X=>by
 show KS (motive:=λ_=>Bool) E (FN X) x.single=_;cases x.single<;>rfl⟩
def yz(l:ap)(X n:Nat):ap:=(l.drop X).take n
def yA(X:TI)(l:ap)(W:Nat):Option C:=
 if X.d.isAgg then(if W+Y X.ak<=Y l then U (.agg (yz l W (Y X.ak))) else Z) else l[W]?
def lW(l:ap)(X:Nat):ap->ap
 |[]=>l
 |v::r=>lW (l.set X v) (X+1) r
def zW(place:Nat->Option (Nat×Nat))(cells:ap):List (Nat×C)->Ic
 |[]=>U cells
 |(i,v)::V=>
  match place i with
  |none=>Z
  |U (X,W)=>if Y v.cells !=W||decide (Y cells<X+W)|| !v.Ig then Z else zW place (lW cells X v.cells) V
def eA(X:TI):ap:=X.ak.map Dy
def yB(n:Nat)(l:ap):ap:=match n with
 |0=>[]
 |n+1=>l++yB n l
def Uf:BinOp->Bool
 |.eql|.neq|.lss|.leq|.gtr|.geq=>J
 |_=>E
def iM:BinOp->Int->Int->Bool
 |.eql,x,y=>x==y
 |.neq,x,y=>x !=y
 |.lss,x,y=>decide (x<y)
 |.leq,x,y=>decide (x<=y)
 |.gtr,x,y=>decide (x>y)
 |.geq,x,y=>decide (x>=y)
 |_,_,_=>E
def ay:BinOp->IntKind->Int->Int->Int
 |.add,k,x,y=>k.wrap (x+y)
 |.sub,k,x,y=>k.wrap (x-y)
 |.mul,k,x,y=>k.wrap (x*y)
 |.quo,k,x,y=>k.wrap (x.tdiv y)
 |.rem,_,x,y=>x.tmod y
 |.shr,k,x,y=>x.fdiv (2^min y.toNat k.bits)
 |_,_,_,_=>0
def abg:BinOp->Bool
 |.add|.sub|.mul=>J
 |_=>E
def abh:BinOp->Bool
 |.quo|.rem=>J
 |_=>E
def aj3:BinOp->Bool
 |.shr=>J
 |_=>E
inductive PR where
 |ok (v:C)
 |bA (b:BE) (v:C)
 |no (why:String)
def Ih(X:BinOp)(k:IntKind):K->K->K
 |.c x,.c y=>.c (ay X k x y)
 |a,b=>.bin X k a b
def qN(X:BinOp):K->K->BE
 |.c x,.c y=>.c (iM X x y)
 |a,b=>.cmp X a b
def FO:BE->BE
 |.c b=>.c (!b)
 |b=>.not b
def w6:BE->BE->BE
 |.c J,b=>b
 |.c E,_=>.c E
 |a,.c J=>a
 |a,b=>.and a b
def OP:BE->BE->BE
 |.c a,.c b=>.c (a==b)
 |.c J,b=>b
 |.c E,b=>FO b
 |a,.c J=>a
 |a,.c E=>FO a
 |a,b=>.beq a b
def w7(i:K)(n:K):BE:=w6 (qN .leq (.c 0) i) (qN .lss i n)
def Ug(X:Bool):K->K->K
 |.c x,.c y=>.c (if X then max x y else min x y)
 |a,b=>.mm X a b
def Ii(X:Bool)(k:IntKind):K->ap->Option K
 |e,[]=>U e
 |e,.int W x::r=>if k=W then Ii X k (Ug X e x) r else Z
 |_,_=>Z
abbrev Ty:=TypeId->gV
def bH(W:Ty):RK->fp
 |.sl e=>match W e with
  |U X=>X.ak
  |none=>[]
 |.mr V=>(match W V.kt with
  |U X=>X.ak
  |none=>[])++(match W V.vt with
  |U X=>X.ak
  |none=>[])
 |_=>[]
def Ij:Option CT->RK
 |U (.aS _ k)=>k
 |_=>.aS
def RE.kind(X:Ty)(s:S):RE->RK
 |.v n=>(s.rs.getD n .aS).rd
 |.cell r _ j W=>match RE.kind X s r with
  |.sl e=>if Ij (bH X (.sl e))[j]?=W then W else .aS
  |_=>.aS
 |.k (.string _)=>.str
 |.k _=>.aS
def KU(X:Ty)(s:S):CT->C->C->Option BE
 |.int k,.int W a,.int V b=>if W=k/\V=k then U (qN .eql a b) else Z
 |.bool,.bool a,.bool b=>U (OP a b)
 |.aS _ .str,.aj a,.aj b=>if a.kind X s=.str/\b.kind X s=.str then U (.seq a b) else Z
 |_,_,_=>Z
def sL(X:Ty)(s:S):fp->ap->ap->Option BE
 |[],[],[]=>U (.c J)
 |c::W,x::V,y::R=>match KU X s c x y,sL X s W V R with
  |U a,U b=>U (w6 a b)
  |_,_=>Z
 |_,_,_=>Z
def KV(X:Ty)(s:S)(W:gV)(a b:ap):Option BE:=match W with
 |U ⟨_,ak,J⟩=>sL X s ak a b
 |_=>Z
def abi(X:Ty)(W:List (Nat×TypeId))(i:Nat):Option (Nat×Nat):=match W[i]? with
 |U (o,V)=>(X V).map λf=>(o,Y f.ak)
 |none=>Z
def RE.nil:RE->Bool
 |.k (.slice Z 0 0)=>J
 |_=>E
def RE.rK(X:Ty)(s:S)(W:Sh)(r:RE):Bool:=decide (r.kind X s=.mr W)||r.nil
def Ik(n:Nat)(X:Bool):C->Option (K×K×K)
 |.int I a=>if n==1&& !X then U (a,.c 0,.c 0) else Z
 |.agg [.int I a]=>if n==1&&X then U (a,.c 0,.c 0) else Z
 |.agg [.int I a,.int I b]=>if n==2&&X then U (a,b,.c 0) else Z
 |.agg [.int I a,.int I b,.int I c]=>if n==3&&X then U (a,b,c) else Z
 |_=>Z
def nE:CT->Bool
 |.aS _ _=>E
 |_=>J
def rL(r:RE)(n:Nat)(a b c:K):Nat->fp->ap
 |_,[]=>[]
 |j,.int k::X=>.int k (.look r n a b c j)::rL r n a b c (j+1) X
 |j,.bool::X=>.bool (.look r n a b c j)::rL r n a b c (j+1) X
 |j,.aS z _::X=>.aj (.k z)::rL r n a b c (j+1) X
def ug(X:Bool)(l:ap):C:=if X then .agg l else l.getD 0 .any
def rM:ap->Option bw
 |[]=>U []
 |.int I (.c k)::_::r=>(rM r).map (k::·)
 |_=>Z
def mH:ap->ap
 |_::v::r=>v::mH r
 |_=>[]
def BM(e:K):bw->ap->Option K
 |k::X,.int _ x::W=>(BM e X W).map λy=>.dV (.cmp .eql e (.c k)) x y
 |[],[]=>U (.c 0)
 |_,_=>Z
def Dz(e:K):bw->ap->Option BE
 |k::X,.bool x::W=>(Dz e X W).map λy=>.dV (.cmp .eql e (.c k)) x y
 |[],[]=>U (.c E)
 |_,_=>Z
def KW:C->Bool
 |.fn _ _=>J
 |.aj (.k .nilFunc)=>J
 |_=>E
def OQ:gV->Bool
 |U ⟨.one,[.aS .nilFunc _],_⟩=>J
 |_=>E
def DA(e:K):bw->ap->BE
 |k::X,.fn _ _::W=>.dV (.cmp .eql e (.c k)) (.c E) (DA e X W)
 |k::X,_::W=>.dV (.cmp .eql e (.c k)) (.c J) (DA e X W)
 |_,_=>.c J
def abj(e:K)(W:bw)(X:ap):CT->Option C
 |.int k=>if X.all λv=>match v with|.int V _=>decide (k=V)|_=>E then(BM e W X).map (.int k) else Z
 |.bool=>(Dz e W X).map .bool
 |.aS .nilFunc _=>if X.all KW&&Y W==Y X then U (.gz e W X) else Z
 |_=>Z
def DB(e:K)(X:bw)(W:yu):Nat->fp->Ic
 |_,[]=>U []
 |j,c::V=>match abj e X (W.map λr=>r.getD j .any) c,DB e X W (j+1) V with
  |U v,U r=>U (v::r)
  |_,_=>Z
def Il(e:K):bw->BE
 |[]=>.c E
 |k::X=>.dV (.cmp .eql e (.c k)) (.c J) (Il e X)
def eX{X:Type}(x:Int):bw->List X->Option X
 |k::W,v::V=>if x=k then U v else eX x W V
 |_,_=>Z
def BN(X:TI)(v:C):Bool:=Y v.cells==Y X.ak&&v.Ig&&(match v with
 |.agg _=>X.d.isAgg
 |_=> !X.d.isAgg)
def aj4(X:TI)(e:K)(W:ap):Option (C×BE):=match rM W with
 |U V=>match e with
  |.c x=>match eX x V (mH W) with
   |U v=>U (v,.c J)
   |none=>U (ug X.d.isAgg (eA X),.c E)
  |e=>if(mH W).all (BN X) then(DB e V ((mH W).map C.cells) 0 X.ak).map λl=>(ug X.d.isAgg l,Il e V) else Z
 |none=>Z
def abk:CT->Bool
 |.int I=>J
 |_=>E
def uh(X:Ty)(k:TypeId)(n:Nat)(W:Bool):Bool:=match X k with
 |U tk=>Y tk.ak==n&&tk.ak.all abk&&tk.d.isAgg==W
 |none=>E
def Uh(X:Bool)(v:C)(b:BE):PR:=.ok (if X then .b9 [v,.bool b] else v)
def Ui(V:Ty)(s:S)(k e:TypeId)(n:Nat)(W R:Bool)(i:Nat)(O:C):PR:=match V e,Ik n W O,cJ s.ao i with
 |U X,U (a,b,c),U (Q,P)=>if !uh V k n W then .no "" else
  if Q==wY then(match P with
   |[.aj r,.int I (.c N),.bool (.c M),.bool (.c L)]=>if r.rK V s ⟨k,e,n,W,X.d.isAgg⟩&&N==(n:Int)&&M==W&&L==X.d.isAgg&&X.ak.all nE&&Y X.ak !=0 then Uh R (ug X.d.isAgg (rL r n a b c n X.ak)) (.has r n a b c) else .no ""
   |_=>.no "")
  else if Q==vz then(if n==1&& !W then(match aj4 X a P with
   |U (v,x)=>Uh R v x
   |none=>.no "") else .no "")
  else .no ""
 |_,_,_=>.no ""
def DC(n:Nat):bw:=(fj n).map λ(i:Nat)=>(i:Int)
def Uj(X:TI)(e:K)(V:bw)(W:ap):Option C:=if W.all (BN X) then(DB e V (W.map C.cells) 0 X.ak).map (ug X.d.isAgg) else Z
def zX(X:ap):cH:=match X with
 |.loc i _::_=>if X.all λv=>match v with
  |.loc j _=>i==j
  |_=>E then U i else Z
 |_=>Z
def FP{X:Type}:List (Option X)->Option (List X)
 |[]=>U []
 |U x::r=>(FP r).map (x::·)
 |Z::_=>Z
def abl(X:TI)(W:ap):C->Option C
 |.loc _ V=>yA X W V
 |_=>Z
def cw(X:Ty)(W:nD)(s:S):Op->PR
 |.move x|.assign x=>.ok (s.ev W x)
 |.pick c a b=>match s.ev W c with
  |.bool (.c J)=>.ok (s.ev W a)
  |.bool (.c E)=>.ok (s.ev W b)
  |_=>.no ""
 |.load t a=>match X t,s.ev W a with
  |U P,.loc i V=>match mg s.ao i with
   |U (_,H)=>match yA P H V with
    |U v=>.ok v
    |none=>.no ""
   |none=>.no ""
  |U P,.el r w i V=>match r.kind X s with
   |.sl e=>
    if(bH X (.sl e)).length !=w then .no "" else
    match yA P ((fj w).map λj=>FM r i j ((bH X (.sl e)).getD j .bool)) V with
    |U v=>.bA (w7 i (.len r)) v
    |none=>.no ""
   |_=>.no ""
  |U P,.gz e M N=>match(zX N).bind λi=>mg s.ao i with
   |U (_,H)=>match(FP (N.map (abl P H))).bind (Uj P e M) with
    |U v=>if Y M==Y N then .bA (Il e M) v else .no ""
    |none=>.no ""
   |none=>.no ""
  |_,_=>.no ""
 |.fieldAddr G x f=>match X G,s.ev W x with
  |U ⟨.struct O,_,_⟩,.loc i V=>match O[f]? with
   |U (o,t)=>match X t with
    |U P=>if Y P.ak==0 then .no "" else .ok (.loc i (V+o))
    |none=>.no ""
   |none=>.no ""
  |U ⟨.struct O,_,_⟩,.el r w i V=>match O[f]? with
   |U (o,t)=>match X t with
    |U P=>if Y P.ak==0 then .no "" else .ok (.el r w i (V+o))
    |none=>.no ""
   |none=>.no ""
  |_,_=>.no ""
 |.field G x f=>match X G,s.ev W x with
  |U ⟨.struct O,_,_⟩,.agg l=>match O[f]? with
   |U (o,t)=>match X t with
    |U P=>match yA P l o with
     |U v=>.ok v
     |none=>.no ""
    |none=>.no ""
   |none=>.no ""
  |_,_=>.no ""
 |.indexAddr t x L=>match X t,s.ev W x,s.ev W L with
  |U ⟨.arr n e,_,_⟩,.loc i V,.int _ (.c m)=>match X e with
   |U R=>if decide (0<=m)&&decide (m<(n:Int)) then .ok (.loc i (V+m.toNat*Y R.ak)) else .no ""
   |none=>.no ""
  |U ⟨.arr n e,_,_⟩,.el r w (.c i) V,.int _ m=>match X e with
   |U R=>if Y R.ak==w&&i==0&&V==0&&Y R.ak !=0 then .bA (w7 m (.c n)) (.el r w m 0) else
    match m with
    |.c m=>if decide (0<=m)&&decide (m<(n:Int)) then .ok (.el r w (.c i) (V+m.toNat*Y R.ak)) else .no ""
    |_=>.no ""
   |none=>.no ""
  |U ⟨.arr n e,_,_⟩,.el r w i V,.int _ (.c m)=>match X e with
   |U R=>if decide (0<=m)&&decide (m<(n:Int)) then .ok (.el r w i (V+m.toNat*Y R.ak)) else .no ""
   |none=>.no ""
  |U ⟨.slice e,_,_⟩,.aj r,.int _ m=>match X e,r.kind X s with
   |U R,.sl _=>.bA (w7 m (.len r)) (.el r (Y R.ak) m 0)
   |_,_=>.no ""
  |U ⟨.slice e,_,_⟩,.jM i V D _,.int _ (.c m)=>match X e with
   |U R=>if decide (0<=m)&&decide (m<(D:Int)) then .ok (.loc i (V+m.toNat*Y R.ak)) else .no ""
   |none=>.no ""
  |U ⟨.arr n e,_,_⟩,.loc i V,.int _ m=>match X e with
   |U R=>.bA (w7 m (.c n)) (.gz m (DC n) ((fj n).map λj=>.loc i (V+j*Y R.ak)))
   |none=>.no ""
  |_,_,_=>.no ""
 |.index t x L=>match X t,s.ev W x,s.ev W L with
  |U ⟨.arr n e,_,_⟩,.agg l,.int _ (.c m)=>match X e with
   |U R=>if decide (0<=m)&&decide (m<(n:Int)) then(match yA R l (m.toNat*Y R.ak) with
    |U v=>.ok v
    |none=>.no "") else .no ""
   |none=>.no ""
  |U ⟨.arr n e,_,_⟩,.agg l,.int _ m=>match X e with
   |U R=>match(FP ((fj n).map λj=>yA R l (j*Y R.ak))).bind (Uj R m (DC n)) with
    |U v=>.bA (w7 m (.c n)) v
    |none=>.no ""
   |none=>.no ""
  |U ⟨.str,_,_⟩,.aj r,.int _ m=>match r.kind X s with
   |.str=>.bA (w7 m (.len r)) (.int .u8 (.nX r m))
   |_=>.no ""
  |_,_,_=>.no ""
 |.binOp Q t x y _=>match s.ev W x,s.ev W y with
  |.int k a,.int B b=>
   if aj3 Q then(match b with
    |.c n=>if decide (0<=n) then .ok (.int k (Ih Q k a (.c n))) else .no ""
    |_=>.no "") else
   if k≠B then .no "" else
   if Uf Q then .ok (.bool (qN Q a b)) else
   if abg Q then .ok (.int k (Ih Q k a b)) else
   if abh Q then(match b with
    |.c n=>if n==0 then .no "" else .ok (.int k (Ih Q k a b))
    |_=>.bA (qN .neq b (.c 0)) (.int k (Ih Q k a b))) else .no ""
  |.bool a,.bool b=>match X t,Q with
   |U ⟨.one,[.bool],_⟩,.eql=>.ok (.bool (OP a b))
   |U ⟨.one,[.bool],_⟩,.neq=>.ok (.bool (FO (OP a b)))
   |_,_=>.no ""
  |.aj (.k .nilFunc),.aj (.k .nilFunc)=>if !OQ (X t) then .no "" else match Q with
   |.eql=>.ok (.bool (.c J))
   |.neq=>.ok (.bool (.c E))
   |_=>.no ""
  |.aj a,.aj b=>match a.kind X s,b.kind X s,Q with
   |.str,.str,.eql=>.ok (.bool (.seq a b))
   |.str,.str,.neq=>.ok (.bool (.not (.seq a b)))
   |_,_,_=>.no ""
  |.fn _ _,.aj (.k .nilFunc)=>if !OQ (X t) then .no "" else match Q with
   |.eql=>.ok (.bool (.c E))
   |.neq=>.ok (.bool (.c J))
   |_=>.no ""
  |.gz e M N,.aj (.k .nilFunc)=>if N.all KW&&Y M==Y N&&OQ (X t) then(match Q with
   |.eql=>.ok (.bool (DA e M N))
   |.neq=>.ok (.bool (FO (DA e M N)))
   |_=>.no "") else .no ""
  |.agg a,.agg b=>match Q,KV X s (X t) a b with
   |.eql,U e=>.ok (.bool e)
   |.neq,U e=>.ok (.bool (FO e))
   |_,_=>.no ""
  |_,_=>.no ""
 |.unOp Q _ x=>match Q,s.ev W x with
  |.not,.bool b=>.ok (.bool (FO b))
  |.neg,.int k e=>.ok (.int k (Ih .sub k (.c 0) e))
  |_,_=>.no ""
 |.convert A z x=>match X A,X z,s.ev W x with
  |U ⟨.one,[.int _],_⟩,U ⟨.one,[.int k],_⟩,.int _ (.c n)=>.ok (.int k (.c (k.wrap n)))
  |U ⟨.one,[.int _],_⟩,U ⟨.one,[.int k],_⟩,.int _ e=>.ok (.int k (.conv k e))
  |_,_,_=>.no ""
 |.makeInterface t x=>match X t with
  |U ⟨.gF,_,_⟩=>.no ""
  |U _=>.ok (.gF t (s.ev W x))
  |none=>.no ""
 |.makeFunc u first F=>match u,first.toList with
  |.func f,[]=>.ok (.fn f (F.toList.map (s.ev W)))
  |_,_=>.no ""
 |.extract x i=>match s.ev W x with
  |.b9 l=>match l[i]? with
   |U v=>.ok v
   |none=>.no ""
  |_=>.no ""
 |.nilCheck x=>match s.ev W x with
  |.loc i V=>.ok (.loc i V)
  |.el r w i V=>.ok (.el r w i V)
  |.fn f F=>.ok (.fn f F)
  |_=>.no ""
 |.slice t x h g d=>match X t,s.ev W x,d with
  |U ⟨.arr n e,_,_⟩,.loc i V,Z=>match X e,h.map (s.ev W),g.map (s.ev W) with
   |U _,Z,Z=>.ok (.jM i V n n)
   |U R,U (.int _ (.c l)),Z=>if decide (0<=l)&&decide (l<(n:Int)) then .ok (.jM i (V+l.toNat*Y R.ak) (n-l.toNat) (n-l.toNat)) else .no ""
   |_,_,_=>.no ""
  |_,_,_=>.no ""
 |.build t parts=>match X t with
  |U ⟨.struct O,ak,q⟩=>if !(O.all λf=>(X f.2).isSome) then .no "" else match zW (abi X O) (eA ⟨.struct O,ak,q⟩) (parts.toList.map λp=>(p.1,s.ev W p.2)) with
   |U l=>.ok (.agg l)
   |none=>.no ""
  |U ⟨.arr n e,ak,q⟩=>match X e with
   |U R=>match zW (λi=>U (i*Y R.ak,Y R.ak)) (eA ⟨.arr n e,ak,q⟩) (parts.toList.map λp=>(p.1,s.ev W p.2)) with
    |U l=>.ok (.agg l)
    |none=>.no ""
   |none=>.no ""
  |_=>.no ""
 |.call c=>match c.callee with
  |.builtin .len=>match c.argTypes.toList,c.args.toList.map (s.ev W) with
   |[t],[.aj (.k (.slice Z 0 0))]=>match X t with
    |U ⟨.slice _,_,_⟩=>.ok (.int I (.c 0))
    |_=>.no ""
   |[t],[.aj r]=>match X t,r.kind X s with
    |U ⟨.slice _,_,_⟩,.sl _=>.ok (.int I (.len r))
    |U ⟨.str,_,_⟩,.str=>.ok (.int I (.len r))
    |_,_=>.no ""
   |[t],[.jM _ _ n _]=>match X t with
    |U ⟨.slice _,_,_⟩=>.ok (.int I (.c n))
    |_=>.no ""
   |_,_=>.no ""
  |.builtin .min=>match c.args.toList.map (s.ev W) with
   |.int k x::r=>match Ii E k x r with
    |U e=>.ok (.int k e)
    |none=>.no ""
   |_=>.no ""
  |.builtin .max=>match c.args.toList.map (s.ev W) with
   |.int k x::r=>match Ii J k x r with
    |U e=>.ok (.int k e)
    |none=>.no ""
   |_=>.no ""
  |_=>.no ""
 |.lookup t x L ok=>match X t,s.ev W x with
  |U ⟨.map k e n ag,_,_⟩,.mp i=>Ui X s k e n ag ok i (s.ev W L)
  |_,_=>.no ""
 |_=>.no ""
def BO(X:nD)(s:S):Op->cH
 |.load _ x=>match s.ev X x with
  |.loc i _=>U i
  |.gz _ _ W=>zX W
  |_=>Z
 |.lookup _ x _ _=>match s.ev X x with
  |.mp i=>U i
  |_=>Z
 |_=>Z
def Im:Value->Value->Bool
 |.string a,.string b=>a.data.toList==b.data.toList
 |.slice Z a b,.slice Z c d=>a==c&&b==d
 |.pointer Z,.pointer Z=>J
 |.nilFunc,.nilFunc=>J
 |.nilIface,.nilIface=>J
 |.map Z,.map Z=>J
 |_,_=>E
def BP(a b:BinOp):Bool:=decide (a=b)
noncomputable def K.aU(e:K):K->Bool:=K.rec (motive_1:=λ_=>K->Bool) (motive_2:=λ_=>BE->Bool) (motive_3:=λ_=>RE->Bool) (λn e=>match e with|K.c N=>n==N|_=>E) (λk e=>match e with|K.v O=>k==O|_=>E) (λo k _ _ X W e=>match e with|K.bin D O V R=>BP o D&&decide (k=O)&&X V&&W R|_=>E) (λk _ X e=>match e with|K.conv O V=>decide (k=O)&&X V|_=>E) (λ_ Q e=>match e with|K.len P=>Q P|_=>E) (λm _ _ X W e=>match e with|K.mm x V R=>m==x&&X V&&W R|_=>E) (λ_ _ _ W B A e=>match e with|K.dV R z y=>W R&&B z&&A y|_=>E) (λ_ _ j Q L e=>match e with|K.cell P H M=>Q P&&L H&&j==M|_=>E) (λ_ _ Q L e=>match e with|K.nX P H=>Q P&&L H|_=>E) (λ_ n _ _ _ j Q X W G e=>match e with|K.look P N V R F M=>Q P&&n==N&&X V&&W R&&G F&&j==M|_=>E) (λn e=>match e with|BE.c N=>n==N|_=>E) (λk e=>match e with|BE.v O=>k==O|_=>E) (λo _ _ X W e=>match e with|BE.cmp D V R=>BP o D&&X V&&W R|_=>E) (λ_ X e=>match e with|BE.not V=>X V|_=>E) (λ_ _ X W e=>match e with|BE.and V R=>X V&&W R|_=>E) (λ_ _ X W e=>match e with|BE.beq V R=>X V&&W R|_=>E) (λ_ _ _ W B A e=>match e with|BE.dV R z y=>W R&&B z&&A y|_=>E) (λ_ _ j Q L e=>match e with|BE.cell P H M=>Q P&&L H&&j==M|_=>E) (λ_ _ X W e=>match e with|BE.seq V R=>X V&&W R|_=>E) (λ_ n _ _ _ j Q X W G e=>match e with|BE.look P N V R F M=>Q P&&n==N&&X V&&W R&&G F&&j==M|_=>E) (λ_ n _ _ _ Q X W G e=>match e with|BE.has P N V R F=>Q P&&n==N&&X V&&W R&&G F|_=>E) (λk e=>match e with|RE.v O=>k==O|_=>E) (λ_ _ j k Q L e=>match e with|RE.cell P H M O=>Q P&&L H&&j==M&&decide (k=O)|_=>E) (λv e=>match e with|RE.k w=>Im v w|_=>E) e
noncomputable def BE.aU(e:BE):BE->Bool:=BE.rec (motive_1:=λ_=>K->Bool) (motive_2:=λ_=>BE->Bool) (motive_3:=λ_=>RE->Bool) (λn e=>match e with|K.c N=>n==N|_=>E) (λk e=>match e with|K.v O=>k==O|_=>E) (λo k _ _ X W e=>match e with|K.bin D O V R=>BP o D&&decide (k=O)&&X V&&W R|_=>E) (λk _ X e=>match e with|K.conv O V=>decide (k=O)&&X V|_=>E) (λ_ Q e=>match e with|K.len P=>Q P|_=>E) (λm _ _ X W e=>match e with|K.mm x V R=>m==x&&X V&&W R|_=>E) (λ_ _ _ W B A e=>match e with|K.dV R z y=>W R&&B z&&A y|_=>E) (λ_ _ j Q L e=>match e with|K.cell P H M=>Q P&&L H&&j==M|_=>E) (λ_ _ Q L e=>match e with|K.nX P H=>Q P&&L H|_=>E) (λ_ n _ _ _ j Q X W G e=>match e with|K.look P N V R F M=>Q P&&n==N&&X V&&W R&&G F&&j==M|_=>E) (λn e=>match e with|BE.c N=>n==N|_=>E) (λk e=>match e with|BE.v O=>k==O|_=>E) (λo _ _ X W e=>match e with|BE.cmp D V R=>BP o D&&X V&&W R|_=>E) (λ_ X e=>match e with|BE.not V=>X V|_=>E) (λ_ _ X W e=>match e with|BE.and V R=>X V&&W R|_=>E) (λ_ _ X W e=>match e with|BE.beq V R=>X V&&W R|_=>E) (λ_ _ _ W B A e=>match e with|BE.dV R z y=>W R&&B z&&A y|_=>E) (λ_ _ j Q L e=>match e with|BE.cell P H M=>Q P&&L H&&j==M|_=>E) (λ_ _ X W e=>match e with|BE.seq V R=>X V&&W R|_=>E) (λ_ n _ _ _ j Q X W G e=>match e with|BE.look P N V R F M=>Q P&&n==N&&X V&&W R&&G F&&j==M|_=>E) (λ_ n _ _ _ Q X W G e=>match e with|BE.has P N V R F=>Q P&&n==N&&X V&&W R&&G F|_=>E) (λk e=>match e with|RE.v O=>k==O|_=>E) (λ_ _ j k Q L e=>match e with|RE.cell P H M O=>Q P&&L H&&j==M&&decide (k=O)|_=>E) (λv e=>match e with|RE.k w=>Im v w|_=>E) e
noncomputable def RE.aU(e:RE):RE->Bool:=RE.rec (motive_1:=λ_=>K->Bool) (motive_2:=λ_=>BE->Bool) (motive_3:=λ_=>RE->Bool) (λn e=>match e with|K.c N=>n==N|_=>E) (λk e=>match e with|K.v O=>k==O|_=>E) (λo k _ _ X W e=>match e with|K.bin D O V R=>BP o D&&decide (k=O)&&X V&&W R|_=>E) (λk _ X e=>match e with|K.conv O V=>decide (k=O)&&X V|_=>E) (λ_ Q e=>match e with|K.len P=>Q P|_=>E) (λm _ _ X W e=>match e with|K.mm x V R=>m==x&&X V&&W R|_=>E) (λ_ _ _ W B A e=>match e with|K.dV R z y=>W R&&B z&&A y|_=>E) (λ_ _ j Q L e=>match e with|K.cell P H M=>Q P&&L H&&j==M|_=>E) (λ_ _ Q L e=>match e with|K.nX P H=>Q P&&L H|_=>E) (λ_ n _ _ _ j Q X W G e=>match e with|K.look P N V R F M=>Q P&&n==N&&X V&&W R&&G F&&j==M|_=>E) (λn e=>match e with|BE.c N=>n==N|_=>E) (λk e=>match e with|BE.v O=>k==O|_=>E) (λo _ _ X W e=>match e with|BE.cmp D V R=>BP o D&&X V&&W R|_=>E) (λ_ X e=>match e with|BE.not V=>X V|_=>E) (λ_ _ X W e=>match e with|BE.and V R=>X V&&W R|_=>E) (λ_ _ X W e=>match e with|BE.beq V R=>X V&&W R|_=>E) (λ_ _ _ W B A e=>match e with|BE.dV R z y=>W R&&B z&&A y|_=>E) (λ_ _ j Q L e=>match e with|BE.cell P H M=>Q P&&L H&&j==M|_=>E) (λ_ _ X W e=>match e with|BE.seq V R=>X V&&W R|_=>E) (λ_ n _ _ _ j Q X W G e=>match e with|BE.look P N V R F M=>Q P&&n==N&&X V&&W R&&G F&&j==M|_=>E) (λ_ n _ _ _ Q X W G e=>match e with|BE.has P N V R F=>Q P&&n==N&&X V&&W R&&G F|_=>E) (λk e=>match e with|RE.v O=>k==O|_=>E) (λ_ _ j k Q L e=>match e with|RE.cell P H M O=>Q P&&L H&&j==M&&decide (k=O)|_=>E) (λv e=>match e with|RE.k w=>Im v w|_=>E) e
def K.iN:(∀n e,K.aU (.c n) e=match e with|K.c Q=>n==Q|_=>E)/\(∀k e,K.aU (.v k) e=match e with|K.v R=>k==R|_=>E)/\(∀o k a b e,K.aU (.bin o k a b) e=match e with|K.bin N R X W=>BP o N&&decide (k=R)&&K.aU a X&&K.aU b W|_=>E)/\(∀k a e,K.aU (.conv k a) e=match e with|K.conv R X=>decide (k=R)&&K.aU a X|_=>E)/\(∀r e,K.aU (.len r) e=match e with|K.len V=>RE.aU r V|_=>E)/\(∀m a b e,K.aU (.mm m a b) e=match e with|K.mm M X W=>m==M&&K.aU a X&&K.aU b W|_=>E)/\(∀b x y e,K.aU (.dV b x y) e=match e with|K.dV W L H=>BE.aU b W&&K.aU x L&&K.aU y H|_=>E)/\(∀r i j e,K.aU (.cell r i j) e=match e with|K.cell V P O=>RE.aU r V&&K.aU i P&&j==O|_=>E)/\(∀r i e,K.aU (.nX r i) e=match e with|K.nX V P=>RE.aU r V&&K.aU i P|_=>E)/\(∀r n a b c j e,K.aU (.look r n a b c j) e=match e with|K.look V Q X W G O=>RE.aU r V&&n==Q&&K.aU a X&&K.aU b W&&K.aU c G&&j==O|_=>E):=⟨λ_ _=>rfl,λ_ _=>rfl,λ_ _ _ _ _=>rfl,λ_ _ _=>rfl,λ_ _=>rfl,λ_ _ _ _=>rfl,λ_ _ _ _=>rfl,λ_ _ _ _=>rfl,λ_ _ _=>rfl,λ_ _ _ _ _ _ _=>rfl⟩
def BE.iN:(∀n e,BE.aU (.c n) e=match e with|BE.c V=>n==V|_=>E)/\(∀k e,BE.aU (.v k) e=match e with|BE.v O=>k==O|_=>E)/\(∀o a b e,BE.aU (.cmp o a b) e=match e with|BE.cmp N X W=>BP o N&&K.aU a X&&K.aU b W|_=>E)/\(∀a e,BE.aU (.not a) e=match e with|BE.not X=>BE.aU a X|_=>E)/\(∀a b e,BE.aU (.and a b) e=match e with|BE.and X W=>BE.aU a X&&BE.aU b W|_=>E)/\(∀a b e,BE.aU (.beq a b) e=match e with|BE.beq X W=>BE.aU a X&&BE.aU b W|_=>E)/\(∀b x y e,BE.aU (.dV b x y) e=match e with|BE.dV W M L=>BE.aU b W&&BE.aU x M&&BE.aU y L|_=>E)/\(∀r i j e,BE.aU (.cell r i j) e=match e with|BE.cell R H Q=>RE.aU r R&&K.aU i H&&j==Q|_=>E)/\(∀a b e,BE.aU (.seq a b) e=match e with|BE.seq X W=>RE.aU a X&&RE.aU b W|_=>E)/\(∀r n a b c j e,BE.aU (.look r n a b c j) e=match e with|BE.look R V X W P Q=>RE.aU r R&&n==V&&K.aU a X&&K.aU b W&&K.aU c P&&j==Q|_=>E)/\(∀r n a b c e,BE.aU (.has r n a b c) e=match e with|BE.has R V X W P=>RE.aU r R&&n==V&&K.aU a X&&K.aU b W&&K.aU c P|_=>E):=⟨λ_ _=>rfl,λ_ _=>rfl,λ_ _ _ _=>rfl,λ_ _=>rfl,λ_ _ _=>rfl,λ_ _ _=>rfl,λ_ _ _ _=>rfl,λ_ _ _ _=>rfl,λ_ _ _=>rfl,λ_ _ _ _ _ _ _=>rfl,λ_ _ _ _ _ _=>rfl⟩
def RE.iN:(∀k e,RE.aU (.v k) e=match e with|RE.v X=>k==X|_=>E)/\(∀r i j k e,RE.aU (.cell r i j k) e=match e with|RE.cell W V R X=>RE.aU r W&&K.aU i V&&j==R&&decide (k=X)|_=>E)/\(∀v e,RE.aU (.k v) e=match e with|RE.k Q=>Im v Q|_=>E):=⟨λ_ _=>rfl,λ_ _ _ _ _=>rfl,λ_ _=>rfl⟩
noncomputable def C.aU(v:C):C->Bool:=C.rec (motive_1:=λ_=>C->Bool) (motive_2:=λ_=>ap->Bool) (λk e v=>match v with|C.int O V=>decide (k=O)&&e.aU V|_=>E) (λb v=>match v with|C.bool R=>b.aU R|_=>E) (λr v=>match v with|C.aj Q=>r.aU Q|_=>E) (λi o v=>match v with|C.loc X P=>i==X&&o==P|_=>E) (λr w i o v=>match v with|C.el Q N X P=>r.aU Q&&w==N&&i.aU X&&o==P|_=>E) (λa b c d v=>match v with|C.jM M R L H=>a==M&&b==R&&c==L&&d==H|_=>E) (λ_ h v=>match v with|C.agg W=>h W|_=>E) (λ_ h v=>match v with|C.b9 W=>h W|_=>E) (λf _ h v=>match v with|C.fn G W=>f==G&&h W|_=>E) (λt _ h v=>match v with|C.gF F D=>t==F&&h D|_=>E) (λn v=>match v with|C.yl B=>n==B|_=>E) (λv=>match v with|C.any=>J|_=>E) (λi v=>match v with|C.mp X=>i==X|_=>E) (λe A _ h v=>match v with|C.gz V z x=>e.aU V&&A==z&&h x|_=>E) (λl=>match l with|[]=>J|_=>E) (λ_ _ h u l=>match l with|y::s=>h y&&u s|_=>E) v
noncomputable def C.rN(l:ap):ap->Bool:=C.rec_1 (motive_1:=λ_=>C->Bool) (motive_2:=λ_=>ap->Bool) (λk e v=>match v with|C.int O V=>decide (k=O)&&e.aU V|_=>E) (λb v=>match v with|C.bool R=>b.aU R|_=>E) (λr v=>match v with|C.aj Q=>r.aU Q|_=>E) (λi o v=>match v with|C.loc X P=>i==X&&o==P|_=>E) (λr w i o v=>match v with|C.el Q N X P=>r.aU Q&&w==N&&i.aU X&&o==P|_=>E) (λa b c d v=>match v with|C.jM M R L H=>a==M&&b==R&&c==L&&d==H|_=>E) (λ_ h v=>match v with|C.agg W=>h W|_=>E) (λ_ h v=>match v with|C.b9 W=>h W|_=>E) (λf _ h v=>match v with|C.fn G W=>f==G&&h W|_=>E) (λt _ h v=>match v with|C.gF F D=>t==F&&h D|_=>E) (λn v=>match v with|C.yl B=>n==B|_=>E) (λv=>match v with|C.any=>J|_=>E) (λi v=>match v with|C.mp X=>i==X|_=>E) (λe A _ h v=>match v with|C.gz V z x=>e.aU V&&A==z&&h x|_=>E) (λl=>match l with|[]=>J|_=>E) (λ_ _ h u l=>match l with|y::s=>h y&&u s|_=>E) l
def C.iN:(∀k e v,C.aU (.int k e) v=match v with|C.int M V=>decide (k=M)&&e.aU V|_=>E)/\(∀b v,C.aU (.bool b) v=match v with|C.bool R=>b.aU R|_=>E)/\(∀r v,C.aU (.aj r) v=match v with|C.aj Q=>r.aU Q|_=>E)/\(∀i o v,C.aU (.loc i o) v=match v with|C.loc X P=>i==X&&o==P|_=>E)/\(∀r w i o v,C.aU (.el r w i o) v=match v with|C.el Q L X P=>r.aU Q&&w==L&&i.aU X&&o==P|_=>E)/\(∀a b c d v,C.aU (.jM a b c d) v=match v with|C.jM H R G F=>a==H&&b==R&&c==G&&d==F|_=>E)/\(∀l v,C.aU (.agg l) v=match v with|C.agg W=>C.rN l W|_=>E)/\(∀l v,C.aU (.b9 l) v=match v with|C.b9 W=>C.rN l W|_=>E)/\(∀f l v,C.aU (.fn f l) v=match v with|C.fn D W=>f==D&&C.rN l W|_=>E)/\(∀t x v,C.aU (.gF t x) v=match v with|C.gF B A=>t==B&&C.aU x A|_=>E)/\(∀n v,C.aU (.yl n) v=match v with|C.yl z=>n==z|_=>E)/\(∀v,C.aU (.any) v=match v with|C.any=>J|_=>E)/\(∀i v,C.aU (.mp i) v=match v with|C.mp X=>i==X|_=>E)/\(∀e O N v,C.aU (.gz e O N) v=match v with|C.gz V y u=>e.aU V&&O==y&&C.rN N u|_=>E):=⟨λ_ _ _=>rfl,λ_ _=>rfl,λ_ _=>rfl,λ_ _ _=>rfl,λ_ _ _ _ _=>rfl,λ_ _ _ _ _=>rfl,λ_ _=>rfl,λ_ _=>rfl,λ_ _ _=>rfl,λ_ _ _=>rfl,λ_ _=>rfl,λ_=>rfl,λ_ _=>rfl,λ_ _ _ _=>rfl⟩
def C.aj5:(∀l,C.rN [] l=match l with|[]=>J|_=>E)/\(∀x X l,C.rN (x::X) l=match l with|y::W=>C.aU x y&&C.rN X W|_=>E):=⟨λ_=>rfl,λ_ _ _=>rfl⟩
def aj6:∀n:Nat,∃q,8^n=7*q+1
 |0=>⟨0,rfl⟩
 |n+1=>by
  obtain⟨q,h⟩:=aj6 n;exact⟨8*q+1,by rw[Nat.pow_succ,h];omega⟩
def A3(n:Nat):Nat:=Nat.div (Nat.sub (Nat.pow 8 n) 1) 7
def aj7(n:Nat):8^n=7*A3 n+1:=by
 obtain⟨q,h⟩:=aj6 n;have:A3 n=q:=by
  show(8^n-1)/7=q;rw[h];omega
 rw[this];exact h
def Uk(n:Nat):A3 (n+1)=8*A3 n+1:=by
 have X:=aj7 n;have W:=aj7 (n+1);rw[Nat.pow_succ,X] at W;omega
def aj8:∀(n j:Nat),(A3 n).testBit j=(decide (j%3=0)&&decide (j/3<n))
 |0,j=>by simp[show A3 0=0 from rfl]
 |n+1,0=>by rw[Uk,axb];simp;omega
 |n+1,1=>by rw[Uk,T1,show(8*A3 n+1)/2=4*A3 n from aa,axb];simp;omega
 |n+1,2=>by rw[Uk,T1,T1,show(8*A3 n+1)/2/2=2*A3 n from aa,axb];simp
 |n+1,j+3=>by
  rw[Uk,T1,T1,T1,show(8*A3 n+1)/2/2/2=A3 n from aa,aj8 n j,Nat.add_mod_right,Nat.add_div_right _ aa];simp
def mI(X W V:Nat):Nat:=cd (A3 X) (cd (mF (A3 W) 1) (mF (A3 V) 2))
def abm(X W V j:Nat):(mI X W V).testBit j=if j%3=0 then decide (j/3<X) else if j%3=1 then decide (j/3<W) else decide (j/3<V):=by
 change(A3 X|||(A3 W<<<1|||A3 V<<<2)).testBit j=_;simp only[FG,awZ,aj8];rw[vx];simp only[jy,aA,cz];split;simp only[cz];omega;split;simp only[cz];omega;simp only[cz];omega
def OS:jL (cd R Q) Q=J<->∀j,R.testBit j=J->Q.testBit j=true:=by
 rw[aj0];constructor;intro h j X;have:(R|||Q).testBit j=Q.testBit j:=ku (λx=>Nat.testBit x j) h;rw[<-this,FG,X,axo];intro h;refine Nat.eq_of_testBit_eq λj=> ?_
 change(R|||Q).testBit j=_;rw[FG];cases W:R.testBit j with
 |true=>rw[h j W];rfl
 |false=>simp
def lX(a b A:Nat):jL (cd (cd a b) A) A=(jL (cd a A) A&&jL (cd b A) A):=by
 rw[vx,aA,OS,OS,OS];change(∀j,(a|||b).testBit j=J->_)<->_;simp only[FG,jy];exact⟨λh=>⟨λj k=>h j (.inl k),λj k=>h j (.inr k)⟩,λh j k=>k.elim (h.1 j) (h.2 j)⟩
def abn(k A:Nat):jL (cd (mF 1 k) A) A=A.testBit k:=by
 rw[vx,OS];change(∀j,(1<<<k).testBit j=J->_)<->_;simp only[aw8,aKF,cz];exact⟨λh=>h k rfl,λh j e=>e▸h⟩
def In(A:Nat):jL (cd 0 A) A=true:=OS.2 λj h=>by simp at h
noncomputable def K.mJ(e:K):Nat:=K.rec (motive_1:=λ_=>Nat) (motive_2:=λ_=>Nat) (motive_3:=λ_=>Nat) (λ_=>0) (λk=>mF 1 (3*k)) (λ_ _ _ _ a b=>cd a b) (λ_ _ a=>a) (λ_ r=>r) (λ_ _ _ a b=>cd a b) (λ_ _ _ b x y=>cd (cd b x) y) (λ_ _ _ r i=>cd r i) (λ_ _ r i=>cd r i) (λ_ _ _ _ _ _ r a b c=>cd (cd (cd r a) b) c) (λ_=>0) (λk=>mF 1 (3*k+1)) (λ_ _ _ a b=>cd a b) (λ_ a=>a) (λ_ _ a b=>cd a b) (λ_ _ a b=>cd a b) (λ_ _ _ b x y=>cd (cd b x) y) (λ_ _ _ r i=>cd r i) (λ_ _ a b=>cd a b) (λ_ _ _ _ _ _ r a b c=>cd (cd (cd r a) b) c) (λ_ _ _ _ _ r a b c=>cd (cd (cd r a) b) c) (λk=>mF 1 (3*k+2)) (λ_ _ _ _ r i=>cd r i) (λ_=>0) e
noncomputable def BE.mJ(e:BE):Nat:=BE.rec (motive_1:=λ_=>Nat) (motive_2:=λ_=>Nat) (motive_3:=λ_=>Nat) (λ_=>0) (λk=>mF 1 (3*k)) (λ_ _ _ _ a b=>cd a b) (λ_ _ a=>a) (λ_ r=>r) (λ_ _ _ a b=>cd a b) (λ_ _ _ b x y=>cd (cd b x) y) (λ_ _ _ r i=>cd r i) (λ_ _ r i=>cd r i) (λ_ _ _ _ _ _ r a b c=>cd (cd (cd r a) b) c) (λ_=>0) (λk=>mF 1 (3*k+1)) (λ_ _ _ a b=>cd a b) (λ_ a=>a) (λ_ _ a b=>cd a b) (λ_ _ a b=>cd a b) (λ_ _ _ b x y=>cd (cd b x) y) (λ_ _ _ r i=>cd r i) (λ_ _ a b=>cd a b) (λ_ _ _ _ _ _ r a b c=>cd (cd (cd r a) b) c) (λ_ _ _ _ _ r a b c=>cd (cd (cd r a) b) c) (λk=>mF 1 (3*k+2)) (λ_ _ _ _ r i=>cd r i) (λ_=>0) e
noncomputable def RE.mJ(e:RE):Nat:=RE.rec (motive_1:=λ_=>Nat) (motive_2:=λ_=>Nat) (motive_3:=λ_=>Nat) (λ_=>0) (λk=>mF 1 (3*k)) (λ_ _ _ _ a b=>cd a b) (λ_ _ a=>a) (λ_ r=>r) (λ_ _ _ a b=>cd a b) (λ_ _ _ b x y=>cd (cd b x) y) (λ_ _ _ r i=>cd r i) (λ_ _ r i=>cd r i) (λ_ _ _ _ _ _ r a b c=>cd (cd (cd r a) b) c) (λ_=>0) (λk=>mF 1 (3*k+1)) (λ_ _ _ a b=>cd a b) (λ_ a=>a) (λ_ _ a b=>cd a b) (λ_ _ a b=>cd a b) (λ_ _ _ b x y=>cd (cd b x) y) (λ_ _ _ r i=>cd r i) (λ_ _ a b=>cd a b) (λ_ _ _ _ _ _ r a b c=>cd (cd (cd r a) b) c) (λ_ _ _ _ _ r a b c=>cd (cd (cd r a) b) c) (λk=>mF 1 (3*k+2)) (λ_ _ _ _ r i=>cd r i) (λ_=>0) e
noncomputable def K.bd(X W V:Nat)(e:K):Bool:=jL (cd e.mJ (mI X W V)) (mI X W V)
noncomputable def BE.bd(X W V:Nat)(e:BE):Bool:=jL (cd e.mJ (mI X W V)) (mI X W V)
noncomputable def RE.bd(X W V:Nat)(e:RE):Bool:=jL (cd e.mJ (mI X W V)) (mI X W V)
def axt(X W V k:Nat):(mI X W V).testBit (3*k)=decide (k<X):=by
 rw[abm,aL aa,show 3*k/3=k from aa]
def axu(W X V k:Nat):(mI W X V).testBit (3*k+1)=decide (k<X):=by
 rw[abm,aP aa,aL aa,show(3*k+1)/3=k from aa]
def axv(W V X k:Nat):(mI W V X).testBit (3*k+2)=decide (k<X):=by
 rw[abm,aP aa,aP aa,show(3*k+2)/3=k from aa]
def K.bm:(∀n,K.bd R Q h (.c n)=J)/\(∀k,K.bd R Q h (.v k)=decide (k<R))/\(∀o k a b,K.bd R Q h (.bin o k a b)=(K.bd R Q h a&&K.bd R Q h b))/\(∀k a,K.bd R Q h (.conv k a)=(K.bd R Q h a))/\(∀r,K.bd R Q h (.len r)=(RE.bd R Q h r))/\(∀m a b,K.bd R Q h (.mm m a b)=(K.bd R Q h a&&K.bd R Q h b))/\(∀b x y,K.bd R Q h (.dV b x y)=(BE.bd R Q h b&&K.bd R Q h x&&K.bd R Q h y))/\(∀r i j,K.bd R Q h (.cell r i j)=(RE.bd R Q h r&&K.bd R Q h i))/\(∀r i,K.bd R Q h (.nX r i)=(RE.bd R Q h r&&K.bd R Q h i))/\(∀r n a b c j,K.bd R Q h (.look r n a b c j)=(RE.bd R Q h r&&K.bd R Q h a&&K.bd R Q h b&&K.bd R Q h c)):=⟨λ_=>In _,λ_=>(abn _ _).trans (axt _ _ _ _),λ_ _ _ _=>lX _ _ _,λ_ _=>rfl,λ_=>rfl,λ_ _ _=>lX _ _ _,λ_ _ _=>(lX _ _ _).trans (ku (· &&_) (lX _ _ _)),λ_ _ _=>lX _ _ _,λ_ _=>lX _ _ _,λ_ _ _ _ _ _=>(lX _ _ _).trans (ku (· &&_) ((lX _ _ _).trans (ku (· &&_) (lX _ _ _))))⟩
def BE.bm:(∀n,BE.bd R Q h (.c n)=J)/\(∀k,BE.bd R Q h (.v k)=decide (k<Q))/\(∀o a b,BE.bd R Q h (.cmp o a b)=(K.bd R Q h a&&K.bd R Q h b))/\(∀a,BE.bd R Q h (.not a)=(BE.bd R Q h a))/\(∀a b,BE.bd R Q h (.and a b)=(BE.bd R Q h a&&BE.bd R Q h b))/\(∀a b,BE.bd R Q h (.beq a b)=(BE.bd R Q h a&&BE.bd R Q h b))/\(∀b x y,BE.bd R Q h (.dV b x y)=(BE.bd R Q h b&&BE.bd R Q h x&&BE.bd R Q h y))/\(∀r i j,BE.bd R Q h (.cell r i j)=(RE.bd R Q h r&&K.bd R Q h i))/\(∀a b,BE.bd R Q h (.seq a b)=(RE.bd R Q h a&&RE.bd R Q h b))/\(∀r n a b c j,BE.bd R Q h (.look r n a b c j)=(RE.bd R Q h r&&K.bd R Q h a&&K.bd R Q h b&&K.bd R Q h c))/\(∀r n a b c,BE.bd R Q h (.has r n a b c)=(RE.bd R Q h r&&K.bd R Q h a&&K.bd R Q h b&&K.bd R Q h c)):=⟨λ_=>In _,λ_=>(abn _ _).trans (axu _ _ _ _),λ_ _ _=>lX _ _ _,λ_=>rfl,λ_ _=>lX _ _ _,λ_ _=>lX _ _ _,λ_ _ _=>(lX _ _ _).trans (ku (· &&_) (lX _ _ _)),λ_ _ _=>lX _ _ _,λ_ _=>lX _ _ _,λ_ _ _ _ _ _=>(lX _ _ _).trans (ku (· &&_) ((lX _ _ _).trans (ku (· &&_) (lX _ _ _)))),λ_ _ _ _ _=>(lX _ _ _).trans (ku (· &&_) ((lX _ _ _).trans (ku (· &&_) (lX _ _ _))))⟩
def RE.bm:(∀k,RE.bd R Q h (.v k)=decide (k<h))/\(∀r i j k,RE.bd R Q h (.cell r i j k)=(RE.bd R Q h r&&K.bd R Q h i))/\(∀v,RE.bd R Q h (.k v)=J):=⟨λ_=>(abn _ _).trans (axv _ _ _ _),λ_ _ _ _=>lX _ _ _,λ_=>In _⟩
noncomputable def C.mJ(v:C):Nat:=C.rec (motive_1:=λ_=>Nat) (motive_2:=λ_=>Nat) (λ_ e=>e.mJ) (λb=>b.mJ) (λr=>r.mJ) (λ_ _=>0) (λr _ i _=>cd r.mJ i.mJ) (λ_ _ _ _=>0) (λ_ l=>l) (λ_ l=>l) (λ_ _ l=>l) (λ_ _ x=>x) (λ_=>0) 0 (λ_=>0) (λe _ _ l=>cd e.mJ l) 0 (λ_ _ a b=>cd a b) v
noncomputable def C.KY(l:ap):Nat:=C.rec_1 (motive_1:=λ_=>Nat) (motive_2:=λ_=>Nat) (λ_ e=>e.mJ) (λb=>b.mJ) (λr=>r.mJ) (λ_ _=>0) (λr _ i _=>cd r.mJ i.mJ) (λ_ _ _ _=>0) (λ_ l=>l) (λ_ l=>l) (λ_ _ l=>l) (λ_ _ x=>x) (λ_=>0) 0 (λ_=>0) (λe _ _ l=>cd e.mJ l) 0 (λ_ _ a b=>cd a b) l
noncomputable def C.BQ(v:C):Nat:=C.rec (motive_1:=λ_=>Nat) (motive_2:=λ_=>Nat) (λ_ _=>0) (λ_=>0) (λ_=>0) (λi _=>mF 1 i) (λ_ _ _ _=>0) (λi _ _ _=>mF 1 i) (λ_ l=>l) (λ_ l=>l) (λ_ _ l=>l) (λ_ _ x=>x) (λ_=>0) 0 (λi=>mF 1 i) (λ_ _ _ l=>l) 0 (λ_ _ a b=>cd a b) v
noncomputable def C.Io(l:ap):Nat:=C.rec_1 (motive_1:=λ_=>Nat) (motive_2:=λ_=>Nat) (λ_ _=>0) (λ_=>0) (λ_=>0) (λi _=>mF 1 i) (λ_ _ _ _=>0) (λi _ _ _=>mF 1 i) (λ_ l=>l) (λ_ l=>l) (λ_ _ l=>l) (λ_ _ x=>x) (λ_=>0) 0 (λi=>mF 1 i) (λ_ _ _ l=>l) 0 (λ_ _ a b=>cd a b) l
noncomputable def C.KZ(X:Nat->Bool)(v:C):Bool:=C.rec (motive_1:=λ_=>Bool) (motive_2:=λ_=>Bool) (λ_ _=>J) (λ_=>J) (λ_=>J) (λi _=>X i) (λ_ _ _ _=>J) (λi _ _ _=>X i) (λ_ l=>l) (λ_ l=>l) (λ_ _ l=>l) (λ_ _ x=>x) (λ_=>J) J (λi=>X i) (λ_ _ _ l=>l) J (λ_ _ a b=>a&&b) v
noncomputable def C.K0(X:Nat->Bool)(l:ap):Bool:=C.rec_1 (motive_1:=λ_=>Bool) (motive_2:=λ_=>Bool) (λ_ _=>J) (λ_=>J) (λ_=>J) (λi _=>X i) (λ_ _ _ _=>J) (λi _ _ _=>X i) (λ_ l=>l) (λ_ l=>l) (λ_ _ l=>l) (λ_ _ x=>x) (λ_=>J) J (λi=>X i) (λ_ _ _ l=>l) J (λ_ _ a b=>a&&b) l
noncomputable def C.bd(X W V:Nat)(R:Nat->Bool)(v:C):Bool:=KS (motive:=λ_=>Bool) E (KS (motive:=λ_=>Bool) (v.KZ R) J (jL v.BQ 0)) (jL (cd v.mJ (mI X W V)) (mI X W V))
def C.aj9(X W V:Nat)(R:Nat->Bool)(v:C):C.bd X W V R v=(jL (cd v.mJ (mI X W V)) (mI X W V)&&(jL v.BQ 0||v.KZ R)):=by
 unfold C.bd;cases jL (cd v.mJ (mI X W V)) (mI X W V)<;>cases jL v.BQ 0<;>rfl
noncomputable def C.ec(X W V:Nat)(R:Nat->Bool)(l:ap):Bool:=zV (motive:=λ_=>Bool) J (λx _ Q=>KS (motive:=λ_=>Bool) E Q (C.bd X W V R x)) l
def C.jo{X:Nat->Bool}:(C.ec R Q h X []=J)/\(∀x W,C.ec R Q h X (x::W)=(C.bd R Q h X x&&C.ec R Q h X W)):=⟨rfl,λx W=>by
 show KS (motive:=λ_=>Bool) E (C.ec R Q h X W) (C.bd R Q h X x)=_;cases C.bd R Q h X x<;>rfl⟩
def aka:jL (cd R Q) 0=(jL R 0&&jL Q 0):=by
 rw[vx,aA,aj0,aj0,aj0];exact Nat.or_eq_zero_iff
def Ul(i:Nat):jL (mF 1 i) 0=false:=by
 have:mF 1 i≠0:=by
  change 1<<<i≠0;rw[aw8];exact Nat.ne_of_gt (Nat.two_pow_pos i)
 cases h:jL (mF 1 i) 0 with
 |false=>rfl
 |true=>exact aG (aKy h) this
mutual
def abo(X:Nat->Bool):∀v:C,jL v.BQ 0=J->v.KZ X=J
 |.int _ _,_=>rfl
 |.bool _,_=>rfl
 |.aj _,_=>rfl
 |.loc i _,h=>by rw[show(C.loc i _).BQ=mF 1 i from rfl,Ul] at h;cases h
 |.el _ _ _ _,_=>rfl
 |.jM i _ _ _,h=>by rw[show(C.jM i _ _ _).BQ=mF 1 i from rfl,Ul] at h;cases h
 |.agg l,h=>K1 X l h
 |.b9 l,h=>K1 X l h
 |.fn _ l,h=>K1 X l h
 |.gF _ x,h=>abo X x h
 |.yl _,_=>rfl
 |.any,_=>rfl
 |.mp i,h=>by rw[show(C.mp i).BQ=mF 1 i from rfl,Ul] at h;cases h
 |.gz _ _ l,h=>K1 X l h
def K1(X:Nat->Bool):∀l:ap,jL (C.Io l) 0=J->C.K0 X l=J
 |[],_=>rfl
 |x::W,h=>by
  rw[show C.Io (x::W)=cd x.BQ (C.Io W) from rfl,aka,aA] at h;show(x.KZ X&&C.K0 X W)=J;rw[abo X x h.1,K1 X W h.2];rfl
end
def OT(V R Q:Nat)(W:Nat->Bool):∀l:ap,(jL (cd (C.KY l) (mI V R Q)) (mI V R Q)&&(jL (C.Io l) 0||C.K0 W l))=C.ec V R Q W l
 |[]=>by rw[show C.KY []=0 from rfl,In];rfl
 |x::X=>by
  rw[C.jo.2,<-OT V R Q W X,C.aj9,show C.KY (x::X)=cd x.mJ (C.KY X) from rfl,show C.Io (x::X)=cd x.BQ (C.Io X) from rfl,lX,aka,show C.K0 W (x::X)=(x.KZ W&&C.K0 W X) from rfl];have P:=abo W x;have O:=K1 W X;cases N:jL x.BQ 0<;>cases M:jL (C.Io X) 0<;>cases L:x.KZ W<;>cases H:C.K0 W X<;>cases jL (cd x.mJ (mI V R Q)) (mI V R Q)<;>cases jL (cd (C.KY X) (mI V R Q)) (mI V R Q)<;>simp_all
def C.bm{X:Nat->Bool}:(∀k e,C.bd R Q h X (.int k e)=e.bd R Q h)/\(∀b,C.bd R Q h X (.bool b)=b.bd R Q h)/\(∀r,C.bd R Q h X (.aj r)=r.bd R Q h)/\(∀i o,C.bd R Q h X (.loc i o)=X i)/\(∀i a b c,C.bd R Q h X (.jM i a b c)=X i)/\(∀r w i o,C.bd R Q h X (.el r w i o)=(r.bd R Q h&&i.bd R Q h))/\(∀l,C.bd R Q h X (.agg l)=C.ec R Q h X l)/\(∀l,C.bd R Q h X (.b9 l)=C.ec R Q h X l)/\(∀f l,C.bd R Q h X (.fn f l)=C.ec R Q h X l)/\(∀t x,C.bd R Q h X (.gF t x)=C.bd R Q h X x)/\(∀n,C.bd R Q h X (.yl n)=J)/\(C.bd R Q h X .any=J)/\(∀i,C.bd R Q h X (.mp i)=X i)/\(∀e O P,C.bd R Q h X (.gz e O P)=(e.bd R Q h&&C.ec R Q h X P)):=by
 have W:∀b:Bool,(b&&(jL 0 0||J))=b:=λb=>by cases b<;>rfl
 have V:∀i,(jL (cd 0 (mI R Q h)) (mI R Q h)&&(jL (mF 1 i) 0||X i))=X i:=λi=>by rw[In,Ul];rfl
 simp only[C.aj9];refine⟨λ_ _=>W _,λ_=>W _,λ_=>W _,λ_ _=>V _,λ_ _ _ _=>V _,λr _ i _=> ?_,λl=>OT _ _ _ _ l,λl=>OT _ _ _ _ l,λ_ l=>OT _ _ _ _ l,λ_ _=>rfl,λ_=>(W _).trans (In _),(W _).trans (In _),λ_=>V _,λe _ l=> ?_⟩;exact(W _).trans (lX _ _ _);rw[<-OT];show(jL (cd (cd e.mJ (C.KY l)) _) _&&_)=_;rw[lX,axg];rfl
def C.rO(X W V:Nat)(R:Nat->Bool):bK->Bool
 |[]=>J
 |U x::Q=>C.ec X W V R x.2&&C.rO X W V R Q
 |Z::Q=>C.rO X W V R Q
def aW(l:bK)(i:Nat):Bool:=(cJ l i).isSome
def S.bd(s:S):Bool:=C.ec s.ni s.nb (Y s.rs) (aW s.ao) s.tmps&&C.rO s.ni s.nb (Y s.rs) (aW s.ao) s.ao
def S.fz(s:S)(l:ap):Bool:=s.bd&&C.ec s.ni s.nb (Y s.rs) (aW s.ao) l
structure fU where
 tm:List (Nat×LK)
 cl:List (Nat×Nat×LK)
inductive axw where
 |axx
 |inv (a:fU)
inductive FK where
 |box
 |slot (t:Nat) (vs:List Int)
 |cell (b j:Nat) (vs:bw)
structure bL where
 ty:Ty
 gl:nD
 inl:FuncId->Option (Code×Nat×sJ)
 sig:FuncId->j5
 loop:FuncId->Nat->axw
 akb:TypeId:=3
 BR:FuncId->FuncId->Option (TypeId×bq×Bool):=λ_ _=>Z
 nZ:Bool:=E
 OU:FuncId->Nat->Bool:=λ_ _=>E
 frk:FuncId->Nat->Option FK:=λ_ _=>Z
def S.fresh(s:S):LK->C×S
 |.int k=>(.int k (.v s.ni),{s with ni:=s.ni+1})
 |.bool=>(.bool (.v s.nb),{s with nb:=s.nb+1})
 |.aj e=>(.aj (.v (Y s.rs)),{s with rs:=s.rs++[e]})
def vA:CT->LK
 |.int k=>.int k
 |.bool=>.bool
 |.aS _ k=>.aj k
def S.cK(s:S):aY->ap×S
 |[]=>([],s)
 |k::X=>let r:=s.fresh k;let q:=r.2.cK X;(r.1::q.1,q.2)
def BS(W:Ty):kw->ap->Ic
 |[],_=>U []
 |t::V,l=>match W t with
  |U X=>match BS W V (l.drop (Y X.ak)) with
   |U r=>U ((if X.d.isAgg then .agg (l.take (Y X.ak)) else l.getD 0 .any)::r)
   |none=>Z
  |none=>Z
def jp(X:Ty):kw->Option aY
 |[]=>U []
 |t::W=>match X t,jp X W with
  |U V,U r=>U (V.ak.map vA++r)
  |_,_=>Z
def one(l:ap):C:=match l with
 |[v]=>v
 |l=>.b9 l
def Code.pu:Code->aq
 |.region _ X _=>X.toList.filterMap (·.dst)
 |.seq a b=>Code.pu a++Code.pu b
 |.cond _ a b=>Code.pu a++Code.pu b
 |.block _ c=>Code.pu c
 |.loop c=>Code.pu c
 |.scope c=>Code.pu c
 |.rangeFunc _ W a b=>W.toList++Code.pu a++Code.pu b
 |_=>[]
def Code.first:Code->cH
 |.region id _ _=>U id
 |.seq a b=>match Code.first a with
  |U i=>U i
  |none=>Code.first b
 |.cond _ a b=>match Code.first a with
  |U i=>U i
  |none=>Code.first b
 |.block _ c=>Code.first c
 |.loop c=>Code.first c
 |.scope c=>Code.first c
 |_=>Z
mutual
def C.Ip:C->aq
 |.loc i _=>[i]
 |.jM i _ _ _=>[i]
 |.agg l=>C.p7 l
 |.b9 l=>C.p7 l
 |.fn _ l=>C.p7 l
 |.gF _ x=>C.Ip x
 |.mp i=>[i]
 |.gz _ _ X=>C.p7 X
 |_=>[]
def C.p7:ap->aq
 |[]=>[]
 |x::X=>C.Ip x++C.p7 X
end
def sM(X:aq):Nat->bK->bK
 |_,[]=>[]
 |n,x::W=>(if X.contains n then x else Z)::sM X (n+1) W
def w8:bK->bK
 |[]=>[]
 |x::X=>match x,w8 X with
  |Z,[]=>[]
  |x,r=>x::r
def C.fk:C->Bool
 |.any=>J
 |_=>E
inductive Iq where
 |fn (g:FuncId)
 |yl (n:Nat)
abbrev qO:=Iq->ap->S->(C->S->T)->(C->S->T)->T
abbrev YH:=Nat->ap->S->(C->S->T)->(C->S->T)->T
def j6:YH:=λ_ _ _ _ _=>.stuck ""
structure OM where
 o:Oper
 ix:Nat
 bP:Bool
 j:Nat
 dr:Bool
 so:Bool
abbrev cU:=List OM
inductive OR where
 |ok (s:S)
 |bA (b:BE) (s:S)
 |split(b:BE) (s1 s2:S)
 |no (why:String)
def RE.isNil:RE->Bool
 |.k (.slice Z 0 0)=>J
 |_=>E
def RE.fits(X:Ty)(s:S)(k:RK)(r:RE):Bool:=match k with
 |.sl e=>decide (r.kind X s=.sl e)||r.isNil
 |.str=>decide (r.kind X s=.str)
 |_=>E
def ui(X:Ty)(s:S):CT->C->Bool
 |.int k,.int W _=>decide (k=W)
 |.bool,.bool _=>J
 |.aS _ k,.aj r=>r.fits X s k
 |_,_=>E
def mK(X:Ty)(s:S):fp->ap->Bool
 |[],[]=>J
 |c::W,v::V=>ui X s c v&&mK X s W V
 |_,_=>E
def n7(X:Ty)(s:S)(ak:fp):yu->Bool
 |[]=>J
 |r::W=>mK X s ak r&&n7 X s ak W
def kf(w:Nat):Nat->ap->yu
 |0,_=>[]
 |n+1,l=>l.take w::kf w n (l.drop w)
def LE.bd(X W V:Nat):LE->Bool
 |.aj r=>r.bd X W V
 |.lit l=>l.all (C.ec X W V λ_=>E)
 |.nY a b=>LE.bd X W V a&&LE.bd X W V b
 |.sK n Q=>n.bd X W V&&C.ec X W V (λ_=>E) Q
 |.set a i _ R=>LE.bd X W V a&&i.bd X W V&&C.ec X W V (λ_=>E) R
 |.sub a P O=>LE.bd X W V a&&P.bd X W V&&O.bd X W V
 |.ins a _ R=>LE.bd X W V a&&C.ec X W V (λ_=>E) R
def RE.root:RE->cH
 |.v n=>U n
 |.cell r _ _ _=>r.root
 |.k _=>Z
mutual
def C.abp:C->aq
 |.aj r=>r.root.toList
 |.el r _ _ _=>r.root.toList
 |.agg l=>C.p8 l
 |.b9 l=>C.p8 l
 |.fn _ l=>C.p8 l
 |.gF _ x=>C.abp x
 |.gz _ _ X=>C.p8 X
 |_=>[]
def C.p8:ap->aq
 |[]=>[]
 |x::X=>C.abp x++C.p8 X
end
def zY(b:Bool):RK->RK
 |.own e=>if b then .sl e else .own e
 |x=>x
def OV(b:Bool):RK->RK
 |.own e=>if b then .sl e else .am
 |x=>x
def kL(X:aq):Nat->bz->bz
 |_,[]=>[]
 |n,x::W=>zY (X.contains n) x::kL X (n+1) W
def jU(X:aq):Nat->bz->bz
 |_,[]=>[]
 |n,x::W=>(if X.contains n then .am else x)::jU X (n+1) W
def DD(X:aq):Nat->bz->bz
 |_,[]=>[]
 |n,x::W=>OV (X.contains n) x::DD X (n+1) W
mutual
def C.iR(k n:Nat):C->C
 |.aj (.v j)=>if j==k then .aj (.v n) else .aj (.v j)
 |.el (.v j) w i o=>if j==k then .el (.v n) w i o else .el (.v j) w i o
 |.agg l=>.agg (C.p9 k n l)
 |.b9 l=>.b9 (C.p9 k n l)
 |.fn f l=>.fn f (C.p9 k n l)
 |.gF t x=>.gF t (C.iR k n x)
 |.gz e X W=>.gz e X (C.p9 k n W)
 |v=>v
def C.p9(k n:Nat):ap->ap
 |[]=>[]
 |x::X=>C.iR k n x::C.p9 k n X
end
def vC(k n:Nat):bK->bK
 |[]=>[]
 |Z::X=>Z::vC k n X
 |U (t,W)::X=>U (t,if rJ t then W else C.p9 k n W)::vC k n X
def S.iR(s:S)(k n:Nat):S:={s with tmps:=C.p9 k n s.tmps,ao:=vC k n s.ao}
structure BI where
 bA:BE
 e:TypeId
 x:LE
 s:S
def K2:Int:=536870912
def K3(n:K):BE:=qN .leq n (.c K2)
def sN(Q:Ty)(s:S)(e:TypeId)(X:TI):C->Option (LE×BE×aq)
 |.aj r=>if r.isNil then U (.lit [],.c J,[]) else if r.kind Q s=.sl e then U (.aj r,K3 (.len r),[]) else Z
 |.jM i V W _=>match mg s.ao i with
  |U (_,R)=>if n7 Q s X.ak (kf (Y X.ak) W (yz R V (W*Y X.ak)))&&decide (V+W*Y X.ak<=Y R)&&decide ((W:Int)<=K2) then U (.lit (kf (Y X.ak) W (yz R V (W*Y X.ak))),.c J,C.p8 (yz R V (W*Y X.ak))) else Z
  |none=>Z
 |_=>Z
def yC(s:S)(e:TypeId)(bP:Bool):C->Option (LE×BE×aq)
 |.aj (.v k)=>if s.rs[k]?=U (.own e)/\ !(bP&&s.lk.testBit (2*k+1)) then U (.aj (.v k),K3 (.len (.v k)),[k]) else Z
 |.aj r=>if r.isNil then U (.lit [],.c J,[]) else Z
 |.jM _ _ 0 0=>U (.lit [],.c J,[])
 |_=>Z
def kM(s:S)(d:cH)(bA:BE)(e:TypeId)(k:RK)(x:LE)(X dj:aq):Option BI:=
 if s.bd&&X.all (λk=> !dj.contains k)&&LE.bd s.ni s.nb (Y s.rs) x&&bA.bd s.ni s.nb (Y s.rs) then U ⟨bA,e,x,{s with rs:=kL dj 0 (jU X 0 s.rs)++[k]}.put d (.aj (.v (Y s.rs)))⟩ else Z
def eY(X:bL)(o:Oper)(bP R:Bool)(s:S):Option BI:=match o.op with
 |.call c=>match c.callee with
  |.builtin .append=>match c.argTypes.toList,c.args.toList.map (s.ev X.gl) with
   |[t,O],[x,y]=>match X.ty t,X.ty O with
    |U ⟨.slice e,_,_⟩,U ⟨.slice N,_,_⟩=>match X.ty e with
     |U W=>if e≠N\/Y W.ak=0 then Z else match yC s e bP x,sN X.ty s e W y with
      |U (a,M,L),U (b,H,dj)=>kM s o.dst (w6 M H) e (.own e) (.nY a b) L dj
      |_,_=>Z
     |none=>Z
    |_,_=>Z
   |_,_=>Z
  |_=>Z
 |.makeSlice t n m=>match X.ty t,s.ev X.gl n,s.ev X.gl m with
  |U ⟨.slice e,_,_⟩,.int I n,.int I m=>match X.ty e with
   |U W=>if n.aU m&&n7 X.ty s W.ak [eA W]&&Y W.ak !=0 then kM s o.dst (w6 (qN .leq (.c 0) n) (K3 n)) e (.own e) (.sK n (eA W)) [] [] else Z
   |none=>Z
  |_,_,_=>Z
 |.buildSlice t V parts=>if R|| !X.nZ then Z else match X.ty t with
  |U ⟨.slice e,_,_⟩=>match X.ty e with
   |U W=>match zW (λi=>U (i*Y W.ak,Y W.ak)) (yB V (eA W)) (parts.toList.map λp=>(p.1,s.ev X.gl p.2)) with
    |U l=>if(Y l==V*Y W.ak&&n7 X.ty s W.ak (kf (Y W.ak) V l)&&Y W.ak !=0&&decide ((V:Int)<=K2)&&decide (V*Y W.ak<=16777216)&& !(parts.toList.any λp=>(s.ev X.gl p.2).fk)) then kM s o.dst (.c J) e (.own e) (.lit (kf (Y W.ak) V l)) [] (C.p8 l) else Z
    |none=>Z
   |none=>Z
  |_=>Z
 |.slice t x G F D=>if R then Z else match X.ty t,s.ev X.gl x,D.map (s.ev X.gl),F.map (s.ev X.gl),G.map (s.ev X.gl) with
  |U ⟨.slice e,_,_⟩,.aj r,U (.int _ (.c 0)),U (.int _ (.c 0)),Z=>match X.ty e with
   |U _=>if r.kind X.ty s=.sl e\/r.isNil then kM s o.dst (.c J) e (.own e) (.lit []) [] [] else Z
   |none=>Z
  |U ⟨.slice e,_,_⟩,.aj r,Z,U (.int I h),U (.int I l)=>match X.ty e with
   |U _=>if r.kind X.ty s=.sl e then kM s o.dst (w6 (qN .leq (.c 0) l) (w6 (qN .leq l h) (qN .leq h (.len r)))) e (.sl e) (.sub (.aj r) l h) [] r.root.toList else Z
   |none=>Z
  |U ⟨.slice e,_,_⟩,.aj r,Z,U (.int I h),Z=>match X.ty e with
   |U _=>if r.kind X.ty s=.sl e then kM s o.dst (w6 (qN .leq (.c 0) h) (qN .leq h (.len r))) e (.sl e) (.sub (.aj r) (.c 0) h) [] r.root.toList else Z
   |none=>Z
  |U ⟨.slice e,_,_⟩,.aj r,Z,Z,U (.int I l)=>match X.ty e with
   |U _=>if r.kind X.ty s=.sl e then kM s o.dst (w6 (qN .leq (.c 0) l) (qN .leq l (.len r))) e (.sl e) (.sub (.aj r) l (.len r)) [] r.root.toList else Z
   |none=>Z
  |_,_,_,_,_=>Z
 |.store t a x=>if R then Z else match X.ty t,s.ev X.gl a with
  |U Q,.el (.v k) w i P=>match s.rs[k]? with
   |U (.own e)=>match X.ty e with
    |U W=>if(Y W.ak==w&&(s.ev X.gl x).cells.length==Y Q.ak&&decide (P+Y Q.ak<=w)&&mK X.ty s ((W.ak.drop P).take (Y Q.ak)) (s.ev X.gl x).cells&&(s.ev X.gl x).Ig) then
      (kM s Z (w7 i (.len (.v k))) e (.own e) (.set (.aj (.v k)) i P (s.ev X.gl x).cells) [k] (C.p8 (s.ev X.gl x).cells)).map λb=>{b with s:=(b.s.iR k (Y s.rs)).put o.dst (.b9 [])} else Z
    |none=>Z
   |_=>Z
  |_,_=>Z
 |_=>Z
def S.dl(s:S)(n:Nat)(t:TypeId)(X:ap):S:={s with ao:=s.ao.set n (U (t,X))}
def OW(bP:Bool):C->Nat
 |.loc i _=>if bP then 1<<<(2*i) else 0
 |.el r _ _ _=>if bP then(match r.root with
  |U k=>1<<<(2*k+1)
  |none=>0) else 0
 |.gz _ _ X=>if bP then(match zX X with
  |U i=>1<<<(2*i)
  |none=>0) else 0
 |_=>0
def S.dv(s:S)(d:cH)(v:C)(l:Nat):S:={s with lk:=s.lk|||l}.put d v
def uj(s:S)(d:cH)(l:Nat):PR->OR
 |.ok v=>.ok (s.dv d v l)
 |.bA b v=>if b.bd s.ni s.nb (Y s.rs) then .bA b (s.dv d v l) else .no ""
 |.no w=>.no w
def gG(l:bK)(n:Nat):Bool:=match l[n]? with
 |U Z=>J
 |_=>E
def qP(l:bK)(n:Nat)(t:TypeId):Bool:=gG l n&& !rJ t
def gN(X:bL)(m:OM)(s:S):OR:=
 if m.o.op.operands.toList.any λx=>(s.ev X.gl x).fk then .no (""++toString m.j++ ""++toString m.o.dst) else
 match m.o.op with
 |.alloc t=>match X.ty t with
  |U W=>if s.fz (eA W)&&qP s.ao m.ix t then .ok ((s.dl m.ix t (eA W)).put m.o.dst (.loc m.ix 0)) else .no ""
  |none=>.no ""
 |.box t x=>match X.ty t with
  |U W=>if(s.ev X.gl x).cells.length==Y W.ak&&s.fz (s.ev X.gl x).cells&&(s.ev X.gl x).Ig&&qP s.ao m.ix t then .ok ((s.dl m.ix t (s.ev X.gl x).cells).put m.o.dst (.loc m.ix 0)) else .no ""
  |none=>.no ""
 |.buildSlice t V parts=>match X.ty t with
  |U ⟨.slice e,_,_⟩=>match X.ty e with
   |U R=>match zW (λi=>U (i*Y R.ak,Y R.ak)) (yB V (eA R)) (parts.toList.map λp=>(p.1,s.ev X.gl p.2)) with
    |U l=>if s.fz l&&decide (V*Y R.ak<=16777216)&&qP s.ao m.ix e then .ok ((s.dl m.ix e l).put m.o.dst (.jM m.ix 0 V V)) else .no ""
    |none=>.no ""
   |none=>.no ""
  |_=>.no ""
 |.store t a x=>match X.ty t,s.ev X.gl a with
  |U W,.loc i Q=>match mg s.ao i with
   |U (O,P)=>if(s.ev X.gl x).cells.length==Y W.ak&&decide (Q+(s.ev X.gl x).cells.length<=Y P)&&FN (s.ev X.gl x).cells&&(s.ev X.gl x).Ig&& !(m.bP&&s.lk.testBit (2*i)) then .ok ((s.dl i O (lW P Q (s.ev X.gl x).cells)).put m.o.dst (.b9 [])) else .no ""
   |none=>.no ""
  |_,_=>.no ""
 |.pick c x y=>match s.ev X.gl c with
  |.bool b=>.split b (s.put m.o.dst (s.ev X.gl x)) (s.put m.o.dst (s.ev X.gl y))
  |_=>.no ""
 |.load t a=>uj s m.o.dst (OW m.bP (s.ev X.gl a)) (cw X.ty X.gl s (.load t a))
 |op=>uj s m.o.dst 0 (cw X.ty X.gl s op)
inductive MR where
 |ok (s:S)
 |ae (k:RK) (x:LE) (s:S)
def Ir(X:TI)(n:Nat)(W:Bool):TypeId×ap:=if X.ak.all nE&&Y X.ak !=0 then(wY,[.aj (.k (.slice Z 0 0)),.int I (.c n),.bool (.c W),.bool (.c X.d.isAgg)]) else(vz,[])
def S.zZ(s:S)(b:TypeId×ap):S:={s with ao:=s.ao++[U b]}
def Is(V:bL)(s:S)(k e:TypeId)(n:Nat)(W:Bool)(X:TI):ap->Option RE
 |[.aj r,.int I (.c R),.bool (.c Q),.bool (.c P)]=>if r.rK V.ty s ⟨k,e,n,W,X.d.isAgg⟩&&R==(n:Int)&&Q==W&&P==X.d.isAgg&&X.ak.all nE then U r else Z
 |_=>Z
def Um(V:bL)(d:cH)(s:S)(t:TypeId)(O R v:C):Option MR:=match V.ty t,O with
 |U ⟨.map k e n X,_,_⟩,.mp i=>match V.ty e,Ik n X R,cJ s.ao i with
  |U W,U (N,_,_),U (P,Q)=>if !uh V.ty k n X|| !s.fz [R,v]|| !BN W v then Z else
   if P==wY then(match Is V s k e n X W Q with
    |U r=>if mK V.ty s W.ak v.cells then
      U (.ae (RK.mr ⟨k,e,n,X,W.d.isAgg⟩) (.ins (.aj r) n (R.cells++v.cells)) (S.put {s with rs:=s.rs++[RK.mr ⟨k,e,n,X,W.d.isAgg⟩],ao:=s.ao.set i (U (wY,[.aj (.v (Y s.rs)),.int I (.c n),.bool (.c X),.bool (.c W.d.isAgg)]))} d (.b9 []))) else Z
    |none=>Z)
   else if P==vz&&n==1&& !X then(match N,rM Q with
    |.c x,U M=>if M.contains x then Z else U (.ok ((s.dl i vz (Q++[.int I (.c x),v])).put d (.b9 [])))
    |_,_=>Z)
   else Z
  |_,_,_=>Z
 |_,_=>Z
def Un(X:bL)(d:cH)(s:S)(t:TypeId):Option S:=match X.ty t with
 |U ⟨.map k e n W,_,_⟩=>match X.ty e with
  |U V=>if s.bd&&uh X.ty k n W then U ((s.zZ (Ir V n W)).put d (.mp (Y s.ao))) else Z
  |none=>Z
 |_=>Z
def yD(X:bL):Sh:=⟨X.akb,yv,1,E,E⟩
def It(X:bL):Bool:=uh X.ty X.akb 1 E&&(X.ty yv).isNone
def abq(R:bL)(s:S)(k e:TypeId)(n:Nat)(X:Bool)(Q:TI)(i:Nat):Option K:=match cJ s.ao i with
 |U (W,V)=>if W==wY then(Is R s k e n X Q V).map .len
  else if W==vz&&n==1&& !X then(rM V).map λP=>.c (Y P) else Z
 |none=>Z
def Uo(X:bL)(d:cH)(s:S)(t:TypeId)(W:C):Option S:=match X.ty t,W with
 |U ⟨.map k e n V,_,_⟩,.mp i=>match X.ty e with
  |U R=>match abq X s k e n V R i with
   |U c=>if s.bd&&c.bd s.ni s.nb (Y s.rs)&&aW s.ao i then U ((s.zZ (yv,[.mp i,.int I (.c t),.int I c,.aj (.k (.slice Z 0 0))])).put d (.loc (Y s.ao) 0)) else Z
   |none=>Z
  |none=>Z
 |_,_=>Z
def vD(r:RE)(i:K):Nat->fp->ap
 |_,[]=>[]
 |j,c::X=>FM r i j c::vD r i (j+1) X
def K4(r:RE)(i:K)(n:Nat)(X:Bool):C:=ug X ((fj n).map λj=>.int I (.cell r i j))
def abr(X:bL)(d:cH)(s:S)(q W:Nat)(i t:Nat)(c:K)(V v:C):S:=
 S.put {s with ni:=W,rs:=s.rs++[RK.mr (yD X)],ao:=s.ao.set q (U (yv,[.mp i,.int I (.c t),.int I c,.aj (.v (Y s.rs))]))} d (.b9 [.bool (.c J),V,v])
def Uq(X:RE)(j:K):BE:=.not (.has X 1 j (.c 0) (.c 0))
def Ur(X:TI)(e:K)(W:bw)(V:ap):Option (C×C):=if V.all (BN X) then(match BM e (DC (Y W)) (W.map λk=>.int I (.c k)),DB e (DC (Y W)) (V.map C.cells) 0 X.ak with
 |U a,U l=>U (.int I a,ug X.d.isAgg l)
 |_,_=>Z) else Z
def Us(W:bL)(s:S)(c:K)(X:RE)(t V:T):T:=
 .pick c (Uq X (.v s.ni)) (.cmp .leq c (.len X)) (.ae (.mr (yD W)) (.ins (.aj X) 1 [.int I (.v s.ni)]) s.rs t) V
def abs(X:bL)(d:cH)(s:S)(L:C)(P O:S->T):Option T:=match L with
 |.loc q 0=>match cJ s.ao q with
  |U (H,[.mp i,.int I (.c t),.int I c,.aj R])=>if !(H==yv&&It X&&R.rK X.ty s (yD X)&&s.bd&&({s with ni:=s.ni+1}:S).bd&&decide (0<=t)) then Z else match X.ty t.toNat,cJ s.ao i with
   |U ⟨.map k e n V,_,_⟩,U (N,Q)=>match X.ty e with
    |U W=>if !uh X.ty k n V then Z else
     if N==wY then(match Is X s k e n V W Q with
      |U r=>if c.aU (.len r)&&Y W.ak !=0 then U (Us X s c R (P (abr X d s q (s.ni+1) i t.toNat c (K4 r (.v s.ni) n V) (ug W.d.isAgg (vD r (.v s.ni) n W.ak)))) (O (s.put d (.b9 [.bool (.c E)])))) else Z
      |none=>Z)
     else if N==vz&&n==1&& !V then(match rM Q with
      |U M=>if c.aU (.c (Y M)) then(match Ur W (.v s.ni) M (mH Q) with
       |U (G,v)=>U (Us X s c R (P (abr X d s q (s.ni+1) i t.toNat c G v)) (O (s.put d (.b9 [.bool (.c E)]))))
       |none=>Z) else Z
      |none=>Z)
     else Z
    |none=>Z
   |_,_=>Z
  |_=>Z
 |_=>Z
def xe(X:RE):K:=.cell X (.bin .sub I (.len X) (.c 1)) 0
def abt(c:K)(X:RE):BE:=w6 (w6 (qN .leq (.c 1) (.len X)) (K3 (.len X))) (w7 (xe X) c)
def abu(X:bL)(d:cH)(s:S)(M:C)(P:S->T):Option T:=match M with
 |.loc q 0=>match cJ s.ao q with
  |U (L,[.mp i,.int I (.c t),.int I c,.aj W])=>if !(L==yv&&It X&&W.rK X.ty s (yD X)&&s.bd&&decide (0<=t)) then Z else match X.ty t.toNat,cJ s.ao i with
   |U ⟨.map k e n V,_,_⟩,U (O,Q)=>match X.ty e with
    |U R=>if !uh X.ty k n V then Z else
     if O==wY then(match Is X s k e n V R Q with
      |U r=>if c.aU (.len r) then U (.bA (abt c W) (P (s.put d (.b9 [K4 r (xe W) n V,ug R.d.isAgg (vD r (xe W) n R.ak)])))) else Z
      |none=>Z)
     else if O==vz&&n==1&& !V then(match rM Q with
      |U N=>if c.aU (.c (Y N)) then(match Ur R (xe W) N (mH Q) with
       |U (H,v)=>U (.bA (abt c W) (P (s.put d (.b9 [H,v]))))
       |none=>Z) else Z
      |none=>Z)
     else Z
    |none=>Z
   |_,_=>Z
  |_=>Z
 |_=>Z
def Ut(X:bL)(d:cH)(s:S)(t:TypeId)(W:Bool)(x y:C)(V:S->T):Option T:=match X.ty t,x,y with
 |U ⟨.slice e,_,_⟩,.aj r,.aj (.k (.slice Z 0 0))=>if r.kind X.ty s=.sl e then U (.gA (.c J) (.cmp .leq (.len r) (.c 0)) (V (s.put d (.bool (.c W)))) (V (s.put d (.bool (.c (!W)))))) else Z
 |_,_,_=>Z
abbrev Fx:=List (BE×Bool)
def OX(X:Fx):BE->Option Bool
 |.c v=>U v
 |b=>(X.find? λx=>x.1.aU b).map (·.2)
def DE(s:S)(X:Fx)(b:BE)(t f:Fx->T):T:=match OX X b with
 |U J=>t X
 |U E=>f X
 |none=>if b.bd s.ni s.nb (Y s.rs) then .bi b (t ((b,J)::X)) (f ((b,E)::X)) else .stuck ""
inductive CK where
 |call (g:Iq) (args:List C)
 |bD (v:C)
 |op
 |no
def eN(X:bL)(s:S)(o:Oper):CK:=
 match o.op with
 |.panic x=>match s.ev X.gl x with
  |.gF t y=>.bD (.gF t y)
  |_=>.no
 |.call c=>match c.callee with
  |.value f=>match s.ev X.gl f with
   |.fn g W=>if c.args.toList.any λx=>(s.ev X.gl x).fk then .no else .call (.fn g) (c.args.toList.map (s.ev X.gl)++W)
   |.yl n=>if c.args.toList.any λx=>(s.ev X.gl x).fk then .no else .call (.yl n) (c.args.toList.map (s.ev X.gl))
   |_=>.no
  |.invoke _ _=>.no
  |.builtin .panic=>match c.args.toList with
   |[x]=>match s.ev X.gl x with
    |.gF t y=>.bD (.gF t y)
    |_=>.no
   |_=>.no
  |.builtin _=>.op
 |_=>.op
def qa(s:S)(X:Fx):Fx:=X.filter λx=>x.1.bd s.ni s.nb (Y s.rs)
def abv(b:BE):C->C->Option C
 |.int k x,.int X y=>if k=X then U (.int k (.dV b x y)) else Z
 |.bool x,.bool y=>U (.bool (.dV b x y))
 |_,_=>Z
def OY(b:BE):ap->Nat->ap->Ic
 |[],_,X=>U X
 |x::V,W,X=>match X[W]? with
  |U R=>match abv b x R with
   |U c=>OY b V (W+1) (X.set W c)
   |none=>Z
  |none=>Z
def Iu(e:K)(W:ap):bw->ap->ap->Ic
 |[],[],X=>U X
 |k::V,.loc _ R::Q,X=>match OY (.cmp .eql e (.c k)) W R X with
  |U P=>Iu e W V Q P
  |none=>Z
 |_,_,_=>Z
def Uu:bw->Bool
 |[]=>J
 |x::X=> !X.contains x&&Uu X
def OZ:C->Bool
 |.int _ _|.bool _=>J
 |_=>E
def K5:ap->Bool
 |[]=>E
 |[x]=>OZ x
 |x::X=>OZ x&&K5 X
def abw(d:cH)(s:S)(R:TI)(e:K)(X:bw)(W:ap)(V:C)(k:S->T):Option T:=match zX W with
 |U i=>match mg s.ao i with
  |U (Q,P)=>match Iu e V.cells X W P with
   |U O=>if Y R.ak==Y V.cells&&Y X==Y W&&Uu X&&K5 V.cells then U (.bA (Il e X) (k ((s.dl i Q O).put d (.b9 [])))) else Z
   |none=>Z
  |none=>Z
 |none=>Z
def BT(X:bL)(m:OM)(s:S)(V:S->Fx->T)(R:Fx):Option T:=if m.dr||m.o.op.operands.toList.any λx=>(s.ev X.gl x).fk then Z else match m.o.op with
 |.makeMap t Z=>(Un X m.o.dst s t).map λW=>V W R
 |.mapUpdate t x y z=>match Um X m.o.dst s t (s.ev X.gl x) (s.ev X.gl y) (s.ev X.gl z) with
  |U (.ok W)=>U (V W R)
  |U (.ae k x W)=>U (.ae k x s.rs (V W (qa s R)))
  |none=>Z
 |.insert t x y z=>match Um X m.o.dst s t (s.ev X.gl x) (s.ev X.gl y) (s.ev X.gl z) with
  |U (.ok W)=>U (V W R)
  |U (.ae k x W)=>U (.ae k x s.rs (V W (qa s R)))
  |none=>Z
 |.range t x=>(Uo X m.o.dst s t (s.ev X.gl x)).map λW=>V W R
 |.next Q E=>abs X m.o.dst s (s.ev X.gl Q) (λW=>V W (qa s R)) (λW=>V W R)
 |.entry Q=>abu X m.o.dst s (s.ev X.gl Q) λW=>V W R
 |.store t a x=>match X.ty t,s.ev X.gl a with
  |U P,.gz e O N=>abw m.o.dst s P e O N (s.ev X.gl x) λW=>V W R
  |_,_=>Z
 |.binOp M t x y _=>match M with
  |.eql=>Ut X m.o.dst s t E (s.ev X.gl x) (s.ev X.gl y) λW=>V W R
  |.neq=>Ut X m.o.dst s t J (s.ev X.gl x) (s.ev X.gl y) λW=>V W R
  |_=>Z
 |_=>Z
def BU(X:bL)(m:OM)(s:S):Option (K×bw×ap×ap):=if m.dr then Z else match m.o.op with
 |.call c=>match c.callee with
  |.value f=>match s.ev X.gl f with
   |.gz e W V=>if(c.args.toList.any λx=>(s.ev X.gl x).fk)|| !e.bd s.ni s.nb (Y s.rs) then Z else U (e,W,V,c.args.toList.map (s.ev X.gl))
   |_=>Z
  |_=>Z
 |_=>Z
def FQ(e:K)(X:FuncId->ap->T):bw->ap->T
 |k::W,.fn g R::V=>.bi (.cmp .eql e (.c k)) (X g R) (FQ e X W V)
 |k::W,.aj (.k .nilFunc)::V=>.bi (.cmp .eql e (.c k)) (.stuck "") (FQ e X W V)
 |_,_=>.stuck ""
structure BV where
 f:FuncId
 g:FuncId
 e:TypeId
 sp:bq
 st:Bool
 r:RE
 s:S
def O4:ap->Option (List K×FuncId)
 |[.fn g []]=>U ([],g)
 |.int I e::r=>match O4 r with
  |U x=>U (e::x.1,x.2)
  |none=>Z
 |_=>Z
def bq.fill:bq->List K->Option bq
 |.dp k o _,X=>U (.dp k o X)
 |W,[]=>U W
 |_,_::_=>Z
def abx(V:bL)(f:FuncId)(R:ap)(s:S)(d:cH):Option BV:=match R with
 |.aj r::Q=>match O4 Q with
  |U (P,g)=>match(if f==g then Z else V.BR f g) with
   |U (e,O,X)=>match O.fill P with
    |U W=>match r with
     |.v k=>if s.rs[k]?=U (.own e) then U ⟨f,g,e,W,X,.v k,(({s with rs:=kL [] 0 (jU [k] 0 s.rs)++[.own e]}:S).iR k (Y s.rs)).put d (.b9 [])⟩ else Z
     |.k (.slice Z 0 0)=>U ⟨f,g,e,W,X,.k (.slice Z 0 0),({s with rs:=kL [] 0 (jU [] 0 s.rs)++[.own e]}:S).put d (.b9 [])⟩
     |_=>Z
    |none=>Z
   |none=>Z
  |none=>Z
 |_=>Z
def Iv(V:bL)(f:FuncId)(R:ap)(s:S)(d:cH):Option BV:=match R with
 |[.int I i,.loc X 0,.loc W 0]=>match V.BR f f with
  |U (e,.dp 0 o _,J)=>match cJ s.ao X,cJ s.ao W with
   |U (Q,[.aj (.v k)]),U (P,[.fn O [.loc N 0,.loc M 0]])=>if i.bd s.ni s.nb (Y s.rs)&&O==f&&N==X&&M==W&& !rJ Q&& !rJ P&&decide (s.rs[k]?=U (.own e)) then U ⟨f,f,e,.dp 0 o [i],J,.v k,(({s with rs:=kL [] 0 (jU [k] 0 s.rs)++[.own e]}:S).iR k (Y s.rs)).put d (.int I (.cell (.v (Y s.rs)) i 0))⟩ else Z
   |_,_=>Z
  |_=>Z
 |_=>Z
def DF(X:bL)(m:OM)(s:S):Option BV:=if m.dr|| !s.bd then Z else match eN X s m.o with
 |.call (.fn f) W=>match abx X f W s m.o.dst with
  |U u=>U u
  |none=>Iv X f W s m.o.dst
 |_=>Z
def Iw(X:bL)(o:Oper)(s:S):Option BV:=if !s.bd then Z else match eN X s o with
 |.call (.fn f) W=>Iv X f W s o.dst
 |_=>Z
def BW(R:bL)(O:qO)(m:OM)(s:S)(X:S->Fx->T)(P:C->S->T)(W:Fx):T:=
 match BU R m s with
 |U (e,N,M,Q)=>FQ e (λg L=>O (.fn g) (Q++L) s (λv V=>X (V.put m.o.dst v) (qa s W)) P) N M
 |none=>
 match DF R m s with
 |U u=>.ez u.f u.g u.e u.sp u.st u.r s.rs (X u.s (qa s W))
 |none=>
 match eN R s m.o with
 |.call (.fn g) Q=>O (.fn g) Q s (λv V=>X (V.put m.o.dst v) (qa s W)) P
 |.call (.yl n) Q=>if m.so then O (.yl n) Q s (λv V=>X (V.put m.o.dst v) (qa s W)) P else .stuck ""
 |.bD v=>P v s
 |.no=>.stuck ""
 |.op=>match BT R m s X W with
  |U t=>t
  |none=>match eY R m.o m.bP m.dr s with
  |U b=>.bA b.bA (.new b.e b.x s.rs b.s.rs (X b.s (qa s W)))
  |none=>match gN R m s with
  |.ok V=>X V W
  |.bA b V=>.bA b (X V W)
  |.split b H G=>DE s W b (X H) (X G)
  |.no F=>.stuck F
def Uv(R:dU)(m:OM)(s:S)(X:Fx)(W V:Fx->T):T:=
 match m.o.guard with
 |none=>W X
 |U (j,Q)=>match(R[j]?).bind (·.dst) with
  |U d=>match s.tmps[d]? with
   |U (.bool b)=>if Q then DE s X b W V else DE s X b V W
   |U (.b9 [])=>V X
   |_=>.stuck ""
  |none=>.stuck ""
def oF(X:bL)(W:qO)(V:dU)(k:S->T)(R:C->S->T):cU->S->Fx->T
 |[],s,_=>k s
 |m::Q,s,P=>Uv V m s P (BW X W m s (oF X W V k R Q) R) (oF X W V k R Q (s.put m.o.dst (.b9 [])))
def gW:Op->Bool
 |.alloc _|.box _ _|.buildSlice _ _ _=>J
 |_=>E
def nF(l:qM):Nat:=(l.filter λo=>gW o.op).length
def iG(bP:Nat->Bool)(X W:Bool):Nat->Nat->qM->cU
 |_,_,[]=>[]
 |j,n,o::r=>⟨o,n,bP j,j,W,X⟩::iG bP X W (j+1) (if gW o.op then n+1 else n) r
def S.room(s:S)(n:Nat):S:={s with ao:=s.ao++eH n Z,lk:=0}
def vE(X:bL)(s:S):sJ->Ic
 |[]=>U []
 |.tmp t::W=>match vE X s W with
  |U l=>if(s.tmps.getD t .any).fk then Z else U (s.tmps.getD t .any::l)
  |none=>Z
 |.cell a t::W=>match vE X s W,s.tmps.getD a .any,X.ty t with
  |U l,.loc i V,U R=>match mg s.ao i with
   |U (_,Q)=>match yA R Q V with
    |U v=>U (v::l)
    |none=>Z
   |none=>Z
  |_,_,_=>Z
def xf(n:Nat):List (Nat×LK)->ap->Option C
 |(t,_)::r,v::X=>if t==n then U v else xf n r X
 |_,_=>Z
def BX(b n:Nat):List (Nat×Nat×LK)->ap->Option C
 |(X,W,_)::r,v::V=>if X==b&&W==n then U v else BX b n r V
 |_,_=>Z
def akd(l:bK)(x:Nat×Nat×LK):C:=match cJ l x.1 with
 |U (_,X)=>X.getD x.2.1 .any
 |none=>.any
def fU.ks(a:fU):aY:=a.tm.map (·.2)++a.cl.map (·.2.2)
def kW(a:fU)(s:S):ap:=a.tm.map (λx=>s.tmps.getD x.1 .any)++a.cl.map (akd s.ao)
def Uw:LK->C->aq
 |.aj (.own _),.aj (.v k)=>[k]
 |_,_=>[]
def DG:aY->ap->aq
 |k::X,v::W=>Uw k v++DG X W
 |_,_=>[]
def Ix(a:fU)(s:S):aq:=DG a.ks (kW a s)
def jV(a:fU)(s:S):bz:=jU (Ix a s) 0 s.rs
def z6:bz->bz->Bool
 |[],_=>J
 |x::X,y::W=>(decide (x=.am)||decide (x=y))&&z6 X W
 |_::_,[]=>E
def nG:aq->Bool
 |[]=>J
 |x::X=> !X.contains x&&nG X
def Iy(X:bz)(l:aq):Bool:=nG l&&l.all λk=>decide (Y X<=k)||decide (X[k]?=U .am)
def BY(a:fU)(X:aq)(W:ap):Nat->ap->ap
 |_,[]=>[]
 |n,x::V=>(xf n a.tm W).getD (if X.contains n then .any else x)::BY a X W (n+1) V
def Iz(a:fU)(X:ap)(b:Nat):Nat->ap->ap
 |_,[]=>[]
 |n,x::W=>(BX b n a.cl X).getD x::Iz a X b (n+1) W
def vF(a:fU)(X:ap):Nat->bK->bK
 |_,[]=>[]
 |n,Z::W=>Z::vF a X (n+1) W
 |n,U (t,V)::W=>U (t,Iz a X n 0 V)::vF a X (n+1) W
def rP(a:fU)(X:aq)(s:S):S:=
 let r:ap×S:=S.cK {s with aC:=s.aC+1,rs:=jV a s} a.ks
 {r.2 with tmps:=BY a X r.1 0 s.tmps,ao:=vF a (r.1.drop (Y a.tm)) 0 s.ao}
def z7(a:fU)(X:aq):Nat->ap->ap->Bool
 |_,[],[]=>J
 |n,x::W,y::V=>(a.tm.any (·.1==n)||X.contains n||C.aU x y)&&z7 a X (n+1) W V
 |_,_,_=>E
def IA(a:fU)(b:Nat):Nat->ap->ap->Bool
 |_,[],[]=>J
 |n,x::X,y::W=>(a.cl.any (λc=>c.1==b&&c.2.1==n)||C.aU x y)&&IA a b (n+1) X W
 |_,_,_=>E
def uk(a:fU):Nat->bK->bK->Bool
 |_,[],_=>J
 |n,Z::X,_::W=>uk a (n+1) X W
 |n,U x::X,U y::W=>x.1==y.1&&IA a n 0 x.2 y.2&&uk a (n+1) X W
 |_,_,_=>E
def DH(s:S):LK->C->Bool
 |.int k,.int X _=>decide (k=X)
 |.bool,.bool _=>J
 |.aj e,.aj (.v k)=>s.rs[k]?==U e
 |.aj (.sl _),.aj (.k (.slice Z 0 0))=>J
 |.aj (.own _),.aj (.k (.slice Z 0 0))=>J
 |.aj (.mr _),.aj (.k (.slice Z 0 0))=>J
 |_,_=>E
def ul(s:S):aY->ap->Bool
 |[],[]=>J
 |k::X,v::W=>DH s k v&&ul s X W
 |_,_=>E
def IB:LK->Bool
 |.aj (.own _)=>E
 |_=>J
def qQ:aY->Bool
 |[]=>J
 |k::X=>IB k&&qQ X
def O5:aY->Bool
 |[]=>E
 |.aj _::_=>J
 |_::X=>O5 X
def O6(X:ap)(n:Nat):aq:=if(C.p7 X).isEmpty then C.p8 X else fj n
def O7(W:ap)(X:bz):bz:=DD (O6 W (Y X)) 0 X
def DJ(W:ap)(V:aY)(X:bz):bz:=if O5 V then kL (O6 W (Y X)) 0 X else X
def S.cut(s:S)(X:ap)(W:aY):S:={s with rs:=DJ X W s.rs}
def z8(V:bL)(f:FuncId)(X:ap)(s:S)(k:C->S->T):T:=
 match V.sig f with
 |U R=>match jp V.ty R with
  |U W=>match BS V.ty R ((s.cut X W).cK W).1 with
   |U l=>if s.fz X&&qQ W then .call f X (w8 (sM (C.p7 X) 0 s.ao)) (O7 X s.rs) W (one l) (k (one l) ((s.cut X W).cK W).2) else .stuck ""
   |none=>.stuck ""
  |none=>.stuck ""
 |none=>.stuck (""++toString f)
def lY(o:Oper):aq:=(o.after.toList.filter λe=>axp .any e).map (·.on)
def qb(X:qM):aq:=X.foldl (λacc o=>acc++[(lY o).foldl (λl e=>l|||(1<<<e)|||acc.getD e 0) 0]) []
def BZ:Op->Bool
 |.load _ _=>J
 |_=>E
def Aa:Op->Bool
 |.store _ _ _=>J
 |_=>E
def n8:Op->Bool
 |.call c=>match c.callee with
  |.builtin .len|.builtin .min|.builtin .max=>J
  |_=>E
 |.move _|.assign _|.pick _ _ _|.load _ _|.fieldAddr _ _ _|.field _ _ _|.indexAddr _ _ _|.index _ _ _|.binOp _ _ _ _ _|.unOp _ _ _|.convert _ _ _|.makeInterface _ _|.makeFunc _ _ _|.extract _ _|.nilCheck _|.slice _ _ _ _ _|.build _ _|.lookup _ _ _ _=>J
 |_=>E
def ky(X:dU)(o:Oper):aq:=o.op.operands.toList.filterMap (λx=>match x with
  |.tmp t=>U t
  |_=>Z)++(match o.guard with
  |U (j,_)=>((X[j]?).bind (·.dst)).toList
  |none=>[])
def K6:Op->Bool
 |.panic _=>J
 |.call c=>match c.callee with
  |.builtin .panic=>J
  |_=>E
 |_=>E
def DK:Op->Bool
 |.call c=>match c.callee with
  |.builtin .append=>J
  |_=>E
 |_=>E
def vG:Op->Bool
 |.call c=>match c.callee with
  |.builtin .append=>J
  |_=>E
 |.makeSlice _ _ _=>J
 |_=>E
def looks:Op->Bool
 |.call _|.load _ _|.indexAddr _ _ _|.index _ _ _|.lookup _ _ _ _=>J
 |.binOp X _ _ _ _=>Uf X
 |_=>E
def Ux(X:dU)(x y:OM):Bool:=
 x.dr&&y.dr&&n8 x.o.op&& !K6 y.o.op&&(match x.o.dst with
  |U d=> !(ky X y.o).contains d&&y.o.dst !=U d&& !(ky X x.o).contains d
  |none=>E)&&(match y.o.dst with
  |U d=> !(ky X x.o).contains d
  |none=>J)&&(!(Aa y.o.op)|| !(BZ x.o.op)||(x.bP&&y.bP))&&(!(DK y.o.op)|| !(looks x.o.op)||(BZ x.o.op&&x.bP&&y.bP))
def yE:Operand->Bool
 |.global _=>E
 |_=>J
def Ab:Op->Bool
 |.call c=>match c.callee with
  |.value _=>J
  |_=>E
 |_=>E
def IC:Op->Bool
 |.alloc _=>J
 |_=>E
def Uy(X:dU)(x y:OM):Bool:=(match x.o.dst with
  |U d=> !(ky X y.o).contains d&&y.o.dst !=U d
  |none=>J)&&(match y.o.dst with
  |U d=> !(ky X x.o).contains d
  |none=>J)
def K7:Op->Bool
 |.call c=>match c.callee with
  |.value (.func _)=>c.args.toList.isEmpty
  |_=>E
 |_=>E
def Uz(X:dU):Bool:=(fj X.size).all λi=>(fj X.size).all λj=>match X[i]?,X[j]? with
 |U x,U y=> !(Ab x.op)|| !(gW y.op||vG y.op)||((qb X.toList).getD i 0).testBit j||((qb X.toList).getD j 0).testBit i||(K7 x.op&&IC y.op)
 |_,_=>J
def K8(X:dU)(x y:OM):Bool:=
 x.dr&&y.dr&&IC y.o.op&&y.o.guard.isNone&&(gW x.o.op||vG x.o.op||Ab x.o.op)&&(!gW x.o.op||x.ix !=y.ix)&&x.o.op.operands.toList.all yE&&Uy X x y&&(!Ab x.o.op|| !Uz X||K7 x.o.op)
def FR:Op->Bool
 |.move _|.assign _|.fieldAddr _ _ _=>J
 |_=>E
def O8(X:dU)(x y:OM):Bool:=
 x.dr&&y.dr&&gW x.o.op&& !IC x.o.op&&x.o.guard.isNone&&x.o.op.operands.toList.all yE&&y.o.op.operands.toList.all yE&&(gW y.o.op||vG y.o.op||Ab y.o.op||FR y.o.op||Aa y.o.op)&&(!gW y.o.op||x.ix !=y.ix)&&Uy X x y&&(!Ab y.o.op|| !Uz X)
def vH(X:dU)(x y:OM):Bool:= !x.so&& !y.so&&(Ux X x y||K8 X x y||O8 X x y)
def O9(X:qM):Nat->aq->aq
 |0,acc=>acc
 |n+1,acc=>
  let W:=(fj (Y X)).filter λi=> !acc.contains i&&(match X[i]? with
   |U o=>(lY o).all acc.contains
   |none=>E)
  match W.find? λi=>match X[i]? with
   |U o=>n8 o.op
   |none=>E with
  |U i=>O9 X n (acc++[i])
  |none=>match(W.find? λi=>match X[i]? with
   |U o=>gW o.op&& !IC o.op
   |none=>E).or (W.find? λi=>match X[i]? with
   |U o=> !IC o.op
   |none=>E) with
   |U i=>O9 X n (acc++[i])
   |none=>match W with
   |i::_=>O9 X n (acc++[i])
   |[]=>acc
def FT(X:dU)(W:aq):cU->Bool
 |[]=>J
 |x::r=>(r.all λy=>(W.getD y.j 0).testBit x.j||vH X x y)&&FT X W r
def FU(X:dU):aq->cU->Bool
 |_,[]=>J
 |done,x::r=>(match X[x.j]? with
  |U o=>(lY o).all done.contains
  |none=>E)&&FU X (x.j::done) r
def UA(X:qM)(W:aq):Bool:=(fj (Y X)).all λj=>match X[j]? with
 |U o=>(lY o).all (λe=>decide (e<j))&&(fj (Y X)).all λi=> !(W.getD j 0).testBit i||(lY o).contains i||(lY o).any λe=>(W.getD e 0).testBit i
 |none=>E
def Pa(X:qM)(W:aq)(j:Nat):Bool:=match X[j]? with
 |U o=>(BZ o.op&&(fj (Y X)).any λi=>(match X[i]? with
   |U q=>Aa q.op||DK q.op
   |none=>E)&& !(W.getD i 0).testBit j&& !(W.getD j 0).testBit i)||
  ((Aa o.op||DK o.op)&&(fj (Y X)).any λi=>(match X[i]? with
   |U q=>BZ q.op
   |none=>E)&& !(W.getD i 0).testBit j&& !(W.getD j 0).testBit i)
 |none=>E
def B3(X:aq):cU->Bool
 |[]=>J
 |x::r=>(r.all λy=>(X.getD y.j 0).testBit x.j)&&B3 X r
def axy:Op->Bool
 |.call c=>match c.callee with
  |.value (.tmp _)=>J
  |_=>E
 |_=>E
def vJ(X:aq):cU->cU->cU
 |_,[]=>[]
 |W,m::r=>{m with so:=axy m.o.op&&B3 X (m::r)&&W.all (λx=>(X.getD m.j 0).testBit x.j)}::vJ X (W++[m]) r
def um(X:aq):Nat->ap->ap
 |_,[]=>[]
 |n,x::W=>(if X.contains n then .any else x)::um X (n+1) W
def S.plus(s:S)(X:bK):S:={s with ao:=s.ao++X}
abbrev yF:=FuncId->ap->S->Option (C×bK)
def Ac(W:bL)(V:yF)(R:YH):qO
 |.fn f,X,s,k,_=>match V f X s with
  |U (v,Q)=>if s.bd then k v (s.plus Q) else .stuck ""
  |none=>z8 W f X s k
 |.yl n,X,s,k,P=>R n X s k P
def K9(l:cU)(X:aq):cU:=X.filterMap λi=>l[i]?
def FV(l:qM):aq:=l.filterMap (·.dst)
def La(X:dU)(n:Nat):Option cU:=
 let V:=qb X.toList;let W:=vJ V [] (K9 (iG (Pa X.toList V) E J 0 n X.toList) (O9 X.toList X.size []))
 if UA X.toList V&&FU X [] W&&FT X V W&&nG (W.filterMap (·.o.dst))&&nG (W.map (·.j))&&nG ((W.filter λm=>gW m.o.op).map (·.ix))&&Y W==X.size&&(fj X.size).all (λi=>W.any λm=>m.j==i) then U W else Z
def ID(X:bL)(t:TypeId):Bool:=(X.ty t).isSome&& !rJ t
def Lb(X:bL):qM->Bool
 |[]=>J
 |o::r=>(match o.op with
  |.alloc t=>ID X t
  |_=>J)&&Lb X r
def ake(s:S)(X:aq):aq:=X.filter λd=>match s.tmps[d]? with
 |U w=> !(w.bd s.ni s.nb (Y s.rs) (aW s.ao))
 |none=>J
def S.B4(s:S)(X:dU)(W:cU):S:={s.room (nF X.toList) with tmps:=um (ake s (FV (W.dropLast.map (·.o)))) 0 s.tmps}
def UB(X:S->T)(k:XE->S->T):XE->S->T
 |.normal,s=>X s
 |e,s=>k e s
def aby(id:Nat)(k:XE->S->T):XE->S->T
 |.exit j,s=>if j==id then k .normal s else k (.exit j) s
 |e,s=>k e s
def Lc(W:bL)(s:S)(V:sJ)(k R:C->S->T):XE->S->T
 |.normal,X=>match vE W X V with
  |U l=>k (one l) {X with tmps:=s.tmps}
  |none=>.stuck ""
 |.ret,X=>match vE W X V with
  |U l=>k (one l) {X with tmps:=s.tmps}
  |none=>.stuck ""
 |.bD v,X=>R v {X with tmps:=s.tmps}
 |.exit _,_=>.stuck ""
def kX(W:bL)(R:FuncId->Code->S->(XE->S->T)->T)(Q:YH):qO
 |.fn f,X,s,k,V=>match W.inl f with
  |U (c,P,O)=>if s.fz X then R f c {s with tmps:=X++eH (P-Y X) (.b9 [])} (Lc W s O k V) else .stuck ""
  |none=>z8 W f X s k
 |.yl n,X,s,k,V=>Q n X s k V
def abz(b:Bool)(R:bL)(V:qO):qO
 |.fn f,X,s,k,W=>if b then z8 R f X s k else V (.fn f) X s k W
 |.yl n,X,s,k,W=>V (.yl n) X s k W
def axz:T:=.gA (.c E) (.c E) (.stuck "") (.stuck "")
def abA:T->Bool
 |.gA (.c E) (.c E) _ _=>J
 |_=>E
mutual
def C.B5:C->Bool
 |.agg l=>C.yG l
 |.b9 l=>C.yG l
 |.fn _ l=>C.yG l
 |.gF _ x=>C.B5 x
 |.yl _=>E
 |.gz _ _ X=>C.yG X
 |_=>J
def C.yG:ap->Bool
 |[]=>J
 |x::X=>C.B5 x&&C.yG X
end
def FW:bK->Bool
 |[]=>J
 |Z::X=>FW X
 |U x::X=>C.yG x.2&&FW X
def nH:bK->bK->Bool
 |[],[]=>J
 |Z::X,Z::W=>nH X W
 |U x::X,U y::W=>x.1==y.1&&C.rN x.2 y.2&&nH X W
 |_,_=>E
def oG(W:ap)(X:bK):bK:=if W.isEmpty then X.map (λ_=>Z) else X
def vK(X:ap)(s:S):S:=⟨[],oG X s.ao,s.ni,s.nb,s.rs.map RK.rd,0,0,[]⟩
def akf(W V X:S):Bool:=nH X.ao V.ao&&X.ni==W.ni&&X.nb==W.nb&&decide (X.rs=W.rs)
def Ld(V:bL)(R:FuncId->Code->S->(XE->S->T)->T)(g:FuncId)(W:ap)(s:S):Option (C×bK):=
 match kX V R j6 (.fn g) W (vK W s) (λv X=>.out .normal {X with tmps:=[v]}) (λ_ _=>.stuck "") with
 |.out .normal X=>match X.tmps with
  |[v]=>if C.yG W&&FW (oG W s.ao)&&v.B5&&FW X.ao&&nH (X.ao.take (Y s.ao)) (oG W s.ao)&&v.bd s.ni s.nb (Y s.rs) (aW X.ao)&&C.rO s.ni s.nb (Y s.rs) (aW X.ao) X.ao&&abA (kX V R j6 (.fn g) W (vK W s) (λQ P=>if Q.aU v&&akf (vK W s) X P then axz else .stuck "") (λ_ _=>.stuck "")) then U (v,X.ao.drop (Y s.ao)) else Z
  |_=>Z
 |_=>Z
def FX(X:bL)(W:dU)(V:FuncId->Code->S->(XE->S->T)->T):yF:=λg R s=>if Uz W&&(X.inl g).isSome then Ld X V g R s else Z
def abB:Op->Bool
 |.pick _ _ _=>J
 |_=>E
def akg:Op->Bool
 |.buildSlice _ _ _=>J
 |_=>E
def Pb:Op->Bool
 |.buildSlice _ _ _|.alloc _|.box _ _|.store _ _ _=>J
 |_=>E
def B6(X:bL)(s:S)(o:Oper):Option (BE×C):=
 if(o.op.operands.toList.any λx=>(s.ev X.gl x).fk)||abB o.op then Z else match cw X.ty X.gl s o.op with
 |.ok v=>U (.c J,v)
 |.bA b v=>if b.bd s.ni s.nb (Y s.rs) then U (b,v) else Z
 |.no _=>Z
def BE.isT:BE->Bool
 |.c b=>b
 |_=>E
def FY(X:bL):cU->S->Option (S×List BE)
 |[],s=>U (s,[])
 |q::r,s=>match B6 X s q.o with
  |U (b,v)=>(FY X r (s.put q.o.dst v)).map λx=>(x.1,if b.isT then x.2 else b::x.2)
  |none=>Z
def abD(X:bL)(mL:List BE)(s:S)(W:cU):Bool:=W.all λq=>match q.o.dst,B6 X s q.o with
 |U d,U (b,v)=>(match s.tmps[d]? with
  |U w=>v.aU w&&(b.isT||mL.any λx=>x.aU b)
  |none=>E)
 |_,_=>E
def UC:List BE->T->T
 |[],t=>t
 |b::r,t=>.bA b (UC r t)
def S.co(s:S)(X:aq):S:={s with tmps:=um X 0 s.tmps}
def Le{X:Type}:List X->List (X×List X)
 |[]=>[]
 |x::r=>(x,r)::(Le r).map λy=>(y.1,x::y.2)
def abE(X:aq)(x:OM×cU):Bool:=x.2.all λy=> !(X.getD x.1.j 0).testBit y.j
def Lf:yu->yu->Bool
 |[],[]=>J
 |x::X,y::W=>C.rN x y&&Lf X W
 |_,_=>E
def LE.aU:LE->LE->Bool
 |.aj r,.aj Q=>r.aU Q
 |.lit l,.lit P=>Lf l P
 |.nY a b,.nY X O=>LE.aU a X&&LE.aU b O
 |.sK n N,.sK W M=>n.aU W&&C.rN N M
 |.set a i L V,.set X H G R=>LE.aU a X&&i.aU H&&L==G&&C.rN V R
 |.sub a F D,.sub X B A=>LE.aU a X&&F.aU B&&D.aU A
 |.ins a n V,.ins X W R=>LE.aU a X&&n==W&&C.rN V R
 |_,_=>E
def S.aU(s X:S):Bool:=C.rN s.tmps X.tmps&&nH s.ao X.ao&&s.ni==X.ni&&s.nb==X.nb&&decide (s.rs=X.rs)&&s.aC==X.aC&&s.lk==X.lk&&decide (s.pd=X.pd)
def T.aU:T->T->Bool
 |.ret v P W,.ret O N V=>v.aU O&&nH P N&&decide (W=V)
 |.bD v,.bD O=>v.aU O
 |.bi b t f,.bi M X R=>b.aU M&&T.aU t X&&T.aU f R
 |.bA b t,.bA M X=>b.aU M&&T.aU t X
 |.call f B P W L jf t,.call R A N V H z X=>f==R&&C.rN B A&&nH P N&&decide (W=V)&&decide (L=H)&&jf.aU z&&T.aU t X
 |.loop aC L y t,.loop G H w X=>aC==G&&decide (L=H)&&C.rN y w&&T.aU t X
 |.back aC x,.back G Q=>aC==G&&C.rN x Q
 |.new e x W u t,.new r Q V q X=>e==r&&LE.aU x Q&&decide (W=V)&&decide (u=q)&&T.aU t X
 |.ae k x W t,.ae p Q V X=>decide (k=p)&&LE.aU x Q&&decide (W=V)&&T.aU t X
 |.gA g h t f,.gA F D X R=>g.aU F&&h.aU D&&T.aU t X&&T.aU f R
 |.pick n g h t f,.pick o F D X R=>n.aU o&&g.aU F&&h.aU D&&T.aU t X&&T.aU f R
 |.out .normal s,.out .normal m=>S.aU s m
 |_,_=>E
def IF:List T->List T
 |[]=>[]
 |t::X=>if X.any (T.aU t) then IF X else t::IF X
def DL:List T->T
 |[]=>.stuck ""
 |[t]=>t
 |t::X=>.gA (.c J) (.c J) t (DL X)
def Lg:Op->Bool
 |.call c=>match c.callee with
  |.builtin .append=>J
  |_=>E
 |.makeSlice _ _ _|.buildSlice _ _ _|.slice _ _ _ _ _|.store _ _ _=>J
 |_=>E
def FZ(X:bL)(R:qO)(Q:aq)(P:C->S->T)(m:OM)(W:S->T)(s:S):T:=match Iw X m.o s with
 |U u=>.ez u.f u.g u.e u.sp u.st u.r s.rs (W u.s)
 |none=>match eN X s m.o with
  |.call (.fn g) O=>R (.fn g) O s (λv V=>W (V.put m.o.dst v)) (λv V=>P v (V.co Q))
  |.op=>match(if Lg m.o.op then eY X m.o m.bP E s else Z) with
   |U b=>.bA b.bA (.new b.e b.x s.rs b.s.rs (W b.s))
   |none=>if n8 m.o.op then(match B6 X s m.o with
    |U (b,v)=>.bA b (W (s.put m.o.dst v))
    |none=>.stuck "") else
   if Pb m.o.op then(match gN X m s with
    |.ok V=>W V
    |_=>.stuck "") else .stuck ""
  |_=>.stuck ""
def Lh(X:aq)(m:OM)(W:cU):cU:=W.filter λq=> !(X.getD m.j 0).testBit q.j
def qc(X:bL)(R:qO)(W:aq)(mL:List BE)(V:cU)(Q:aq)(k:S->T)(P:C->S->T):Nat->cU->S->T
 |_,[],s=>if abD X mL s V then k s else .stuck ""
 |0,_::_,_=>.stuck ""
 |n+1,m::r,s=>if !abD X mL s V then .stuck "" else DL (IF (((Le (m::r)).filter (abE W)).map λx=>FZ X R Q P x.1 (λO=>qc X R W mL (Lh W x.1 V) Q k P n x.2 O) s))
def T.oH(k:S->T)(X:C->S->T):T->T
 |.out .normal s=>k s
 |.out (.bD v) s=>X v s
 |.bi b t f=>.bi b (t.oH k X) (f.oH k X)
 |.bA b t=>.bA b (t.oH k X)
 |.call f a V W R jf t=>.call f a V W R jf (t.oH k X)
 |.new e x W Q t=>.new e x W Q (t.oH k X)
 |.ez f g e P O r W t=>.ez f g e P O r W (t.oH k X)
 |.gA g h t f=>.gA g h (t.oH k X) (f.oH k X)
 |t=>t
def UD(X:bL):qO
 |.fn g,W,s,k,_=>if(X.inl g).isNone then z8 X g W s k else .stuck ""
 |_,_,_,_,_=>.stuck ""
def axA:Op->Bool
 |.slice _ _ _ _ _=>J
 |_=>E
def axB:Op->Bool
 |.indexAddr .. =>J
 |_=>E
def axC:Op->Bool
 |.store _ _ _=>J
 |_=>E
def UE(W:Bool)(X:dU):aq:=(fj X.size).foldl (λacc i=>match X[i]? with
 |U o=>if n8 o.op&&(W|| !axA o.op)&& !(axB o.op&&(fj i).any λj=>match X[j]? with
   |U x=>axC x.op
   |none=>E)&&((fj X.size).all λj=>match(X[j]?).bind (·.dst) with
   |U d=> !(ky X o).contains d||acc.contains j
   |none=>J) then acc++[i] else acc
 |none=>acc) []
structure Pc where
 qs:cU
 ch:cU
 s:S
 mL:List BE
def abF(X:bL)(s:S)(W:qM):Bool:=W.any λo=>match o.op with
 |.call c=>(match c.callee with
  |.value (.func g)=>(X.inl g).isSome
  |.value (.tmp t)=>(FV W).contains t||(match s.tmps[t]? with
   |U (.fn g _)=>(X.inl g).isSome
   |_=>E)
  |_=>E)
 |_=>E
def abG(X:dU)(Q:aq)(W V R:cU):Bool:=
 UA X.toList Q&&W.all (λm=>m.o.guard.isNone&& !m.bP)&&nG (W.filterMap (·.o.dst))&&
 W.all (λm=>W.all λx=>match x.o.dst with
  |U d=> !(ky X m.o).contains d||(Q.getD m.j 0).testBit x.j
  |none=>J)&&V.all (λq=>n8 q.o.op&&q.o.dst.isSome)&&(fj X.size).all (λi=>(V++R).any λm=>m.j==i)&&(V++R).length==X.size&&nG ((V++R).map (·.j))&&
 R.all (λm=>n8 m.o.op||Pb m.o.op||Lg m.o.op||(match m.o.op with
  |.call _=>J
  |_=>E))
def DM(W:Bool)(X:dU)(n:Nat):cU:=(iG (λ_=>E) E J 0 n X.toList).filter λm=>(UE W X).contains m.j
def DN(W:Bool)(X:dU)(n:Nat):cU:=(iG (λ_=>E) E J 0 n X.toList).filter λm=> !(UE W X).contains m.j
def Li(W:Bool)(X:dU)(n:Nat):Bool:=abG X (qb X.toList) (iG (λ_=>E) E J 0 n X.toList) (DM W X n) (DN W X n)
def axD:CK->Bool
 |.call (.yl _) _=>J
 |_=>E
def chI(W:bL)(V X:cU)(x:S×List BE):Option Pc:=if X.any λm=>axD (eN W x.1 m.o) then Z else U ⟨V,X,x.1,x.2⟩
def Lj(V:bL)(W:Bool)(X:dU)(s:S):Option Pc:=
 if(!W||(abF V s X.toList||(V.nZ&&X.toList.any λo=>akg o.op))&&B3 (qb X.toList) (DN W X (Y s.ao)))&&Li W X (Y s.ao) then(FY V (DM W X (Y s.ao)) (s.room (nF X.toList))).bind (chI V (DM W X (Y s.ao)) (DN W X (Y s.ao))) else Z
def akh(X:fU)(s W:S):String:= ""
def UF(W:fU)(V:aq)(s:S)(k:XE->S->T):XE->S->T
 |.normal,X=>if z7 W V 0 s.tmps X.tmps&&uk W 0 s.ao X.ao&&ul X W.ks (kW W X)&&z6 (jV W s) X.rs&&Iy (jV W s) (Ix W X)&&decide (X.pd=s.pd) then .back s.aC (kW W X) else .stuck (akh W s X)
 |e,X=>k e X
mutual
def C.yH(n:Nat):C->Bool
 |.agg l=>C.rQ n l
 |.b9 l=>C.rQ n l
 |.fn _ l=>C.rQ n l
 |.gF _ x=>C.yH n x
 |.yl m=>m==n
 |.gz _ _ X=>C.rQ n X
 |_=>E
def C.rQ(n:Nat):ap->Bool
 |[]=>E
 |x::X=>C.yH n x||C.rQ n X
end
def yI(n:Nat):bK->Bool
 |[]=>E
 |Z::X=>yI n X
 |U x::X=>C.rQ n x.2||yI n X
def S.yH(s:S)(n:Nat):Bool:=C.rQ n s.tmps||yI n s.ao
def IG:aq->ap->ap->ap
 |p::X,v::W,l=>IG X W (l.set p v)
 |_,_,l=>l
def S.DO(s X:S):S:={X with tmps:=s.tmps,pd:=X.pd.take (Y s.pd)}
def II(s:S)(k:XE->S->T):XE->S->T
 |.bD v,X=>if v.yH (Y s.pd)||yI (Y s.pd) X.ao then .stuck "" else k (.bD v) (s.DO X)
 |.exit _,_=>.stuck ""
 |_,X=>if yI (Y s.pd) X.ao then .stuck "" else match X.pd[Y s.pd]? with
  |U .ready=>k .normal (s.DO X)
  |U (.done .ret)=>k .ret (s.DO X)
  |U (.done (.exit id))=>k (.exit id) (s.DO X)
  |_=>.stuck ""
def kz:Code->Bool
 |.seq a b=>kz a||kz b
 |.cond _ a b=>kz a||kz b
 |.block _ c=>kz c
 |.loop c=>kz c
 |.scope c=>kz c
 |.rangeFunc _ _ _ _=>J
 |_=>E
def UG(n:Nat)(W:S)(k V:C->S->T):XE->S->T
 |.normal,X=>k (.bool (.c J)) {X with tmps:=W.tmps,pd:=X.pd.set n .ready}
 |.ret,X=>k (.bool (.c E)) {X with tmps:=W.tmps,pd:=X.pd.set n (.done .ret)}
 |.exit id,X=>k (.bool (.c E)) {X with tmps:=W.tmps,pd:=X.pd.set n (.done (.exit id))}
 |.bD v,X=>V v {X with tmps:=W.tmps}
def Pd(n:Nat)(k:S->T):XE->S->T
 |.normal,X=>if decide (X.pd[n]?=U .ready) then k X else .stuck ""
 |_,_=>.stuck ""
def Lk(s:S)(W:Nat)(X:ap):S:={s with tmps:=(.yl (Y s.pd)::X)++eH (W-(C.yl (Y s.pd)::X).length) (.b9 []),pd:=s.pd++[.ready]}
def Pe(n V:Nat)(R:ap->S->(C->S->T)->(C->S->T)->T):YH:=λm W X Q P=>
 if m==n&&decide (Y X.pd=n+1)&&decide (X.pd[n]?=U .ready)&&Y W==V&&X.fz W then R W X Q P else .stuck ""
def DP(X s:S)(W:aq)(V:ap):S:={X with tmps:=IG W V s.tmps}
def S.IJ(s:S)(n:Nat)(x:Ie):S:={s with pd:=s.pd.set n x}
def aki(X:fU)(W:aq)(s:S):String:= ""
def fU.at(a:fU)(s:S):fU:=⟨a.tm,a.cl.filterMap λx=>match cJ s.ao (x.1%1000) with
 |U (t,X)=>(match X[x.2.1]? with
  |U v=>if DH s x.2.2 v&&(!rJ t||(match x.2.2 with
   |.aj _=>J
   |_=>E))&&(x.1/1000==0||decide (Y s.ao<=x.1/1000)) then U (x.1%1000,x.2) else Z
  |none=>Z)
 |none=>Z⟩
def akj:ap->Option (K×bw)
 |[]=>Z
 |.gz e X _::_=>U (e,X)
 |_::r=>akj r
def UH:bK->Option (K×bw)
 |[]=>Z
 |U x::r=>match akj x.2 with
  |U y=>U y
  |none=>UH r
 |Z::r=>UH r
def IK(k:Int):bw->ap->Option C
 |X::W,.fn f l::V=>if k=X then U (.fn f l) else IK k W V
 |X::W,.aj (.k .nilFunc)::V=>if k=X then U (.aj (.k .nilFunc)) else IK k W V
 |_,_=>Z
def Pf(e:K)(k:Int):Nat->BE->BE
 |0,b=>b
 |n+1,.dV (.cmp .eql X (.c W)) x y=>if K.aU e X then(if k=W then Pf e k n x else Pf e k n y) else .dV (.cmp .eql X (.c W)) x y
 |_,b=>b
def Pg(e:K)(k:Int):Nat->K->K
 |0,b=>b
 |n+1,.dV (.cmp .eql X (.c W)) x y=>if K.aU e X then(if k=W then Pg e k n x else Pg e k n y) else .dV (.cmp .eql X (.c W)) x y
 |_,b=>b
def abI(e:K)(k:Int):C->C
 |.bool b=>.bool (Pf e k 20 b)
 |.int t b=>.int t (Pg e k 20 b)
 |.gz X W V=>if K.aU e X then(match IK k W V with
  |U v=>v
  |none=>.gz X W V) else .gz X W V
 |v=>v
def UI(e:K)(V:bw):C->C
 |.gz X W R=>if K.aU e X&&W.all V.contains then .aj (.k .nilFunc) else .gz X W R
 |v=>v
def IL(f:C->C)(l:bK):bK:=l.map λx=>match x with
 |U y=>U (y.1,y.2.map f)
 |none=>Z
def S.fix(f:C->C)(s:S):S:={s with ao:=IL f s.ao}
def Ll(e:K)(gA:Int->S)(aS:T)(g:S->T):bw->T
 |[]=>aS
 |k::X=>.bi (.cmp .eql e (.c k)) (g (gA k)) (Ll e gA aS g X)
def abJ(e:K)(v:Int):C->C
 |.int k x=>if K.aU e x then .int k (.c v) else .int k x
 |y=>y
def UJ(V:bL)(R id:Nat)(s:S):Option (K×bw×(Int->S)×Option S):=match V.frk R id with
 |U .box=>match UH s.ao with
  |U (e,X)=>U (e,X,λk=>s.fix (abI e k),match UH (IL (UI e X) s.ao) with
   |none=>U (s.fix (UI e X))
   |U _=>Z)
  |none=>Z
 |U (.slot t W)=>match nth s.tmps t with
  |.int _ (.c _)=>Z
  |.int k e=>U (e,W,λv=>{s with tmps:=s.tmps.set t (.int k (.c v))},Z)
  |_=>Z
 |U (.cell b j W)=>match cJ s.ao b with
  |U (_,Q)=>match Q.getD j .any with
   |.int _ (.c _)=>Z
   |.int _ e=>U (e,W,λv=>s.fix (abJ e v),Z)
   |_=>Z
  |none=>Z
 |none=>Z
def abK(g:S->T):Option S->T
 |U s=>g s
 |none=>.stuck ""
def Ph(W:bL)(V:qO)(X:dU)(k:XE->S->T)(c:Pc):T:=UC c.mL (if B3 (qb X.toList) c.ch||abF W c.s X.toList then qc W V (qb X.toList) c.mL c.qs (FV X.toList) (k .normal) (λv=>k (.bD v)) (Y c.ch) c.ch c.s
 else(qc W (UD W) (qb X.toList) c.mL c.qs (FV X.toList) (.out .normal) (λv=>.out (.bD v)) (Y c.ch) c.ch c.s).oH (k .normal) λv=>k (.bD v))
def abL(X:fU)(s:S):aq:=X.tm.filterMap λx=>match x.2,s.tmps[x.1]? with
 |.aj (.sl e),U (.aj (.v k))=>if s.rs[k]?=U (.own e) then U k else Z
 |_,_=>Z
def S.dj(X:fU)(s:S):S:={s with rs:=kL (abL X s) 0 s.rs}
def gq(X:bL):Nat->FuncId->Code->S->YH->(XE->S->T)->T
 |0,_,_,_,_,_=>.stuck ""
 |n+1,V,c,s,W,k=>
  match c with
  |.skip=>k .normal s
  |.label _=>k .normal s
  |.ret=>k .ret s
  |.exit id=>k (.exit id) s
  |.seq a b=>gq X n V a s W (UB (λP=>gq X n V b P W k) k)
  |.block id a=>gq X n V a s W (aby id k)
  |.scope a=>gq X n V a s W k
  |.cond c a b=>match s.ev X.gl c with
   |.bool (.c J)=>gq X n V a s W k
   |.bool (.c E)=>gq X n V b s W k
   |.bool x=>match c with
    |.tmp t=>.bi x (gq X n V a {s with tmps:=s.tmps.set t (.bool (.c J))} W k) (gq X n V b {s with tmps:=s.tmps.set t (.bool (.c E))} W k)
    |_=>.stuck ""
   |_=>.stuck ""
  |.region id R O=>match UJ X V id s with
   |U (e,G,gA,aS)=>Ll e gA (abK (λP=>gq X n V (.region id R O) P W k) aS) (λP=>gq X n V (.region id R O) P W k) G
   |none=>if O then
    match Lj X (!X.OU V id) R s with
    |U c=>Ph X (kX X (λf c s k=>gq X n f c s W k) W) R k c
    |none=>match La R (Y s.ao) with
    |U M=>if !Lb X R.toList then .stuck "" else oF X (Ac X (FX X R λf c s k=>gq X n f c s j6 k) W) R (k .normal) (λv=>k (.bD v)) M (s.B4 R M) []
    |none=>match Lj X E R s with
     |U c=>Ph X (kX X (λf c s k=>gq X n f c s W k) W) R k c
     |none=>.stuck ""
   else
   oF X (abz (X.OU V (id+1000000)) X (kX X (λf c s k=>gq X n f c s W k) W)) R (k .normal) (λv=>k (.bD v)) (iG (λ_=>E) J E 0 (Y s.ao) R.toList) (s.room (nF R.toList)) []
  |.loop a=>match(Code.first a).map (X.loop V) with
   |U (.inv Q)=>
    if !(abL Q s).isEmpty then gq X n V (.loop a) (s.dj Q) W k else
    if !s.bd|| !ul s (Q.at s).ks (kW (Q.at s) s)|| !z7 (Q.at s) (Code.pu a) 0 s.tmps s.tmps|| !uk (Q.at s) 0 s.ao s.ao|| !z6 (jV (Q.at s) s) s.rs|| !Iy (jV (Q.at s) s) (Ix (Q.at s) s) then .stuck (aki (Q.at s) (Code.pu a) s) else
    .loop s.aC (Q.at s).ks (kW (Q.at s) s) (gq X n V a (rP (Q.at s) (Code.pu a) s) W (UF (Q.at s) (Code.pu a) s k))
   |_=>gq X n V a s W (UB (λP=>gq X n V (.loop a) P W k) k)
  |.rangeFunc f L assign body=>match s.ev X.gl f with
   |.fn g N=>match X.inl g with
    |U (c,F,[])=>
     if !s.fz N||s.yH (Y s.pd)||C.rQ (Y s.pd) N||kz assign||kz body then .stuck "" else
     gq X n g c (Lk s F N)
      (Pe (Y s.pd) L.size λD H B A=>
       gq X n V assign (DP H s L.toList D) j6 (Pd (Y s.pd) λz=>
        gq X n V body (z.IJ (Y s.pd) .busy) j6 (UG (Y s.pd) H B A))) (II s k)
    |_=>.stuck ""
   |_=>.stuck ""
  |_=>.stuck ""
def Ln{X:Type}(f:C->bz->(C->bz->X)->X):ap->bz->(ap->bz->X)->X
 |[],W,k=>k [] W
 |x::V,W,k=>f x W λR Q=>Ln f V Q λP O=>k (R::P) O
def S.ck(X:bz):S:=⟨[],[],0,0,X,0,0,[]⟩
def Lq(R:bL)(P:bK):Nat->C->bz->(C->bz->T)->T
 |0,_,_,_=>.stuck ""
 |n+1,.jM i N Q M,X,k=>match mg P i with
  |U (e,L)=>match R.ty e with
   |U V=>Ln (Lq R P n) L X λO W=>if n7 R.ty (.ck W) V.ak (kf (Y V.ak) Q O)&&Y O==Q*Y V.ak&&N==0&&decide (Q<=M)&&Y V.ak !=0 then .new e (.lit (kf (Y V.ak) Q O)) W (W++[.sl e]) (k (.aj (.v (Y W))) (W++[.sl e])) else .stuck ""
   |none=>.stuck ""
  |none=>.stuck ""
 |n+1,.agg l,X,k=>Ln (Lq R P n) l X λH W=>k (.agg H) W
 |_+1,.int q e,X,k=>k (.int q e) X
 |_+1,.bool e,X,k=>k (.bool e) X
 |_+1,.aj r,X,k=>k (.aj r) X
 |_+1,_,_,_=>.stuck ""
mutual
def C.axE:C->Bool
 |.jM _ _ _ _=>J
 |.agg l=>C.abM l
 |_=>E
def C.abM:ap->Bool
 |[]=>E
 |x::X=>C.axE x||C.abM X
end
def Pj(V:bL)(W:Nat)(l:ap)(X:S):T:=if W==0&&C.abM l&&X.bd&&C.ec X.ni X.nb (Y X.rs) (aW X.ao) l then Ln (Lq V X.ao 9) l (X.rs.map RK.rd) λR Q=>.ret (one R) [] Q else .ret (one l) (w8 (X.ao.take W)) (X.rs.map RK.rd)
def UK(W:bL)(V:Nat)(R:sJ):XE->S->T
 |.normal,X=>match vE W X R with
  |U l=>Pj W V l X
  |none=>.stuck ""
 |.ret,X=>match vE W X R with
  |U l=>Pj W V l X
  |none=>.stuck ""
 |.bD v,_=>.bD v
 |.exit _,_=>.stuck ""
def Pl(X:bL)(n:Nat)(V:FuncId)(c:Code)(R:Nat)(Q:sJ)(W:ap)(s:S):T:=
 gq X n V c {s with tmps:=W++eH (R-Y W) (.b9 [])} j6 (UK X (Y s.ao) Q)
structure DI where
 uo:dU
 rest:Code
 g:FuncId
 te:Nat
 tf:Nat
def akk(uo:dU)(Q:Code):qM->Option DI
 |[X,W]=>match X.op,X.dst,X.guard,W.op,W.guard,W.dst with
  |.makeFunc (.func g) first P,U V,Z,.defer R,Z,Z=>match first.toList,P.toList,R.callee,R.args.toList with
   |[],[.tmp O],.value (.tmp N),[]=>if V==N then U ⟨uo,Q,g,O,V⟩ else Z
   |_,_,_,_=>Z
  |_,_,_,_,_,_=>Z
 |_=>Z
def xg:Code->Option DI
 |.seq (.region _ uo E) (.seq (.region _ X E) W)=>akk uo W X.toList
 |_=>Z
def Lr(W:bL)(V:Nat)(R:sJ)(X:S):T:=match vE W X R with
 |U l=>.ret (one l) (w8 (X.ao.take V)) (X.rs.map RK.rd)
 |none=>.stuck ""
def abN(W:bL)(V:Nat)(R:TypeId)(P:Nat)(Q:sJ):XE->S->T
 |.normal,X=>Lr W V Q X
 |.ret,X=>Lr W V Q X
 |.bD v,X=>match v with
  |.gF t (.int I x)=>match cJ X.ao P with
   |U (O,[.int I _])=>if t==R&&O==R then Lr W V Q {X with ao:=X.ao.set P (U (R,[.int I x]))} else .stuck ""
   |_=>.stuck ""
  |_=>.stuck ""
 |.exit _,_=>.stuck ""
def abO(W:bL)(n:Nat)(R:FuncId)(d:DI)(V:TypeId)(Q:Nat)(P:sJ)(X:S):T:=match X.tmps[d.te]? with
 |U (.loc i 0)=>if !rJ V&&aW X.ao i&&decide (d.tf<Y X.tmps) then gq W n R d.rest (X.put (U d.tf) (.fn d.g [.loc i 0])) j6 (abN W Q V i P) else .stuck ""
 |_=>.stuck ""
def Pm(X:bL)(n:Nat)(V:FuncId)(c:Code)(R:Nat)(Q:sJ)(P:TypeId)(W:ap)(s:S):T:=match xg c with
 |U d=>oF X (kX X (λf c s k=>gq X n f c s j6 k) j6) d.uo (abO X n V d P (Y s.ao) Q) (λ_ _=>.stuck "") (iG (λ_=>E) J E 0 (Y s.ao) d.uo.toList) (({s with tmps:=W++eH (R-Y W) (C.b9 [])}:S).room (nF d.uo.toList)) []
 |none=>.stuck ""
end
end Go.Proofs.YtieaiocljdpebaaGreatDoor.Y
namespace Go.Proofs.YtieaiocljdpebaaGreatDoor
open Go.RowKit
variable{c:List Nat}{N:World}
structure iu(S:List Nat)(w w':World):Prop where
 os:w'.os=w.os
 tape:w'.tape=w.tape
 output:w'.output=w.output
 size:w.heap.size<=w'.heap.size
 block:∀k,k<w.heap.size->k∉S->w'.heap[k]?=w.heap[k]?
def iu.refl(S:List Nat)(w:World):iu S w w:=⟨rfl,rfl,rfl,cg _,λ_ _ _=>rfl⟩
def iu.trans{S:List Nat}{a b c:World}(h:iu S a b)(k:iu S b c):iu S a c:=
 ⟨k.os.trans h.os,k.tape.trans h.tape,k.output.trans h.output,qL h.size k.size,λi X W=>(k.block i (aa0 X h.size) W).trans (h.block i X W)⟩
def iu.mono{X:List Nat}{b:World}(h:iu c N b)(W:∀x,x∈c->x∈X):iu X N b:=
 ⟨h.os,h.tape,h.output,h.size,λi V R=>h.block i V (λm=>R (W i m))⟩
def iu.alloc{w:World}(h:iu c N w)(o:Obj):iu c N (w.alloc o):=
 h.trans ⟨rfl,rfl,rfl,by simp,λk X _=>Below.heap_alloc _ _ _ X⟩
def iu.drew{w:World}(h:iu c N w):iu c N w.drew:=⟨h.os,h.tape,h.output,h.size,h.block⟩
def iu.setCell{S:List Nat}{a w:World}(h:iu S a w){p:Addr}(X:p.block∈S)(u:Value):iu S a (w.setCell p u):=
 h.trans ⟨rfl,rfl,rfl,by simp[abb],λk _ W=>Below.heap_setCell _ _ _ _ (λe=>W (e▸X))⟩
def iu.putObj{S:List Nat}{a w:World}(h:iu S a w){r:Nat}(X:r∈S)(o:Obj):iu S a (w.putObj r o):=
 h.trans ⟨rfl,rfl,rfl,by simp[H9],λk _ W=>vu (λe=>W (e▸X))⟩
def iu.axF{X:World}(h:Below N.heap.size N X):iu c N X:=⟨h.os,h.tape,h.output,h.size,λk W _=>h.block k W⟩
def iu.call{w X:World}(h:iu c N w)(k:Below w.heap.size w X):iu c N X:=h.trans (iu.axF k)
def iu.grown{w W:World}{V:Option Nat}(h:iu c N w)(X:w.grownBy W V)(O:∀k,V=U k->k∈c\/N.heap.size<=k):iu c N W:=
 ⟨X.os.trans h.os,X.tape.trans h.tape,X.output.trans h.output,qL h.size X.size,λk R Q=>(X.block k (aa0 R h.size) (λe=>by rcases O k e.symm with P|P;exact Q P;omega)).trans (h.block k R Q)⟩
def iu.heap{S:List Nat}{w V:World}(h:iu S w V){b:Nat}{o:Obj}(X:w.heap[b]?=U o)(R:b∉S):V.heap[b]?=U o:=by
 have W:b<w.heap.size:=by
  by_cases W:b<w.heap.size;exact W;rw[aKu (by omega)] at X;cases X
 exact(h.block b W R).trans X
end Go.Proofs.YtieaiocljdpebaaGreatDoor
namespace Go.Proofs.YtieaiocljdpebaaGreatDoor.Y
open Go.RowKit
noncomputable section
variable{r:Bool}{R Q h:Nat}{X:TypeId}{N:World}{z:Oper}{n:Operand}
inductive RV where
 |mk (val:Value) (rows:List (List RV))
abbrev ar:=List (List RV)
abbrev aM:=List RV
abbrev DQ:=Option (List (List RV))
abbrev B7:=List Deferred
def RV.val:RV->Value
 |.mk v _=>v
def RV.ae:RV->ar
 |.mk _ r=>r
@[simp] def RV.nJ (v:Value) (r:ar):(RV.mk v r).val=v:=rfl
@[simp] def RV.nK (v:Value) (r:ar):(RV.mk v r).ae=r:=rfl
instance:Inhabited RV:=⟨.mk (.pointer Z) []⟩
structure ai where
 i:bw
 b:mf
 r:aM
 y:aq
def ai.at(O:ai)(y:aq):ai:={O with y:=y}
def ai.rv(O:ai)(k:Nat):RV:=O.r.getD k default
def bp:Value->Int
 |.int _ n=>n
 |_=>0
def fW:Value->Bool
 |.bool b=>b
 |_=>E
def lenOf:Value->Int
 |.slice _ n _=>n
 |.string s=>s.size
 |_=>0
def kY(v:Value)(i:Int):Int:=match v with
 |.string s=>match s[i.toNat]? with
  |U b=>b.toNat
  |none=>0
 |_=>0
def uq:Value->Value->Bool
 |.string a,.string b=>a.toList==b.toList
 |_,_=>E
def lD(n:Nat)(X:bw)(W:aM):Bool:=decide ((W.take n).map (λc=>bp c.val)=X.take n)
def jq(n:Nat)(X:bw)(W:ar):Option aM:=W.find? (lD n X)
def gO(n:Nat)(X:aM):ar->ar
 |[]=>[X]
 |r::W=>if lD n ((X.take n).map λc=>bp c.val) r then X::W else r::gO n X W
def kZ(x:Int):bw->gE->Value
 |k::X,v::W=>if x=k then(if jT v then v else .nilFunc) else kZ x X W
 |_,_=>.nilFunc
def aZ(X:ar)(i:Int)(j:Nat):RV:=(X.getD i.toNat []).getD j default
def db:RK->RV->RV
 |.sl _,v|.own _,v=>match v.val with
  |.slice _ _ _=>v
  |_=>.mk (.slice Z 0 0) []
 |.str,v=>match v.val with
  |.string s=>.mk (.string s) []
  |_=>.mk (.string ⟨#[]⟩) []
 |.aS,v=>if jT v.val then .mk v.val [] else .mk (.pointer Z) []
 |.am,v=>if jT v.val then v else .mk (.pointer Z) []
 |.mr _,v=>match v.val with
  |.slice _ _ _=>v
  |_=>.mk (.slice Z 0 0) []
mutual
def K.ab(O:ai):K->Int
 |.c n=>n
 |.v k=>O.i.getD k 0
 |.bin X k a b=>ay X k (a.ab O) (b.ab O)
 |.conv k a=>k.wrap (a.ab O)
 |.len r=>lenOf (r.rv O).val
 |.mm W a b=>if W then max (a.ab O) (b.ab O) else min (a.ab O) (b.ab O)
 |.dV b x y=>if b.ab O then x.ab O else y.ab O
 |.cell r i j=>bp (aZ (r.rv O).ae (i.ab O) j).val
 |.nX r i=>kY (r.rv O).val (i.ab O)
 |.look r n a b c j=>match jq n [a.ab O,b.ab O,c.ab O] (r.rv O).ae with
  |U V=>bp (V.getD j default).val
  |none=>0
def BE.ab(O:ai):BE->Bool
 |.c b=>b
 |.v k=>O.b.getD k E
 |.cmp X a b=>iM X (a.ab O) (b.ab O)
 |.not a=> !(a.ab O)
 |.and a b=>a.ab O&&b.ab O
 |.beq a b=>a.ab O==b.ab O
 |.dV b x y=>if b.ab O then x.ab O else y.ab O
 |.cell r i j=>fW (aZ (r.rv O).ae (i.ab O) j).val
 |.seq a b=>uq (a.rv O).val (b.rv O).val
 |.look r n a b c j=>match jq n [a.ab O,b.ab O,c.ab O] (r.rv O).ae with
  |U W=>fW (W.getD j default).val
  |none=>E
 |.has r n a b c=>(jq n [a.ab O,b.ab O,c.ab O] (r.rv O).ae).isSome
def RE.rv(O:ai):RE->RV
 |.v k=>O.rv k
 |.cell r i j k=>db k (aZ (r.rv O).ae (i.ab O) j)
 |.k v=>.mk v []
end
def RE.ab(O:ai)(r:RE):Value:=(r.rv O).val
def C.cq(O:ai):C->RV
 |.int k e=>.mk (.int k (e.ab O)) []
 |.bool b=>.mk (.bool (b.ab O)) []
 |.aj r=>r.rv O
 |_=>default
def fA(X:aM)(W:Nat):aM->aM
 |[]=>X
 |v::r=>fA (X.set W v) (W+1) r
def LE.ae(O:ai):LE->ar
 |.aj r=>(r.rv O).ae
 |.lit l=>l.map λX=>X.map (C.cq O)
 |.nY a b=>a.ae O++b.ae O
 |.sK n X=>eH (n.ab O).toNat (X.map (C.cq O))
 |.set a i V W=>(a.ae O).modify (i.ab O).toNat λX=>fA X V (W.map (C.cq O))
 |.sub a R Q=>((a.ae O).take (Q.ab O).toNat).drop (R.ab O).toNat
 |.ins a n W=>gO n (W.map (C.cq O)) (a.ae O)
def iZ(x:LE)(O:ai):RV:=.mk (.slice Z (x.ae O).length (x.ae O).length) (x.ae O)
def aN(c:Nat)(X:aM):Int:=bp (X.getD c default).val
def kg(X:Bool):aq->aM->aM->Bool
 |[],_,_=>E
 |c::W,x,y=>if aN c x=aN c y then kg X W x y else if X then decide (aN c y<aN c x) else decide (aN c x<aN c y)
def bq.lt:bq->aM->aM->Bool
 |.lex X d,x,y=>kg d X x y
 |.ratio n d,x,y=>decide (aN n x*aN d y<aN n y*aN d x)
 |.dp _ _ _,_,_=>E
def ga(n d:Int):Bool:=decide (1<=d)&&decide (d<=1073741824)&&decide (-1073741824<=n)&&decide (n<=1073741824)&&lC n.natAbs d.toNat==1
def bq.ok:bq->aM->Bool
 |.lex _ _,_=>J
 |.ratio n d,x=>ga (aN n x) (aN d x)
 |.dp _ _ _,_=>E
def eB(lt:aM->aM->Bool)(x:aM):ar->ar
 |[]=>[x]
 |y::r=>if lt x y then x::y::r else y::eB lt x r
def bX(lt:aM->aM->Bool)(l:ar):ar:=l.foldl (λacc x=>eB lt x acc) []
def yJ(lt:aM->aM->Bool):ar->Bool
 |[]=>J
 |x::r=>r.all (λy=>lt x y||lt y x)&&yJ lt r
def jA:bq->Bool->ar->DQ
 |.dp _ _ _,_,_=>Z
 |W,V,X=>if decide (Y X<=1099511627776)&&(X.all W.ok&&(V||yJ W.lt X)) then U (bX W.lt X) else Z
def lc(X:ar):Bool:=(fj (Y X)).all λk=>decide (0<=aN 0 (X.getD k []))&&decide (aN 0 (X.getD k [])<=k)
def rR:Nat->Int->ar->ar
 |0,_,X=>X
 |n+1,i,X=>if aN 0 (X.getD i.toNat [])=i then X else(rR n (aN 0 (X.getD i.toNat [])) X).set i.toNat ((rR n (aN 0 (X.getD i.toNat [])) X).getD (aN 0 (X.getD i.toNat [])).toNat [])
def xj(i:Int)(X:ar):DQ:=if decide (Y X<=1099511627776)&&decide (0<=i)&&decide (i<Y X)&&lc X then U (rR (Y X) i X) else Z
def bo(X:ar)(a b:Nat):ar:=(X.drop a).take (b-a)
def yK(lt:aM->aM->Bool):ar->Bool
 |[]=>J
 |x::r=>r.all (λy=> !lt y x)&&yK lt r
def nL(k:Nat)(o:bq)(W:bw)(X:ar):DQ:=match k,W with
 |0,[a,b,n]=>if decide (0<=a)&&decide (0<=n)&&decide (a+n<=b)&&decide (b+n<=Y X) then U (X.take a.toNat++(bo X b.toNat (b+n).toNat++(bo X (a+n).toNat b.toNat++(bo X a.toNat (a+n).toNat++X.drop (b+n).toNat)))) else Z
 |1,[a,m,b]=>if decide (0<=a)&&decide (a<m)&&decide (m<b)&&decide (b<=Y X) then U (X.take a.toNat++(bo X m.toNat b.toNat++(bo X a.toNat m.toNat++X.drop b.toNat))) else Z
 |2,[a,b]=>if decide (0<=a)&&decide (a<=b)&&decide (b<=Y X)&&X.all o.ok then U (X.take a.toNat++(bX o.lt (bo X a.toNat b.toNat)++X.drop b.toNat)) else Z
 |n+3,[a,m,b]=>if decide (0<=a)&&decide (a<m)&&decide (m<b)&&decide (b<=Y X)&&decide (b-a<n)&&X.all o.ok&&yK o.lt (bo X a.toNat m.toNat)&&yK o.lt (bo X m.toNat b.toNat) then U (X.take a.toNat++(bX o.lt (bo X a.toNat b.toNat)++X.drop b.toNat)) else Z
 |_,_=>Z
def ad(V:aq)(i:Nat):Nat:=V.getD i 0
def oI(v:Value)(n:Nat):Addr:=match v with
 |.slice (U a) _ _=>⟨a.block,a.off+n,Z⟩
 |_=>⟨0,n,Z⟩
mutual
def C.ab(O:ai)(V:aq):C->Value
 |.int k e=>.int k (e.ab O)
 |.bool b=>.bool (b.ab O)
 |.aj r=>r.ab O
 |.loc i X=>.pointer (U ⟨ad V i,X,Z⟩)
 |.el r w i X=>.pointer (U (oI (r.ab O) ((i.ab O).toNat*w+X)))
 |.jM i X W R=>.slice (U ⟨ad V i,X,Z⟩) W R
 |.agg l=>.agg (C.aK O V l).toArray
 |.b9 l=>.tuple (C.aK O V l).toArray
 |.fn f l=>.func (.func f) #[] (C.aK O V l).toArray
 |.gF t x=>.iface t (C.ab O V x)
 |.yl n=>.func (.yield (O.y.getD n 0)) #[] #[]
 |.any=>undef
 |.mp i=>.map (U (ad V i))
 |.gz e Q P=>kZ (e.ab O) Q (C.aK O V P)
def C.aK(O:ai)(V:aq):ap->gE
 |[]=>[]
 |x::X=>C.ab O V x::C.aK O V X
end
def qe(O:ai)(V:aq):∀l,C.aK O V l=l.map (C.ab O V)
 |[]=>rfl
 |x::X=>by rw[C.aK,qe O V X];rfl
@[simp] def IM (O:ai) (V:aq) (l:ap):(C.aK O V l).length=Y l:=by rw[qe];simp
def ur(O:ai)(V:aq)(l:ap)(i:Nat):(C.aK O V l)[i]?=(l[i]?).map (C.ab O V):=by rw[qe];simp
def UL(O:ai)(V:aq)(l m:ap):C.aK O V (l++m)=C.aK O V l++C.aK O V m:=by simp[qe]
inductive bI(W:World)(ty:Ty):RK->RV->Prop where
 |sl (e:TypeId) (A:Option Addr) (len cap:Nat) (rows:List (List RV)) (h1:Y rows=len) (h2:len<=cap)
   (h3:∀(i:Nat)(row:List RV),rows[i]?=U row->Y row=(bH ty (.sl e)).length/\∃b off,A=U ⟨b,off,Z⟩/\(∃cs t fr,W.heap[b]?=U (.cells cs t fr))/\
    ∀(j:Nat)(c:RV),row[j]?=U c->W.cell? ⟨b,off+i*(bH ty (.sl e)).length+j,Z⟩=U c.val)
   (hi:∀(i j:Nat)(row:List RV)(c:RV)(k:IntKind),rows[i]?=U row->row[j]?=U c->(bH ty (.sl e))[j]?=U (.int k)->∃n,c.val=.int k n)
   (hb:∀(i j:Nat)(row:List RV)(c:RV),rows[i]?=U row->row[j]?=U c->(bH ty (.sl e))[j]?=U .bool->∃x,c.val=.bool x)
   (ho:∀(i j:Nat)(row:List RV)(c:RV)(z:Value)(k:RK),rows[i]?=U row->row[j]?=U c->(bH ty (.sl e))[j]?=U (.aS z k)->bI W ty k c):
   bI W ty (.sl e) (.mk (.slice A len cap) rows)
 |str (s:ByteArray):bI W ty .str (.mk (.string s) [])
 |aS (v:Value) (h:jT v=J):bI W ty .aS (.mk v [])
 |own (e:TypeId) (rv:RV) (h:bI W ty (.sl e) rv) (hn:∀l c,rv.val=.slice Z l c->c=0):bI W ty (.own e) rv
 |am (rv:RV) (h:jT rv.val=J):bI W ty .am rv
 |mr (sh:Sh) (rows:List (List RV)) (h1:∀(i:Nat)(row:List RV),rows[i]?=U row->Y row=(bH ty (.mr sh)).length)
   (hi:∀(i j:Nat)(row:List RV)(c:RV)(k:IntKind),rows[i]?=U row->row[j]?=U c->(bH ty (.mr sh))[j]?=U (.int k)->∃n,c=.mk (.int k n) [])
   (hb:∀(i j:Nat)(row:List RV)(c:RV),rows[i]?=U row->row[j]?=U c->(bH ty (.mr sh))[j]?=U .bool->∃x,c=.mk (.bool x) [])
   (ho:∀(i j:Nat)(row:List RV)(c:RV)(z:Value)(k:RK),rows[i]?=U row->row[j]?=U c->(bH ty (.mr sh))[j]?≠U (.aS z k)):
   bI W ty (.mr sh) (.mk (.slice Z (Y rows) (Y rows)) rows)
inductive ee(ty:Ty):RK->RV->Nat->Prop where
 |here (e:TypeId) (a:Addr) (len cap:Nat) (rows:List (List RV)):ee ty (.sl e) (.mk (.slice (U a) (len+1) cap) rows) a.block
 |deep (e:TypeId) (v:Value) (rows:List (List RV)) (i j:Nat) (row:List RV) (c:RV) (z:Value) (k:RK) (b:Nat):rows[i]?=U row->row[j]?=U c->(bH ty (.sl e))[j]?=U (.aS z k)->ee ty k c b->ee ty (.sl e) (.mk v rows) b
 |own (e:TypeId) (rv:RV) (b:Nat):ee ty (.sl e) rv b->ee ty (.own e) rv b
def RV.lE(X:RV):cH:=match X.val with
 |.slice (U a) _ (_+1)=>U a.block
 |_=>Z
def Ad(W:Ty)(e:RK)(X:RV)(b:Nat):Prop:=ee W e X b\/(∃t,e=.own t)/\X.lE=U b
def n9(X:Ty)(e:TypeId)(V:ar)(b:Nat):Prop:=∃(i j:Nat)(W:aM)(c:RV)(z:Value)(k:RK),V[i]?=U W/\W[j]?=U c/\(bH X (.sl e))[j]?=U (.aS z k)/\ee X k c b
structure Ae(S0:aq)(w0:World)(V:aq)(O:ai)(bx:bK)(ty:Ty)(rs:bz)(W:World)(k:Nat)(e:TypeId)(rv:RV)(b:Nat):Prop where
 own:w0.heap.size<=b\/b∈S0
 mem:∃len cap cur,rv.val=.slice (U ⟨b,0,Z⟩) len cap/\W.heap[b]?=U (.cells cur e (0,0))/\len<=cap/\cap<=maxLen/\cur.size=cap*(bH ty (.sl e)).length
 box:∀i,aW bx i=J->ad V i≠b
 alone:∀(k':Nat)(e':RK)(rv':RV),k'≠k->rs[k']?=U e'->O.r[k']?=U rv'->¬Ad ty e' rv' b
 inner:¬n9 ty e rv.ae b
def C.iv(O:ai)(V:aq)(v:C):RV:=match v with
 |.aj r=>r.rv O
 |v=>.mk (v.ab O V) []
def C.dN(O:ai)(V:aq)(l:ap):aM:=l.map (C.iv O V)
def gP:Nat->uf->List MapEntry
 |_,[]=>[]
 |n,x::r=>⟨x.1,x.2,n⟩::gP (n+1) r
def qR(l:uf):Obj:=.map (gP 0 l).toArray (Y l)
def DR:gE->uf
 |k::v::r=>(k,v)::DR r
 |_=>[]
def rT(a:Bool)(l:aM):Value:=if a then .agg (l.map RV.val).toArray else(l.headD default).val
def xk(n:Nat)(W V:Bool)(X:aM):Value×Value:=(rT W (X.take n),rT V (X.drop n))
def akl:Value->cH
 |.map a=>a
 |_=>Z
def qf(X:aM):Nat:=(bp (X.headD default).val).toNat
def mh(t:TypeId)(l:aM):Obj:=
 if t=vz then qR (DR (l.map RV.val)) else
 if t=wY then(match l with
  |[X,.mk (.int _ n) _,.mk (.bool W) _,.mk (.bool V) _]=>qR (X.ae.map (xk n.toNat W V))
  |_=>qR []) else
 if t=yv then(match l with
  |[R,_,.mk (.int _ n) _,Q]=>.mapIter (akl R.val) n.toNat (Q.ae.map qf).toArray n.toNat
  |_=>qR []) else
 .cells (l.map RV.val).toArray t (0,0)
structure ld(S0:aq)(w0:World)(V:aq)(O:ai)(bx:bK)(ty:Ty)(rs:bz)(W:World):Prop where
 base:iu S0 w0 W
 own:∀i,aW bx i=J->w0.heap.size<=ad V i\/ad V i∈S0
 inj:∀i j,aW bx i=J->aW bx j=J->ad V i=ad V j->i=j
 box:∀(i:Nat)(t:TypeId)(cs:ap),cJ bx i=U (t,cs)->W.heap[ad V i]?=U (mh t (C.dN O V cs))
 aj:∀(k:Nat)(e:RK)(rv:RV),rs[k]?=U e->O.r[k]?=U rv->bI W ty e rv/\∀b,ee ty e rv b->∀i,aW bx i=J->ad V i≠b
structure cF where
 out:aq
 eO:List (Nat×Loop)
 rd:Bool
 base:B7
def cF.none:cF:=⟨[],[],E,[]⟩
def mj(r:Nat):Deferred:={target:=.collected r,args:= #[]}
def PX.code:PX->Code
 |.ret=>.ret
 |.exit id=>.exit id
def sO(r:Loop):Ie->Loop
 |.ready=>{r with state:=.ready,pending:=Z}
 |.busy=>{r with state:=.busy,pending:=Z}
 |.done e=>{r with state:=.done,pending:=U e.code}
structure eU(w0:World)(D:cF)(pd:vy)(y:aq)(dfr:B7)(W:World):Prop where
 len:Y D.eO=Y pd
 ut:Y y=Y pd
 eO:∀(n l:Nat)(r:Loop)(st:Ie),D.eO[n]?=U (l,r)->pd[n]?=U st->y[n]?=U l/\W.heap[l]?=U (.loop (sO r st))/\w0.heap.size<=l
 inj:∀(n n' l:Nat)(r r':Loop),D.eO[n]?=U (l,r)->D.eO[n']?=U (l,r')->n=n'
 oa:∃ms:aq,dfr=ms.map mj++D.base/\(D.rd=J->ms=[])/\(ms++D.out).Nodup/\∀d∈ms++D.out,W.heap[d]?=U (.deferred (U []))/\w0.heap.size<=d
structure aE(S0:aq)(w0:World)(D:cF)(ty:Ty)(V:aq)(O:ai)(s:S)(a:Act)(W:World):Prop where
 mem:ld S0 w0 V O s.ao ty s.rs W
 gX:Y V=Y s.ao
 ei:Y O.i=s.ni
 eb:Y O.b=s.nb
 er:Y O.r=Y s.rs
 dO:eU w0 D s.pd O.y a.defers W
 size:a.tmps.size=Y s.tmps
 tmps:∀(t:Nat)(sv:C),s.tmps[t]?=U sv->sv=.any\/a.tmps[t]?=U (sv.ab O V)
 gH:∀(k:Nat)(e:TypeId)(rv:RV)(b:Nat),s.rs[k]?=U (.own e)->O.r[k]?=U rv->rv.lE=U b->Ae S0 w0 V O s.ao ty s.rs W k e rv b
def ai.qS(X:Ty)(O:ai)(W:bz)(b:Nat):Prop:=∃(k:Nat)(e:RK),W[k]?=U e/\ee X e (O.rv k) b
inductive XV where
 |i (n:Int)
 |b (x:Bool)
 |r (v:RV)
abbrev bn:=List XV
def ai.add(O:ai):XV->ai
 |.i n=>{O with i:=O.i++[n]}
 |.b x=>{O with b:=O.b++[x]}
 |.r v=>{O with r:=O.r++[v]}
def ai.ext(O:ai):bn->ai
 |[]=>O
 |x::X=>(O.add x).ext X
def C.xv(O:ai):C->XV
 |.int _ e=>.i (e.ab O)
 |.bool b=>.b (b.ab O)
 |.aj r=>.r (r.rv O)
 |_=>.i 0
def sP:LK->XV->Prop
 |.int _,.i _=>True
 |.bool,.b _=>True
 |.aj _,.r _=>True
 |_,_=>False
def fq:aY->bn->Prop
 |[],[]=>True
 |k::X,x::W=>sP k x/\fq X W
 |_,_=>False
def axG(X:Ty)(W:World)(B:Nat)(R:Nat->Prop):LK->XV->Prop
 |.aj e,.r V=>bI W X e V/\∀b,ee X e V b->B<=b\/R b
 |_,_=>True
def Ls(X:Ty)(W:World)(B:Nat)(V:Nat->Prop):aY->bn->Prop
 |k::R,x::Q=>axG X W B V k x/\Ls X W B V R Q
 |_,_=>True
structure IN(ty:Ty)(S0:aq)(w0:World)(e:TypeId)(x:LE)(rs:bz)(O:ai)(rv:RV):Prop where
 val:∃A n c,rv=.mk (.slice A n c) (x.ae O)/\(x.ae O).length=n
 qS:∀b,ee ty (.sl e) rv b->w0.heap.size<=b\/b∈S0\/O.qS ty rs b
 Lt:∀(k:Nat)(i:K)(off:Nat)(cs:ap),x=.set (.aj (.v k)) i off cs->rv.val=(O.rv k).val
structure LC where
 aC:Nat
 I:bn->Prop
 μ:bn->Nat
 m:Nat
abbrev dP:=List LC
def oJ(aC:Nat):dP->Option LC
 |[]=>Z
 |x::X=>if x.aC=aC then U x else oJ aC X
def XE.to(O:ai)(V:aq):XE->Exit
 |.normal=>.normal
 |.ret=>.ret
 |.exit id=>.exit id
 |.bD v=>.panic [{v:=v.ab O V,recovered:=E}]
structure Sp where
 P:Program
 ty:Ty
 S0:aq
 w0:World
 D:cF
 R:Ending->World->Prop
 Q:Exit->Act->World->Prop
def qg(k:Nat)(o:bq)(W:bw)(X:ar):DQ:=if Y X<=1099511627776 then nL k o W X else Z
def lf(O:ai):bq->Bool->ar->DQ
 |.dp k o W,E,X=>qg k o (W.map (K.ab O)) X
 |.dp _ _ [i],J,X=>xj (i.ab O) X
 |.dp _ _ _,J,_=>Z
 |V,R,X=>jA V R X
def oc(O:ai):bq->Bool->ar->DQ
 |.dp _ _ _,E,_=>Z
 |.dp _ _ [i],J,X=>xj (i.ab O) X
 |.dp _ _ _,J,_=>Z
 |W,V,X=>jA W V X
def akm{O:ai}{W:bq}{V X:ar}(h:oc O W r V=U X):lf O W r V=U X:=by
 cases W with
 |lex Q d=>exact h
 |ratio n d=>exact h
 |dp k o R=>
  cases r with
  |false=>simp[oc] at h
  |true=>
   cases R with
   |nil=>simp[oc] at h
   |cons i l=>
    cases l with
    |nil=>exact h
    |cons j l=>simp[oc] at h
def T.ba(p:Sp):T->ai->dP->Prop
 |.out e s,O,_=>∀y V a W,aE p.S0 p.w0 p.D p.ty V (O.at y) s a W->p.Q (e.to (O.at y) V) a W
 |.ret v F M,O,_=>∀y V W,ld p.S0 p.w0 V (O.at y) F p.ty M W->p.R (.returned (v.ab (O.at y) V)) W
 |.bD v,O,_=>∀y V W,iu p.S0 p.w0 W->p.R (.panicked [{v:=v.ab (O.at y) V,recovered:=E}]) W
 |.bi b t f,O,L=>(b.ab O=J->t.ba p O L)/\(b.ab O=E->f.ba p O L)
 |.bA b t,O,L=>b.ab O=J/\t.ba p O L
 |.call f w F M G jf t,O,L=>∀y V W,ld p.S0 p.w0 V (O.at y) F p.ty M W->Calls p.P f (C.aK (O.at y) V w).toArray W λ
   |.returned v,H=>∃N,fq G N/\v=jf.ab ((O.ext N).at y) V/\Below W.heap.size W H/\Ls p.ty H W.heap.size (O.qS p.ty M) G N/\t.ba p (O.ext N) L
   |.panicked u,H=>Below W.heap.size W H/\p.R (.panicked u) H
   |.outgrown,_=>False
 |.loop aC G q t,O,L=>∃X B,X (q.map (C.xv O))/\∀N,fq G N->X N->t.ba p (O.ext N) (⟨aC,X,B,B N⟩::L)
 |.back aC x,O,L=>match oJ aC L with
   |U c=>c.I (x.map (C.xv O))/\c.μ (x.map (C.xv O))<c.m
   |none=>False
 |.new e x M _ t,O,L=>∀A,IN p.ty p.S0 p.w0 e x M O A->t.ba p (O.add (.r A)) L
 |.ae _ x _ t,O,L=>t.ba p (O.add (.r (iZ x O))) L
 |.gA g h t f,O,L=>(g.ab O=J->t.ba p O L)/\(h.ab O=J->f.ba p O L)
 |.pick n g h t f,O,L=>(∀j:Int,0<=j->j<n.ab O->g.ab (O.add (.i j))=J->t.ba p (O.add (.i j)) L)/\(h.ab O=J->f.ba p O L)
 |.ez _ _ _ o l r _ t,O,L=>∃z,lf O o l (r.rv O).ae=U z/\t.ba p (O.add (.r (.mk (r.rv O).val z))) L
 |.stuck _,_,_=>False
variable{w:bK}{v:ap}{k:ai}{x:aq}
def akn:∀(a b:Value),Im a b=J->a=b:=by
 intro a b h;unfold Im at h;split at h;rename_i a b;have X:a.data.toList=b.data.toList:=by simpa using h
 have W:a.data=b.data:=by simpa using X
 cases a;cases b;simp_all;simp at h;rw[h.1,h.2]
 all_goals first|rfl|cases h
mutual
def K.bZ:∀(a b:K),K.aU a b=J->a=b
 |.c a,b,h=>by cases b<;>simp[K.iN] at h;rw[h]
 |.v a,b,h=>by cases b<;>simp[K.iN] at h;rw[h]
 |.bin o k a b,x,h=>by
  cases x<;>simp[K.iN,BP] at h;obtain⟨⟨⟨rfl,rfl⟩,X⟩,W⟩:=h;rw[K.bZ _ _ X,K.bZ _ _ W]
 |.conv k a,x,h=>by
  cases x<;>simp[K.iN] at h;obtain⟨rfl,X⟩:=h;rw[K.bZ _ _ X]
 |.len r,x,h=>by
  cases x<;>simp[K.iN] at h;rw[RE.bZ _ _ h]
 |.mm m a b,x,h=>by
  cases x<;>simp[K.iN] at h;obtain⟨⟨rfl,X⟩,W⟩:=h;rw[K.bZ _ _ X,K.bZ _ _ W]
 |.dV b a c,x,h=>by
  cases x<;>simp[K.iN] at h;obtain⟨⟨V,X⟩,W⟩:=h;rw[BE.bZ _ _ V,K.bZ _ _ X,K.bZ _ _ W]
 |.cell r i j,x,h=>by
  cases x<;>simp[K.iN] at h;obtain⟨⟨V,X⟩,rfl⟩:=h;rw[RE.bZ _ _ V,K.bZ _ _ X]
 |.nX r i,x,h=>by
  cases x<;>simp[K.iN] at h;obtain⟨V,X⟩:=h;rw[RE.bZ _ _ V,K.bZ _ _ X]
 |.look r n a b c j,x,h=>by
  cases x<;>simp[K.iN] at h;obtain⟨⟨⟨⟨⟨V,rfl⟩,X⟩,W⟩,R⟩,rfl⟩:=h;rw[RE.bZ _ _ V,K.bZ _ _ X,K.bZ _ _ W,K.bZ _ _ R]
def BE.bZ:∀(a b:BE),BE.aU a b=J->a=b
 |.c a,b,h=>by cases b<;>simp[BE.iN] at h;rw[h]
 |.v a,b,h=>by cases b<;>simp[BE.iN] at h;rw[h]
 |.cmp o a b,x,h=>by
  cases x<;>simp[BE.iN,BP] at h;obtain⟨⟨rfl,X⟩,W⟩:=h;rw[K.bZ _ _ X,K.bZ _ _ W]
 |.not a,x,h=>by
  cases x<;>simp[BE.iN] at h;rw[BE.bZ _ _ h]
 |.and a b,x,h=>by
  cases x<;>simp[BE.iN] at h;rw[BE.bZ _ _ h.1,BE.bZ _ _ h.2]
 |.beq a b,x,h=>by
  cases x<;>simp[BE.iN] at h;rw[BE.bZ _ _ h.1,BE.bZ _ _ h.2]
 |.dV b a c,x,h=>by
  cases x<;>simp[BE.iN] at h;obtain⟨⟨V,X⟩,W⟩:=h;rw[BE.bZ _ _ V,BE.bZ _ _ X,BE.bZ _ _ W]
 |.cell r i j,x,h=>by
  cases x<;>simp[BE.iN] at h;obtain⟨⟨V,X⟩,rfl⟩:=h;rw[RE.bZ _ _ V,K.bZ _ _ X]
 |.seq a b,x,h=>by
  cases x<;>simp[BE.iN] at h;rw[RE.bZ _ _ h.1,RE.bZ _ _ h.2]
 |.look r n a b c j,x,h=>by
  cases x<;>simp[BE.iN] at h;obtain⟨⟨⟨⟨⟨V,rfl⟩,X⟩,W⟩,R⟩,rfl⟩:=h;rw[RE.bZ _ _ V,K.bZ _ _ X,K.bZ _ _ W,K.bZ _ _ R]
 |.has r n a b c,x,h=>by
  cases x<;>simp[BE.iN] at h;obtain⟨⟨⟨⟨V,rfl⟩,X⟩,W⟩,R⟩:=h;rw[RE.bZ _ _ V,K.bZ _ _ X,K.bZ _ _ W,K.bZ _ _ R]
def RE.bZ:∀(a b:RE),RE.aU a b=J->a=b
 |.v a,b,h=>by cases b<;>simp[RE.iN] at h;rw[h]
 |.cell r i j k,x,h=>by
  cases x<;>simp[RE.iN] at h;obtain⟨⟨⟨X,W⟩,rfl⟩,rfl⟩:=h;rw[RE.bZ _ _ X,K.bZ _ _ W]
 |.k a,b,h=>by cases b<;>simp[RE.iN] at h;rw[akn _ _ h]
end
mutual
def C.bZ:∀(a b:C),C.aU a b=J->a=b
 |.int k e,x,h=>by cases x<;>simp[C.iN] at h;rw[h.1,K.bZ _ _ h.2]
 |.bool b,x,h=>by cases x<;>simp[C.iN] at h;rw[BE.bZ _ _ h]
 |.aj r,x,h=>by cases x<;>simp[C.iN] at h;rw[RE.bZ _ _ h]
 |.loc i o,x,h=>by cases x<;>simp[C.iN] at h;rw[h.1,h.2]
 |.el r w i o,x,h=>by
  cases x<;>simp[C.iN] at h;obtain⟨⟨⟨X,rfl⟩,W⟩,rfl⟩:=h;rw[RE.bZ _ _ X,K.bZ _ _ W]
 |.jM a b c d,x,h=>by
  cases x<;>simp[C.iN] at h;obtain⟨⟨⟨rfl,rfl⟩,rfl⟩,rfl⟩:=h;rfl
 |.agg l,x,h=>by cases x<;>simp[C.iN] at h;rw[C.uu _ _ h]
 |.b9 l,x,h=>by cases x<;>simp[C.iN] at h;rw[C.uu _ _ h]
 |.fn f l,x,h=>by cases x<;>simp[C.iN] at h;rw[h.1,C.uu _ _ h.2]
 |.gF t y,x,h=>by cases x<;>simp[C.iN] at h;rw[h.1,C.bZ _ _ h.2]
 |.yl n,x,h=>by cases x<;>simp[C.iN] at h;rw[h]
 |.any,x,h=>by cases x<;>simp[C.iN] at h;rfl
 |.mp i,x,h=>by cases x<;>simp[C.iN] at h;rw[h]
 |.gz e V R,x,h=>by cases x<;>simp[C.iN] at h;rw[K.bZ _ _ h.1.1,h.1.2,C.uu _ _ h.2]
def C.uu:∀(a b:ap),C.rN a b=J->a=b
 |[],b,h=>by cases b<;>simp[C.aj5] at h;rfl
 |x::X,b,h=>by cases b<;>simp[C.aj5] at h;rw[C.bZ _ _ h.1,C.uu _ _ h.2]
end
structure jB(O O':ai)(ni nb nr:Nat):Prop where
 i:∀k,k<ni->O'.i.getD k 0=O.i.getD k 0
 b:∀k,k<nb->O'.b.getD k E=O.b.getD k E
 r:∀k,k<nr->O'.rv k=O.rv k
 y:O'.y=O.y
mutual
def K.ep{O W:ai}{V R Q:Nat}(X:jB O W V R Q):∀(e:K),e.bd V R Q=J->e.ab W=e.ab O
 |.c n,_=>by simp[K.ab]
 |.v k,h=>by simp[K.bm] at h;simp only[K.ab];exact X.i k h
 |.bin o k a b,h=>by simp[K.bm] at h;simp only[K.ab,K.ep X a h.1,K.ep X b h.2]
 |.conv k a,h=>by simp[K.bm] at h;simp only[K.ab,K.ep X a h]
 |.len r,h=>by simp[K.bm] at h;simp only[K.ab,RE.sQ X r h]
 |.mm m a b,h=>by simp[K.bm] at h;simp only[K.ab,K.ep X a h.1,K.ep X b h.2]
 |.dV b x y,h=>by simp[K.bm] at h;simp only[K.ab,BE.ep X b h.1.1,K.ep X x h.1.2,K.ep X y h.2]
 |.cell r i j,h=>by simp[K.bm] at h;simp only[K.ab,K.ep X i h.2,RE.sQ X r h.1]
 |.nX r i,h=>by simp[K.bm] at h;simp only[K.ab,RE.sQ X r h.1,K.ep X i h.2]
 |.look r n a b c j,h=>by simp[K.bm] at h;simp only[K.ab,RE.sQ X r h.1.1.1,K.ep X a h.1.1.2,K.ep X b h.1.2,K.ep X c h.2]
def BE.ep{O W:ai}{V R Q:Nat}(X:jB O W V R Q):∀(e:BE),e.bd V R Q=J->e.ab W=e.ab O
 |.c n,_=>by simp[BE.ab]
 |.v k,h=>by simp[BE.bm] at h;simp only[BE.ab];exact X.b k h
 |.cmp o a b,h=>by simp[BE.bm] at h;simp only[BE.ab,K.ep X a h.1,K.ep X b h.2]
 |.not a,h=>by simp[BE.bm] at h;simp only[BE.ab,BE.ep X a h]
 |.and a b,h=>by simp[BE.bm] at h;simp only[BE.ab,BE.ep X a h.1,BE.ep X b h.2]
 |.beq a b,h=>by simp[BE.bm] at h;simp only[BE.ab,BE.ep X a h.1,BE.ep X b h.2]
 |.dV b x y,h=>by simp[BE.bm] at h;simp only[BE.ab,BE.ep X b h.1.1,BE.ep X x h.1.2,BE.ep X y h.2]
 |.cell r i j,h=>by simp[BE.bm] at h;simp only[BE.ab,K.ep X i h.2,RE.sQ X r h.1]
 |.seq a b,h=>by simp[BE.bm] at h;simp only[BE.ab,RE.sQ X a h.1,RE.sQ X b h.2]
 |.look r n a b c j,h=>by simp[BE.bm] at h;simp only[BE.ab,RE.sQ X r h.1.1.1,K.ep X a h.1.1.2,K.ep X b h.1.2,K.ep X c h.2]
 |.has r n a b c,h=>by simp[BE.bm] at h;simp only[BE.ab,RE.sQ X r h.1.1.1,K.ep X a h.1.1.2,K.ep X b h.1.2,K.ep X c h.2]
def RE.sQ{O W:ai}{V R Q:Nat}(X:jB O W V R Q):∀(e:RE),e.bd V R Q=J->e.rv W=e.rv O
 |.v k,h=>by simp[RE.bm] at h;simp only[RE.rv,X.r k h]
 |.cell r i j k,h=>by simp[RE.bm] at h;simp only[RE.rv,K.ep X i h.2,RE.sQ X r h.1]
 |.k v,_=>by simp[RE.rv]
end
def RE.ep{O X:ai}{W V R:Nat}(Q:jB O X W V R)(e:RE)(h:e.bd W V R=J):e.ab X=e.ab O:=by simp only[RE.ab,RE.sQ Q e h]
mutual
def C.ep{O R:ai}{V Q:aq}{P N M:Nat}{L:Nat->Bool}(X:jB O R P N M)(W:∀k,L k=J->ad Q k=ad V k):∀(v:C),v.bd P N M L=J->v.ab R Q=v.ab O V
 |.int k e,h=>by simp[C.bm] at h;simp only[C.ab,K.ep X e h]
 |.bool e,h=>by simp[C.bm] at h;simp only[C.ab,BE.ep X e h]
 |.aj e,h=>by simp[C.bm] at h;simp only[C.ab,RE.ep X e h]
 |.loc i o,h=>by simp[C.bm] at h;simp only[C.ab,W i h]
 |.el r w i o,h=>by simp[C.bm] at h;simp only[C.ab,RE.ep X r h.1,K.ep X i h.2]
 |.jM i o l c,h=>by simp[C.bm] at h;simp only[C.ab,W i h]
 |.agg l,h=>by simp[C.bm] at h;simp only[C.ab,C.Lu X W l h]
 |.b9 l,h=>by simp[C.bm] at h;simp only[C.ab,C.Lu X W l h]
 |.fn f l,h=>by simp[C.bm] at h;simp only[C.ab,C.Lu X W l h]
 |.gF t x,h=>by simp[C.bm] at h;simp only[C.ab,C.ep X W x h]
 |.yl n,_=>by simp only[C.ab,X.y]
 |.any,_=>by simp[C.ab]
 |.mp i,h=>by simp[C.bm] at h;simp only[C.ab,W i h]
 |.gz e G H,h=>by simp[C.bm] at h;simp only[C.ab,K.ep X e h.1,C.Lu X W H h.2]
def C.Lu{O X:ai}{V W:aq}{R Q P:Nat}{N:Nat->Bool}(M:jB O X R Q P)(L:∀k,N k=J->ad W k=ad V k):∀(l:ap),C.ec R Q P N l=J->C.aK X W l=C.aK O V l
 |[],_=>rfl
 |x::H,h=>by simp[C.jo] at h;simp only[C.aK,C.ep M L x h.1,C.Lu M L H h.2]
end
def xl{W V R:Nat}{Q:Nat->Bool}:∀{l:ap}{i:Nat}{v:C},C.ec W V R Q l=J->l[i]?=U v->v.bd W V R Q=J
 |[],i,v,_,h=>by simp at h
 |x::P,0,v,X,h=>by simp[C.jo] at X;simp at h;exact h▸X.1
 |x::P,i+1,v,X,h=>by simp[C.jo] at X;simp at h;exact xl X.2 h
def kA{b:TypeId×ap}:cJ w R=U b<->w[R]?=U (U b):=by
 simp only[dC];cases h:w[R]? with
 |none=>simp
 |some x=>cases x<;>simp
def uv{V R Q:Nat}{P:Nat->Bool}:∀{l:bK}{i:Nat}{v:TypeId×ap},C.rO V R Q P l=J->cJ l i=U v->C.ec V R Q P v.2=J
 |[],i,v,_,h=>by simp[dC] at h
 |U x::W,0,v,X,h=>by simp[C.rO] at X;simp[dC] at h;exact h▸X.1
 |Z::W,0,v,X,h=>by simp[dC] at h
 |U x::W,i+1,v,X,h=>by simp[C.rO] at X;exact uv X.2 (by simpa[dC] using h)
 |Z::W,i+1,v,X,h=>by simp[C.rO] at X;exact uv X (by simpa[dC] using h)
def jB.refl(O:ai)(X W V:Nat):jB O O X W V:=⟨λ_ _=>rfl,λ_ _=>rfl,λ_ _=>rfl,rfl⟩
def jB.trans{a b c:ai}{W V R:Nat}(h:jB a b W V R)(k:jB b c W V R):jB a c W V R:=
 ⟨λj X=>(k.i j X).trans (h.i j X),λj X=>(k.b j X).trans (h.b j X),λj X=>(k.r j X).trans (h.r j X),k.y.trans h.y⟩
def jB.mono{a b:ai}{X W V R Q P:Nat}(h:jB a b X W V)(N:R<=X)(M:Q<=W)(L:P<=V):jB a b R Q P:=
 ⟨λj O=>h.i j aa,λj O=>h.b j aa,λj O=>h.r j aa,h.y⟩
def UM(O:ai)(x:XV):jB O (O.add x) (Y O.i) (Y O.b) (Y O.r):=by
 cases x<;>refine⟨λk X=> ?_,λk X=> ?_,λk X=> ?_,rfl⟩<;>simp[ai.add,ai.rv,dZ,X]
def F0:∀(X:bn)(O:ai),jB O (O.ext X) (Y O.i) (Y O.b) (Y O.r)
 |[],O=>jB.refl _ _ _ _
 |x::X,O=>by
  have W:=UM O x;have V:=F0 X (O.add x);exact W.trans (V.mono (by cases x<;>simp[ai.add]) (by cases x<;>simp[ai.add]) (by cases x<;>simp[ai.add]))
mutual
def UN{O:ai}{V X:aq}(h:ad X=ad V):∀(v:C),v.ab O X=v.ab O V
 |.int k e=>by simp only[C.ab]
 |.bool e=>by simp only[C.ab]
 |.aj e=>by simp only[C.ab]
 |.loc i o=>by simp only[C.ab,h]
 |.el r w i o=>by simp only[C.ab]
 |.jM i o l c=>by simp only[C.ab,h]
 |.agg l=>by simp only[C.ab,Pn h l]
 |.b9 l=>by simp only[C.ab,Pn h l]
 |.fn f l=>by simp only[C.ab,Pn h l]
 |.gF t x=>by simp only[C.ab,UN h x]
 |.yl n=>by simp only[C.ab]
 |.any=>by simp only[C.ab]
 |.mp i=>by simp only[C.ab,h]
 |.gz e R W=>by simp only[C.ab,Pn h W]
def Pn{O:ai}{V X:aq}(h:ad X=ad V):∀(l:ap),C.aK O X l=C.aK O V l
 |[]=>rfl
 |x::W=>by simp only[C.aK,UN h x,Pn h W]
end
def axH(O:ai)(V:aq)(v:C):(v.iv O V).val=v.ab O V:=by
 cases v<;>simp[C.iv,C.ab,RE.ab]
def ako(O:ai)(V:aq)(l:ap):(C.dN O V l).map RV.val=C.aK O V l:=by
 rw[qe,C.dN,pn];exact kJ λv _=>axH O V v
def uw(h:rJ X=E)(O:ai)(V:aq)(l:ap):mh X (C.dN O V l)=.cells (C.aK O V l).toArray X (0,0):=by
 have W:=of_decide_eq_false h;unfold mh;rw[aP (λe=>W (by rw[e];exact cg _)),aP (λe=>W (by rw[e];decide)),aP (λe=>W (by rw[e];decide)),ako]
def Af(h:mg w R=U (X,v)):cJ w R=U (X,v)/\rJ X=false:=by
 unfold mg at h;split at h;rename_i Q P W;split at h;cases h;rename_i V;cases h;exact⟨W,by simpa using V⟩;cases h
def Po{X:bK}(h:cJ X Q=cJ w R):mg X Q=mg w R:=by simp[mg,h]
def abP{O X:ai}{V W:aq}{R Q P:Nat}{N:Nat->Bool}(M:jB O X R Q P)(L:∀k,N k=J->ad W k=ad V k)(v:C)(h:v.bd R Q P N=J):v.iv X W=v.iv O V:=by
 have H:=C.ep M L v h;cases v<;>simp only[C.iv]<;>try rw[H]
 simp only[C.bm] at h;exact RE.sQ M _ h
def Pp{O X:ai}{V W:aq}{R Q P:Nat}{N:Nat->Bool}(M:jB O X R Q P)(L:∀k,N k=J->ad W k=ad V k):∀(l:ap),C.ec R Q P N l=J->C.dN X W l=C.dN O V l
 |[],_=>rfl
 |x::H,h=>by
  simp only[C.jo,aA] at h;have:=Pp M L H h.2;simp only[C.dN,eW] at this⊢;rw[abP M L x h.1,this]
def akp{X:aq}(h:ad X=ad x)(l:ap):C.dN k X l=C.dN k x l:=by
 refine kJ λv _=> ?_
 have W:=UN (O:=k) h v;cases v<;>simp only[C.iv]<;>rw[W]
def abQ(x:Int):∀(X:bw)(W:gE),jT (kZ x X W)=J
 |[],_=>by simp[kZ,jT]
 |_::_,[]=>by simp[kZ,jT]
 |k::X,v::W=>by
  simp only[kZ];split;split;rename_i h;exact h;rfl;exact abQ x X W
def axI{v:Value}(h:jT v=J):v.cells.toList=[v]:=by
 cases v<;>simp[jT] at h<;>rfl
variable{t:TI}{M:C}
def rU(c:CT):Value:=match c with
 |.int k=>.int k 0
 |.bool=>.bool E
 |.aS z _=>z
def TD.Ok(P:Program)(t:TypeId)(ak:fp):TD->Prop
 |.struct X=>∃F:Array Field,P.underlying t=U (.struct F)/\F.toList.map (λf=>(f.offset,f.type))=X
 |.arr n e=>P.underlying t=U (.array n e)
 |.slice e=>P.underlying t=U (.slice e)
 |.str=>P.underlying t=U .string
 |.one=>∃d,P.underlying t=U d/\((match d with|.struct _|.array _ _|.slice _|.string|.interface _=>False|_=>True)/\∀k,ak=[.aS .nilFunc k]->∃a b c,d=.func a b c)/\(∀k,ak=[.int k]->d=.int k)/\(ak=[.bool]->d=.bool)
 |.gF=>∃m,P.underlying t=U (.interface m)
 |.map k e _ _=>P.underlying t=U (.map k e)
def DS:Value->Value->Option Bool
 |.int k a,.int X b=>if k=X then U (a==b) else Z
 |.bool a,.bool b=>U (a==b)
 |.string a,.string b=>U (a.toList==b.toList)
 |_,_=>Z
def DT:CT->Value->Prop
 |.int k,.int X _=>k=X
 |.bool,.bool _=>True
 |.aS _ .str,.string _=>True
 |_,_=>False
def lF:fp->gE->Prop
 |[],[]=>True
 |c::X,v::R=>DT c v/\lF X R
 |_,_=>False
def kB:gE->gE->Option Bool
 |[],[]=>U J
 |x::X,y::R=>match DS x y,kB X R with
  |U a,U b=>U (a&&b)
  |_,_=>Z
 |_,_=>Z
def iw(X:Bool)(l:bw):Value:=if X then .agg (l.map (Value.int I)).toArray else .int I (l.headD 0)
def yL:Value->bw
 |.int _ x=>[x]
 |.agg X=>X.toList.map bp
 |_=>[]
def oK(l:bw):List MapEntry->Nat->Option (Nat×Value)
 |[],_=>Z
 |e::X,i=>if yL e.key=l then U (i,e.val) else oK l X (i+1)
def vL(P:Program)(k:TypeId)(n:Nat)(X:Bool):Prop:=(X=E->n=1)/\∀(l:bw)(R:List MapEntry)(W:World),Y l=n->(∀e∈R,∃Q:bw,Y Q=n/\e.key=iw X Q)->
 (∀b,(Instr.checkKey b 10000 k (iw X l)).run P W=.ok () W)/\(Instr.findKey k (iw X l) R).run P W=.ok (oK l R 0) W
def UO:Value->Bool
 |.agg _=>J
 |_=>E
structure fu(P:Program)(t:TypeId)(ti:TI):Prop where
 Lv:∃i,P.info? t=U i/\i.size=Y ti.ak/\∃z,i.zero=U z/\z.cells.toList=ti.ak.map rU
 desc:ti.d.Ok P t ti.ak
 bytes:∀i,P.info? t=U i->i.bytes<=131072
 eq:ti.eq=J->∀(xs ys:gE)(r:Bool)(x y:Operand)(w:World),lF ti.ak xs->lF ti.ak ys->kB xs ys=U r->
  (do eqGuard .eql t x y (.agg xs.toArray) (.agg ys.toArray);binOp .eql t (.agg xs.toArray) (.agg ys.toArray)).run P w=.ok (.bool r) w/\
  (do eqGuard .neq t x y (.agg xs.toArray) (.agg ys.toArray);binOp .neq t (.agg xs.toArray) (.agg ys.toArray)).run P w=.ok (.bool !r) w
 key:∀k e n ag,ti.d=.map k e n ag->vL P k n ag
 akq:∀i z,P.info? t=U i->i.zero=U z->UO z=ti.d.isAgg
def jW(P:Program)(o:Ty):Prop:=∀t X,o t=U X->fu P t X
def fO(gl:nD)(O:ai):Prop:=∀x∈gl,x.2.1<Y O.r/\∃X R,(O.rv x.2.1).val=.slice (U ⟨x.1,0,Z⟩) X R
section
variable{P:Program}{o:Ty}{gl:nD}{W:World}
def fu.iS{d:TypeDesc}(h:P.underlying X=U d):(underlying X).run P W=.ok d W:=by simp[underlying,h]
def fu.od(h:fu P X t):(Go.sizeOf X).run P W=.ok (Y t.ak) W:=by
 obtain⟨i,R,Q,_⟩:=h.Lv;simp[Go.sizeOf,typeInfo,R,Q]
def fu.akr(h:fu P X t):(isAgg X).run P W=.ok t.d.isAgg W:=by
 have Q:=h.desc;revert Q;cases t.d<;>simp only[TD.Ok,TD.isAgg];rintro⟨d,R,⟨N,-⟩,-,-⟩;cases d<;>simp[isAgg,underlying,R]<;>simp at N;rintro⟨m,R⟩;simp[isAgg,underlying,R];intro R;simp[isAgg,underlying,R];intro R;simp[isAgg,underlying,R];intro R;simp[isAgg,underlying,R];rintro⟨F,R,-⟩;simp[isAgg,underlying,R];intro R;simp[isAgg,underlying,R]
def yM(b X n:Nat):(⟨b,X,Z⟩:Addr).add n=⟨b,X+n,Z⟩:=by
 unfold Addr.add;split;rename_i h;subst h;rfl;rfl
def abR(h:fu P X t)(Q:yA t v R=U M):
  (part X (C.aK k x v).toArray R).run P W=.ok (M.ab k x) W:=by
 unfold yA at Q;simp only[part,dt,h.akr,dq];by_cases N:t.d.isAgg=J;simp only[N,cN] at Q⊢;split at Q;rename_i H;cases Q;simp only[C.ab,yz,dt,h.od,dq,fF];congr 2;apply oD;simp only[qe,List.map_take,List.map_drop,Array.toList_extract,List.extract_eq_take_drop];simp;cases Q;have L:t.d.isAgg=false:=by simpa using N
 simp only[L,jR,gD] at Q⊢;have:(C.aK k x v).toArray[R]?=U (M.ab k x):=by simp[ur,Q]
 rw[this];rfl
def UP(h:fu P X t){O:ai}{V:aq}{b base:Nat}(Q:yA t v R=U M)
  (H:∀j x,v[j]?=U x->W.cell? ⟨b,base+j,Z⟩=U (x.ab O V)):
  (Instr.loadAt X (.pointer (U ⟨b,base+R,Z⟩))).run P W=.ok (M.ab O V) W:=by
 unfold yA at Q;simp only[Instr.loadAt,Instr.sureAddr,loadVar,dt,fF,dq,h.akr];by_cases G:t.d.isAgg=J;simp only[G,cN] at Q⊢;split at Q;rename_i A;cases Q;simp only[dt,h.od,dq,C.ab];have F:(C.aK O V (yz v R (Y t.ak))).length=Y t.ak:=by simp[yz];omega
 have:=run_loadCells_list (P:=P) W ⟨b,base+R,Z⟩ (C.aK O V (yz v R (Y t.ak))) (λj M N=>by
  rw[ur] at N;cases L:(yz v R (Y t.ak))[j]? with
  |none=>rw[L] at N;cases N
  |some x=>
   rw[L] at N;simp at N;simp only[yz,nA,vw] at L;split at L;rw[yM,<-N,H8];exact H _ _ L;cases L)
 rw[F] at this;rw[this];simp;cases Q;have B:t.d.isAgg=false:=by simpa using G
 simp only[B,jR,gD] at Q⊢;have:=H R M Q;simp[this]
end
section
variable{p:aq}{q:World}{D:cF}{P:Program}{o:Ty}{gl:nD}{V:aq}{O:ai}{s:S}{a:Act}{W:World}
def axJ(v:Value):(KT v).ab O V=v:=by unfold KT;split<;>simp[C.ab,K.ab,BE.ab,RE.ab,RE.rv]
def axK(v:Value):(OO v).ab O V=v:=by
 unfold OO;split;simp[C.ab,K.ab];simp[C.ab,BE.ab];rename_i X;simp only[C.ab,qe,pn];congr 1;have:(C.ab O V∘KT)=id:=by funext v;simp[axJ]
 rw[this];simp;simp[C.ab,RE.ab,RE.rv]
def dw(R:aE p q D o V O s a W)(L:fO gl O)(x:Operand)(h:(s.ev gl x).fk=E):a.eval x=(s.ev gl x).ab O V:=by
 cases x with
 |tmp t=>
  simp only[S.ev,yw,dL] at h⊢;cases X:s.tmps[t]? with
  |none=>rw[X] at h;simp[C.fk] at h
  |some H=>
   rw[X] at h;simp only[pZ] at h⊢;rcases R.tmps t H X with rfl|Q;simp[C.fk] at h;simp[Act.eval,Q]
 |const v=>simp only[S.ev,Act.eval,axK]
 |global g=>
  simp only[S.ev] at h⊢;split at h;rename_i k w N;obtain⟨Q,F,B,G⟩:=L _ (aaU N);have M:=aa7 N;simp only[du] at M;simp only[C.ab,RE.ab,RE.rv,Act.eval,oI,G,K.ab,M];simp;simp[C.fk] at h
 |func f=>simp[S.ev,Act.eval,C.ab,C.aK]
def Pq(X:BinOp)(k:IntKind)(x y:K):(Ih X k x y).ab O=ay X k (x.ab O) (y.ab O):=by unfold Ih;split<;>simp[K.ab]
def DU(X:BinOp)(x y:K):(qN X x y).ab O=iM X (x.ab O) (y.ab O):=by unfold qN;split<;>simp[K.ab,BE.ab]
def Pr(x:BE):(FO x).ab O= !(x.ab O):=by unfold FO;split<;>simp[BE.ab]
def abS(x y:BE):(w6 x y).ab O=(x.ab O&&y.ab O):=by unfold w6;split<;>simp[BE.ab]
def abT(x y:BE):(OP x y).ab O=(x.ab O==y.ab O):=by unfold OP;split<;>simp[BE.ab,Pr]<;>cases BE.ab O _<;>simp
def axL(m:Bool)(x y:K):(Ug m x y).ab O=if m then max (x.ab O) (y.ab O) else min (x.ab O) (y.ab O):=by unfold Ug;split<;>simp[K.ab]
def Lw(i n:K):(w7 i n).ab O=J<->0<=i.ab O/\i.ab O<n.ab O:=by
 rw[w7,abS,DU,DU,aA];exact and_congr decide_eq_true_iff decide_eq_true_iff
def abU(X:Bool)(k:IntKind):∀(l:ap)(e r:K),Ii X k e l=U r->
  ((C.aK O V l).foldlM (if X then Builtin.max2 else Builtin.min2) (.int k (e.ab O)):Sem Value).run P W=.ok (.int k (r.ab O)) W
 |[],e,r,h=>by simp[Ii] at h;subst h;simp[C.aK]
 |.int Q x::l,e,r,h=>by
  simp only[Ii] at h;split at h;have R:=abU X k l (Ug X e x) r h;rw[axL] at R;simp only[C.aK,C.ab,List.foldlM_cons,dt];cases X;simp only[jR,gD] at R⊢;simp only[Builtin.min2,fF,dq];rw[show(if x.ab O<e.ab O then x.ab O else e.ab O)=min (e.ab O) (x.ab O) from aa];exact R;simp only[cN] at R⊢;simp only[Builtin.max2,fF,dq];rw[show(if x.ab O>e.ab O then x.ab O else e.ab O)=max (e.ab O) (x.ab O) from aa];exact R;cases h
 |.bool _::_,_,_,h|.aj _::_,_,_,h|.loc _ _::_,_,_,h|.el _ _ _ _::_,_,_,h|.jM _ _ _ _::_,_,_,h|.agg _::_,_,_,h|.b9 _::_,_,_,h|.fn _ _::_,_,_,h|.gF _ _::_,_,_,h|.any::_,_,_,h=>by simp[Ii] at h
end
section
variable{V:aq}{O:ai}
def UQ{R Q:Type}{x:Int}{f:R->Q}:∀{W:bw}{X:List R},eX x W (X.map f)=(eX x W X).map f
 |[],X=>by simp[eX]
 |_::_,[]=>by simp[eX]
 |k::W,v::X=>by
  simp only[eW,eX];split;rfl;exact UQ
def Lx{W:Type}{x:Int}:∀{R:bw}{X:List W}{v:W},eX x R X=U v->v∈X
 |[],X,v,h=>by simp[eX] at h
 |_::_,[],v,h=>by simp[eX] at h
 |k::R,u::X,v,h=>by
  simp only[eX] at h;split at h;cases h;simp;exact Fy _ (Lx h)
def abV{e:K}:∀{R:bw}{Q:ap}{y:K},BM e R Q=U y->∃w,y.ab O=w/\(∀v,eX (e.ab O) R Q=U v->∃k z,v=.int k z/\w=z.ab O)/\(eX (e.ab O) R Q=Z->w=0)
 |[],[],y,h=>by simp[BM] at h;subst h;exact⟨0,rfl,λv h=>by simp[eX] at h,λ_=>rfl⟩
 |k::R,v::Q,y,h=>by
  cases v<;>simp only[BM] at h<;>try cases h
  rename_i N x;cases P:BM e R Q with
  |none=>rw[P] at h;cases h
  |some G=>
   rw[P] at h;simp only[eo,cS] at h;subst h;obtain⟨w,M,L,H⟩:=abV P;simp only[K.ab,BE.ab,iM,eX];by_cases W:e.ab O=k;refine⟨x.ab O,by simp[W],λv X=> ?_,λX=> ?_⟩;rw[aL W] at X;cases X;exact⟨N,x,rfl,rfl⟩;rw[aL W] at X;cases X;refine⟨w,by simp[W,M],λv X=> ?_,λX=> ?_⟩;rw[aP W] at X;exact L v X;rw[aP W] at X;exact H X
 |[],_::_,y,h=>by simp[BM] at h
 |_::_,[],y,h=>by simp[BM] at h
def aks{e:K}:∀{R:bw}{Q:ap}{y:BE},Dz e R Q=U y->∃w,y.ab O=w/\(∀v,eX (e.ab O) R Q=U v->∃z,v=.bool z/\w=z.ab O)/\(eX (e.ab O) R Q=Z->w=E)
 |[],[],y,h=>by simp[Dz] at h;subst h;exact⟨E,rfl,λv h=>by simp[eX] at h,λ_=>rfl⟩
 |k::R,v::Q,y,h=>by
  cases v<;>simp only[Dz] at h<;>try cases h
  rename_i x;cases P:Dz e R Q with
  |none=>rw[P] at h;cases h
  |some H=>
   rw[P] at h;simp only[eo,cS] at h;subst h;obtain⟨w,N,M,L⟩:=aks P;simp only[BE.ab,K.ab,iM,eX];by_cases W:e.ab O=k;refine⟨x.ab O,by simp[W],λv X=> ?_,λX=> ?_⟩;rw[aL W] at X;cases X;exact⟨x,rfl,rfl⟩;rw[aL W] at X;cases X;refine⟨w,by simp[W,N],λv X=> ?_,λX=> ?_⟩;rw[aP W] at X;exact M v X;rw[aP W] at X;exact L X
 |[],_::_,y,h=>by simp[Dz] at h
 |_::_,[],y,h=>by simp[Dz] at h
def akt{x:Int}:∀{ks:bw}{X:ap},X.all KW=J->(∀v,eX x ks X=U v->kZ x ks (C.aK O V X)=v.ab O V)/\(eX x ks X=Z->kZ x ks (C.aK O V X)=.nilFunc)
 |[],X,_=>⟨λv h=>by simp[eX] at h,λ_=>by simp[kZ]⟩
 |_::_,[],_=>⟨λv h=>by simp[eX] at h,λ_=>by simp[kZ,C.aK]⟩
 |k::ks,u::X,W=>by
  simp only[OI,aA] at W;obtain⟨P,N⟩:=akt (ks:=ks) W.2;simp only[eX,C.aK,kZ];by_cases Q:x=k;simp only[Q,cN];refine⟨λv R=> ?_,λR=>by cases R⟩;cases R;have M:jT (u.ab O V)=true:=by
   have:=W.1;unfold KW at this;split at this;rfl;rfl;cases this
  rw[aL M];simp only[Q,gD];exact⟨P,N⟩
def axM{e:K}{P:bw}{G:CT}(h:abj e P v G=U M):(∀X,eX (e.ab O) P v=U X->M.ab O V=X.ab O V)/\(eX (e.ab O) P v=Z->M.ab O V=rU G):=by
 unfold abj at h;split at h;rename_i k;split at h;rename_i L;cases R:BM e P v with
 |none=>rw[R] at h;cases h
 |some y=>
  rw[R] at h;simp only[eo,cS] at h;subst h;obtain⟨x,Q,N,H⟩:=abV (O:=O) R;refine⟨λX W=> ?_,λW=>by simp only[C.ab,Q,H W,rU]⟩;obtain⟨F,z,rfl,rfl⟩:=N X W;have:=f9.1 L _ (Lx W);simp at this;subst this;simp only[C.ab,Q]
 cases h;cases R:Dz e P v with
 |none=>rw[R] at h;cases h
 |some y=>
  rw[R] at h;simp only[eo,cS] at h;subst h;obtain⟨x,Q,N,H⟩:=aks (O:=O) R;refine⟨λX W=> ?_,λW=>by simp only[C.ab,Q,H W,rU]⟩;obtain⟨z,rfl,rfl⟩:=N X W;simp only[C.ab,Q]
 split at h;rename_i L;simp only[aA] at L;cases h;obtain⟨Q,N⟩:=akt (O:=O) (V:=V) (x:=e.ab O) (ks:=P) L.1;exact⟨λX W=>by simp only[C.ab];exact Q X W,λW=>by simp only[C.ab,rU];exact N W⟩;cases h;cases h
def UR{e:K}{Q:bw}{P:yu}:∀{ak:fp}{j:Nat}{l:ap},DB e Q P j ak=U l->
  Y l=Y ak/\(∀X,eX (e.ab O) Q P=U X->Y X=j+Y ak->C.aK O V l=C.aK O V (X.drop j))/\(eX (e.ab O) Q P=Z->C.aK O V l=ak.map rU)
 |[],j,l,h=>by
  simp[DB] at h;subst h;exact⟨rfl,λX _ R=>by rw[awY (by simp at R;omega)],λ_=>rfl⟩
 |c::ak,j,l,h=>by
  simp only[DB] at h;split at h;rename_i v r H G;cases h;obtain⟨F,D,B⟩:=UR G;obtain⟨N,M⟩:=axM (O:=O) (V:=V) H;rw[UQ] at N M;refine⟨by simp[F],λX W R=> ?_,λW=> ?_⟩;have L:j<Y X:=by simp at R;omega
  rw[HZ L];simp only[C.aK];rw[D X W (by simp at R⊢;omega),N _ (by rw[W];rfl)];simp[dL,L];simp only[C.aK,eW];rw[B W,M (by rw[W];rfl)];cases h
def US{e:K}:∀{X:bw}{W:Type}{R:List W},Y X=Y R->(Il e X).ab O=(eX (e.ab O) X R).isSome
 |[],W,R,h=>by simp[Il,BE.ab,eX]
 |k::X,W,[],h=>by simp at h
 |k::X,W,v::R,h=>by
  simp only[Il,BE.ab,K.ab,iM,eX];by_cases Q:e.ab O=k;simp[Q];simp only[Q,gD,du];exact US (by simpa using h)
def UT(W:∀r:RE,r.If=J->jT (r.ab O)=J)(h:BN t M=J):M.ab O V=if t.d.isAgg then .agg (C.aK O V M.cells).toArray else(C.aK O V M.cells).headD undef:=by
 simp only[BN,aA] at h;obtain⟨⟨-,R⟩,X⟩:=h;cases M<;>simp only[iK] at X<;>rw[X]<;>rfl
def DV(h:r=E->Y v=1):(ug r v).ab O V=if r then .agg (C.aK O V v).toArray else(C.aK O V v).headD undef:=by
 cases r;obtain⟨x,rfl⟩:=pj.1 (h rfl);rfl;rfl
def UU{x:Int}:∀{W:bw}{X:ap}{v:C},eX x W X=U v->jT (v.ab O V)=J->kZ x W (C.aK O V X)=v.ab O V
 |[],X,v,h,_=>by simp[eX] at h
 |_::_,[],v,h,_=>by simp[eX] at h
 |k::W,u::X,v,h,Q=>by
  simp only[eX] at h;simp only[C.aK,kZ];split at h;rename_i R;cases h;rw[aL R,aL Q];rename_i R;rw[aP R];exact UU h Q
def axN(h:BN t M=J):(t.d.isAgg=E->Y t.ak=1)/\Y M.cells=Y t.ak:=by
 simp only[BN,aA,du] at h;obtain⟨⟨X,Q⟩,W⟩:=h;refine⟨λR=> ?_,X⟩;cases M<;>simp only[C.cells,aaV] at X<;>first|exact X.symm|(rw[R] at W;cases W)
def aku(N:∀r:RE,r.If=J->jT (r.ab O)=J){e:K}{X:bw}{p:C}(h:Uj t e X v=U M)(R:eX (e.ab O) X v=U p):M.ab O V=p.ab O V:=by
 unfold Uj at h;split at h;rename_i L;cases W:DB e X (v.map C.cells) 0 t.ak with
 |none=>rw[W] at h;cases h
 |some l=>
  rw[W] at h;cases h;obtain⟨H,G,-⟩:=UR (O:=O) (V:=V) W;have F:=Lx R;have Q:=f9.1 L p F;obtain⟨D,B⟩:=axN Q;have P:=G p.cells (by rw[UQ,R];rfl) (by rw[B,jz]);rw[axh] at P;rw[DV (λA=>by rw[H];exact D A),UT N Q,P]
 cases h
def akv{X:Type}{x:Int}{f:Nat->X}(L:0<=x)(H:x<(R:Int)):eX x (DC R) ((fj R).map f)=U (f x.toNat):=by
 unfold DC;have W:∀(m k:Nat),(k:Int)<=x->x<((k+m:Nat):Int)->eX x ((yt k m).map λi:Nat=>(i:Int)) ((yt k m).map f)=U (f x.toNat):=by
  intro m;induction m with
  |zero=>intro k Q P;omega
  |succ m N=>
   intro k Q P;simp only[aa4,eW,eX];split;rename_i M;subst M;simp;exact N (k+1) aa aa
 rw[aaY];exact W R 0 aa aa
def abW{R L:Type}{f:R->Option L}{x:Int}:∀{Q:bw}{vs:List R}{W:List L}{v:R},FP (vs.map f)=U W->eX x Q vs=U v->∃p,f v=U p/\eX x Q W=U p
 |[],vs,W,v,_,h=>by simp[eX] at h
 |_::_,[],W,v,_,h=>by simp[eX] at h
 |k::Q,u::vs,W,v,X,h=>by
  simp only[eW] at X;cases P:f u with
  |none=>rw[P] at X;cases X
  |some p=>
   rw[P] at X;simp only[FP] at X;cases N:FP (vs.map f) with
   |none=>rw[N] at X;cases X
   |some H=>
    rw[N] at X;simp only[eo,cS] at X;subst X;simp only[eX] at h⊢;split at h;rename_i M;cases h;rw[aL M];exact⟨p,P,rfl⟩;rename_i M;rw[aP M];exact abW N h
def akw(h:zX v=U R)(W:M∈v):∃X,M=.loc R X:=by
 unfold zX at h;split at h;rename_i j o r;split at h;rename_i Q;cases h;have:=f9.1 Q M W;split at this;rename_i P X;simp only[du] at this;subst this;exact⟨X,rfl⟩;cases this;cases h;cases h
end
variable{l:Ty}{y:RK}{F:RV}
def PR.gives(O:ai)(v:C):PR->Prop
 |.ok x=>v=x
 |.bA b x=>b.ab O=J/\v=x
 |_=>False
def akx(h:bI N l y F):db y F=F:=by
 cases h with
 |sl e A M L X=>rfl
 |str s=>rfl
 |aS F R=>simp[db,R]
 |own e Q h H=>cases h;rfl
 |am Q h=>simp[db,h]
 |mr G X=>rfl
def aky(k:RK):bI N l k (db k default):=by
 cases k with
 |sl e=>
  refine bI.sl e Z 0 0 [] rfl (cg _) ?_ ?_ ?_ ?_<;>(intro i;intros;rename_i h;simp at*)
 |str=>exact bI.str _
 |aS=>exact bI.aS _ rfl
 |own e=>
  refine bI.own e _ (bI.sl e Z 0 0 [] rfl (cg _) ?_ ?_ ?_ ?_) (λX c h=>by cases h;rfl)<;>(intro i;intros;rename_i h;simp at*)
 |am=>exact bI.am _ rfl
 |mr R=>
  refine bI.mr R [] ?_ ?_ ?_ ?_<;>(intro i;intros;rename_i h;simp at*)
def axO(k:RK)(v:RV):jT (db k v).val=true:=by
 cases k;simp only[db];split;rename_i h;rw[h];rfl;rfl;simp only[db];split<;>rfl;simp only[db];split;rename_i h;exact h;rfl;simp only[db];split;rename_i h;rw[h];rfl;rfl;simp only[db];split;rename_i h;exact h;rfl;simp only[db];split;rename_i h;rw[h];rfl;rfl
def Ly(h:bI N l y F):jT F.val=true:=by
 cases h with
 |sl e A M L X=>rfl
 |str s=>rfl
 |aS F R=>exact R
 |own e Q h H=>cases h;rfl
 |am Q h=>exact h
 |mr G X=>rfl
def akz(h:bI N l y F):bI N l y.rd F:=by
 cases h with
 |own e u h t=>exact h
 |sl e A H G X R Q M L B z=>exact bI.sl e A H G X R Q M L B z
 |str s=>exact bI.str s
 |aS F x=>exact bI.aS F x
 |am _ h=>exact bI.am _ h
 |mr w X R Q M L=>exact bI.mr w X R Q M L
def axP(h:bI N l (.sl X) F)(i:Int)(j:Nat)(k:RK)(R:Ij (bH l (.sl X))[j]?=k):bI N l k (db k (aZ F.ae i j)):=by
 cases h with
 |sl X A q p y o m x w u t=>
  simp only[RV.nK,aZ];cases Q:y[i.toNat]? with
  |none=>simp only[dL,Q,ajP,List.getElem?_nil];exact aky k
  |some M=>
   simp only[dL,Q,pZ];cases H:M[j]? with
   |none=>simp only[ajP];exact aky k
   |some c=>
    simp only[pZ];have g:j<(bH l (.sl X)).length:=by
     have:=(x _ M Q).1;have:=(cj.1 H).1;omega
    cases L:(bH l (.sl X))[j]? with
    |none=>rw[Dr] at L;omega
    |some r=>
     rw[L] at R;cases r with
     |int G=>
      simp only[Ij] at R;subst R;obtain⟨n,B⟩:=w _ _ M c G Q H L;simp only[db,B,jT,cN];exact bI.aS _ rfl
     |bool=>
      simp only[Ij] at R;subst R;obtain⟨n,B⟩:=u _ _ M c Q H L;simp only[db,B,jT,cN];exact bI.aS _ rfl
     |aS z G=>
      simp only[Ij] at R;subst R;have:=t _ _ M c z G Q H L;rw[akx this];exact this
section
variable{g:aq}{m:World}{D:cF}{P:Program}{ty:Ty}{B:nD}{V:aq}{O:ai}{s:S}{a:Act}{W:World}
def abX(X:aE g m D ty V O s a W)(h:s.rs[R]?=U y):bI W ty y (O.rv R):=by
 have Q:R<Y O.r:=by rw[X.er];exact(cj.1 h).1
 have:=(X.mem.aj R y O.r[R] h (cL Q)).1;simpa[ai.rv,Q] using this
def sS(R:aE g m D ty V O s a W):∀{r:RE}{e:RK},e≠ .aS->r.kind ty s=e->bI W ty e (r.rv O)
 |.v k,e,X,h=>by
  simp only[RE.kind,dL] at h;cases Q:s.rs[k]? with
  |none=>rw[Q] at h;exact aG (show e=.aS from h.symm) X
  |some q=>rw[Q] at h;simp at h;subst h;exact akz (abX R Q)
 |.cell r i j L,e,X,h=>by
  simp only[RE.kind] at h;split at h;rename_i H N;split at h;rename_i M;subst h;exact axP (sS R aw N) (i.ab O) j _ M;exact aG h.symm X;exact aG h.symm X
 |.k v,e,X,h=>by
  cases v<;>simp only[RE.kind] at h
  case string s=>subst h;exact bI.str s
  all_goals exact aG h.symm X
def Ps(R:aE g m D ty V O s a W){r:RE}(h:r.kind ty s=.sl X):∃x l c,r.ab O=.slice x l c:=by
 have:=sS R aw h;unfold RE.ab;revert this;generalize r.rv O=v;intro Q;cases Q with
 |sl X A N M L=>exact⟨A,N,M,rfl⟩
def F1(R:aE g m D ty V O s a W){r:RE}(h:r.kind ty s=.str):∃x,r.ab O=.string x:=by
 have:=sS R aw h;unfold RE.ab;revert this;generalize r.rv O=v;intro X;cases X with
 |str s=>exact⟨s,rfl⟩
def axQ(R:aE g m D ty V O s a W){c:CT}{y:C}{e:BE}(h:KU ty s c M y=U e):DT c (M.ab O V)/\DT c (y.ab O V)/\DS (M.ab O V) (y.ab O V)=U (e.ab O):=by
 unfold KU at h;split at h;split at h;rename_i X;obtain⟨rfl,rfl⟩:=X;cases h;exact⟨rfl,rfl,by simp[C.ab,DS,DU,iM]⟩;cases h;cases h;exact⟨trivial,trivial,by simp[C.ab,DS,abT]⟩;split at h;rename_i X;cases h;obtain⟨p,Q⟩:=F1 R X.1;obtain⟨q,N⟩:=F1 R X.2;simp only[C.ab,Q,N];unfold RE.ab at Q N;exact⟨trivial,trivial,by simp[DS,BE.ab,Q,N,uq]⟩;cases h;cases h
def akA(R:aE g m D ty V O s a W):∀{X:fp}{x y:ap}{e:BE},sL ty s X x y=U e->lF X (C.aK O V x)/\lF X (C.aK O V y)/\kB (C.aK O V x) (C.aK O V y)=U (e.ab O)
 |[],[],[],e,h=>by simp[sL] at h;subst h;exact⟨trivial,trivial,by simp[C.aK,kB,BE.ab]⟩
 |c::X,x::B,y::A,e,h=>by
  simp only[sL] at h;split at h;rename_i a b Q N;cases h;obtain⟨M,a2,L⟩:=axQ R Q;obtain⟨H,G,F⟩:=akA R N;exact⟨⟨M,H⟩,⟨a2,G⟩,by simp only[C.aK,kB,L,F,abS]⟩;cases h
 |[],[],_::_,e,h=>by simp[sL] at h
 |[],_::_,_,e,h=>by simp[sL] at h
 |_::_,[],_,e,h=>by simp[sL] at h
 |_::_,_::_,[],e,h=>by simp[sL] at h
def akB(R:aE g m D ty V O s a W){X:gV}{y:ap}{e:BE}(h:KV ty s X v y=U e):∃ak d,X=U ⟨d,ak,J⟩/\lF ak (C.aK O V v)/\lF ak (C.aK O V y)/\kB (C.aK O V v) (C.aK O V y)=U (e.ab O):=by
 unfold KV at h;split at h;exact⟨_,_,rfl,akA R h⟩;cases h
def akC(B:bI W ty (.sl X) F)(i:Int)(h:0<=i)(y:i<lenOf F.val):
  ∃Q b N,F.ae[i.toNat]?=U Q/\Y Q=(bH ty (.sl X)).length/\(∃l c,F.val=.slice (U ⟨b,N,Z⟩) l c)/\(∀(j:Nat)(c:RV),Q[j]?=U c->W.cell? ⟨b,N+i.toNat*(bH ty (.sl X)).length+j,Z⟩=U c.val)/\
   (∀(j:Nat)(c:RV)(M:CT),Q[j]?=U c->(bH ty (.sl X))[j]?=U M->match M with
    |.int k=>∃n,c.val=.int k n
    |.bool=>∃x,c.val=.bool x
    |.aS _ k=>bI W ty k c):=by
 cases B with
 |sl X A w v L g f u t r q=>
  simp only[RV.nJ,lenOf] at y;have p:i.toNat<Y L:=aa;have R:L[i.toNat]?=U L[i.toNat]:=cL p;obtain⟨o,b,N,rfl,d,m⟩:=u i.toNat _ R;refine⟨L[i.toNat],b,N,R,o,⟨w,v,rfl⟩,m,λj c M H G=> ?_⟩;cases M with
  |int k=>exact t _ j _ c k R H G
  |bool=>exact r _ j _ c R H G
  |aS z k=>exact q _ j _ c z k R H G
def axR{r:RE}{i:K}{L:aM}{X:CT}(H:(r.rv O).ae[(i.ab O).toNat]?=U L)(G:L[R]?=U F)(Q:match X with
    |.int k=>∃n,F.val=.int k n
    |.bool=>∃y,F.val=.bool y
    |.aS _ k=>bI W ty k F):
  (FM r i R X).ab O V=F.val:=by
 have N:aZ (r.rv O).ae (i.ab O) R=F:=by simp[aZ,H,G]
 cases X with
 |int B=>obtain⟨n,M⟩:=Q;simp[FM,C.ab,K.ab,N,bp,M]
 |bool=>obtain⟨n,M⟩:=Q;simp[FM,C.ab,BE.ab,N,fW,M]
 |aS z e=>simp only[FM,C.ab,RE.ab,RE.rv,N];rw[akx Q]
def xo(R:aE g m D ty V O s a W):∀(r:RE),r.If=J->jT (r.ab O)=J
 |.v k,_=>by
  simp only[RE.ab,RE.rv];by_cases X:k<Y s.rs;exact Ly (abX R (cL X));have:O.rv k=default:=by
   have:=R.er;simp[ai.rv,show¬k<Y O.r from aa]
  rw[this];rfl
 |.cell r i j k,_=>axO k _
 |.k w,h=>h
def axS(R:aE g m D ty V O s a W)(d:jW P ty)(hg:fO B O)(F:z.op=.load X n)(hk:(s.ev B n).fk=E)
  (h:(cw ty B s (.load X n)).gives O M):(execOp a.eval z).run P W=.ok (.value (M.ab O V)) W:=by
 have he:=dw R hg n hk;simp only[execOp,F,dt,he];simp only[cw] at h;split at h;rename_i ti i A p k;rw[k];split at h;rename_i tt f N;split at h;rename_i w L;cases h;have:=UP (P:=P) (W:=W) (d _ _ p) (O:=O) (V:=V) (b:=ad V i) (base:=0) L (λj y hy=>by
  obtain⟨N,F⟩:=Af N;have:=R.mem.box i tt f N;rw[uw F] at this;simp[oC,this,ur,hy])
 simp only[jz] at this;simp only[C.ab,this,dq,fF];exact h.elim;exact h.elim;rename_i ti r w i A p k;rw[k];split at h;rename_i e a9;split at h;exact h.elim;rename_i hw;split at h;rename_i y L;obtain⟨N,rfl⟩:=h;rw[Lw] at N;simp only[K.ab] at N;have hh:=sS R aw a9;have bb:w=(bH ty (.sl e)).length:=by simpa using Eq.symm (by simpa using hw:(bH ty (.sl e)).length=w)
 obtain⟨ac,b,an,h1,br,⟨l,c,h3⟩,h4,h5⟩:=akC hh (i.ab O) N.1 N.2;have:=UP (P:=P) (W:=W) (d _ _ p) (O:=O) (V:=V) (b:=b) (base:=an+(i.ab O).toNat*w) L (λj Q G=>by
  simp only[dX] at G;cases hj:(fj w)[j]? with
  |none=>rw[hj] at G;cases G
  |some H=>
   have bd:j<w/\H=j:=by
    have:=cj.1 hj;obtain⟨q1,q2⟩:=this;simp at q1 q2;exact⟨q1,q2.symm⟩
   obtain⟨bs,rfl⟩:=bd;rw[hj] at G;simp only[eo,cS] at G;have bf:(bH ty (.sl e))[H]?=U ((bH ty (.sl e)).getD H .bool):=by
    rw[dL,cL aa];rfl
   have bg:H<Y ac:=aa;have af:ac[H]?=U ac[H]:=cL bg;rw[<-G,axR (W:=W) (ty:=ty) h1 af (h5 H _ _ af bf)];rw[bb];exact h4 H _ af)
 have hA:oI (RE.ab O r) ((i.ab O).toNat*w+A)=⟨b,an+(i.ab O).toNat*w+A,Z⟩:=by
  simp only[RE.ab,h3,oI,H8]
 simp only[C.ab,hA,this,dq,fF];exact h.elim;exact h.elim;rename_i ti e ks vs p k;rw[k];split at h;rename_i tt f N;split at h;rename_i w L;split at h;rename_i a0;obtain⟨a1,rfl⟩:=h;simp only[du] at a0;cases ag:zX vs with
 |none=>rw[ag] at N;cases N
 |some i=>
  rw[ag] at N;simp only[aa5] at N;rw[US a0] at a1;obtain⟨u,hu⟩:=lB.1 a1;obtain⟨A,rfl⟩:=akw ag (Lx hu);cases al:FP (vs.map (abl ti f)) with
  |none=>rw[al] at L;cases L
  |some ps=>
   rw[al] at L;simp only[aa5] at L;obtain⟨q,a3,bk⟩:=abW al hu;simp only[abl] at a3;have a4:=UP (P:=P) (W:=W) (d _ _ p) (O:=O) (V:=V) (b:=ad V i) (base:=0) a3 (λj y hy=>by
    obtain⟨N,F⟩:=Af N;have:=R.mem.box i tt f N;rw[uw F] at this;simp[oC,this,ur,hy])
   simp only[jz] at a4;have bl:(C.gz e ks vs).ab O V=.pointer (U ⟨ad V i,A,Z⟩):=by
    simp only[C.ab];rw[UU hu rfl];rfl
   rw[bl,aku (xo R) L bk];simp only[a4,dq,fF]
 exact h.elim;exact h.elim;exact h.elim;exact h.elim
def axT(Q:aE g m D ty V O s a W)(ac:jW P ty)(hg:fO B O)(ho:z.op=.fieldAddr X n R)(hk:(s.ev B n).fk=E)
  (h:(cw ty B s (.fieldAddr X n R)).gives O M):(execOp a.eval z).run P W=.ok (.value (M.ab O V)) W:=by
 have he:=dw Q hg n hk;have af:∀(H:List (Nat×TypeId))(ak:fp)(q:Bool)(y:Nat)(p:TypeId)(L:TI)(A:Addr),ty X=U ⟨.struct H,ak,q⟩->H[R]?=U (y,p)->ty p=U L->(Y L.ak==0)=E->A.spot=Z->
   (Instr.fieldAt X (.pointer (U A)) R).run P W=.ok (.pointer (U ⟨A.block,A.off+y,Z⟩)) W:=by
  intro H ak q y p L A h1 u h3 h4 h5;obtain⟨F,hF,ag⟩:=(ac _ _ h1).desc;rw[<-ag,dX] at u;cases G:F.toList[R]? with
  |none=>rw[G] at u;cases u
  |some fd=>
   rw[G] at u;simp only[eo,cS,FH] at u;obtain⟨rfl,rfl⟩:=u;have al:F[R]?=U fd:=by simpa using G
   have an:¬Y L.ak=0:=by simpa using h4
   obtain⟨b,of,sp⟩:=A;simp only at h5;subst h5;simp only[Instr.fieldAt,Instr.sureAddr,fieldPlace,dt,fu.iS hF,dq,al,fF,(ac _ _ h3).od,aP an,Sem.run_ite,yM]
 simp only[execOp,ho,dt,he];simp only[cw] at h;split at h;rename_i H ak q i y l k;rw[k];split at h;rename_i j e G;split at h;rename_i L d;split at h;exact h.elim;rename_i c;cases h;simp only[C.ab,af H ak q j e L ⟨ad V i,y,Z⟩ l G d (by simpa using c) rfl,dq,fF];exact h.elim;exact h.elim;rename_i H ak q r w i y l k;rw[k];split at h;rename_i j e G;split at h;rename_i L d;split at h;exact h.elim;rename_i c;cases h;have a0:∀M N,(oI M N).spot=none:=by intro M N;unfold oI;split<;>rfl
 simp only[C.ab,af H ak q j e L _ l G d (by simpa using c) (a0 _ _),dq,fF];congr 4;unfold oI;split;simp only[Addr.mk.injEq,and_true,true_and];omega;simp only[Addr.mk.injEq,and_true,true_and];omega;exact h.elim;exact h.elim;exact h.elim
end
section
variable{H:aq}{L:World}{D:cF}{P:Program}{u:Ty}{B:nD}{V:aq}{O:ai}{s:S}{a:Act}{W:World}
def axU(Q:aE H L D u V O s a W)(A:jW P u)(w:fO B O)(r:z.op=.field X n R)(p:(s.ev B n).fk=E)
  (h:(cw u B s (.field X n R)).gives O M):(execOp a.eval z).run P W=.ok (.value (M.ab O V)) W:=by
 have m:=dw Q w n p;simp only[execOp,r,dt,m];simp only[cw] at h;split at h;rename_i fs ak q l k j;rw[j];split at h;rename_i o' t' N;split at h;rename_i ti i;split at h;rename_i y g;cases h;obtain⟨F,e,d⟩:=(A _ _ k).desc;rw[<-d,dX] at N;cases G:F.toList[R]? with
 |none=>rw[G] at N;cases N
 |some c=>
  rw[G] at N;simp only[eo,cS,FH] at N;obtain⟨rfl,rfl⟩:=N;have b:F[R]?=U c:=by simpa using G
  simp only[C.ab,Instr.field,dt,fu.iS e,dq,b,asAgg,fF,abR (A _ _ i) g]
 exact h.elim;exact h.elim;exact h.elim;exact h.elim
def axV(R:aE H L D u V O s a W)(af:jW P u)(hg:fO B O){y:Operand}(ho:z.op=.indexAddr X n y)(hk:(s.ev B n).fk=E)(a0:(s.ev B y).fk=E)
  (h:(cw u B s (.indexAddr X n y)).gives O M):(execOp a.eval z).run P W=.ok (.value (M.ab O V)) W:=by
 have he:=dw R hg n hk;have a1:=dw R hg y a0;have ag:∀(Q:Nat)(e:TypeId)(ak:fp)(q:Bool)(G:TI)(A:Addr)(k:IntKind)(m:Int),u X=U ⟨.arr Q e,ak,q⟩->u e=U G->0<=m->m<Q->A.spot=Z->
   (Instr.indexAt X (.pointer (U A)) (.int k m)).run P W=.ok (.pointer (U ⟨A.block,A.off+m.toNat*Y G.ak,Z⟩)) W:=by
  intro Q e ak q G A k m h1 h2 h3 h4 h5;have hd:P.underlying X=U (.array Q e):=(af _ _ h1).desc;obtain⟨b,of,sp⟩:=A;simp only at h5;subst h5;simp only[Instr.indexAt,asIntOf,dt,fF,dq,fu.iS hd,Instr.sureAddr,h3,h4,and_self,cN,(af _ _ h2).od,yM]
 simp only[execOp,ho,dt,he,a1];simp only[cw] at h;split at h;rename_i Q e ak q i ac k m g d hy;rw[d,hy];split at h;rename_i G f;split at h;rename_i F;cases h;simp only[aA,cz] at F;simp only[C.ab,K.ab,ag Q e ak q G ⟨ad V i,ac,Z⟩ k m g f F.1 F.2 rfl,dq,fF];exact h.elim;exact h.elim;rename_i Q e ak q r w i ac k m g d hy;rw[d,hy];have al:∀M Q,(oI M Q).spot=none:=by intro M Q;unfold oI;split<;>rfl
 have an:∀(M:Value)(p q:Nat),(⟨(oI M p).block,(oI M p).off+q,Z⟩:Addr)=oI M (p+q):=by intro M p q;unfold oI;split<;>simp[H8]
 split at h;rename_i G f;split at h;rename_i hc;obtain⟨N,rfl⟩:=h;rw[Lw] at N;simp only[aA,du] at hc;obtain⟨⟨⟨h1,h2⟩,h3⟩,-⟩:=hc;subst h1 h2 h3;simp only[K.ab] at N;simp only[C.ab,ag Q e ak q G _ k (m.ab O) g f N.1 N.2 (al _ _),dq,fF,an];simp[K.ab];split at h;rename_i m;split at h;rename_i F;cases h;simp only[aA,cz] at F;simp only[C.ab,K.ab,ag Q e ak q G _ k m g f F.1 F.2 (al _ _),dq,fF,an,H8];exact h.elim;exact h.elim;exact h.elim;rename_i Q e ak q r w i ac k m a9 g d hy;rw[d,hy];have al:∀M Q,(oI M Q).spot=none:=by intro M Q;unfold oI;split<;>rfl
 have an:∀(M:Value)(p q:Nat),(⟨(oI M p).block,(oI M p).off+q,Z⟩:Addr)=oI M (p+q):=by intro M p q;unfold oI;split<;>simp[H8]
 split at h;rename_i G f;split at h;rename_i F;cases h;simp only[aA,cz] at F;simp only[C.ab,K.ab,ag Q e ak q G _ k m g f F.1 F.2 (al _ _),dq,fF,an,H8];exact h.elim;exact h.elim;rename_i e ak q r k m g d hy;rw[d,hy];split at h;rename_i G e' f a3;obtain⟨N,rfl⟩:=h;rw[Lw] at N;simp only[K.ab] at N;have hh:=akC (sS R aw a3) (m.ab O) N.1 N.2;obtain⟨bb,b,ac,-,-,⟨l,c,hv⟩,-⟩:=hh;have hd:P.underlying X=U (.slice e):=(af _ _ g).desc;rw[hv] at N;simp only[lenOf] at N;simp only[C.ab,RE.ab,hv,Instr.indexAt,asIntOf,dt,fF,dq,fu.iS hd,N.1,N.2,and_self,cN,(af _ _ f).od,yM,oI,zU];exact h.elim;rename_i e ak q i ac bd bf k m g d hy;rw[d,hy];split at h;rename_i G f;split at h;rename_i F;cases h;simp only[aA,cz] at F;have hd:P.underlying X=U (.slice e):=(af _ _ g).desc;simp only[C.ab,K.ab,Instr.indexAt,asIntOf,dt,fF,dq,fu.iS hd,F.1,F.2,and_self,cN,(af _ _ f).od,yM];exact h.elim;exact h.elim;rename_i Q e ak q i ac k m bg g d hy;rw[d,hy];split at h;rename_i G f;obtain⟨N,rfl⟩:=h;rw[Lw] at N;simp only[K.ab] at N;have a4:(C.gz m (DC Q) ((fj Q).map λj=>C.loc i (ac+j*Y G.ak))).ab O V=.pointer (U ⟨ad V i,ac+(m.ab O).toNat*Y G.ak,Z⟩):=by
  simp only[C.ab];rw[UU (akv N.1 N.2) rfl];rfl
 rw[a4];simp only[C.ab,ag Q e ak q G ⟨ad V i,ac,Z⟩ k (m.ab O) g f N.1 N.2 rfl,dq,fF];exact h.elim;exact h.elim
def axW(R:aE H L D u V O s a W)(F:jW P u)(hg:fO B O){y:Operand}(ho:z.op=.index X n y)(hk:(s.ev B n).fk=E)(al:(s.ev B y).fk=E)
  (h:(cw u B s (.index X n y)).gives O M):(execOp a.eval z).run P W=.ok (.value (M.ab O V)) W:=by
 have he:=dw R hg n hk;have an:=dw R hg y al;simp only[execOp,ho,dt,he,an];simp only[cw] at h;split at h;rename_i Q e ak q l k m A w i;rw[w,i];split at h;rename_i b g;split at h;rename_i hm;split at h;rename_i N hp;cases h;simp only[aA,cz] at hm;have d:P.underlying X=U (.array Q e):=(F _ _ A).desc;simp only[C.ab,K.ab,Instr.index,asIntOf,dt,fF,dq,fu.iS d,hm.1,hm.2,and_self,cN,(F _ _ g).od,abR (F _ _ g) hp];exact h.elim;exact h.elim;exact h.elim;rename_i Q e ak q l k m a9 A w i;rw[w,i];split at h;rename_i b g;split at h;rename_i N c;obtain⟨G,rfl⟩:=h;rw[Lw] at G;simp only[K.ab] at G;cases ac:FP ((fj Q).map λj=>yA b l (j*Y b.ak)) with
 |none=>rw[ac] at c;cases c
 |some ps=>
  rw[ac] at c;simp only[aa5] at c;obtain⟨p,a0,a1⟩:=abW (vs:=fj Q) ac (by have:=akv (f:=λj=>j) G.1 G.2;simpa using this);have d:P.underlying X=U (.array Q e):=(F _ _ A).desc;rw[aku (xo R) c a1];simp only[C.ab,Instr.index,asIntOf,dt,fF,dq,fu.iS d,G.1,G.2,and_self,cN,(F _ _ g).od,abR (F _ _ g) a0]
 exact h.elim;exact h.elim;rename_i ak q r k m A w i;rw[w,i];split at h;rename_i a3;obtain⟨G,rfl⟩:=h;rw[Lw] at G;obtain⟨af,ag⟩:=F1 R a3;unfold RE.ab at ag;have d:P.underlying X=U .string:=(F _ _ A).desc;simp only[K.ab,ag,lenOf] at G;have a4:(m.ab O).toNat<af.size:=aa;simp only[C.ab,RE.ab,ag,K.ab,Instr.index,asIntOf,dt,fF,dq,fu.iS d,G.1,cN,kY];have:af[(m.ab O).toNat]?=U af[(m.ab O).toNat]:=by simp[a4]
 rw[this];rfl;exact h.elim;exact h.elim
def axX(X:BinOp)(R:Uf X=J)(t:TypeId)(k:IntKind)(m n:Int):(binOp X t (.int k m) (.int k n)).run P W=.ok (.bool (iM X m n)) W:=by
 cases X<;>simp[Uf] at R<;>simp[binOp,Op.intCmp,iM]
def axY(X:BinOp)(R:abg X=J)(t:TypeId)(k:IntKind)(m n:Int):(binOp X t (.int k m) (.int k n)).run P W=.ok (.int k (ay X k m n)) W:=by
 cases X<;>simp[abg] at R<;>simp[binOp,Op.intArith,ay]
def akD(X:BinOp)(R:abh X=J)(t:TypeId)(k:IntKind)(m n:Int)(Q:n≠0):(binOp X t (.int k m) (.int k n)).run P W=.ok (.int k (ay X k m n)) W:=by
 cases X<;>simp[abh] at R<;>simp[binOp,Op.intDiv,ay,Q]
def akE(X:BinOp)(t:TypeId)(x y:Operand)(k:IntKind)(n:Int)(w:Value):(eqGuard X t x y (.int k n) w).run P W=.ok () W:=by cases X<;>rfl
def axZ(X:BinOp)(t:TypeId)(x y:Operand)(n:Bool)(w:Value):(eqGuard X t x y (.bool n) w).run P W=.ok () W:=by cases X<;>rfl
def akF(X:BinOp)(t:TypeId)(x y:Operand)(n:ByteArray)(w:Value):(eqGuard X t x y (.string n) w).run P W=.ok () W:=by cases X<;>rfl
def akG(R:P.underlying X=U .bool)(m n:Bool):(FL X (.bool m) (.bool n)).run P W=.ok (m==n) W:=by
 have:FL X (.bool m) (.bool n)=Dw (9999+1) X (.bool m) (.bool n):=rfl;rw[this,Dw,dt,fu.iS R];rfl
def ax0(R:P.underlying X=U .bool)(m n:Bool):(binOp .eql X (.bool m) (.bool n)).run P W=.ok (.bool (m==n)) W:=by
 show((FL X (.bool m) (.bool n))>>=λb=>(pure (.bool b):Sem Value)).run P W=_;rw[dt,akG R];rfl
def ax1(R:P.underlying X=U .bool)(m n:Bool):(binOp .neq X (.bool m) (.bool n)).run P W=.ok (.bool !(m==n)) W:=by
 show((FL X (.bool m) (.bool n))>>=λb=>(pure (.bool !b):Sem Value)).run P W=_;rw[dt,akG R];rfl
def abY(R:jW P u)(h:OQ (u X)=J):∃a b c,P.underlying X=U (.func a b c):=by
 unfold OQ at h;split at h;rename_i k q Q;obtain⟨d,N,⟨-,M⟩,-,-⟩:=(R _ _ Q).desc;obtain⟨a,b,c,rfl⟩:=M k rfl;exact⟨a,b,c,N⟩;cases h
def abZ{x y:Operand}{Q:_}{N:_}{M:_}(L:P.underlying X=U (.func Q N M))(v:Value)(n:Bool)(R:(v=.nilFunc/\n=J)\/(∃f a b,v=.func f a b)/\n=E):
  (do eqGuard .eql X x y v .nilFunc;binOp .eql X v .nilFunc).run P W=.ok (.bool n) W/\(do eqGuard .neq X x y v .nilFunc;binOp .neq X v .nilFunc).run P W=.ok (.bool !n) W:=by
 have H:(FL X v .nilFunc).run P W=.ok n W:=by
  have G:FL X v .nilFunc=Dw (9999+1) X v .nilFunc:=rfl;rw[G,Dw,dt,fu.iS L,dq];rcases R with⟨rfl,rfl⟩|⟨⟨f,a,b,rfl⟩,rfl⟩<;>rfl
 rcases R with⟨rfl,rfl⟩|⟨⟨f,a,b,rfl⟩,rfl⟩<;>constructor<;>simp[eqGuard,binOp,H]
def akH{e:K}:∀{ks:bw}{vs:ap},vs.all KW=J->Y ks=Y vs->
  (kZ (e.ab O) ks (C.aK O V vs)=.nilFunc/\(DA e ks vs).ab O=J)\/((∃f a b,kZ (e.ab O) ks (C.aK O V vs)=.func f a b)/\(DA e ks vs).ab O=E)
 |[],[],_,_=>.inl ⟨rfl,rfl⟩
 |[],_::_,_,h=>by simp at h
 |_::_,[],_,h=>by simp at h
 |k::ks,v::vs,R,M=>by
  simp only[OI,aA] at R;have N:=akH (e:=e) (ks:=ks) (vs:=vs) R.2 (by simpa using M);have Q:=R.1;unfold KW at Q;split at Q;rename_i g L;simp only[C.aK,C.ab,kZ,DA,BE.ab,iM,K.ab];by_cases X:e.ab O=k;right;simp[X,jT];simp only[X,gD,du];exact N;simp only[C.aK,C.ab,kZ,DA,BE.ab,iM,K.ab];by_cases X:e.ab O=k;left;simp[X,RE.ab,RE.rv,jT];simp only[X,gD,du];exact N;cases Q
def ax2(R:aE H L D u V O s a W)(l:jW P u)(hg:fO B O){w:BinOp}{t2:TypeId}{y:Operand}(ho:z.op=.binOp w X n y t2)(hk:(s.ev B n).fk=E)(af:(s.ev B y).fk=E)
  (h:(cw u B s (.binOp w X n y t2)).gives O M):(execOp a.eval z).run P W=.ok (.value (M.ab O V)) W:=by
 have he:=dw R hg n hk;have ag:=dw R hg y af;simp only[execOp,ho];rw[dt,he,ag];simp only[cw] at h;split at h;rename_i k m k' Q N G;rw[N,G];split at h;rename_i al;have an:w=.shr:=by cases w<;>simp[aj3] at al;rfl
 subst an;split at h;rename_i Q;split at h;rename_i A;have ac:¬Q<0:=by simp only[cz] at A;omega
 cases h;simp only[C.ab,Pq,K.ab];rw[dt,akE,dq];simp[binOp,Op.shift,ay,ac];exact h.elim;exact h.elim;split at h;exact h.elim;rename_i a0;have a1:k=k':=by simpa using a0
 subst a1;simp only[C.ab];rw[dt,akE,dq];split at h;rename_i hc;cases h;simp only[axX w hc,dq,fF,C.ab,DU];split at h;rename_i hc;cases h;simp only[axY w hc,dq,fF,C.ab,Pq];split at h;rename_i hc;split at h;rename_i Q;split at h;exact h.elim;rename_i A;cases h;have ac:Q≠0:=by simpa using A
 simp only[C.ab,Pq,K.ab];rw[akD w hc _ _ _ _ ac];rfl;obtain⟨hb,rfl⟩:=h;rw[DU] at hb;have ac:Q.ab O≠0:=by simpa[iM,K.ab] using hb
 simp only[C.ab,Pq];rw[akD w hc _ _ _ _ ac];rfl;exact h.elim;rename_i m Q N G;rw[N,G];simp only[C.ab];rw[dt,axZ,dq];split at h;rename_i q j;cases h;obtain⟨d,F,-,-,hb⟩:=(l _ _ j).desc;rw[hb rfl] at F;rw[ax0 F];simp[C.ab,abT];rename_i q j;cases h;obtain⟨d,F,-,-,hb⟩:=(l _ _ j).desc;rw[hb rfl] at F;rw[ax1 F];simp[C.ab,abT,Pr];exact h.elim;rename_i N G;rw[N,G];split at h;exact h.elim;rename_i r;obtain⟨d1,d2,d3,F⟩:=abY l (by simpa using r);obtain⟨q1,q2⟩:=abZ (x:=n) (y:=y) (W:=W) F .nilFunc J (.inl ⟨rfl,rfl⟩);have A:C.ab O V (.aj (.k .nilFunc))=.nilFunc:=rfl;rw[A];split at h;cases h;rw[q1];rfl;cases h;rw[q2];rfl;exact h.elim;rename_i m Q a9 N G;rw[N,G];split at h;rename_i i g;cases h;obtain⟨p,c⟩:=F1 R i;obtain⟨q,b⟩:=F1 R g;simp only[C.ab,c,b];rw[dt,akF,dq];unfold RE.ab at c b;simp[binOp,Op.stringOp,BE.ab,c,b,uq];rename_i i g;cases h;obtain⟨p,c⟩:=F1 R i;obtain⟨q,b⟩:=F1 R g;simp only[C.ab,c,b];rw[dt,akF,dq];unfold RE.ab at c b;simp[binOp,Op.stringOp,BE.ab,c,b,uq];exact h.elim;rename_i f a3 N G;rw[N,G];split at h;exact h.elim;rename_i r;obtain⟨d1,d2,d3,F⟩:=abY l (by simpa using r);obtain⟨q1,q2⟩:=abZ (x:=n) (y:=y) (W:=W) F ((C.fn f a3).ab O V) E (.inr ⟨⟨_,_,_,rfl⟩,rfl⟩);have A:C.ab O V (.aj (.k .nilFunc))=.nilFunc:=rfl;rw[A];split at h;cases h;rw[q1];rfl;cases h;rw[q2];rfl;exact h.elim;rename_i e ks vs N G;rw[N,G];split at h;rename_i r;simp only[aA,du] at r;obtain⟨d1,d2,d3,F⟩:=abY l r.2;have a4:=akH (O:=O) (V:=V) (e:=e) r.1.1 r.1.2;obtain⟨q1,q2⟩:=abZ (x:=n) (y:=y) (W:=W) F (kZ (e.ab O) ks (C.aK O V vs)) ((DA e ks vs).ab O) a4;have A:C.ab O V (.aj (.k .nilFunc))=.nilFunc:=rfl;rw[A,C.ab];split at h;cases h;rw[q1];rfl;cases h;rw[q2];simp[C.ab,Pr];exact h.elim;exact h.elim;rename_i m Q N G;rw[N,G];simp only[C.ab];split at h;rename_i e he;cases h;obtain⟨ak,d,j,i,g,h3⟩:=akB R he;have:=((l _ _ j).eq rfl _ _ _ n y W i g h3).1;rw[this];rfl;rename_i e he;cases h;obtain⟨ak,d,j,i,g,h3⟩:=akB R he;have:=((l _ _ j).eq rfl _ _ _ n y W i g h3).2;rw[this];simp[C.ab,Pr];exact h.elim;exact h.elim
end
section
variable{d:aq}{g:World}{D:cF}{P:Program}{b:Ty}{B:nD}{V:aq}{O:ai}{s:S}{a:Act}{W:World}
def UV(X:∀r:RE,r.If=J->jT (r.ab O)=J)(h:M.Ig=J):(M.ab O V).cells.toList=C.aK O V M.cells:=by
 cases M with
 |agg l=>simp[C.ab,C.cells,Value.cells]
 |aj r=>
  have:jT (r.ab O)=true:=X r (by cases r<;>simp_all[C.Ig,RE.If]);simp only[C.ab,C.cells,C.aK];revert this;cases r.ab O<;>simp[jT,Value.cells]
 |gz e R Q=>
  simp only[C.ab,C.cells,C.aK];exact axI (abQ _ _ _)
 |_=>simp[C.ab,C.cells,Value.cells,C.aK,undef]
def akI:∀(M l:ap)(R:Nat),C.aK O V (lW l R M)=(C.aK O V M).zipIdx.foldl (λQ x=>Q.set (R+x.2) x.1) (C.aK O V l)
 |[],l,R=>by simp[lW,C.aK]
 |v::M,l,R=>by
  rw[lW,akI M (l.set R v) (R+1)];simp only[C.aK,List.zipIdx_cons,FF,zU,jz];rw[show C.aK O V (l.set R v)=(C.aK O V l).set R (v.ab O V) by simp[qe]];generalize(C.aK O V l).set R (v.ab O V)=X;have:∀(N:gE)(n:Nat)(X:gE),(N.zipIdx n).foldl (λQ x=>Q.set (R+1+x.2) x.1) X=(N.zipIdx (n+1)).foldl (λQ x=>Q.set (R+x.2) x.1) X:=by
   intro N;induction N with
   |nil=>intro n X;rfl
   |cons w N L=>intro n X;simp only[List.zipIdx_cons,FF];rw[L,show R+1+n=R+(n+1) from aa]
  exact this _ 0 X
def akJ:∀(l:List (Value×Nat))(R:Nat)(X:mG),(l.foldl (λQ (x:Value×Nat)=>Q.setIfInBounds (R+x.2) x.1) X).toList=l.foldl (λQ x=>Q.set (R+x.2) x.1) X.toList
 |[],_,_=>rfl
 |x::l,R,X=>by simp only[FF];rw[akJ l R];simp
def Pt(R:∀r:RE,r.If=J->jT (r.ab O)=J)(place:Nat->Option (Nat×Nat)):∀(parts:List (Nat×C))(cells l:ap),zW place cells parts=U l->
  Instr.fill place (C.aK O V cells).toArray (parts.map λp=>(p.1,p.2.ab O V))=U (C.aK O V l).toArray
 |[],cells,l,h=>by simp[zW] at h;simp[Instr.fill,h]
 |(i,v)::L,cells,l,h=>by
  simp only[zW] at h;cases X:place i with
  |none=>rw[X] at h;cases h
  |some q=>
   obtain⟨Q,H⟩:=q;rw[X] at h;simp only at h;split at h;cases h;rename_i N;simp only[jy,bne_iff_ne,cz,iK,not_or,H5,Decidable.not_not,Nat.not_lt] at N;obtain⟨⟨G,y⟩,F⟩:=N;have M:=UV (V:=V) R F;have B:(v.ab O V).cells.size=H:=by rw[<-FA,M];simp[G]
   simp only[eW,Instr.fill,X,B];rw[aP dh];have A:=Pt R place L _ l h;rw[<-A];congr 1;apply oD;have e:((v.ab O V).cells.zipIdx.foldl (λz (x:Value×Nat)=>z.setIfInBounds (Q+x.2) x.1) (C.aK O V cells).toArray).toList=C.aK O V (lW cells Q v.cells):=by
    rw[<-aKI,akJ,akI,Array.toList_zipIdx,M]
   simpa using e
def ax3(c:CT):(Dy c).ab O V=rU c:=by cases c<;>simp[Dy,C.ab,rU,K.ab,BE.ab,RE.ab,RE.rv]
def akK(X:TI):C.aK O V (eA X)=X.ak.map rU:=by
 simp only[eA,qe,pn];congr 1;funext c;exact ax3 c
def Lz(h:fu P X t):∃z,(zeroValue X).run P W=.ok z W/\z.cells=(C.aK O V (eA t)).toArray:=by
 obtain⟨i,R,-,z,Q,N⟩:=h.Lv;exact⟨z,by simp[zeroValue,typeInfo,R,Q],by rw[akK,<-N]⟩
def ax4(R:aE d g D b V O s a W)(H:jW P b)(hg:fO B O){parts:Array (Nat×Operand)}(ho:z.op=.build X parts)(hk:∀p∈parts.toList,(s.ev B p.2).fk=E)
  (h:(cw b B s (.build X parts)).gives O M):(execOp a.eval z).run P W=.ok (.value (M.ab O V)) W:=by
 have c:(parts.map λ(i,x)=>(i,a.eval x)).toList=(parts.toList.map λp=>(p.1,s.ev B p.2)).map λp=>(p.1,p.2.ab O V):=by
  simp only[yr,pn];apply kJ;intro p hp;simp[dw R hg p.2 (hk p hp)]
 simp only[execOp,ho,dt];simp only[cw] at h;split at h;rename_i y ak q G;split at h;exact h.elim;rename_i u;have u:∀f∈y,(b f.2).isSome=true:=by
  have:(y.all λf=>(b f.2).isSome)=true:=by simpa only[iK,H5] using u
  exact f9.1 this
 split at h;rename_i l N;cases h;obtain⟨F,hF,ac⟩:=(H _ _ G).desc;obtain⟨Q,r,k⟩:=Lz (P:=P) (W:=W) (O:=O) (V:=V) (H _ _ G);have ag:∀(L:List Field),(∀f∈L,∃A,b f.type=U A)->(L.mapM (m:=Sem) λf=>do pure (f.offset,<-Go.sizeOf f.type)).run P W=.ok (L.map λf=>(f.offset,((b f.type).map (·.ak.length)).getD 0)) W:=by
  intro L hL;induction L with
  |nil=>rfl
  |cons f L ih=>
   obtain⟨A,w⟩:=hL f aw;have:=ih (λf N=>hL f (by simp[N]));simp only[axi,dt,(H _ _ w).od,dq,fF,this,eW,w,eo,pZ]
 have af:∀f∈F.toList,∃A,b f.type=U A:=by
  intro f N;have:(f.offset,f.type)∈y:=by rw[<-ac];exact iL.2 ⟨f,N,rfl⟩
  have:=u _ this;exact lB.1 this
 have hm:=ag F.toList af;have j:=Pt (V:=V) (xo R) _ _ _ _ N;simp only[Instr.build,dt,r,dq,fu.iS hF,aKn,Sem.run_map,hm,c,k];have al:(λi=>(F.toList.map λf=>(f.offset,((b f.type).map (·.ak.length)).getD 0)).toArray[i]?)=abi b y:=by
  funext i;rw[<-ac,abi];simp only[aw0,dX];cases hi:F.toList[i]? with
  |none=>simp
  |some f=>
   obtain⟨A,w⟩:=af f (ki hi);simp[w]
 rw[al,j];simp[C.ab];exact h.elim;rename_i n e ak q G;split at h;rename_i te an;split at h;rename_i l N;cases h;obtain⟨Q,r,k⟩:=Lz (P:=P) (W:=W) (O:=O) (V:=V) (H _ _ G);have hd:P.underlying X=U (.array n e):=(H _ _ G).desc;have j:=Pt (V:=V) (xo R) _ _ _ _ N;simp only[Instr.build,dt,r,dq,fu.iS hd,(H _ _ an).od,c,k,j];simp[C.ab];exact h.elim;exact h.elim;exact h.elim
def ax5(R:aE d g D b V O s a W)(G:jW P b)(u:fO B O){N H r:Option Operand}(f:z.op=.slice X n N H r)(c:(s.ev B n).fk=E)(ac:∀y,N=U y->(s.ev B y).fk=E)
  (h:(cw b B s (.slice X n N H r)).gives O M):(execOp a.eval z).run P W=.ok (.value (M.ab O V)) W:=by
 have he:=dw R u n c;simp only[execOp,f,dt,he];simp only[cw] at h;split at h;rename_i Q e ak q i an ht hx;rw[hx];have p:P.underlying X=U (.array Q e):=(G _ _ ht).desc;split at h;rename_i te F L A;cases h;have af:N=none:=by simpa using L
 have w:H=none:=by simpa using A
 subst af w;simp[C.ab,Instr.sliceAt,fu.iS p,Instr.sureAddr,Instr.sliceBounds,(G _ _ F).od,yM];rename_i te k l F L A;split at h;rename_i m;cases h;simp only[aA,cz] at m;have w:H=none:=by simpa using A
 subst w;cases N with
 |none=>cases L
 |some y=>
  simp only[eo,cS] at L;have j:=dw R u y (ac y rfl);rw[L] at j;have ag:l<=Q:=aa;have al:¬Q=l.toNat:=aa;simp[C.ab,K.ab,Instr.sliceAt,fu.iS p,Instr.sureAddr,Instr.sliceBounds,Instr.sliceBound,asIntOf,j,m.1,ag,(G _ _ F).od,yM,al]
 exact h.elim;exact h.elim;exact h.elim
def ax6(R:aE d g D b V O s a W)(y:jW P b)(p:fO B O){c:Call}(m:z.op=.call c)(u:c.callee=.builtin .len)(k:∀x∈c.args.toList,(s.ev B x).fk=E)
  (h:(cw b B s (.call c)).gives O M):(execOp a.eval z).run P W=.ok (.value (M.ab O V)) W:=by
 have j:c.args.map a.eval=((c.args.toList.map (s.ev B)).map (C.ab O V)).toArray:=by
  apply oD;simp only[yr,pn];exact kJ λx f=>dw R p x (k x f)
 simp only[execOp,m,resolve,u,dt,fF,dq,invoke,builtin,j];simp only[cw,u] at h;split at h;rename_i t L H;have N:c.argTypes[0]?=U t:=by have:=ku (λl=>l[0]?) L;simpa using this
 rw[H];split at h;rename_i e ak q X;cases h;have Q:P.underlying t=U (.slice e):=(y _ _ X).desc;simp[Builtin.len_,N,C.ab,K.ab,RE.ab,RE.rv,fu.iS Q,goInt];exact h.elim;rename_i t r ac L H;have N:c.argTypes[0]?=U t:=by have:=ku (λl=>l[0]?) L;simpa using this
 rw[H];split at h;rename_i e ak q e' X w;cases h;have Q:P.underlying t=U (.slice e):=(y _ _ X).desc;obtain⟨A,l,cc,G⟩:=Ps R w;have F:=G;unfold RE.ab at F;simp[Builtin.len_,N,C.ab,K.ab,G,F,fu.iS Q,lenOf,goInt];rename_i ak q X w;cases h;have Q:P.underlying t=U .string:=(y _ _ X).desc;obtain⟨af,G⟩:=F1 R w;have F:=G;unfold RE.ab at F;simp[Builtin.len_,N,C.ab,K.ab,G,F,fu.iS Q,lenOf,goInt];exact h.elim;rename_i t i ag n al L H;have N:c.argTypes[0]?=U t:=by have:=ku (λl=>l[0]?) L;simpa using this
 rw[H];split at h;rename_i e ak q X;cases h;have Q:P.underlying t=U (.slice e):=(y _ _ X).desc;simp[Builtin.len_,N,C.ab,K.ab,fu.iS Q,goInt];exact h.elim;exact h.elim
def akL(R:aE d g D b V O s a W)(G:fO B O){c:Call}(L:z.op=.call c)(X:c.callee=.builtin .min\/c.callee=.builtin .max)(F:∀x∈c.args.toList,(s.ev B x).fk=E)
  (h:(cw b B s (.call c)).gives O M):(execOp a.eval z).run P W=.ok (.value (M.ab O V)) W:=by
 have H:c.args.map a.eval=((c.args.toList.map (s.ev B)).map (C.ab O V)).toArray:=by
  apply oD;simp only[yr,pn];exact kJ λx A=>dw R G x (F x A)
 rcases X with X|X;simp only[execOp,L,resolve,X,dt,fF,dq,invoke,builtin,H];simp only[cw,X] at h;split at h;rename_i k x l Q;rw[Q];split at h;rename_i e N;cases h;have:=abU (P:=P) (W:=W) (O:=O) (V:=V) E k l x e N;simp only[jR,gD] at this;simp only[eW,C.ab,Builtin.min_,<-qe,this,dq];exact h.elim;exact h.elim;simp only[execOp,L,resolve,X,dt,fF,dq,invoke,builtin,H];simp only[cw,X] at h;split at h;rename_i k x l Q;rw[Q];split at h;rename_i e N;cases h;have:=abU (P:=P) (W:=W) (O:=O) (V:=V) J k l x e N;simp only[cN] at this;simp only[eW,C.ab,Builtin.max_,<-qe,this,dq];exact h.elim;exact h.elim
end
section
variable{g:aq}{A:World}{D:cF}{P:Program}{f:Ty}{B:nD}{V:aq}{O:ai}{s:S}{a:Act}{W:World}
def ab0{l:bw}(h:r=E->Y l=1):yL (iw r l)=l:=by
 cases r;obtain⟨x,rfl⟩:=pj.1 (h rfl);rfl;simp[iw,yL,Function.comp_def,bp]
def ab1{x y z:K}(h:Ik R r M=U (x,y,z)):M.ab O V=iw r ([x.ab O,y.ab O,z.ab O].take R)/\([x.ab O,y.ab O,z.ab O].take R).length=R:=by
 unfold Ik at h;split at h;split at h;rename_i X;cases h;simp only[aA,du,iK] at X;obtain⟨rfl,rfl⟩:=X;simp[iw,C.ab];cases h;split at h;rename_i X;cases h;simp only[aA,du] at X;obtain⟨rfl,rfl⟩:=X;simp[iw,C.ab,C.aK];cases h;split at h;rename_i X;cases h;simp only[aA,du] at X;obtain⟨rfl,rfl⟩:=X;simp[iw,C.ab,C.aK];cases h;split at h;rename_i X;cases h;simp only[aA,du] at X;obtain⟨rfl,rfl⟩:=X;simp[iw,C.ab,C.aK];cases h;cases h
def ab2:∀{l:uf}{m:Nat}{e:MapEntry},e∈gP m l->∃p∈l,e.key=p.1
 |[],m,e,h=>by simp[gP] at h
 |x::r,m,e,h=>by
  simp only[gP,dS] at h;rcases h with rfl|h;exact⟨x,aw,rfl⟩;obtain⟨p,X,R⟩:=ab2 h;exact⟨p,by simp[X],R⟩
def F2(n:Nat)(X:aM):Prop:=∃l:bw,Y l=n/\X.take n=l.map λx=>.mk (.int I x) []
def Pu{ag:Bool}(M:ag=E->R=1){X:aM}(h:F2 R X):∃l:bw,Y l=R/\rT ag (X.take R)=iw ag l/\(X.take R).map (λc=>bp c.val)=l:=by
 obtain⟨l,Q,N⟩:=h;refine⟨l,Q, ?_,by rw[N];simp[Function.comp_def,bp]⟩;rw[N];cases ag;obtain⟨x,rfl⟩:=pj.1 (Q.trans (M rfl));rfl;simp[rT,iw,Function.comp_def]
def akM{n:Nat}{Q va:Bool}(N:Q=E->n=1){R:bw}(H:(R.take n).length=n):∀{rows:ar}{m i:Nat},(∀X∈rows,F2 n X)->
  (jq n R rows=Z/\oK (R.take n) (gP m (rows.map (xk n Q va))) i=Z)\/∃X j,jq n R rows=U X/\X∈rows/\oK (R.take n) (gP m (rows.map (xk n Q va))) i=U (j,rT va (X.drop n))
 |[],m,i,_=>.inl ⟨rfl,rfl⟩
 |X::rows,m,i,h=>by
  obtain⟨l,G,F,B⟩:=Pu (ag:=Q) N (h X aw);simp only[jq,KP,eW,gP,oK,xk,F];rw[ab0 (λe=>G.trans (N e))];have A:lD n R X=decide (l=R.take n):=by simp only[lD,B]
  rw[A];by_cases L:l=R.take n;right;simp only[L,decide_true,cN];exact⟨X,i,rfl,aw,rfl⟩;simp only[L,decide_false,gD];rcases akM (rows:=rows) (m:=m+1) (i:=i+1) (va:=va) N H (λr z=>h r (by simp[z])) with M|⟨r,j,M,y,x⟩;exact .inl M;exact .inr ⟨r,j,M,by simp[y],x⟩
def akN(O:ai)(V:aq){k e:TypeId}(F:P.underlying X=U (.map k e))(B:vL P k R r)(A:fu P e t){l:uf}(y:W.heap[Q]?=U (qR l)){L:bw}(u:Y L=R)
  (q:∀p∈l,∃M:bw,Y M=R/\p.1=iw r M)(H:Bool):
  ∃z,(zeroValue e).run P W=.ok z W/\(Instr.lookup X (.map (U Q)) (iw r L) H).run P W=.ok (let N:=match oK L (gP 0 l) 0 with
   |U (_,v)=>(v,J)
   |none=>(z,E);if H then .tuple #[N.1,.bool N.2] else N.1) W:=by
 obtain⟨z,G,ac⟩:=Lz (P:=P) (W:=W) (O:=O) (V:=V) A;refine⟨z,G, ?_⟩;have o:∀x∈gP 0 l,∃M:bw,Y M=R/\x.key=iw r M:=λx m=>by
  obtain⟨p,i,h⟩:=ab2 m;obtain⟨M,g,f⟩:=q p i;exact⟨M,g,h.trans f⟩
 obtain⟨d,c⟩:=B.2 L (gP 0 l) W u o;have hg:=MapKept.run_getObj_map (P:=P) (w:=W) y;simp only[Instr.lookup,dt,fu.iS F,dq,hg,fF,d,c];cases hf:oK L (gP 0 l) 0 with
 |none=>simp[G]
 |some p=>obtain⟨j,v⟩:=p;simp
structure IP(f:Ty)(sh:Sh)(row:aM):Prop where
 len:Y row=(bH f (.mr sh)).length
 int:∀(j:Nat)(c:RV)(k:IntKind),row[j]?=U c->(bH f (.mr sh))[j]?=U (.int k)->∃n,c=.mk (.int k n) []
 bool:∀(j:Nat)(c:RV),row[j]?=U c->(bH f (.mr sh))[j]?=U .bool->∃x,c=.mk (.bool x) []
def ax7{R:Sh}(h:bI W f (.mr R) F):∀X∈F.ae,IP f R X:=by
 cases h with
 |mr R A L H G z=>
  intro X B;obtain⟨i,Q⟩:=ue B;exact⟨L i X Q,λj c k N M=>H i j X c k Q N M,λj c N M=>G i j X c Q N M⟩
def IQ(R:aE g A D f V O s a W){X:Sh}{r:RE}(h:r.rK f s X=J):∀Q∈(r.rv O).ae,IP f X Q:=by
 unfold RE.rK at h;rcases aw3.1 h with h|h;exact ax7 (sS R aw (wX h));unfold RE.nil at h;split at h;intro Q N;simp[RE.rv] at N;cases h
def LA{e:TypeId}{va:Bool}(Q:uh f X R r=J)(M:f e=U t):∃N:fp,bH f (.mr ⟨X,e,R,r,va⟩)=N++t.ak/\Y N=R/\∀c∈N,c=.int I:=by
 unfold uh at Q;split at Q;rename_i tk L;simp only[aA,du] at Q;refine⟨tk.ak,by simp[bH,L,M],Q.1.1,λc H=> ?_⟩;have:=f9.1 Q.1.2 c H;unfold abk at this;split at this;rfl;cases this;cases Q
def LB{e:TypeId}{N:Bool}(G:uh f X R r=J)(F:f e=U t){Q:aM}(h:IP f ⟨X,e,R,r,N⟩ Q):F2 R Q:=by
 obtain⟨v,M,B,A⟩:=LA (va:=N) G F;have z:=h.len;rw[M,gU,B] at z;refine⟨(Q.take R).map λc=>bp c.val,dh, ?_⟩;apply kK;intro j;rw[dX,dX,nA];by_cases L:j<R;rw[aL L];have H:j<Y Q:=aa;rw[cL H];have y:(bH f (.mr ⟨X,e,R,r,N⟩))[j]?=U (.int I):=by
  rw[M,dZ aa,cL aa];congr 1;exact A _ (pl _)
 obtain⟨x,w⟩:=h.int j _ I (cL H) y;simp only[eo,w,RV.nJ,bp];rw[aP L];rfl
def ab3{r:RE}{n:Nat}{x y z:K}{R:aM}(L:jq n [x.ab O,y.ab O,z.ab O] (r.rv O).ae=U R):∀{ak:fp}{j:Nat},ak.all nE=J->Y R=j+Y ak->
  (∀(i:Nat)(k:IntKind),ak[i]?=U (.int k)->∃m,R[j+i]?=U (.mk (.int k m) []))->(∀(i:Nat),ak[i]?=U .bool->∃m,R[j+i]?=U (.mk (.bool m) []))->
  C.aK O V (rL r n x y z j ak)=(R.drop j).map RV.val
 |[],j,_,Q,_,_=>by rw[awY (by simp at Q;omega)];rfl
 |.int k::ak,j,N,Q,H,G=>by
  obtain⟨m,X⟩:=H 0 k rfl;have F:=ab3 L (ak:=ak) (j:=j+1) (by simpa[nE] using N) (by simp at Q⊢;omega) (λi k h=>by have:=H (i+1) k (by simpa using h);rwa [show j+(i+1)=j+1+i from aa] at this) (λi h=>by have:=G (i+1) (by simpa using h);rwa [show j+(i+1)=j+1+i from aa] at this);have B:R.drop j=.mk (.int k m) []::R.drop (j+1):=by
   rw[zU] at X;have M:=(cj.1 X).1;rw[HZ M];congr 1;rw[cL M] at X;simpa using X
  rw[zU] at X;simp only[rL,C.aK,C.ab,K.ab,L,F,B,eW,RV.nJ,dL,X,pZ,bp]
 |.bool::ak,j,N,Q,H,G=>by
  obtain⟨m,X⟩:=G 0 rfl;have F:=ab3 L (ak:=ak) (j:=j+1) (by simpa[nE] using N) (by simp at Q⊢;omega) (λi k h=>by have:=H (i+1) k (by simpa using h);rwa [show j+(i+1)=j+1+i from aa] at this) (λi h=>by have:=G (i+1) (by simpa using h);rwa [show j+(i+1)=j+1+i from aa] at this);have B:R.drop j=.mk (.bool m) []::R.drop (j+1):=by
   rw[zU] at X;have M:=(cj.1 X).1;rw[HZ M];congr 1;rw[cL M] at X;simpa using X
  rw[zU] at X;simp only[rL,C.aK,C.ab,BE.ab,L,F,B,eW,RV.nJ,dL,X,pZ,fW]
 |.aS _ _::ak,j,N,_,_,_=>by simp[nE] at N
def ab4{r:RE}{n:Nat}{x y z:K}(R:jq n [x.ab O,y.ab O,z.ab O] (r.rv O).ae=Z):∀{ak:fp}{j:Nat},ak.all nE=J->C.aK O V (rL r n x y z j ak)=ak.map rU
 |[],j,_=>rfl
 |.int k::ak,j,X=>by
  simp only[rL,C.aK,C.ab,K.ab,R,eW,rU,ab4 R (ak:=ak) (j:=j+1) (by simpa[nE] using X)]
 |.bool::ak,j,X=>by
  simp only[rL,C.aK,C.ab,BE.ab,R,eW,rU,ab4 R (ak:=ak) (j:=j+1) (by simpa[nE] using X)]
 |.aS _ _::ak,j,X=>by simp[nE] at X
def UW{r:RE}{n:Nat}{x y z:K}:∀{ak:fp}{j:Nat},(rL r n x y z j ak).length=Y ak
 |[],j=>rfl
 |.int _::ak,j=>by simp[rL,UW (ak:=ak)]
 |.bool::ak,j=>by simp[rL,UW (ak:=ak)]
 |.aS _ _::ak,j=>by simp[rL,UW (ak:=ak)]
def ab5(h:fu P X t){z:Value}(R:(zeroValue X).run P W=.ok z W):z=if t.d.isAgg then .agg (t.ak.map rU).toArray else(t.ak.map rU).headD undef:=by
 obtain⟨i,Q,-,M,N,L⟩:=h.Lv;have H:z=M:=by simp[zeroValue,typeInfo,Q,N] at R;exact R.symm
 subst H;have G:=h.akq i z Q N;rw[<-G,<-L];cases z<;>simp[UO,Value.cells]
def B8(h:fu P X t)(Q:t.d.isAgg=E):Y t.ak=1:=by
 obtain⟨i,N,H,z,M,L⟩:=h.Lv;have:=h.akq i z N M;rw[Q] at this;have R:=ku Y L;simp only[qJ] at R;rw[<-R];cases z<;>simp[UO] at this<;>rfl
def LD:∀{R:ap}{X:bw},rM R=U X->DR (C.aK O V R)=(X.zip (mH R)).map (λp=>(.int I p.1,p.2.ab O V))/\Y X=(mH R).length
 |[],X,h=>by simp[rM] at h;subst h;exact⟨rfl,rfl⟩
 |[v],X,h=>by unfold rM at h;split at h<;>simp_all
 |u::v::r,X,h=>by
  unfold rM at h;split at h;rename_i Q;cases Q;rename_i k H G Q;cases Q;cases N:rM r with
  |none=>rw[N] at h;cases h
  |some F=>
   rw[N] at h;simp only[eo,cS] at h;subst h;obtain⟨M,L⟩:=LD N;exact⟨by simp only[C.aK,C.ab,K.ab,DR,M,mH,aa1,eW],by simp[mH,L]⟩
  cases h
def akO{x:Int}:∀{ks:bw}{vs:ap}{m i:Nat},(oK [x] (gP m ((ks.zip vs).map λp=>(.int I p.1,p.2.ab O V))) i).map (·.2)=(eX x ks vs).map (C.ab O V)
 |[],vs,m,i=>by simp[gP,oK,eX]
 |_::_,[],m,i=>by simp[gP,oK,eX]
 |k::ks,v::vs,m,i=>by
  simp only[aa1,eW,gP,oK,yL,zT,and_true,eX];by_cases h:x=k;subst h;simp;rw[aP (λe=>h e.symm),aP h];exact akO
def F3{X:RE}{Q:Bool}:mh wY (C.dN O V [.aj X,.int I (.c (R:Int)),.bool (.c r),.bool (.c Q)])=qR ((X.rv O).ae.map (xk R r Q)):=by
 simp[mh,wY,vz,C.dN,C.iv,C.ab,K.ab,BE.ab]
def F4:mh vz (C.dN O V v)=qR (DR (C.aK O V v)):=by
 simp only[mh,cN,ako]
def ax8(R:aE g A D f V O s a W)(a3:jW P f)(hg:fO B O){ix:Operand}(ho:z.op=.lookup X n ix r)(hk:(s.ev B n).fk=E)(b2:(s.ev B ix).fk=E)
  (h:(cw f B s (.lookup X n ix r)).gives O M):(execOp a.eval z).run P W=.ok (.value (M.ab O V)) W:=by
 have he:=dw R hg n hk;have b3:=dw R hg ix b2;simp only[execOp,ho,dt,he,b3];simp only[cw] at h;split at h;rename_i k e Q ag ak q i ht hx;rw[hx];have hd:P.underlying X=U (.map k e):=(a3 _ _ ht).desc;have hK:vL P k Q ag:=(a3 _ _ ht).key k e Q ag rfl;unfold Ui at h;split at h;rename_i H F xb xc bt cs g1 g2 g3;have ac:=a3 _ _ g1;split at h;exact h.elim;rename_i a0;have a0:uh f k Q ag=true:=by simpa using a0
 obtain⟨b4,a4⟩:=ab1 (O:=O) (V:=V) g2;have al:=R.mem.box i bt cs g3;simp only[C.ab,b4];split at h;rename_i jr;simp only[du] at jr;subst jr;split at h;rename_i N nk ka va;split at h;rename_i bg;simp only[aA,du] at bg;obtain⟨⟨⟨⟨⟨c1,c2⟩,c3⟩,c4⟩,c5⟩,-⟩:=bg;subst c2 c3 c4;rw[F3] at al;have bk:=IQ R c1;have bl:∀b∈(N.rv O).ae,F2 Q b:=λb hr=>LB a0 g1 (bk b hr)
 obtain⟨L,hz,a9⟩:=akN O V hd hK ac al a4 (λp hp=>by
  obtain⟨b,hr,rfl⟩:=iL.1 hp;obtain⟨l,q1,q2,-⟩:=Pu hK.1 (bl b hr);exact⟨l,q1,q2⟩) r
 rw[a9];simp only[Uh,PR.gives] at h;subst h;have a1:H.d.isAgg=E->(rL N Q F xb xc Q H.ak).length=1:=λha=>by rw[UW];exact B8 ac ha
 rcases akM (m:=0) (i:=0) (va:=H.d.isAgg) hK.1 a4 bl with⟨f1,f2⟩|⟨b,j,f1,f2,f3⟩;have hv:(ug H.d.isAgg (rL N Q F xb xc Q H.ak)).ab O V=L:=by
  rw[DV a1,ab4 f1 c5];exact(ab5 ac hz).symm
 simp only[f2];cases r;simp only[jR,gD,hv];rfl;simp only[cN,C.ab,C.aK,hv,BE.ab,f1];rfl;obtain⟨kc,r1,r2,r3⟩:=LA (va:=H.d.isAgg) a0 g1;have bb:=bk b f2;have b5:Y b=Q+Y H.ak:=by rw[bb.len,r1,gU,r2]
 have br:∀(m:Nat)(ct:CT),H.ak[m]?=U ct->(bH f (.mr ⟨k,e,Q,_,H.d.isAgg⟩))[Q+m]?=U ct:=λm ct hm=>by
  rw[r1,jd aa,r2,show Q+m-Q=m from aa];exact hm
 have bs:∀(m:Nat)(ct:CT),H.ak[m]?=U ct->∃c,b[Q+m]?=U c:=λm ct hm=>by
  have:m<Y H.ak:=(cj.1 hm).1;exact⟨b[Q+m]' aa,cL _⟩
 have b6:=ab3 (V:=V) f1 (ak:=H.ak) (j:=Q) c5 b5 (λm kk hm=>by
  obtain⟨c,hc⟩:=bs m _ hm;obtain⟨x',bd⟩:=bb.int (Q+m) c kk hc (br m _ hm);exact⟨x',by rw[hc,bd]⟩) (λm hm=>by
  obtain⟨c,hc⟩:=bs m _ hm;obtain⟨x',bd⟩:=bb.bool (Q+m) c hc (br m _ hm);exact⟨x',by rw[hc,bd]⟩)
 have hv:(ug H.d.isAgg (rL N Q F xb xc Q H.ak)).ab O V=rT H.d.isAgg (b.drop Q):=by
  rw[DV a1,b6,rT];cases b7:H.d.isAgg;have h1:=B8 ac b7;obtain⟨c,hc⟩:=pj.1 (show(b.drop Q).length=1 from dh);rw[hc];rfl;rfl
 simp only[f3];cases r;simp only[jR,gD,hv];rfl;simp only[cN,C.ab,C.aK,hv,BE.ab,f1];rfl;exact h.elim;exact h.elim;split at h;rename_i jr;simp only[du] at jr;subst jr;split at h;rename_i bx;simp only[aA,du,iK] at bx;obtain⟨rfl,rfl⟩:=bx;rw[F4] at al;split at h;rename_i v0 y G;simp only[Uh,PR.gives] at h;subst h;unfold aj4 at G;split at G;rename_i ks b8;obtain⟨p1,p2⟩:=LD (O:=O) (V:=V) b8;rw[p1] at al;obtain⟨L,hz,a9⟩:=akN O V hd hK ac al a4 (λp hp=>by
  obtain⟨u,hu,rfl⟩:=iL.1 hp;exact⟨[u.1],rfl,rfl⟩) r
 rw[a9];have af:=akO (O:=O) (V:=V) (x:=F.ab O) (ks:=ks) (vs:=mH cs) (m:=0) (i:=0);have b0:(∀u,eX (F.ab O) ks (mH cs)=U u->v0.ab O V=u.ab O V/\y.ab O=J)/\(eX (F.ab O) ks (mH cs)=Z->v0.ab O V=L/\y.ab O=E):=by
  split at G;rename_i x0;simp only[K.ab] at*;split at G;rename_i u hu;cases G;exact⟨λu' an=>by rw[hu] at an;cases an;exact⟨rfl,rfl⟩,λhn=>by rw[hu] at hn;cases hn⟩;rename_i hu;cases G;refine⟨λu' an=>(by rw[hu] at an;cases an),λ_=>⟨?_,rfl⟩⟩;rw[DV (λha=>by simp[eA];exact B8 ac ha),akK];exact(ab5 ac hz).symm;rename_i cf;split at G;rename_i ca;cases bf:DB F ks ((mH cs).map C.cells) 0 H.ak with
  |none=>rw[bf] at G;cases G
  |some l=>
   rw[bf] at G;simp only[eo,cS,FH] at G;obtain⟨rfl,rfl⟩:=G;obtain⟨s0,s1,s2⟩:=UR (O:=O) (V:=V) bf;rw[UQ] at s1 s2;have a1:H.d.isAgg=E->Y l=1:=λha=>by rw[s0];exact B8 ac ha
   rw[DV a1,US p2];refine⟨λu hu=> ?_,λhu=> ?_⟩;have b1:=f9.1 ca u (Lx hu);have cc:Y u.cells=0+Y H.ak:=by
    simp only[BN,aA,du] at b1;omega
   rw[s1 u.cells (by rw[hu];rfl) cc,hu,UT (xo R) b1];exact⟨rfl,rfl⟩;rw[s2 (by rw[hu];rfl),hu];exact⟨(ab5 ac hz).symm,rfl⟩
  cases G
 have hL:[F.ab O,xb.ab O,xc.ab O].take 1=[F.ab O]:=rfl;rw[hL] at*;cases hp:eX (F.ab O) ks (mH cs) with
 |some u=>
  rw[hp] at af;obtain⟨q1,q2⟩:=b0.1 u hp;cases hf:oK [F.ab O] (gP 0 ((ks.zip (mH cs)).map λp=>(.int I p.1,p.2.ab O V))) 0 with
  |none=>rw[hf] at af;cases af
  |some jv=>
   obtain⟨j,w⟩:=jv;rw[hf] at af;simp only[eo,cS] at af;subst af;cases r;simp only[jR,gD,q1];rfl;simp only[cN,C.ab,C.aK,q1,q2];rfl
 |none=>
  rw[hp] at af;obtain⟨q1,q2⟩:=b0.2 hp;cases hf:oK [F.ab O] (gP 0 ((ks.zip (mH cs)).map λp=>(.int I p.1,p.2.ab O V))) 0 with
  |some jv=>rw[hf] at af;cases af
  |none=>
   cases r;simp only[jR,gD,q1];rfl;simp only[cN,C.ab,C.aK,q1,q2];rfl
 cases G;exact h.elim;exact h.elim;exact h.elim;exact h.elim;exact h.elim
end
section
variable{j:aq}{u:World}{D:cF}{P:Program}{g:Ty}{B:nD}{V:aq}{O:ai}{s:S}{a:Act}{W:World}
def akP(R:aE j u D g V O s a W)(G:jW P g)(N:fO B O)(o:Oper)(Q:∀x∈o.op.operands.toList,(s.ev B x).fk=E)
  (h:(cw g B s o.op).gives O M):(execOp a.eval o).run P W=.ok (.value (M.ab O V)) W:=by
 cases X:o.op with
 |move x=>
  rw[X] at h Q;have H:=dw R N x (Q x cQ);simp only[cw,PR.gives] at h;simp[execOp,X,H,h]
 |assign x=>
  rw[X] at h Q;have H:=dw R N x (Q x cQ);simp only[cw,PR.gives] at h;simp[execOp,X,H,h]
 |pick c x y=>
  rw[X] at h Q;have A:=dw R N c (Q c cQ);have L:=dw R N x (Q x cQ);have hy:=dw R N y (Q y cQ);simp only[cw] at h;split at h;rename_i al;cases h;rw[al] at A;simp[execOp,X,A,L,C.ab,BE.ab,asBool];rename_i al;cases h;rw[al] at A;simp[execOp,X,A,hy,C.ab,BE.ab,asBool];exact h.elim
 |load t x=>rw[X] at h Q;exact axS R G N X (Q x cQ) h
 |fieldAddr t x f=>rw[X] at h Q;exact axT R G N X (Q x cQ) h
 |field t x f=>rw[X] at h Q;exact axU R G N X (Q x cQ) h
 |indexAddr t x y=>rw[X] at h Q;exact axV R G N X (Q x cQ) (Q y cQ) h
 |index t x y=>rw[X] at h Q;exact axW R G N X (Q x cQ) (Q y cQ) h
 |binOp op t x y t2=>rw[X] at h Q;exact ax2 R G N X (Q x cQ) (Q y cQ) h
 |unOp op t x=>
  rw[X] at h Q;have H:=dw R N x (Q x cQ);simp only[cw] at h;split at h;rename_i b L;cases h;simp[execOp,X,H,L,C.ab,Op.unary,Pr];rename_i k e L;cases h;simp[execOp,X,H,L,C.ab,Op.unary,Op.intArith,Pq,ay,K.ab];exact h.elim
 |convert t1 t2 x=>
  rw[X] at h Q;have H:=dw R N x (Q x cQ);simp only[cw] at h;split at h;rename_i k1 q1 k2 q2 k n h1 h2 L;cases h;obtain⟨d1,af,-,an,-⟩:=(G _ _ h1).desc;obtain⟨d2,ag,-,a0,-⟩:=(G _ _ h2).desc;rw[an _ rfl] at af;rw[a0 _ rfl] at ag;simp[execOp,X,H,L,C.ab,convert,fu.iS af,fu.iS ag,Conv.intToInt,K.ab];rename_i k1 q1 k2 q2 k n hn h1 h2 L;cases h;obtain⟨d1,af,-,an,-⟩:=(G _ _ h1).desc;obtain⟨d2,ag,-,a0,-⟩:=(G _ _ h2).desc;rw[an _ rfl] at af;rw[a0 _ rfl] at ag;simp[execOp,X,H,L,C.ab,convert,fu.iS af,fu.iS ag,Conv.intToInt,K.ab];exact h.elim
 |makeInterface t x=>
  rw[X] at h Q;have H:=dw R N x (Q x cQ);simp only[cw] at h;split at h;exact h.elim;rename_i ti a4 ht;cases h;have hd:=(G _ _ ht).desc;have ac:∀d,P.underlying t=U d->(∀m,d≠ .interface m)->(Instr.makeInterface t (a.eval x)).run P W=.ok (.iface t (a.eval x)) W:=by
   intro d h1 h2;simp only[Instr.makeInterface,dt,fu.iS h1,dq];cases d<;>first|rfl|exact aG rfl (h2 _)
  have:(Instr.makeInterface t (a.eval x)).run P W=.ok (.iface t (a.eval x)) W:=by
   obtain⟨d,ak,q⟩:=ti;cases d with
   |one=>obtain⟨d,h1,⟨h2,-⟩,-⟩:=hd;exact ac d h1 (λm z=>by rw[z] at h2;exact h2)
   |gF=>exact aG rfl (a4 _ _)
   |str=>exact ac _ hd (λm z=>by cases z)
   |slice e=>exact ac _ hd (λm z=>by cases z)
   |arr n e=>exact ac _ hd (λm z=>by cases z)
   |struct fs=>obtain⟨F,h1,-⟩:=hd;exact ac _ h1 (λm z=>by cases z)
   |map k e=>exact ac _ hd (λm z=>by cases z)
  rw[H] at this;simp[execOp,X,H,this,C.ab];exact h.elim
 |makeFunc fn first a3=>
  rw[X] at h Q;simp only[cw] at h;split at h;rename_i f hf;cases h;have a9:first= #[]:=by apply oD;simpa using hf
  subst a9;have bb:a3.map a.eval=(C.aK O V (a3.toList.map (s.ev B))).toArray:=by
   apply oD;simp only[yr,qe,pn];exact kJ λx L=>dw R N x (Q x (by simp[iY];simpa using L))
  simp[execOp,X,Instr.makeFunc,C.ab,bb];exact h.elim
 |extract x i=>
  rw[X] at h Q;have H:=dw R N x (Q x cQ);simp only[cw] at h;split at h;rename_i l L;split at h;rename_i y hy;simp only[PR.gives] at h;subst h;have:(C.aK O V l).toArray[i]?=U (M.ab O V):=by simp[ur,hy]
  simp[execOp,X,H,L,C.ab,Instr.extract,this,-aw0];exact h.elim;exact h.elim
 |nilCheck x=>
  rw[X] at h Q;have H:=dw R N x (Q x cQ);simp only[cw] at h;split at h;rename_i i bd L;cases h;simp[execOp,X,H,L,C.ab];rename_i r w i bd L;cases h;simp[execOp,X,H,L,C.ab];rename_i f l L;cases h;simp[execOp,X,H,L,C.ab];exact h.elim
 |slice t x lo hi mx=>
  rw[X] at h Q;exact ax5 R G N X (Q x cQ) (λy hy=>Q y (by subst hy;simp[iY])) h
 |build t parts=>
  rw[X] at h Q;exact ax4 R G N X (λp hp=>Q p.2 (by simp[iY];exact⟨p.1,by simpa using hp⟩)) h
 |lookup t x ix ok=>
  rw[X] at h Q;exact ax8 R G N X (Q x cQ) (Q ix cQ) h
 |call c=>
  rw[X] at h Q;have a1:∀x∈c.args.toList,(s.ev B x).fk=false:=λx L=>Q x (by simp[iY,BH];exact .inr (by simpa using L))
  cases A:c.callee with
  |builtin b=>
   cases b with
   |len=>exact ax6 R G N X A a1 h
   |min=>exact akL R N X (.inl A) a1 h
   |max=>exact akL R N X (.inr A) a1 h
   |_=>simp only[cw,A,PR.gives] at h
  |value f=>simp only[cw,A,PR.gives] at h
  |invoke r m=>simp only[cw,A,PR.gives] at h
 |_=>rw[X] at h;simp only[cw,PR.gives] at h
end
section
variable{p:aq}{q:World}{D:cF}{P:Program}{f:Ty}{B:nD}{V:aq}{O:ai}{s:S}{a:Act}{W:World}
def B9{o:Obj}(h:N.heap[R]?=U o):R<N.heap.size:=(pi.1 h).1
def eU.world{X:vy}{R:B7}{W':World}(h:eU q D X x R N)(Q:∀(b:Nat)(o:Obj),N.heap[b]?=U o->(∀L t H,o≠ .cells L t H)->W'.heap[b]?=U o):eU q D X x R W':=
 ⟨h.len,h.ut,λn l r G F B=>let⟨a,b,c⟩:=h.eO n l r G F B;⟨a,Q _ _ b (λ_ _ _ h=>by cases h),c⟩,h.inj,let⟨A,a,z,b,c⟩:=h.oa;⟨A,a,z,b,λd M=>⟨Q _ _ (c d M).1 (λ_ _ _ h=>by cases h),(c d M).2⟩⟩⟩
def LF:Obj->Bool
 |.loop _|.deferred _=>J
 |_=>E
def akQ{o:Obj}(h:LF o=J):∀X t R,o≠ .cells X t R:=λX t R e=>by subst e;cases h
def akR{o:Obj}(h:LF o=J):∀t l,o≠mh t l:=by
 intro t l e;subst e;unfold mh at h;split at h;cases h;split at h;split at h<;>cases h;split at h;split at h<;>cases h;cases h
def eU.ax9{X:vy}{R:B7}{Q:World}(h:eU q D X x R N)(M:∀(b:Nat)(o:Obj),N.heap[b]?=U o->LF o=J->Q.heap[b]?=U o):eU q D X x R Q:=
 ⟨h.len,h.ut,λn l r H G F=>let⟨a,b,c⟩:=h.eO n l r H G F;⟨a,M _ _ b rfl,c⟩,h.inj,let⟨B,a,A,b,c⟩:=h.oa;⟨B,a,A,b,λd L=>⟨M _ _ (c d L).1 rfl,(c d L).2⟩⟩⟩
def eU.below{X:vy}{R:B7}{Q:World}(h:eU q D X x R N)(L:Below N.heap.size N Q):eU q D X x R Q:=
 h.world λb o M _=>(L.block b (B9 M)).trans M
def eU.cells{M:vy}{L:B7}{H:World}(h:eU q D M x L N){G:mG}{F:Nat×Nat}(B:N.heap[R]?=U (.cells G X F))(A:∀b,b≠R->b<N.heap.size->H.heap[b]?=N.heap[b]?):eU q D M x L H:=
 h.world λb o Q z=>(A b (λe=>by subst e;rw[B] at Q;cases Q;exact z _ _ _ rfl) (B9 Q)).trans Q
def bI.LG{G:World}(h:bI N f y F)(B:∀b,ee f y F b->G.heap[b]?=N.heap[b]?)(hs:N.heap.size<=G.heap.size):bI G f y F:=by
 induction h with
 |sl e A R p Q x w u g d ho t=>
  refine bI.sl e A R p Q x w (λi M X=> ?_) g d (λi j M c z o X L n=>t i j M c z o X L n (λb r=>B b (ee.deep e _ _ i j M c z o b X L n r)));obtain⟨q1,b,m,rfl,⟨lg,t0,ac,q2⟩,q3⟩:=u i M X;have af:0<R:=by have:=(cj.1 X).1;omega
  obtain⟨q,rfl⟩:∃q,R=q+1:=⟨R-1,aa⟩;have H:=B b (ee.here e ⟨b,m,Z⟩ q p Q);refine⟨q1,b,m,rfl,⟨lg,t0,ac,H.trans q2⟩,λj c L=> ?_⟩;have l:=q3 j c L;simp only[oC,H] at l⊢;exact l
 |str s=>exact bI.str s
 |aS v hv=>exact bI.aS v hv
 |own e F h hn t=>exact bI.own e F (t λb r=>B b (ee.own e F b r)) hn
 |am F h=>exact bI.am F h
 |mr sh Q x w u H=>exact bI.mr sh Q x w u H
def bI.lt(h:bI N f y F)(X:ee f y F R):R<N.heap.size:=by
 induction h generalizing R with
 |sl e A q p Q o n L m g d M=>
  cases X with
  |here e a l c Q=>
   have H:0<Y Q:=aa;obtain⟨-,R,ac,G,⟨_,_,_,B⟩,-⟩:=L 0 _ (cL H);cases G;exact B9 B
  |deep e v Q i j x c z y R w u t r=>exact M i j x c z y w u t r
 |str s=>cases X
 |aS v hv=>cases X
 |own e F h hn M=>cases X with
  |own e F R X=>exact M X
 |am F h=>cases X
 |mr sh Q=>cases X
def bI.grow{H:World}(h:bI N f y F)(x:Below N.heap.size N H):bI H f y F:=by
 induction h with
 |sl e A w u X R Q M t r ho L=>
  refine bI.sl e A w u X R Q (λi q p=> ?_) t r L;obtain⟨o,b,n,rfl,⟨lg,m,l,G⟩,g⟩:=M i q p;have B:=x.block b (B9 G);refine⟨o,b,n,rfl,⟨lg,m,l,B.trans G⟩,λj c d=> ?_⟩;have z:=g j c d;simp only[oC,B] at z⊢;exact z
 |str s=>exact bI.str s
 |aS v hv=>exact bI.aS v hv
 |own e F h hn L=>exact bI.own e F L hn
 |am F h=>exact bI.am F h
 |mr sh X R Q M h4=>exact bI.mr sh X R Q M h4
def ld.lt{Q:bz}(X:ld p q V O w f Q W)(h:aW w R=J):ad V R<W.heap.size:=by
 unfold aW at h;obtain⟨⟨t,N⟩,M⟩:=lB.1 h;exact(pi.1 (X.box R t N M)).1
def ld.below{Q:bz}(R:ld p q V O w f Q W)(X:Below W.heap.size W N):ld p q V O w f Q N:=by
 refine⟨R.base.call X,R.own,R.inj,λi t M h=> ?_,λk e L H G=> ?_⟩;rw[X.block _ (R.lt (by simp[aW,h]))];exact R.box i t M h;obtain⟨F,B⟩:=R.aj k e L H G;exact⟨F.grow X,B⟩
def Ae.lt{N:bz}(h:Ae p q V O w f N W R X F Q):Q<W.heap.size:=by
 obtain⟨L,H,G,-,M,-⟩:=h.mem;exact(pi.1 M).1
def Ae.world{N:bz}{W':World}(h:Ae p q V O w f N W R X F Q)(M:W'.heap[Q]?=W.heap[Q]?):Ae p q V O w f N W' R X F Q:=by
 obtain⟨L,H,G,B,A,z⟩:=h.mem;exact⟨h.own,⟨L,H,G,B,M.trans A,z⟩,h.box,h.alone,h.inner⟩
def aE.below{Q:World}(R:aE p q D f V O s a W)(X:Below W.heap.size W Q):aE p q D f V O s a Q:=
 ⟨R.mem.below X,R.gX,R.ei,R.eb,R.er,R.dO.below X,R.size,R.tmps,λk e N b M L H=>let t:=R.gH k e N b M L H;t.world (X.block b t.lt)⟩
def aE.put(R:aE p q D f V O s a W)(X:cH)(v:C):aE p q D f V O (s.put X v) (a.put X (v.ab O V)) W:=by
 cases X with
 |none=>exact R
 |some d=>
  refine⟨R.mem,R.gX,R.ei,R.eb,R.er,R.dO,by simp[S.put,wZ,Act.put,R.size],λt M h=> ?_,R.gH⟩;simp only[S.put,wZ,wU] at h;simp only[Act.put];split at h;rename_i Q;subst Q;split at h;rename_i L;cases h;right;have:d<a.tmps.size:=by rw[R.size];exact L
  simp[this];cases h;rename_i Q;rcases R.tmps t M h with N|N;exact .inl N;right;rw[ajE Q];exact N
def aE.Ag(R:aE p q D f V O s a W)(X:s.bd=J):C.ec (Y O.i) (Y O.b) (Y O.r) (aW s.ao) s.tmps=J/\C.rO (Y O.i) (Y O.b) (Y O.r) (aW s.ao) s.ao=true:=by
 simp only[S.bd,aA] at X;rw[R.ei,R.eb,R.er];exact X
structure oe(bx:bK)(O O':ai)(V V':aq):Prop where
 agree:jB O O' (Y O.i) (Y O.b) (Y O.r)
 li:Y O.i<=Y O'.i
 lb:Y O.b<=Y O'.b
 lr:Y O.r<=Y O'.r
 ad:∀k,aW bx k=J->ad V' k=ad V k
def oe.refl(X:bK)(O:ai)(V:aq):oe X O O V V:=⟨jB.refl _ _ _ _,cg _,cg _,cg _,λ_ _=>rfl⟩
def oe.trans{X R:bK}{O Q N:ai}{V M L:aq}(h:oe X O Q V M)(k:oe R Q N M L)(G:∀i,aW X i=J->aW R i=J):oe X O N V L:=
 ⟨h.agree.trans (k.agree.mono h.li h.lb h.lr),qL h.li k.li,qL h.lb k.lb,qL h.lr k.lr,λj H=>(k.ad j (G j H)).trans (h.ad j H)⟩
def aya(O:ai)(x:XV):Y O.i<=(O.add x).i.length/\Y O.b<=(O.add x).b.length/\Y O.r<=(O.add x).r.length:=by cases x<;>simp[ai.add]
def UX:∀(X:bn)(O:ai),Y O.i<=(O.ext X).i.length/\Y O.b<=(O.ext X).b.length/\Y O.r<=(O.ext X).r.length
 |[],O=>by simp[ai.ext]
 |x::X,O=>by
  have R:=aya O x;have Q:=UX X (O.add x);simp only[ai.ext];omega
def DW(R:bK)(O:ai)(X:bn)(V:aq):oe R O (O.ext X) V V:=by
 have h:=UX X O;exact⟨F0 X O,h.1,h.2.1,h.2.2,λ_ _=>rfl⟩
def oe.ab{X:ai}{R:aq}(h:oe w k X x R)(Q:M.bd (Y k.i) (Y k.b) (Y k.r) (aW w)=J):M.ab X R=M.ab k x:=C.ep h.agree h.ad M Q
def oe.aK{X:ai}{R:aq}(h:oe w k X x R)(Q:C.ec (Y k.i) (Y k.b) (Y k.r) (aW w) v=J):C.aK X R v=C.aK k x v:=C.Lu h.agree h.ad v Q
def oe.dN{X:ai}{R:aq}(h:oe w k X x R)(Q:C.ec (Y k.i) (Y k.b) (Y k.r) (aW w) v=J):C.dN X R v=C.dN k x v:=Pp h.agree h.ad v Q
def fO.ext{R:ai}{M:aq}(h:fO B k)(Q:oe w k R x M):fO B R:=by
 intro X L;obtain⟨N,H⟩:=h X L;exact⟨aa0 N Q.lr,by rw[Q.agree.r _ N];exact H⟩
def DX{V:aq}{n x k:Nat}(h:k≠n):ad (V.set n x) k=ad V k:=by simp[ad,sI (Ne.symm h)]
def DY(h:R<Y x):ad (x.set R Q) R=Q:=by simp[ad,h]
def ux(h:qP w R X=J):gG w R=true:=by simp only[qP,aA] at h;exact h.1
def LH(h:qP w R X=J):rJ X=false:=by simp only[qP,aA,iK] at h;exact h.2
def nM(h:gG w R=J):aW w R=E/\R<Y w:=by
 unfold gG at h;split at h;rename_i X;exact⟨by simp[aW,dC,X],(cj.1 X).1⟩;cases h
def akS(h:gG w R=J)(O:ai)(V:aq)(x:Nat):oe w O O V (V.set R x):=
 ⟨jB.refl _ _ _ _,cg _,cg _,cg _,λk X=>DX (λe=>by subst e;rw[(nM h).1] at X;cases X)⟩
def Ah{x:Option (TypeId×ap)}(h:Q≠R):cJ (w.set R x) Q=cJ w Q:=by simp[dC,sI (Ne.symm h)]
def IR{x:TypeId×ap}(h:R<Y w):cJ (w.set R (U x)) R=U x:=by simp[dC,h]
def qh{x:TypeId×ap}(h:R<Y w):aW (w.set R (U x)) Q=J<->Q=R\/aW w Q=true:=by
 by_cases X:Q=R;subst X;simp[aW,IR h];simp[aW,Ah X,X]
def aE.alloc(R:aE p q D f V O s a W){n:Nat}(v:gG s.ao n=J)(t:TypeId)(F:ap)(G:s.fz F=J):
  aE p q D f (V.set n W.heap.size) O (s.dl n t F) a (W.alloc (mh t (C.dN O V F))):=by
 simp only[S.fz,aA] at G;obtain⟨B,G⟩:=G;obtain⟨r,o⟩:=R.Ag B;rw[<-R.ei,<-R.eb,<-R.er] at G;obtain⟨m,M⟩:=nM v;have y:=akS v O V W.heap.size;have A:Below W.heap.size W (W.alloc (mh t (C.dN O V F))):=(Below.refl _ _).alloc (cg _) _;have H:n<Y V:=by rw[R.gX];exact M
 have L:∀i,aW s.ao i=J->i≠n:=λi Q e=>by subst e;rw[m] at Q;cases Q
 refine⟨⟨R.mem.base.alloc _, ?_, ?_, ?_, ?_⟩,by simp[S.dl,R.gX],R.ei,R.eb,R.er,R.dO.below A,R.size, ?_,λk e x b X N z=> ?_⟩;intro i Q;rcases(qh M).1 Q with rfl|h;rw[DY H];exact .inl R.mem.base.size;rw[DX (L i h)];exact R.mem.own i h;intro i j Q u h;rcases(qh M).1 Q with rfl|X;rcases(qh M).1 u with rfl|N;rfl;rw[DY H,DX (L j N)] at h;have:=R.mem.lt N;omega;rcases(qh M).1 u with rfl|N;rw[DY H,DX (L i X)] at h;have:=R.mem.lt X;omega;rw[DX (L i X),DX (L j N)] at h;exact R.mem.inj i j X N h;intro i w l h;by_cases X:i=n;subst X;rw[S.dl,IR M] at h;simp only[cS,FH] at h;obtain⟨rfl,rfl⟩:=h;rw[DY H,y.dN G];exact TZ W _;rw[S.dl,Ah X] at h;rw[DX X,A.block _ (R.mem.lt (by simp[aW,h])),y.dN (uv o h)];exact R.mem.box i w l h;intro k e x X N;obtain⟨z,g⟩:=R.mem.aj k e x X N;refine⟨z.grow A,λb B i Q=> ?_⟩;rcases(qh M).1 Q with rfl|h;rw[DY H];have:=z.lt B;omega;rw[DX (L i h)];exact g b B i h;intro w d h;rcases R.tmps w d h with X|X;exact .inl X;right;rw[y.ab (xl r h)];exact X;have t:=R.gH k e x b X N z;obtain⟨c,ac,af,q1,q2,q3⟩:=t.mem;refine⟨t.own,⟨c,ac,af,q1,(A.block b t.lt).trans q2,q3⟩,λi Q=> ?_,t.alone,t.inner⟩;rcases(qh M).1 Q with rfl|h;rw[DY H];have:=t.lt;omega;rw[DX (L i h)];exact t.box i h
def Ai(l:gE)(X:Nat):gE->gE
 |[]=>l
 |v::r=>Ai (l.set X v) (X+1) r
def ab6:∀(R l:gE)(X:Nat),(Ai l X R).length=Y l
 |[],l,X=>rfl
 |v::R,l,X=>by rw[Ai,ab6];simp
def akT:∀(X l:ap)(R:Nat),C.aK O V (lW l R X)=Ai (C.aK O V l) R (C.aK O V X)
 |[],l,R=>rfl
 |v::X,l,R=>by
  rw[lW,akT X,C.aK,Ai];congr 1;simp[qe]
def akU{v:Value}(h:jT v=J):v.oneCell'=true:=by cases v<;>simp_all[jT,Value.oneCell']
def ab7(b X:Nat)(t:TypeId):∀(N:gE)(i:Nat)(R:mG)(W:World),W.heap[b]?=U (.cells R t (0,0))->X+i+Y N<=R.size->(∀v∈N,jT v=J)->
  ∃Q,(storeCells ⟨b,X,Z⟩ N i).run P W=.ok () Q/\Q.heap[b]?=U (.cells (Ai R.toList (X+i) N).toArray t (0,0))/\(∀k,k≠b->Q.heap[k]?=W.heap[k]?)/\Q.heap.size=W.heap.size/\Q.os=W.os/\Q.tape=W.tape/\Q.output=W.output
 |[],i,R,W,M,_,_=>⟨W,rfl,by simpa[Ai] using M,λ_ _=>rfl,rfl,rfl,rfl,rfl⟩
 |v::N,i,R,W,M,G,L=>by
  simp only[qI] at G;have F:X+i<R.size:=aa;have B:W.cell? ⟨b,X+i,Z⟩=U R[X+i]:=by simp[oC,M,F]
  have A:W.frozen? ⟨b,X+i,Z⟩=false:=by simp[abc,M]
  have z:(store ((⟨b,X,Z⟩:Addr).add i) v).run P W=.ok () (W.setCell ⟨b,X+i,Z⟩ v):=by
   rw[yM,run_store P W _ v _ (akU (L v aw)),B];simp[A]
  have y:(W.setCell ⟨b,X+i,Z⟩ v).heap[b]?=U (.cells (R.setIfInBounds (X+i) v) t (0,0)):=by
   simp[abb,TY,M]
  obtain⟨Q,w,u,r,q,p,o,n⟩:=ab7 b X t N (i+1) (R.setIfInBounds (X+i) v) (W.setCell ⟨b,X+i,Z⟩ v) y dh (λx m=>L x (by simp[m]));refine⟨Q,by simp only[storeCells,dt,z,dq,w], ?_,λk H=>(r k H).trans (Below.heap_setCell _ _ _ _ H),q.trans (by simp[abb]),p,o,n⟩;rw[u,Ai];simp[H8]
def akV(R:aE p q D f V O s a W):∀{l:ap},FN l=J->∀v∈C.aK O V l,jT v=J
 |[],_,v,X=>by simp[C.aK] at X
 |x::N,h,v,X=>by
  simp only[Ue,aA] at h;simp only[C.aK,dS] at X;rcases X with rfl|X;have Q:=h.1;cases x<;>simp[C.single] at Q<;>try rfl
  rename_i r;exact xo R r (by cases r<;>simp_all[RE.If]);simp only[C.ab];exact abQ _ _ _;exact akV R h.2 v X
def aE.store(Q:aE p q D f V O s a W){H:TypeId}(l:fu P X t){off:Nat}{G:ap}{v:C}(M:cJ s.ao R=U (H,G))(jr:rJ H=E)(g:Y v.cells=Y t.ak)(ho:off+Y v.cells<=Y G)(d:FN v.cells=J)(r:(v.ab O V).cells.toList=C.aK O V v.cells):
  ∃F,(Instr.storeAt X (.pointer (U ⟨ad V R,off,Z⟩)) (v.ab O V)).run P W=.ok () F/\aE p q D f V O (s.dl R H (lW G off v.cells)) a F:=by
 have y:=Q.mem.box R H G M;rw[uw jr] at y;obtain⟨F,c,h2,B,h4,h5,h6,h7⟩:=ab7 (P:=P) (ad V R) off H (C.aK O V v.cells) 0 _ W y dh (akV Q d);have ac:(v.ab O V).cells.size=Y t.ak:=by rw[<-FA,r];simp[g]
 have o:R<Y s.ao:=(cj.1 (kA.1 M)).1;have A:aW s.ao R=true:=by simp[aW,M]
 have z:∀j,aW (s.ao.set R (U (H,lW G off v.cells))) j=J->aW s.ao j=true:=λj N=>by
  rcases(qh o).1 N with rfl|h;exact A;exact h
 refine⟨F, ?_,⟨⟨?_,λj N=>Q.mem.own j (z j N),λj k N x=>Q.mem.inj j k (z j N) (z k x), ?_, ?_⟩,by simpa[S.dl] using Q.gX,Q.ei,Q.eb,Q.er,Q.dO.cells y (λb M _=>B b M),Q.size,Q.tmps,λk e w b q1 q2 q3=> ?_⟩⟩;simp only[Instr.storeAt,Instr.sureAddr,storeVar,dt,fF,dq,l.od,ac,r,ne_eq,not_true_eq_false,gD,c];refine⟨h5.trans Q.mem.base.os,h6.trans Q.mem.base.tape,h7.trans Q.mem.base.output,by rw[h4];exact Q.mem.base.size,λk x n=> ?_⟩;have af:k≠ad V R:=by
  rintro rfl;rcases Q.mem.own R A with h|h;omega;exact n h
 rw[B k af];exact Q.mem.base.block k x n;intro j L ag N;by_cases u:j=R;subst u;rw[S.dl,IR o] at N;simp only[cS,FH] at N;obtain⟨rfl,rfl⟩:=N;rw[h2,uw jr,akT];simp;rw[S.dl,Ah u] at N;rw[B _ (λh=>u (Q.mem.inj j R (by simp[aW,N]) A h))];exact Q.mem.box j L ag N;intro k e w al an;obtain⟨a0,m⟩:=Q.mem.aj k e w al an;exact⟨a0.LG (λb M=>B b (λh=>m b M R A h.symm)) aa,λb M j N=>m b M j (z j N)⟩;have X:=Q.gH k e w b q1 q2 q3;have L:=X.world (W':=F) (B b (λh=>X.box R A h.symm));exact⟨L.own,L.mem,λj N=>L.box j (z j N),L.alone,L.inner⟩
end
def LI(X:aq):∀(l:bz)(n i:Nat),(jU X n l)[i]?=(l[i]?).map λx=>if X.contains (n+i) then .am else x
 |[],n,i=>by simp[jU]
 |x::R,n,0=>by simp[jU]
 |x::R,n,i+1=>by
  simp only[jU,ud];rw[LI X R (n+1) i,show n+1+i=n+(i+1) from aa]
def LJ(X:aq):∀(l:bz)(n i:Nat),(kL X n l)[i]?=(l[i]?).map (zY (X.contains (n+i)))
 |[],n,i=>by simp[kL]
 |x::R,n,0=>by simp[kL]
 |x::R,n,i+1=>by
  simp only[kL,ud];rw[LJ X R (n+1) i,show n+1+i=n+(i+1) from aa]
def ab8(X:aq):∀(l:bz)(n i:Nat),(DD X n l)[i]?=(l[i]?).map (OV (X.contains (n+i)))
 |[],n,i=>by simp[DD]
 |x::R,n,0=>by simp[DD]
 |x::R,n,i+1=>by
  simp only[DD,ud];rw[ab8 X R (n+1) i,show n+1+i=n+(i+1) from aa]
def Ca(X:aq):∀(l:bz)(n:Nat),(jU X n l).length=Y l
 |[],n=>rfl
 |x::R,n=>by simp[jU,Ca X R (n+1)]
def Cb(X:aq):∀(l:bz)(n:Nat),(kL X n l).length=Y l
 |[],n=>rfl
 |x::R,n=>by simp[kL,Cb X R (n+1)]
def akW(X:aq):∀(l:bz)(n:Nat),(DD X n l).length=Y l
 |[],n=>rfl
 |x::R,n=>by simp[DD,akW X R (n+1)]
def rV(e X:RK):Prop:=X=e\/X=.am\/∃t,e=.own t/\X=.sl t
structure qT(rs rs':bz):Prop where
 len:Y rs'=Y rs
 get:∀(k:Nat)(e':RK),rs'[k]?=U e'->∃e,rs[k]?=U e/\rV e e'
def qT.refl(X:bz):qT X X:=⟨rfl,λk e h=>⟨e,h,.inl rfl⟩⟩
def rV.trans{b c:RK}(h:rV y b)(k:rV b c):rV y c:=by
 rcases k with rfl|rfl|⟨t,rfl,rfl⟩;exact h;exact .inr (.inl rfl);rcases h with h|h|⟨R,Q,X⟩;exact .inr (.inr ⟨t,h.symm,rfl⟩);cases h;cases X
def qT.trans{a b c:bz}(h:qT a b)(k:qT b c):qT a c:=
 ⟨k.len.trans h.len,λi e X=>let⟨R,Q,N⟩:=k.get i e X;let⟨M,L,H⟩:=h.get i R Q;⟨M,L,H.trans N⟩⟩
def ayb(b:Bool)(e:RK):rV e (zY b e):=by
 cases e<;>simp only[zY]
 case own t=>cases b;exact .inl rfl;exact .inr (.inr ⟨t,rfl,rfl⟩)
 all_goals exact .inl rfl
def akX(b:Bool)(e:RK):rV e (OV b e):=by
 cases e<;>simp only[OV]
 case own t=>cases b;exact .inr (.inl rfl);exact .inr (.inr ⟨t,rfl,rfl⟩)
 all_goals exact .inl rfl
def Pv(Q:aq)(X:bz):qT X (kL Q 0 X):=by
 refine⟨Cb _ _ _,λk N h=> ?_⟩;rw[LJ] at h;cases R:X[k]? with
 |none=>rw[R] at h;cases h
 |some e=>rw[R] at h;simp only[eo,cS] at h;exact⟨e,rfl,h▸ayb _ e⟩
def akY(Q:aq)(X:bz):qT X (DD Q 0 X):=by
 refine⟨akW _ _ _,λk N h=> ?_⟩;rw[ab8] at h;cases R:X[k]? with
 |none=>rw[R] at h;cases h
 |some e=>rw[R] at h;simp only[eo,cS] at h;exact⟨e,rfl,h▸akX _ e⟩
def bI.nN{X:RK}(h:bI N l y F)(w:rV y X):bI N l X F:=by
 rcases w with rfl|rfl|⟨t,rfl,rfl⟩;exact h;exact bI.am F (Ly h);exact akz h
def ee.nN{X:RK}(w:rV y X)(h:ee l X F R):ee l y F R:=by
 rcases w with rfl|rfl|⟨t,rfl,rfl⟩;exact h;cases h;exact ee.own _ _ _ h
def Ad.nN{d:Ty}{e R:RK}{Q:RV}{b:Nat}(w:rV e R)(h:Ad d R Q b):Ad d e Q b:=by
 rcases h with h|⟨⟨t,rfl⟩,h⟩;exact .inl (h.nN w);rcases w with rfl|X|⟨N,_,X⟩;exact .inr ⟨⟨t,rfl⟩,h⟩;cases X;cases X
def rV.own(w:rV y (.own X)):y=.own X:=by
 rcases w with h|h|⟨R,_,h⟩;exact h.symm;cases h;cases h
section
variable{p:aq}{q:World}{D:cF}{P:Program}{d:Ty}{B:nD}{V:aq}{O:ai}{s:S}{a:Act}{W:World}
def ld.nN{X:bK}{Q N:bz}(R:ld p q V O X d Q W)(h:qT Q N):ld p q V O X d N W:=
 ⟨R.base,R.own,R.inj,R.box,λk e M B L=>let⟨H,G,F⟩:=h.get k e B;⟨(R.aj k H M G L).1.nN F,λb A i z=>(R.aj k H M G L).2 b (A.nN F) i z⟩⟩
def aE.nN(R:aE p q D d V O s a W){X:bz}(h:qT s.rs X):aE p q D d V O {s with rs:=X} a W:=by
 refine⟨R.mem.nN h,R.gX,R.ei,R.eb,R.er.trans h.len.symm,R.dO,R.size,R.tmps,λk e N b M L H=> ?_⟩;obtain⟨o,G,F⟩:=h.get k _ M;have:=F.own;subst this;have t:=R.gH k e N b G L H;exact⟨t.own,t.mem,t.box,λQ B A z y x w=>let⟨v,u,r⟩:=h.get Q B y;t.alone Q v A z u x (w.nN r),t.inner⟩
def aE.ez(Q:aE p q D d V O s a W)(g:s.rs[R]?=U (.own X))(hr:O.r[R]?=U F)(B:W.grownBy N F.lE):
  aE p q D d V O {s with rs:=jU [R] 0 s.rs} a N:=by
 have m:∀M H,(jU [R] 0 s.rs)[M]?=U H->(M=R/\H=.am)\/(M≠R/\s.rs[M]?=U H):=by
  intro M H h;rw[LI] at h;cases f:s.rs[M]? with
  |none=>rw[f] at h;cases h
  |some x=>
   rw[f] at h;simp only[jz,eo,cS] at h;by_cases G:M=R;subst G;left;simp at h;exact⟨rfl,h.symm⟩;right;simp[G] at h;exact⟨G,by rw[h]⟩
 have y:∀b,F.lE=U b->Ae p q V O s.ao d s.rs W R X F b:=λb L=>Q.gH R X F b g hr L
 have ag:iu p q N:=Q.mem.base.grown B (λb L=>((y b L).own).symm);refine⟨⟨ag,Q.mem.own,Q.mem.inj,λi t cs h=> ?_,λM H A l z=> ?_⟩,Q.gX,Q.ei,Q.eb,by simp[Ca];exact Q.er, ?_,Q.size,Q.tmps,λM H A b l z w=> ?_⟩;rw[B.block _ (Q.mem.lt (by simp[aW,h])) (λL=>(y _ L.symm).box i (by simp[aW,h]) rfl)];exact Q.mem.box i t cs h;rcases m M H l with⟨rfl,rfl⟩|⟨v,u⟩;refine⟨bI.am _ ?_,λb L=>by cases L⟩;exact Ly (Q.mem.aj M _ A g z).1;obtain⟨w,h4⟩:=Q.mem.aj M H A u z;exact⟨w.LG (λb L=>B.block b (w.lt L) (λG=>(y b G.symm).alone M H A v u z (.inl L))) B.size,h4⟩;cases L:F.lE with
 |none=>exact Q.dO.world λb o h _=>(B.block b (B9 h) (by rw[L];simp)).trans h
 |some b0=>
  obtain⟨c,ac,af,q1,j,q3⟩:=(y b0 L).mem;exact Q.dO.cells j (λb v al=>B.block b al (λX=>v (by rw[L] at X;cases X;rfl)))
 rcases m M _ l with⟨-,G⟩|⟨v,u⟩;cases G;have t:=Q.gH M H A b u z w;have hw:N.heap[b]?=W.heap[b]?:=B.block b t.lt (λG=>(y b G.symm).alone M _ A v u z (.inr ⟨⟨H,rfl⟩,w⟩));obtain⟨c,ac,af,q1,j,q3⟩:=t.mem;refine⟨t.own,⟨c,ac,af,q1,hw.trans j,q3⟩,t.box,λk2 e2 an g1 g2 g3 n=> ?_,t.inner⟩;rcases m k2 e2 g2 with⟨rfl,rfl⟩|⟨_,a0⟩;rcases n with n|⟨⟨t',a1⟩,_⟩;cases n;cases a1;exact t.alone k2 e2 an g1 a0 g3 n
def aE.grown(R:aE p q D d V O s a W)(X:W.grownBy N Z):aE p q D d V O s a N:=
 R.below ⟨X.os,X.tape,X.output,X.size,λk Q=>X.block k Q aw⟩
def sT(X:bK)(O:ai)(x:XV)(V:aq):oe X O (O.add x) V V:=by
 have h:=DW X O [x] V;exact h
def IS{v:RV}(h:(O.add (.r F)).r[R]?=U v):(R<Y O.r/\O.r[R]?=U v)\/(R=Y O.r/\v=F):=by
 simp only[ai.add] at h;by_cases X:R<Y O.r;rw[dZ X] at h;exact .inl ⟨X,h⟩;have:R=Y O.r:=by have:=(cj.1 h).1;simp at this;omega
 subst this;simp at h;exact .inr ⟨rfl,h.symm⟩
structure ayc(p:aq)(q:World)(V:aq)(O:ai)(bx:bK)(d:Ty)(rs:bz)(W:World)(e:TypeId)(rv:RV)(b:Nat):Prop where
 own:q.heap.size<=b\/b∈p
 mem:∃len cap cur,rv.val=.slice (U ⟨b,0,Z⟩) len cap/\W.heap[b]?=U (.cells cur e (0,0))/\len<=cap/\cap<=maxLen/\cur.size=cap*(bH d (.sl e)).length
 box:∀i,aW bx i=J->ad V i≠b
 alone:∀(k':Nat)(e':RK)(rv':RV),rs[k']?=U e'->O.r[k']?=U rv'->¬Ad d e' rv' b
 inner:¬n9 d e rv.ae b
def aE.add(R:aE p q D d V O s a W)(o:s.bd=J){N:RK}{rv:RV}(n:bI W d N rv)(m:∀b,ee d N rv b->∀i,aW s.ao i=J->ad V i≠b)
  (l:∀(k:Nat)(e:TypeId)(H:RV)(b:Nat),s.rs[k]?=U (.own e)->O.r[k]?=U H->H.lE=U b->¬Ad d N rv b)
  (j:∀e b,N=.own e->rv.lE=U b->ayc p q V O s.ao d s.rs W e rv b):aE p q D d V (O.add (.r rv)) {s with rs:=s.rs++[N]} a W:=by
 obtain⟨g,f⟩:=R.Ag o;have y:=sT s.ao O (.r rv) V;have cG:∀{k:Nat}{e:RK},(s.rs++[N])[k]?=U e->(k<Y O.r/\s.rs[k]?=U e)\/(k=Y O.r/\e=N):=by
  intro k e h;rw[R.er];by_cases G:k<Y s.rs;rw[dZ G] at h;exact .inl ⟨G,h⟩;have:k=Y s.rs:=by have:=(cj.1 h).1;simp at this;omega
  subst this;simp at h;exact .inr ⟨rfl,h.symm⟩
 refine⟨⟨R.mem.base,R.mem.own,R.mem.inj,λi t c h=> ?_,λk e v X M=> ?_⟩,R.gX,R.ei,R.eb,by simp[ai.add,R.er],R.dO,R.size,λt sv h=> ?_,λk e v b X M F=> ?_⟩;rw[y.dN (uv f h)];exact R.mem.box i t c h;rcases cG X with⟨G,X⟩|⟨rfl,rfl⟩;rcases IS M with⟨_,M⟩|⟨rfl,rfl⟩;exact R.mem.aj k e v X M;omega;rcases IS M with⟨G,_⟩|⟨_,rfl⟩;omega;exact⟨n,m⟩;rcases R.tmps t sv h with X|X;exact .inl X;right;rw[y.ab (xl g h)];exact X;rcases cG X with⟨G,x⟩|⟨rfl,ac⟩;rcases IS M with⟨_,w⟩|⟨rfl,rfl⟩;have t:=R.gH k e v b x w F;refine⟨t.own,t.mem,t.box,λB A H z L Q=> ?_,t.inner⟩;rcases cG L with⟨u,L⟩|⟨u,af⟩;rcases IS Q with⟨_,Q⟩|⟨rfl,rfl⟩;exact t.alone B A H z L Q;omega;rcases IS Q with⟨al,_⟩|⟨_,ag⟩;omega;rw[af,ag];exact l k e v b x w F;omega;rcases IS M with⟨G,_⟩|⟨_,rfl⟩;omega;have t:=j e b ac.symm F;refine⟨t.own,t.mem,t.box,λB A H z L Q=> ?_,t.inner⟩;rcases cG L with⟨u,L⟩|⟨rfl,_⟩;rcases IS Q with⟨_,Q⟩|⟨rfl,rfl⟩;exact t.alone B A H L Q;omega;exact aG rfl z
end
variable{i:ar}
structure gg(W:World)(o:Ty)(e:TypeId)(rows:ar):Prop where
 len:∀(i:Nat)(row:aM),rows[i]?=U row->Y row=(bH o (.sl e)).length
 int:∀(i j:Nat)(row:aM)(c:RV)(k:IntKind),rows[i]?=U row->row[j]?=U c->(bH o (.sl e))[j]?=U (.int k)->∃n,c.val=.int k n
 bool:∀(i j:Nat)(row:aM)(c:RV),rows[i]?=U row->row[j]?=U c->(bH o (.sl e))[j]?=U .bool->∃x,c.val=.bool x
 aS:∀(i j:Nat)(row:aM)(c:RV)(z:Value)(k:RK),rows[i]?=U row->row[j]?=U c->(bH o (.sl e))[j]?=U (.aS z k)->bI W o k c
def eI(rows:ar):gE:=rows.flatMap λX=>X.map RV.val
def Cc{w:Nat}:∀{rows:ar},(∀(i:Nat)(X:aM),rows[i]?=U X->Y X=w)->(eI rows).length=Y rows*w
 |[],_=>by simp[eI]
 |r::Q,h=>by
  have N:=h 0 r rfl;have R:=Cc (rows:=Q) (λi X M=>h (i+1) X (by simpa using M));simp only[eI,aa3,gU,qJ,qI,N] at R⊢;rw[R,rI];omega
def Pw{w:Nat}:∀{rows:ar},(∀(i:Nat)(row:aM),rows[i]?=U row->Y row=w)->∀{i j:Nat}{row:aM}{c:RV},rows[i]?=U row->row[j]?=U c->(eI rows)[i*w+j]?=U c.val
 |[],_,i,j,row,c,h,_=>by simp at h
 |r::Q,h,0,j,row,c,X,R=>by
  simp at X;subst X;have L:j<Y r:=(cj.1 R).1;simp only[eI,aa3,Nat.zero_mul,jz];rw[dZ (by simpa using L)];simp[R]
 |r::Q,h,i+1,j,row,c,X,R=>by
  have N:=h 0 r rfl;have M:=Pw (rows:=Q) (λi row H=>h (i+1) row (by simpa using H)) (i:=i) (by simpa using X) R;simp only[eI,aa3] at M⊢;rw[jd (by simp[N,rI];omega)];rw[<-M];congr 1;simp[N,rI];omega
def LL{w:Nat}:∀{rows:ar},(∀(i:Nat)(X:aM),rows[i]?=U X->Y X=w)->∀{q:Nat}{u:Value},(eI rows)[q]?=U u->∃i j X c,rows[i]?=U X/\X[j]?=U c/\q=i*w+j/\u=c.val
 |[],_,q,u,h=>by simp[eI] at h
 |r::N,h,q,u,R=>by
  have A:=h 0 r rfl;simp only[eI,aa3] at R;by_cases M:q<Y r;rw[dZ (by simpa using M),dX] at R;cases Q:r[q]? with
  |none=>rw[Q] at R;cases R
  |some c=>rw[Q] at R;simp at R;exact⟨0,q,r,c,rfl,Q,aw,R.symm⟩
  rw[jd dh] at R;obtain⟨i,j,X,c,L,H,G,F⟩:=LL (rows:=N) (λi X B=>h (i+1) X (by simpa using B)) R;refine⟨i+1,j,X,c,by simpa using L,H, ?_,F⟩;simp only[qJ] at G;rw[rI];omega
def ab9(a b:ar):eI (a++b)=eI a++eI b:=by simp[eI]
section
variable{W W':World}{o:Ty}{e:TypeId}{rows aJ:ar}
def gg.yN{v:Value}(h:bI W o (.sl e) (.mk v rows)):gg W o e rows:=by
 cases h with
 |sl e A H G rows F B X R Q N=>exact⟨λi M L=>(X i M L).1,R,Q,N⟩
def uy{A:oE}(h:bI W o (.sl e) (.mk (.slice A R Q) rows)):Y rows=R/\R<=Q:=by
 cases h with
 |sl e A R Q rows X N M L H G=>exact⟨X,N⟩
def Px{A:oE}(h:bI W o (.sl e) (.mk (.slice A R Q) rows)):∀(q:Nat)(u:Value),(eI rows)[q]?=U u->∃b X,A=U ⟨b,X,Z⟩/\(∃N t M,W.heap[b]?=U (.cells N t M))/\W.cell? ⟨b,X+q,Z⟩=U u:=by
 intro q u L;have H:=gg.yN h;obtain⟨i,j,G,c,F,B,rfl,rfl⟩:=LL H.len L;cases h with
 |sl e A R Q rows w v z r p n=>
  obtain⟨-,b,X,rfl,y,x⟩:=z i G F;exact⟨b,X,rfl,y,by rw[<-H8];exact x j c B⟩
def aca(h:gg W o e rows){b X R:Nat}(N:∃M t L,W.heap[b]?=U (.cells M t L))(H:∀(q:Nat)(u:Value),(eI rows)[q]?=U u->W.cell? ⟨b,X+q,Z⟩=U u)(G:Y rows<=R):bI W o (.sl e) (.mk (.slice (U ⟨b,X,Z⟩) (Y rows) R) rows):=
 bI.sl e _ _ _ _ rfl G (λi F Q=>⟨h.len i F Q,b,X,rfl,N,λj c B=>by
  have:=H _ _ (Pw h.len Q B)
  rwa [<-H8] at this⟩) h.int h.bool h.aS
def DZ(A:oE)(Q:Nat):bI W o (.sl e) (.mk (.slice A 0 Q) []):=
 bI.sl e _ _ _ _ rfl (FJ _) (λi R X=>by simp at X) (λi j R c k X=>by simp at X) (λi j R c X=>by simp at X) (λi j R c z k X=>by simp at X)
def gg.single(h:gg W o e rows):∀u∈eI rows,jT u=true:=by
 intro u L;obtain⟨q,H⟩:=ue L;obtain⟨i,j,X,c,R,Q,rfl,rfl⟩:=LL h.len H;have F:j<(bH o (.sl e)).length:=by rw[<-h.len i X R];exact(cj.1 Q).1
 cases N:(bH o (.sl e))[j]? with
 |none=>rw[Dr] at N;omega
 |some G=>
  cases G with
  |int k=>obtain⟨n,M⟩:=h.int i j X c k R Q N;rw[M];rfl
  |bool=>obtain⟨n,M⟩:=h.bool i j X c R Q N;rw[M];rfl
  |aS z k=>exact Ly (h.aS i j X c z k R Q N)
def gg.world(h:gg W o e rows)(M:∀b,n9 o e rows b->W'.heap[b]?=W.heap[b]?)(L:W.heap.size<=W'.heap.size):gg W' o e rows:=
 ⟨h.len,h.int,h.bool,λi j X c z k R Q N=>(h.aS i j X c z k R Q N).LG (λb H=>M b ⟨i,j,X,c,z,k,R,Q,N,H⟩) L⟩
def gg.lt(h:gg W o e rows){b:Nat}(X:n9 o e rows b):b<W.heap.size:=by
 obtain⟨i,j,R,c,z,k,Q,N,M,L⟩:=X;exact(h.aS i j R c z k Q N M).lt L
def gg.nil:gg W o e []:=⟨λi X h=>by simp at h,λi j X c k h=>by simp at h,λi j X c h=>by simp at h,λi j X c z k h=>by simp at h⟩
def Py{b:ar}{X:aM}(h:(i++b)[R]?=U X):i[R]?=U X\/b[R-Y i]?=U X:=by
 by_cases Q:R<Y i;rw[dZ Q] at h;exact .inl h;rw[jd aa] at h;exact .inr h
def gg.nY(h:gg W o e rows)(R:gg W o e aJ):gg W o e (rows++aJ):=
 ⟨λi Q X=>(Py X).elim (h.len _ _) (R.len _ _),λi j Q c k X=>(Py X).elim (h.int _ _ _ _ _) (R.int _ _ _ _ _),
  λi j Q c X=>(Py X).elim (h.bool _ _ _ _) (R.bool _ _ _ _),λi j Q c z k X=>(Py X).elim (h.aS _ _ _ _ _ _) (R.aS _ _ _ _ _ _)⟩
def ayd(h:n9 o e (rows++aJ) R):n9 o e rows R\/n9 o e aJ R:=by
 obtain⟨i,j,Q,c,z,k,X,N,M,L⟩:=h;exact(Py X).imp (λX=>⟨_,j,Q,c,z,k,X,N,M,L⟩) (λX=>⟨_,j,Q,c,z,k,X,N,M,L⟩)
def Pz(h:n9 o e [] R):False:=by
 obtain⟨i,j,Q,c,z,k,X,-⟩:=h;simp at X
def UY{v:Value}(h:n9 o e rows R):ee o (.sl e) (.mk v rows) R:=by
 obtain⟨i,j,X,c,z,k,Q,N,M,L⟩:=h;exact ee.deep e v rows i j X c z k R Q N M L
def akZ{v:Value}(h:ee o (.sl e) (.mk v rows) R):(∃a X Q,v=.slice (U a) (X+1) Q/\R=a.block)\/n9 o e rows R:=by
 cases h with
 |here e a X Q rows=>exact .inl ⟨a,X,Q,rfl,rfl⟩
 |deep e v rows i j N c z k R M L H G=>exact .inr ⟨i,j,N,c,z,k,M,L,H,G⟩
end
def aye(h:ee l y (db y F) R):ee l y F R:=by
 cases y with
 |sl e=>
  simp only[db] at h;split at h;exact h;cases h with
  |deep e F rows i j Q c z y R X=>simp at X
 |str=>cases h
 |aS=>cases h
 |own e=>
  simp only[db] at h;split at h;exact h;cases h with
  |own e M R N=>cases N with
   |deep e F rows i j Q c z y R X=>simp at X
 |am=>cases h
 |mr L=>cases h
def ak0(h:ee l y default R):False:=by
 cases h with
 |deep e v rows i j Q c z y R X=>simp at X
 |own e M R N=>cases N with
  |deep e v rows i j Q c z y R X=>simp at X
def UZ(h:ee l y.rd F R):ee l y F R:=by
 cases y with
 |own t=>exact ee.own _ _ _ h
 |_=>exact h
def ayf{N:Int}(L:Ij (bH l (.sl X))[R]?=y)(H:y≠ .aS)(h:ee l y (db y (aZ i N R)) Q):n9 l X i Q:=by
 have M:=aye h;simp only[aZ,dL] at M;cases G:i[N.toNat]? with
 |none=>rw[G] at M;exact(ak0 (by simpa using M)).elim
 |some A=>
  rw[G] at M;simp only[pZ] at M;cases F:A[R]? with
  |none=>rw[F] at M;exact(ak0 (by simpa using M)).elim
  |some c=>
   rw[F] at M;cases B:(bH l (.sl X))[R]? with
   |none=>rw[B] at L;exact aG L.symm H
   |some x=>
    rw[B] at L;subst L;cases x with
    |aS z w=>exact⟨_,R,A,c,z,w,G,F,B,by simpa[Ij] using M⟩
    |int _=>exact aG rfl H
    |bool=>exact aG rfl H
def U0{o:Ty}{O:ai}{s:S}{b:Nat}:∀{r:RE}{e:RK},e≠ .aS->r.kind o s=e->ee o e (r.rv O) b->
  ∃R Q,r.root=U R/\s.rs[R]?=U Q/\((r=.v R/\Q.rd=e)\/∃t,Q.rd=.sl t/\n9 o t (O.rv R).ae b)
 |.v k,e,X,h,N=>by
  simp only[RE.kind,dL] at h;cases H:s.rs[k]? with
  |none=>rw[H] at h;exact aG (show e=.aS from h.symm) X
  |some q=>rw[H] at h;simp at h;exact⟨k,q,rfl,H,.inl ⟨rfl,h⟩⟩
 |.cell r i j x,e,X,h,N=>by
  simp only[RE.kind] at h;split at h;rename_i G F;split at h;rename_i B;subst h;simp only[RE.rv] at N;have L:=ayf B X N;have A:ee o (.sl G) (r.rv O) b:=by
   revert L;generalize r.rv O=v;intro L;obtain⟨v,rows⟩:=v;exact UY L
  obtain⟨R,Q,z,y,M⟩:=U0 (r:=r) (e:=.sl G) aw F A;refine⟨R,Q,z,y,.inr ?_⟩;rcases M with⟨rfl,M⟩|M;exact⟨G,M,by simpa[RE.rv] using L⟩;exact M;exact aG h.symm X;exact aG h.symm X
 |.k v,e,X,h,N=>by
  cases v<;>simp only[RE.kind] at h
  case string s=>subst h;cases N
  all_goals exact aG h.symm X
section
variable{p:aq}{d:World}{D:cF}{P:Program}{o:Ty}{B:nD}{V:aq}{O:ai}{s:S}{a:Act}{W:World}
def vM(X:aE p d D o V O s a W)(h:s.rs[R]?=U y):O.r[R]?=U (O.rv R):=by
 have Q:R<Y O.r:=by rw[X.er];exact(cj.1 h).1
 simp[ai.rv,Q]
def IT(v:RV):RV.mk v.val v.ae=v:=by cases v;rfl
def LM{e0:RK}(h:e0.rd=.sl X)(N:n9 o X (O.rv R).ae Q):ee o e0 (O.rv R) Q:=by
 apply UZ;rw[h,<-IT (O.rv R)];exact UY N
def PA(N:aE p d D o V O s a W)(L:s.rs[R]?=U (.own X))(G:O.r[R]?=U F)(x:F.lE=U Q){t:TypeId}(M:s.rs[h]?=U y)(H:y.rd=.sl t)(B:n9 o t (O.rv h).ae Q):False:=by
 have A:=N.gH R X F Q L G x;by_cases z:h=R;subst z;rw[L] at M;cases M;simp only[RK.rd,RK.sl.injEq] at H;subst H;have:=vM N L;rw[G] at this;cases this;exact A.inner B;exact A.alone h y (O.rv h) z M (vM N M) (.inl (LM H B))
def U4(N:aE p d D o V O s a W)(G:s.rs[R]?=U (.own X))(B:O.r[R]?=U F)(A:F.lE=U Q){r:RE}(w:y≠ .aS)(h:r.kind o s=y)(z:ee o y (r.rv O) Q):r=.v R:=by
 obtain⟨L,u,m,H,M⟩:=U0 w h z;rcases M with⟨rfl,M⟩|⟨t,M,q⟩;by_cases x:L=R;rw[x];have n:=N.gH R X F Q G B A;exact aG (.inl (UZ (by rw[M];exact z))) (n.alone L u (O.rv L) x H (vM N H));exact(PA N G B A H M q).elim
def LN(X:aE p d D o V O s a W){r:RE}(F:y≠ .aS)(h:r.kind o s=y)(H:ee o y (r.rv O) R):O.qS o s.rs R/\∀i,aW s.ao i=J->ad V i≠R:=by
 obtain⟨N,M,A,L,Q⟩:=U0 F h H;have G:ee o M (O.rv N) R:=by
  rcases Q with⟨rfl,Q⟩|⟨t,Q,B⟩;exact UZ (by rw[Q];exact H);exact LM Q B
 exact⟨⟨N,M,L,G⟩,(X.mem.aj N M _ L (vM X L)).2 R G⟩
def ak1(R:aE p d D o V O s a W){k:RK}{r:RE}(h:r.fits o s k=J):bI W o k (r.rv O):=by
 unfold RE.fits at h;split at h;rename_i e;simp only[jy,cz] at h;rcases h with h|h;exact sS R aw h;unfold RE.isNil at h;split at h;exact DZ Z 0;cases h;simp only[cz] at h;exact sS R aw h;cases h
def acb{r:RE}(h:r.fits o s y=J)(X:ee o y (r.rv O) R):r.kind o s=y/\y≠ .aS:=by
 unfold RE.fits at h;split at h;rename_i e;simp only[jy,cz] at h;rcases h with h|h;exact⟨h,aw⟩;unfold RE.isNil at h;split at h;simp only[RE.rv] at X;cases X with
 |deep e v rows i j N c z y R Q=>simp at Q
 cases h;simp only[cz] at h;exact⟨h,aw⟩;cases h
def IU:∀{ak:fp}{R:ap},mK o s ak R=J->Y R=Y ak/\∀(j:Nat)(X:CT)(v:C),ak[j]?=U X->R[j]?=U v->ui o s X v=J
 |[],[],_=>⟨rfl,λj X v h=>by simp at h⟩
 |[],_::_,h=>by simp[mK] at h
 |_::_,[],h=>by simp[mK] at h
 |c::G,v::F,h=>by
  simp only[mK,aA] at h;obtain⟨M,L⟩:=IU h.2;refine⟨by simp[M],λj X H Q N=> ?_⟩;cases j with
  |zero=>simp at Q N;subst Q N;exact h.1
  |succ j=>exact L j X H (by simpa using Q) (by simpa using N)
def ak2{X:CT}(h:ui o s X M=J):M.ab O V=(M.cq O).val:=by
 unfold ui at h;split at h<;>first|rfl|cases h
structure U5(W:World)(o:Ty)(ak:fp)(row:aM):Prop where
 len:Y row=Y ak
 int:∀(j:Nat)(c:RV)(k:IntKind),row[j]?=U c->ak[j]?=U (.int k)->∃n,c.val=.int k n
 bool:∀(j:Nat)(c:RV),row[j]?=U c->ak[j]?=U .bool->∃x,c.val=.bool x
 aS:∀(j:Nat)(c:RV)(z:Value)(k:RK),row[j]?=U c->ak[j]?=U (.aS z k)->bI W o k c
def gg.of(h:∀(R:Nat)(Q:aM),i[R]?=U Q->U5 W o (bH o (.sl X)) Q):gg W o X i:=
 ⟨λR Q N=>(h R Q N).len,λR j Q c k N=>(h R Q N).int j c k,λR j Q c N=>(h R Q N).bool j c,λR j Q c z k N=>(h R Q N).aS j c z k⟩
def gg.get(h:gg W o X i){Q:aM}(N:i[R]?=U Q):U5 W o (bH o (.sl X)) Q:=
 ⟨h.len R Q N,λj c k=>h.int R j Q c k N,λj c=>h.bool R j Q c N,λj c z k=>h.aS R j Q c z k N⟩
def acd(R:aE p d D o V O s a W){ak:fp}(h:mK o s ak v=J):U5 W o ak (v.map (C.cq O)):=by
 obtain⟨B,A⟩:=IU h;have G:∀(j:Nat)(c:RV)(H:CT),(v.map (C.cq O))[j]?=U c->ak[j]?=U H->∃X,ui o s H X=J/\c=X.cq O:=by
  intro j c H M L;rw[dX] at M;cases F:v[j]? with
  |none=>rw[F] at M;cases M
  |some X=>rw[F] at M;simp at M;exact⟨X,A j H X L F,M.symm⟩
 refine⟨by simpa using B,λj c k M L=> ?_,λj c M L=> ?_,λj c z k M L=> ?_⟩;obtain⟨X,N,rfl⟩:=G j c _ M L;unfold ui at N;split at N;rename_i Q;cases Q;simp at N;subst N;exact⟨_,rfl⟩;rename_i Q;cases Q;rename_i Q;cases Q;cases N;obtain⟨X,N,rfl⟩:=G j c _ M L;unfold ui at N;split at N;rename_i Q;cases Q;exact⟨_,rfl⟩;rename_i Q;cases Q;cases N;obtain⟨X,N,rfl⟩:=G j c _ M L;unfold ui at N;split at N;rename_i Q;cases Q;rename_i Q;cases Q;rename_i Q;cases Q;exact ak1 R N;cases N
def ace{ak:fp}(h:mK o s ak v=J){z:Value}(N:(v.map (C.cq O))[R]?=U F)(B:ak[R]?=U (.aS z y))(H:ee o y F Q):
  ∃r:RE,v[R]?=U (.aj r)/\r.kind o s=y/\y≠ .aS/\ee o y (r.rv O) Q:=by
 obtain⟨x,A⟩:=IU h;rw[dX] at N;cases G:v[R]? with
 |none=>rw[G] at N;cases N
 |some X=>
  rw[G] at N;simp at N;subst N;have M:=A R _ X B G;unfold ui at M;split at M;rename_i L;cases L;rename_i L;cases L;rename_i r L;cases L;exact⟨r,rfl,(acb (O:=O) M H).1,(acb (O:=O) M H).2,H⟩;cases M
def F5:∀{ak:fp}{l:yu},n7 o s ak l=J->∀(i:Nat)(X:ap),l[i]?=U X->mK o s ak X=J
 |ak,[],_,i,X,h=>by simp at h
 |ak,r::Q,h,0,X,R=>by simp only[n7,aA] at h;simp at R;subst R;exact h.1
 |ak,r::Q,h,i+1,X,R=>by simp only[n7,aA] at h;exact F5 h.2 i X (by simpa using R)
def acf{N:bz}(h:(kL x 0 N)[R]?=U (.own X)):N[R]?=U (.own X)/\R∉x:=by
 rw[LJ] at h;cases L:N[R]? with
 |none=>rw[L] at h;cases h
 |some Q=>
  rw[L] at h;simp only[jz,eo,cS] at h;cases Q<;>simp[zY] at h
  case own t=>
   by_cases M:R∈x;simp[M] at h;simp[M] at h;exact⟨by rw[h],M⟩
def ak3{N:bz}(h:(jU x 0 N)[R]?=U y):(R∈x/\y=.am)\/(R∉x/\N[R]?=U y):=by
 rw[LI] at h;cases M:N[R]? with
 |none=>rw[M] at h;cases h
 |some X=>
  rw[M] at h;simp only[jz,eo,cS] at h;by_cases Q:R∈x;simp[Q] at h;exact .inl ⟨Q,h.symm⟩;simp[Q] at h;exact .inr ⟨Q,by rw[h]⟩
structure F6(W W':World)(e:TypeId)(w:Nat)(old:cH)(rows:ar)(A:oE)(cap:Nat):Prop where
 le:Y rows<=cap
 nil:A=Z->cap=0
 mem:cap=0\/∃b cur,A=U ⟨b,0,Z⟩/\W'.heap[b]?=U (.cells cur e (0,0))/\cap<=maxLen/\cur.size=cap*w/\cur.toList.take (Y rows*w)=eI rows/\(W.heap.size<=b\/old=U b)
def D0(o:Ty)(V:aq)(O:ai)(s:S)(e:TypeId)(rows:ar)(dj:aq):Prop:=
 ∀b,n9 o e rows b->O.qS o s.rs b/\(∀i,aW s.ao i=J->ad V i≠b)/\∀(k:Nat)(t:TypeId)(X:RV),s.rs[k]?=U (.own t)->O.r[k]?=U X->X.lE=U b->k∈dj
def PB{X:bz}(h:s.bd=J)(R:Y X=Y s.rs):({s with rs:=X}:S).bd=true:=by
 simp only[S.bd,R] at h⊢;exact h
def aE.bind(R:aE p d D o V O s a W)(hb:s.bd=J){e:TypeId}{rows:ar}{kill dj:aq}{old:cH}{W':World}{A:oE}{cap:Nat}
  (hk:(kill=[]/\old=Z)\/∃k t v,kill=[k]/\s.rs[k]?=U (.own t)/\O.r[k]?=U v/\old=v.lE)(bb:∀k∈kill,k∉dj)
  (f:W.grownBy W' old)(ag:gg W o e rows)(ac:D0 o V O s e rows dj)(z:F6 W W' e (bH o (.sl e)).length old rows A cap):
  aE p d D o V (O.add (.r (.mk (.slice A (Y rows) cap) rows))) {s with rs:=kL dj 0 (jU kill 0 s.rs)++[.own e]} a W'/\∀b,ee o (.sl e) (.mk (.slice A (Y rows) cap) rows) b->d.heap.size<=b\/b∈p\/O.qS o s.rs b:=by
 have y:∀b,old=U b->(d.heap.size<=b\/b∈p)/\b<W.heap.size/\(∀i,aW s.ao i=J->ad V i≠b)/\(∀L H M,L∉kill->s.rs[L]?=U H->O.r[L]?=U M->¬Ad o H M b)/\¬n9 o e rows b:=by
  intro b j;rcases hk with⟨_,m⟩|⟨k,t,v,rfl,X,F,x⟩;rw[m] at j;cases j;rw[x] at j;have tp:=R.gH k t v b X F j;refine⟨tp.own,tp.lt,tp.box,λL H M hn=>tp.alone L H M (by simpa using hn),λG=> ?_⟩;exact bb k aw ((ac b G).2.2 k t v X F j)
 have R1:aE p d D o V O {s with rs:=jU kill 0 s.rs} a W':=by
  rcases hk with⟨rfl,rfl⟩|⟨k,t,v,rfl,X,F,rfl⟩;have:jU [] 0 s.rs=s.rs:=by
   apply kK;intro i;rw[LI];cases s.rs[i]?<;>simp
  rw[this];exact R.grown f;exact R.ez X F f
 have R2:=R1.nN (Pv dj _);have bf:gg W' o e rows:=ag.world (λb G=>f.block b (ag.lt G) (λh=>(y b h.symm).2.2.2.2 G)) f.size;have bg:bI W' o (.sl e) (.mk (.slice A (Y rows) cap) rows):=by
  rcases z.mem with m|⟨b,al,rfl,X,F,x,h4,Q⟩;have N:=z.le;have:rows=[]:=uc aa;subst this;exact DZ A cap;refine aca bf ⟨_,_,_,X⟩ (λq u hq=> ?_) z.le;rw[<-h4,nA] at hq;split at hq;simp only[oC,X,jz];simpa using hq;cases hq
 have an:∀b,Ad o (.own e) (.mk (.slice A (Y rows) cap) rows) b->(W.heap.size<=b\/old=U b)\/n9 o e rows b:=by
  intro b N;have a4:∀n,A=U n->cap≠0->n.block=b->(W.heap.size<=b\/old=U b):=by
   intro n hA hc af;rcases z.mem with m|⟨w,al,X,_,_,_,_,Q⟩;exact aG m hc;rw[X] at hA;cases hA;simp only at af;subst af;exact Q
  rcases N with N|⟨-,N⟩;cases N with
  |own e v b N=>
   rcases akZ N with⟨n,b0,b1,X,rfl⟩|X;simp only[Value.slice.injEq] at X;exact .inl (a4 n X.1 (by have:=z.le;omega) rfl);exact .inr X
  simp only[RV.lE,RV.nJ] at N;split at N;rename_i n l0 c0 X;cases X;simp at N;exact .inl (a4 n rfl aa N);cases N
 have bk:∀{k:Nat}{H:RK},(kL dj 0 (jU kill 0 s.rs))[k]?=U H->∃e0,(jU kill 0 s.rs)[k]?=U e0/\rV e0 H:=λh=>(Pv dj _).get _ _ h
 constructor;refine R2.add (PB (PB hb (Ca _ _ _)) (Cb _ _ _)) (bI.own e _ bg (λl c h=>by cases h;exact z.nil rfl)) (λb N i G=> ?_) (λk t M b X F x N=> ?_) (λt b ht a9=> ?_);rcases an b (.inl N) with(h|h)|h;have:=R.mem.lt G;omega;exact(y b h).2.2.1 i G;exact(ac b h).2.1 i G;obtain⟨bl,br⟩:=acf X;rcases ak3 bl with⟨_,h⟩|⟨bs,a1⟩;cases h;rcases an b N with(h|h)|h;have:=(R.gH k t M b a1 F x).lt;omega;exact(y b h).2.2.2.1 k _ M bs a1 F (.inr ⟨⟨t,rfl⟩,x⟩);exact br ((ac b h).2.2 k t M a1 F x);cases ht;have bt:cap≠0:=by
  intro h;subst h;simp[RV.lE] at a9
 rcases z.mem with m|⟨w,al,rfl,X,F,x,h4,Q⟩;exact aG m bt;have af:w=b:=by
  obtain⟨c',rfl⟩:∃c',cap=c'+1:=⟨cap-1,aa⟩;simpa[RV.lE] using a9
 subst af;have bx:∀(L:Nat)(H:RK)(M:RV),(jU kill 0 s.rs)[L]?=U H->O.r[L]?=U M->¬Ad o H M w:=by
  intro L H M g1 g B;rcases ak3 g1 with⟨_,rfl⟩|⟨hn,a3⟩;rcases B with B|⟨⟨t,ht⟩,_⟩;cases B;cases ht;rcases Q with Q|Q;rcases B with B|⟨⟨t,rfl⟩,B⟩;have:=(R.mem.aj L H M a3 g).1.lt B;omega;have:=(R.gH L t M w a3 g B).lt;omega;exact(y w Q).2.2.2.1 L H M hn a3 g B
 refine⟨?_,⟨Y rows,cap,al,rfl,X,z.le,F,x⟩,λi G=> ?_,λL H M g1 g B=> ?_,λG=> ?_⟩;rcases Q with Q|Q;exact .inl (qL R.mem.base.size Q);exact(y w Q).1;rcases Q with Q|Q;have:=R.mem.lt G;omega;exact(y w Q).2.2.1 i G;obtain⟨e0,g4,hw⟩:=bk g1;exact bx L e0 M g4 g (B.nN hw);rcases Q with Q|Q;have:=ag.lt G;omega;exact(y w Q).2.2.2.2 G;intro b N;rcases an b (.inl (ee.own _ _ _ N)) with(h|h)|h;exact .inl (qL R.mem.base.size h);exact(y b h).1.imp id .inl;exact .inr (.inr (ac b h).1)
end
section
variable{p:aq}{d:World}{D:cF}{P:Program}{o:Ty}{V:aq}{O:ai}{s:S}{a:Act}{W:World}
def lG(A:oE)(X:Nat):cH:=match A,X with
 |U a,_+1=>U a.block
 |_,_=>Z
def LO(A:oE)(n X:Nat)(R:ar):(RV.mk (.slice A n X) R).lE=lG A X:=by
 cases A<;>cases X<;>rfl
structure LP(W:World)(e:TypeId)(w:Nat)(A:oE)(cap:Nat):Prop where
 nil:A=Z->cap=0
 mem:cap=0\/∃b cur,A=U ⟨b,0,Z⟩/\W.heap[b]?=U (.cells cur e (0,0))/\cap<=maxLen/\cur.size=cap*w
def acg{e:TypeId}{X:ar}{b n N:Nat}{Q:mG}{t:TypeId}{M:Nat×Nat}(h:bI W o (.sl e) (.mk (.slice (U ⟨b,0,Z⟩) n N) X))(L:W.heap[b]?=U (.cells Q t M)):
  Q.toList.take (Y X*(bH o (.sl e)).length)=eI X:=by
 have B:=Cc (gg.yN h).len;have H:∀(q:Nat)(u:Value),(eI X)[q]?=U u->Q[q]?=U u:=by
  intro q u R;obtain⟨A,z,G,y,F⟩:=Px h q u R;cases G;simpa[oC,L] using F
 apply kK;intro q;rw[nA];by_cases R:q<(eI X).length;rw[aL aa,cL R];simpa using H q _ (cL R);rw[aP aa,ke aa]
def ayg{e t t2 tyR:TypeId}{G:TI}(bb:fu P e G)(hw:Y G.ak≠0)(ag:(bH o (.sl e)).length=Y G.ak)(p:P.underlying t=U (.slice e))(n:P.underlying t2=U (.slice e))
  {L N:ar}{H m:oE}{X Q R cap2:Nat}(B:bI W o (.sl e) (.mk (.slice H X Q) L))(hr:LP W e (Y G.ak) H Q)
  (al:Y N=R)(bd:gg W o e N)(bf:∀(q:Nat)(u:Value),(eI N)[q]?=U u->∃l,m=U l/\W.cell? (l.add q)=U u)
  (ch:X<=536870912)(cl:R<=536870912):
  ∃A bg W',(Builtin.append_ #[t,t2] tyR #[.slice H X Q,.slice m R cap2]).run P W=.ok (.slice A (X+R) bg) W'/\W.grownBy W' (lG H Q)/\F6 W W' e (Y G.ak) (lG H Q) (L++N) A bg:=by
 obtain⟨i,y,w,z,hz,bs⟩:=bb.Lv;have bt:=bb.bytes i y;have bx:z.cells.size=Y G.ak:=by rw[<-FA,bs];simp
 obtain⟨qU,cn⟩:=uy B;have b0:=gg.yN B;have bk:(eI L).length=X*i.size:=by rw[Cc b0.len,qU,ag,w]
 have an:(eI N).length=R*i.size:=by rw[Cc bd.len,al,ag,w]
 have a3:(eI (L++N)).length=(X+R)*Y G.ak:=by rw[ab9,gU,bk,an,w,rI]
 have g:(L++N).length=X+R:=by simp[qU,al]
 have a4:∀M:World,(∀x,M.cell? x=W.cell? x)->(Builtin.firstCells i.size R (.slice m R cap2)).run P M=.ok (eI N).toArray M:=by
  intro M f;cases m with
  |none=>
   have:eI N=[]:=by
    cases hq:eI N with
    |nil=>rfl
    |cons x xs=>obtain⟨l,h,_⟩:=bf 0 x (by rw[hq];rfl);cases h
   rw[run_firstCells_none,this]
  |some a2=>
   refine run_firstCells_some M i.size R a2 R cap2 _ an (λj v hj=> ?_);obtain⟨l,h,h'⟩:=bf j v hj;cases h;rw[f];exact h'
 have b1:∀M:World,(∀x,M.cell? x=W.cell? x)->(Builtin.firstCells i.size X (.slice H X Q)).run P M=.ok (eI L).toArray M:=by
  intro M f;cases H with
  |none=>
   have:eI L=[]:=by
    cases hq:eI L with
    |nil=>rfl
    |cons x xs=>obtain⟨b,b2,h,_⟩:=Px B 0 x (by rw[hq];rfl);cases h
   rw[run_firstCells_none,this]
  |some d=>
   refine run_firstCells_some M i.size X d X Q _ bk (λj v hj=> ?_);obtain⟨b,b2,h,_,h'⟩:=Px B j v hj;cases h;rw[f,yM];exact h'
 by_cases ac:X+R<=Q
 
 rcases BG Q with h0|h0;have e1:X=0:=aa;have e2:R=0:=aa;subst h0 e1 e2;have r1:L=[]:=uc qU;have r2:N=[]:=uc al;subst r1 r2;refine⟨H,0,W, ?_,⟨rfl,rfl,rfl,cg _,λ_ _ _=>rfl⟩,⟨cg _,λ_=>rfl,.inl rfl⟩⟩;have F:=a4 W (λ_=>rfl);have af:∀d:Addr,(storeCells d [] 0).run P W=.ok () W:=λ_=>rfl
 cases H with
 |none=>simp[Builtin.append_,run_underlying p,run_underlying n,Go.sizeOf,typeInfo,y,Builtin.lenOf,F,eI]
 |some d=>simp[Builtin.append_,run_underlying p,run_underlying n,Go.sizeOf,typeInfo,y,Builtin.lenOf,F,eI,af]
 rcases hr.mem with f|⟨b,r,rfl,hg,a9,b3⟩;omega;have b4:X*i.size+(eI N).length<=r.size:=by rw[an,b3,<-rI,w];exact H3 _ ac
 have F:=a4 W (λ_=>rfl);have af:=run_storeCells_at P b (X*i.size) e (eI N) 0 r W hg (by simpa using b4) (λu hu=>akU (bd.single u hu));simp only[zU] at af;have bl:lG (U ⟨b,0,Z⟩) Q=U b:=by cases Q with
  |zero=>omega
  |succ c=>rfl
 refine⟨U ⟨b,0,Z⟩,Q,W.setRow b (r.toList.take (X*i.size)++eI N++r.toList.drop (X*i.size+(eI N).length)).toArray, ?_,⟨rfl,rfl,rfl,by simp[World.setRow],λk _ hk=>setRow_other W b k _ (λh=>hk (by rw[bl,h]))⟩,
  ⟨by rw[g];exact ac,aw,.inr ⟨b,_,rfl,setRow_heap W b r _ e _ hg,a9, ?_, ?_,.inr bl⟩⟩⟩
 simp[Builtin.append_,run_underlying p,run_underlying n,Go.sizeOf,typeInfo,y,Builtin.lenOf,ac,F,Addr.add_lit,af];simp only[H6,gU,FD,FE,FA];omega;have br:=acg B hg;rw[qU,ag,<-w] at br;rw[g,br,<-ab9,<-a3];exact List.take_left
 
 have b5:X+R<=1073741824:=aa;have b6:(X+R)*i.bytes<=140737488355328:=by
  have:(X+R)*i.bytes<=1073741824*131072:=Ub b5 bt;omega
 have cp:=growslice_fits (show Q<X+R from aa) b6;have b7:X+R<=maxLen:=by simp only[maxLen];omega
 have b8:=grownCap_ge W (X+R) Q e;have a9:=grownCap_le_maxLen W (X+R) Q e b7;have F:=a4 W.drew (λ_=>aw);have ca:=b1 W.drew (λ_=>aw);have cc:¬(9223372036854775807<((X:Int)+(R:Int))):=aa;have cf:¬(281474976710656<Builtin.nextslicecap (X+R) Q*i.bytes):=aa;refine⟨U ⟨W.heap.size,0,Z⟩,grownCap W (X+R) Q e,W.drew.alloc (.cells ((eI (L++N)).toArray++Builtin.zeroCells z.cells (grownCap W (X+R) Q e-(X+R))) e), ?_,
  ⟨rfl,rfl,rfl,aw,λk hk _=>Below.heap_alloc W.drew _ _ hk⟩,⟨by rw[g];exact b8,aw,.inr ⟨W.heap.size,_,rfl,TZ W.drew _,a9, ?_, ?_,.inl (cg _)⟩⟩⟩
 simp[Builtin.append_,run_underlying p,run_underlying n,Go.sizeOf,typeInfo,zeroValue,y,hz,Builtin.lenOf,ac,cc,cf,Question.forced,F,ca,newRow,grownCap];congr 2;apply oD;simp[KO,ab9];simp only[Array.size_append,H6,size_zeroCells,bx,a3,<-rI];congr 1;omega;simp only[Array.toList_append,g,<-a3];exact List.take_left
end
structure bS(s:S)(O:ai)(V:aq)(s':S)(O':ai)(V':aq):Prop where
 ext:oe s.ao O O' V V'
 mono:∀i,aW s.ao i=J->aW s'.ao i=J
 len:Y s.ao<=Y s'.ao
 aC:s.aC<=s'.aC
def bS.refl(s:S)(O:ai)(V:aq):bS s O V s O V:=⟨oe.refl _ _ _,λ_ h=>h,cg _,cg _⟩
def bS.trans{s s' X:S}{O R Q:ai}{V N M:aq}(h:bS s O V s' R N)(k:bS s' R N X Q M):bS s O V X Q M:=
 ⟨h.ext.trans k.ext h.mono,λi L=>k.mono i (h.mono i L),qL h.len k.len,qL h.aC k.aC⟩
def bS.put{s s':S}{X:ai}{R:aq}(h:bS s k x s' X R)(d:cH)(v:C):bS s k x (s'.put d v) X R:=by
 cases d<;>exact⟨h.ext,h.mono,h.len,h.aC⟩
def OR.gives(O:ai)(X:S):OR->Prop
 |.ok x=>X=x
 |.bA b x=>b.ab O=J/\X=x
 |.split b R Q=>X=if b.ab O then R else Q
 |.no _=>False
def uz(P:Program)(o:Oper)(a:Act)(W:World)(v:Value)(X:World):Prop:=
 (execOp a.eval o).run P W=.ok (.value v) X\/((execOp a.eval o).run P W=.ok .skip X/\v=undef)
def ach{s:S}(h:gG s.ao R=J)(t:TypeId)(X:ap)(d:cH)(v:C):bS s k x ((s.dl R t X).put d v) k (x.set R Q):=by
 refine bS.put (s':=s.dl R t X) ⟨akS h k x Q,λi N=>(qh (nM h).2).2 (.inr N),by simp[S.dl],by simp[S.dl]⟩ d v
def ak4{s:S}{N:ap}(h:cJ s.ao R=U (X,v))(d:cH)(Q:C):bS s k x ((s.dl R X N).put d Q) k x:=by
 refine bS.put (s':=s.dl R X N) ⟨oe.refl _ _ _,λi M=>(qh (cj.1 (kA.1 h)).1).2 (.inr M),by simp[S.dl],by simp[S.dl]⟩ d Q
def bS.lk{s X:S}{R:ai}{Q:aq}(h:bS s k x X R Q)(n:Nat):bS s k x {X with lk:=n} R Q:=⟨h.ext,h.mono,h.len,h.aC⟩
section
variable{g:aq}{u:World}{D:cF}{P:Program}{f:bL}{V:aq}{O:ai}{s:S}{a:Act}{W:World}
def aE.lk(R:aE g u D f.ty V O s a W)(n:Nat):aE g u D f.ty V O {s with lk:=n} a W:=⟨R.mem,R.gX,R.ei,R.eb,R.er,R.dO,R.size,R.tmps,R.gH⟩
def Cd{s X:S}{d:cH}{r:PR}(h:(uj s d R r).gives k X):∃v,r.gives k v/\X=s.dv d v R:=by
 cases r with
 |ok v=>exact⟨v,rfl,h⟩
 |bA b v=>
  simp only[uj] at h;split at h;exact⟨v,⟨h.1,rfl⟩,h.2⟩;exact h.elim
 |no w=>exact h.elim
def ak5(n:Nat)(l:ap):(yB n l).length=n*Y l:=by
 induction n with
 |zero=>simp[yB]
 |succ n X=>simp[yB,X,rI];omega
def aci(l:ap):∀(n k:Nat),k<n*Y l->(yB n l)[k]?=l[k%Y l]?
 |0,k,h=>by simp at h
 |n+1,k,h=>by
  have Q:0<Y l:=by
   rcases BG (Y l) with X|X;rw[X] at h;simp at h;exact X
  rw[yB];by_cases R:k<Y l;rw[dZ R,Nat.mod_eq_of_lt R];rw[jd aa,aci l n (k-Y l) (by rw[rI] at h;omega)];congr 1;have:k=(k-Y l)+Y l:=aa
  conv=>rhs;rw[this,Nat.add_mod_right]
def PD(R:aE g u D f.ty V O s a W)(B:jW P f.ty)(F:fO f.gl O)(m:OM){s':S}(h:(gN f m s).gives O s'):
  ∃v W' V',uz P m.o a W v W'/\aE g u D f.ty V' O s' (a.put m.o.dst v) W'/\bS s O V s' O V':=by
 unfold gN at h;split at h;exact h.elim;rename_i Q;have Q:∀x∈m.o.op.operands.toList,(s.ev f.gl x).fk=false:=by
  intro x hx;cases hh:(s.ev f.gl x).fk;rfl;exact aG (lT.2 ⟨x,hx,hh⟩) Q
 split at h
 
 rename_i t X;split at h;rename_i ti r;split at h;rename_i N;simp only[aA] at N;cases h;obtain⟨z,ag,al⟩:=Lz (P:=P) (W:=W) (O:=O) (V:=V) (B _ _ r);have G:=R.alloc (ux N.2) t (eA ti) N.1;rw[uw (LH N.2)] at G;have j:=nM (ux N.2);refine⟨.pointer (U ⟨W.heap.size,0,Z⟩),W.alloc (.cells (C.aK O V (eA ti)).toArray t),V.set m.ix W.heap.size,.inl ?_, ?_,ach (ux N.2) _ _ _ _⟩;rw[<-al];simp[execOp,X,Instr.alloc,ag,newVar,newRow];have:=G.put m.o.dst (.loc m.ix 0);rw[C.ab,DY (by rw[R.gX];exact j.2)] at this;exact this;exact h.elim;exact h.elim
 
 rename_i t x X;rw[X] at Q;have he:=dw R F x (Q x cQ);split at h;rename_i ti r;split at h;rename_i N;simp only[aA] at N;cases h;obtain⟨⟨⟨-,d⟩,h2⟩,H⟩:=N;have an:=UV (O:=O) (V:=V) (xo R) h2;have G:=R.alloc (ux H) t (s.ev f.gl x).cells d;rw[uw (LH H)] at G;have j:=nM (ux H);refine⟨.pointer (U ⟨W.heap.size,0,Z⟩),W.alloc (.cells (C.aK O V (s.ev f.gl x).cells).toArray t),V.set m.ix W.heap.size,.inl ?_, ?_,ach (ux H) _ _ _ _⟩;rw[<-an];simp[execOp,X,Instr.box,newVar,newRow,he];have:=G.put m.o.dst (.loc m.ix 0);rw[C.ab,DY (by rw[R.gX];exact j.2)] at this;exact this;exact h.elim;exact h.elim
 
 rename_i t L parts X;rw[X] at Q;have a9:(parts.map λ(i,x)=>(i,a.eval x)).toList=(parts.toList.map λp=>(p.1,s.ev f.gl p.2)).map λp=>(p.1,p.2.ab O V):=by
  simp only[yr,pn];apply kJ;intro p hp;have:=dw R F p.2 (Q p.2 (by simp[iY];exact⟨p.1,by simpa using hp⟩));simp[this]
 split at h;rename_i e ak q r;split at h;rename_i M a0;split at h;rename_i l hf;split at h;rename_i N;simp only[aA,cz] at N;cases h;obtain⟨⟨d,h2⟩,H⟩:=N;have hd:P.underlying t=U (.slice e):=(B _ _ r).desc;obtain⟨z,ag,al⟩:=Lz (P:=P) (W:=W) (O:=O) (V:=V) (B _ _ a0);have bb:=Pt (V:=V) (xo R) _ _ _ _ hf;have ac:(eA M).length=Y M.ak:=by simp[eA]
 have hzero:((ajY (L*Y M.ak)).map ((if L*Y M.ak=0 then #[] else z.cells)[· %(if L*Y M.ak=0 then #[] else z.cells).size]!))=(C.aK O V (yB L (eA M))).toArray:=by
  apply oD;apply kK;intro k;by_cases af:k<L*Y M.ak;have bg:¬L*Y M.ak=0:=aa;have bk:0<Y M.ak:=by
   rcases BG (Y M.ak) with A|A;rw[A] at af;simp at af;exact A
  have bd:k%Y M.ak<(C.aK O V (eA M)).length:=by rw[IM,ac];exact Ia _ bk
  simp only[bg,gD,al,yr,aw6,dX,FB af,eo,ur,aci _ _ _ (by rw[ac];exact af),ac];rw[<-ur,cL bd];simp only[H6,IM,ac];rw[getElem!_pos _ _ (by simpa using bd)];simp;rw[ke dh,ke (by simp[ak5,ac];omega)]
 have G:=R.alloc (ux H) e l d;rw[uw (LH H)] at G;have j:=nM (ux H);refine⟨.slice (U ⟨W.heap.size,0,Z⟩) L L,W.alloc (.cells (C.aK O V l).toArray e),V.set m.ix W.heap.size,.inl ?_, ?_,ach (ux H) _ _ _ _⟩;have bf:¬L*Y M.ak>2^24:=aa;by_cases A:L*Y M.ak=0;simp only[aL A] at hzero;simp only[execOp,X,Instr.buildSlice,dt,fu.iS hd,dq,(B _ _ a0).od,bf,gD,fF,aL A,a9];rw[hzero,bb];simp[newRow];simp only[aP A] at hzero;simp only[execOp,X,Instr.buildSlice,dt,fu.iS hd,dq,(B _ _ a0).od,bf,gD,fF,aP A,a9,ag];rw[hzero,bb];simp[newRow];have:=G.put m.o.dst (.jM m.ix 0 L L);rw[C.ab,DY (by rw[R.gX];exact j.2)] at this;exact this;exact h.elim;exact h.elim;exact h.elim;exact h.elim
 
 rename_i t x y X;rw[X] at Q;have a1:=dw R F x (Q x cQ);have a3:=dw R F y (Q y cQ);split at h;rename_i ti i br r hx;split at h;rename_i bt cs n;split at h;rename_i N;simp only[aA,du,cz] at N;cases h;obtain⟨⟨⟨⟨d,h2⟩,H⟩,h4⟩,-⟩:=N;have an:=UV (O:=O) (V:=V) (xo R) h4;obtain⟨n,bl⟩:=Af n;obtain⟨W',hr,G⟩:=R.store (B _ _ r) n bl d h2 H an;refine⟨undef,W',V,.inr ⟨?_,rfl⟩,G.put m.o.dst (.b9 []),ak4 n _ _⟩;simp only[execOp,X,a1,a3,hx,C.ab,dt,hr,dq,fF];exact h.elim;exact h.elim;exact h.elim
 
 rename_i c x y X;rw[X] at Q;have a4:=dw R F c (Q c cQ);have a1:=dw R F x (Q x cQ);have a3:=dw R F y (Q y cQ);split at h;rename_i b n;simp only[OR.gives] at h;rw[n,C.ab] at a4;cases w:b.ab O;simp only[w,jR,gD] at h;subst h;refine⟨_,W,V,.inl ?_,R.put _ _,(bS.refl _ _ _).put _ _⟩;simp[execOp,X,a4,w,asBool,a3];simp only[w,cN] at h;subst h;refine⟨_,W,V,.inl ?_,R.put _ _,(bS.refl _ _ _).put _ _⟩;simp[execOp,X,a4,w,asBool,a1];exact h.elim
 
 rename_i t x X;obtain⟨v,w,rfl⟩:=Cd h;exact⟨v.ab O V,W,V,.inl (akP R B F m.o Q (by rw[X];exact w)),(R.lk _).put _ _,((bS.refl _ _ _).lk _).put _ _⟩
 
 obtain⟨v,w,rfl⟩:=Cd h;exact⟨v.ab O V,W,V,.inl (akP R B F m.o Q w),(R.lk _).put _ _,((bS.refl _ _ _).lk _).put _ _⟩
def aE.room{g:aq}{u:World}{D:cF}{V:aq}{O:ai}{s:S}{a:Act}{W:World}(R:aE g u D f.ty V O s a W)(n:Nat):
  aE g u D f.ty (V++eH n 0) O (s.room n) a W/\bS s O V (s.room n) O (V++eH n 0):=by
 have X:∀k,ad (V++eH n 0) k=ad V k:=by
  intro k;simp only[ad,dL];by_cases h:k<Y V;rw[dZ h];rw[jd aa,ke (l:=V) aa,Fw];split<;>rfl
 have G:∀i,cJ (s.ao++eH n Z) i=cJ s.ao i:=by
  intro i;simp only[dC];by_cases h:i<Y s.ao;rw[dZ h];rw[jd aa,ke (l:=s.ao) aa,Fw];split;rename_i N;split at N<;>cases N;rfl
 have M:∀i,aW (s.ao++eH n Z) i=aW s.ao i:=λi=>by simp[aW,G]
 have B:=jB.refl O (Y O.i) (Y O.b) (Y O.r);have F:∀v,C.ab O (V++eH n 0) v=v.ab O V:=by
  intro v;have:ad (V++eH n 0)=ad V:=funext X;exact UN this v
 have q:∀l,C.aK O (V++eH n 0) l=C.aK O V l:=λl=>by simp only[qe];exact kJ λv _=>F v
 refine⟨⟨⟨R.mem.base,λi Q=> ?_,λi j Q A=> ?_,λi t z h=> ?_,λk e L N H=> ?_⟩,by simp[S.room,R.gX],R.ei,R.eb,R.er,R.dO,R.size,λt y h=> ?_,λk e L b N H x=> ?_⟩,⟨⟨B,cg _,cg _,cg _,λk _=>X k⟩,λi Q=> ?_,by simp[S.room],cg _⟩⟩;rw[X];exact R.mem.own i (by rw[<-M];exact Q);rw[X,X];exact R.mem.inj i j (by rw[<-M];exact Q) (by rw[<-M];exact A);rw[X,akp (funext X)];exact R.mem.box i t z (by rw[<-G];exact h);refine⟨(R.mem.aj k e L N H).1,λb w i Q=> ?_⟩;rw[X];exact(R.mem.aj k e L N H).2 b w i (by rw[<-M];exact Q);rw[F];exact R.tmps t y h;have t:=R.gH k e L b N H x;exact⟨t.own,t.mem,λi Q=>by rw[X];exact t.box i (by rw[<-M];exact Q),t.alone,t.inner⟩;simp only[S.room];rw[M];exact Q
end
section
variable{p:aq}{f:World}{D:cF}{P:Program}{cf:bL}{V:aq}{O:ai}{s:S}{a:Act}{W:World}
def Aj{d:cH}{bA:BE}{R:LE}{dj:aq}{b:BI}(h:kM s d bA X y R x dj=U b):
  s.bd=J/\(∀y∈x,y∉dj)/\b=⟨bA,X,R,({s with rs:=kL dj 0 (jU x 0 s.rs)++[y]}:S).put d (.aj (.v (Y s.rs)))⟩:=by
 unfold kM at h;split at h;rename_i Q;cases h;simp only[aA] at Q;exact⟨Q.1.1.1,λy N=>by have:=f9.1 Q.1.1.2 y N;simpa using this,rfl⟩;cases h
def IW{X:S}(Q:aE p f D l V (O.add (.r F)) X a N)(M:Y O.r=R)(d:cH):aE p f D l V (O.add (.r F)) (X.put d (.aj (.v R))) (a.put d F.val) N:=by
 have:=Q.put d (.aj (.v R));have e:C.ab (O.add (.r F)) V (.aj (.v R))=F.val:=by subst M;simp[C.ab,RE.ab,RE.rv,ai.rv,ai.add]
 rwa [e] at this
def F7{rv:RV}(X:bz)(d:cH)(v:C):bS s O V (({s with rs:=X}:S).put d v) (O.add (.r rv)) V:=
 bS.put (s:=s) (s':={s with rs:=X}) ⟨sT _ _ _ _,λ_ h=>h,cg _,cg _⟩ d v
def U6{n:K}(h:(K3 n).ab O=J):n.ab O<=536870912:=by
 unfold K3 at h;rw[DU] at h;simp only[iM,K.ab,K2] at h;exact wX h
def LQ(P:Program)(p:aq)(f:World)(D:cF)(R:Ty)(V:aq)(O:ai)(s:S)(a:Act)(W:World)(o:Oper)(b:BI):Prop:=
 ∃v Q X,uz P o a W v Q/\IN R p f b.e b.x s.rs O X/\aE p f D R V (O.add (.r X)) b.s (a.put o.dst v) Q/\bS s O V b.s (O.add (.r X)) V
def PE(Q:aE p f D cf.ty V O s a W)(h:s.rs[R]?=U (.own X)):∃A n N,O.rv R=.mk (.slice A n N) (O.rv R).ae/\bI W cf.ty (.sl X) (.mk (.slice A n N) (O.rv R).ae)/\LP W X (bH cf.ty (.sl X)).length A N:=by
 have M:=abX Q h;have w:=vM Q h;have G:=λb F=>Q.gH R X _ b h w F
 revert M G;generalize O.rv R=v;intro M G;cases M with
 |own X v M z=>
  cases M with
  |sl X A L N y u t r q F o=>
   refine⟨A,L,N,rfl,bI.sl X A L N y u t r q F o,λm=>z L N (by rw[m];rfl), ?_⟩;rcases BG N with x|x;exact .inl x;right;cases A with
   |none=>have:=z L N rfl;omega
   |some B=>
    have l:(RV.mk (.slice (U B) L N) y).lE=U B.block:=by rw[LO];cases N with
     |zero=>omega
     |succ c=>rfl
    obtain⟨l',c',j,H,i,g3,g,d⟩:=(G _ l).mem;simp only[RV.nJ,Value.slice.injEq] at H;obtain⟨H,rfl,rfl⟩:=H;exact⟨B.block,j,H,i,g,d⟩
def ayh(R:aE p f D cf.ty V O s a W){G:LE}{w:BE}(h:yC s X r M=U (G,w,x))(u:w.ab O=J):
  ∃A n N,M.ab O V=.slice A n N/\bI W cf.ty (.sl X) (.mk (.slice A n N) (G.ae O))/\LP W X (bH cf.ty (.sl X)).length A N/\n<=536870912/\
   ((x=[]/\lG A N=Z)\/∃k t F,x=[k]/\s.rs[k]?=U (.own t)/\O.r[k]?=U F/\lG A N=F.lE)/\∀dj,D0 cf.ty V O s X (G.ae O) dj:=by
 unfold yC at h;split at h;rename_i k;split at h;rename_i q;cases h;have L:=q.1;obtain⟨A,n,N,B,o,m⟩:=PE R L;have z:=U6 u;refine⟨A,n,N,by simp only[C.ab,RE.ab,RE.rv];rw[B];rfl,by simpa[LE.ae,RE.rv] using o,m, ?_,.inr ⟨k,X,O.rv k,rfl,L,vM R L,by rw[B,LO]⟩,λdj b H=> ?_⟩;simp only[K.ab,RE.rv] at z;rw[B] at z;simp[lenOf] at z;omega;simp only[LE.ae,RE.rv] at H;have v:=LM (O:=O) (e0:=.own X) rfl H;refine⟨⟨k,_,L,v⟩,(R.mem.aj k _ _ L (vM R L)).2 b v,λg t F l j i=>(PA R l j i L rfl H).elim⟩;cases h;rename_i Q d;split at h;rename_i y;cases h;unfold RE.isNil at y;split at y;refine⟨Z,0,0,rfl,DZ _ _,⟨λ_=>rfl,.inl rfl⟩,aa,.inl ⟨rfl,rfl⟩,λdj b H=>(Pz (by simpa[LE.ae] using H)).elim⟩;cases y;cases h;cases h;refine⟨_,0,0,rfl,DZ _ _,⟨aw,.inl rfl⟩,aa,.inl ⟨rfl,rfl⟩,λdj b H=>(Pz (by simpa[LE.ae] using H)).elim⟩;cases h
def U7{w:Nat}:∀{n:Nat}{l:ap}{i:Nat}{X:ap},(kf w n l)[i]?=U X->X=(l.drop (i*w)).take w/\i<n
 |0,l,i,X,h=>by simp[kf] at h
 |n+1,l,0,X,h=>by simp[kf] at h;subst h;exact⟨aw,aa⟩
 |n+1,l,i+1,X,h=>by
  simp only[kf,ud] at h;obtain⟨R,Q⟩:=U7 h;refine⟨?_,aa⟩;rw[R,OH];congr 2;rw[rI];omega
def U8(w:Nat):∀(n:Nat)(l:ap),(kf w n l).length=n
 |0,l=>rfl
 |n+1,l=>by simp[kf,U8 w n]
def U9:∀{l:ap}{r:RE}{k:Nat},C.aj r∈l->r.root=U k->k∈C.p8 l
 |[],r,k,h,_=>by simp at h
 |x::R,r,k,h,X=>by
  simp only[C.p8,fh];rcases dS.1 h with rfl|h;left;simp[C.abp,X];right;exact U9 h X
def ak6(R:aE p f D cf.ty V O s a W){l:yu}{dj:aq}(B:n7 cf.ty s (bH cf.ty (.sl X)) l=J)(A:∀N∈l,∀(r:RE)(k:Nat),C.aj r∈N->r.root=U k->k∈dj):
  D0 cf.ty V O s X (l.map λN=>N.map (C.cq O)) dj:=by
 intro b ⟨i,j,N,c,z,k,Q,y,x,w⟩;rw[dX] at Q;cases M:l[i]? with
 |none=>rw[M] at Q;cases Q
 |some L=>
  rw[M] at Q;simp at Q;subst Q;obtain⟨r,v,H,G,F⟩:=ace (F5 B i L M) y x w;obtain⟨u,q⟩:=LN R G H F;refine⟨u,q,λh t g o n m=> ?_⟩;have:=U4 R o n m G H F;subst this;exact A L (ki M) _ _ (ki v) rfl
def acj(R:aE p f D cf.ty V O s a W){l:yu}(M:n7 cf.ty s (bH cf.ty (.sl X)) l=J):gg W cf.ty X (l.map λN=>N.map (C.cq O)):=by
 refine gg.of (λi N Q=> ?_);rw[dX] at Q;cases h:l[i]? with
 |none=>rw[h] at Q;cases Q
 |some L=>rw[h] at Q;simp at Q;subst Q;exact acd R (F5 M i L h)
def ack{e:TypeId}{l:ap}{w n:Nat}(y:(bH cf.ty (.sl e)).length=w)(G:n7 cf.ty s (bH cf.ty (.sl e)) (kf w n l)=J){q:Nat}{u:Value}(F:(∀(i:Nat)(R:aM),((kf w n l).map λR=>R.map (C.cq O))[i]?=U R->Y R=w))
  (h:(eI ((kf w n l).map λR=>R.map (C.cq O)))[q]?=U u):(C.aK O V l)[q]?=U u:=by
 obtain⟨i,j,R,c,Q,N,rfl,rfl⟩:=LL F h;rw[dX] at Q;cases M:(kf w n l)[i]? with
 |none=>rw[M] at Q;cases Q
 |some L=>
  rw[M] at Q;simp at Q;subst Q;rw[dX] at N;cases X:L[j]? with
  |none=>rw[X] at N;cases N
  |some v=>
   rw[X] at N;simp at N;subst N;obtain⟨x,B⟩:=IU (F5 G i L M);have t:j<Y L:=(cj.1 X).1;obtain⟨H,A⟩:∃H,(bH cf.ty (.sl e))[j]?=U H:=⟨_,cL aa⟩;rw[ur];have z:=(U7 M).1;have:l[i*w+j]?=U v:=by
    rw[z,nA] at X;split at X
    rwa [vw] at X
    cases X
   rw[this];simp only[eo,cS];exact ak2 (B j H v A X)
def ayi(R:aE p f D cf.ty V O s a W)(ag:cf.ty X=U t){F:LE}{n2:BE}(h:sN cf.ty s X t M=U (F,n2,x))(hn:n2.ab O=J):
  ∃A n L,M.ab O V=.slice A n L/\(F.ae O).length=n/\gg W cf.ty X (F.ae O)/\(∀(q:Nat)(u:Value),(eI (F.ae O))[q]?=U u->∃a0,A=U a0/\W.cell? (a0.add q)=U u)/\n<=536870912/\D0 cf.ty V O s X (F.ae O) x:=by
 have g:bH cf.ty (.sl X)=t.ak:=by simp[bH,ag]
 unfold sN at h;split at h;rename_i r;split at h;rename_i d;cases h;unfold RE.isNil at d;split at d;exact⟨Z,0,0,rfl,rfl,gg.nil,λq u H=>by simp[LE.ae,eI] at H,aa,λb N=>(Pz (by simpa[LE.ae] using N)).elim⟩;cases d;split at h;rename_i B;cases h;have w:=sS R aw B;have o:=U6 hn;simp only[K.ab] at o;have c:D0 cf.ty V O s X (r.rv O).ae []:=by
  intro b N;have hl:ee cf.ty (.sl X) (r.rv O) b:=by rw[<-IT (r.rv O)];exact UY N
  obtain⟨q1,q2⟩:=LN R aw B hl;refine⟨q1,q2,λk' Q rv m k2 k3=> ?_⟩;have:=U4 R m k2 k3 aw B hl;subst this;simp only[RE.kind,dL,m,pZ,RK.rd,RK.sl.injEq] at B;subst B;exact(PA R m k2 k3 m rfl N).elim
 simp only[C.ab,RE.ab,LE.ae];revert w o c;generalize r.rv O=rv;intro w o c;have l:=gg.yN (v:=rv.val) (rows:=rv.ae) (by rw[IT];exact w);cases w with
 |sl X A G L al j h2 h3 hi N ho=>
  refine⟨A,G,L,rfl,j,l,λq u H=> ?_,by simp[lenOf] at o;omega,c⟩;obtain⟨b,ac,g1,g2,g3⟩:=Px (bI.sl X A G L al j h2 h3 hi N ho) q u H;exact⟨_,g1,by rw[yM];exact g3⟩
 cases h;rename_i i ac G L;split at h;rename_i bt cs N;split at h;rename_i hc;cases h;simp only[aA,cz] at hc;obtain⟨⟨j,h2⟩,h3⟩:=hc;have hf:n7 cf.ty s (bH cf.ty (.sl X)) (kf (Y t.ak) G (yz cs ac (G*Y t.ak)))=true:=by rw[g];exact j
 have l:=acj R hf;refine⟨U ⟨ad V i,ac,Z⟩,G,L,rfl,by simp[LE.ae,U8],by simpa[LE.ae] using l,λq u H=> ?_,by simp[K2] at h3;omega, ?_⟩;simp only[LE.ae] at H;have z:=ack (V:=V) (by rw[g]) hf (λi af hr=>by rw[l.len i af hr,g]) H;refine⟨_,rfl, ?_⟩;rw[ur,yz,nA] at z;split at z;rw[vw,<-ur] at z;obtain⟨N,an⟩:=Af N;have:=R.mem.box i bt cs N;rw[uw an] at this;rw[yM];simp[oC,this,z];simp at z;refine ak6 R hf (λaf a1 r k hr hk=> ?_);obtain⟨ii,a3⟩:=ue a1;have:=(U7 a3).1;subst this;exact U9 (Dt (Fz hr)) hk;cases h;cases h;cases h
end
section
variable{d:aq}{g:World}{D:cF}{P:Program}{f:bL}{V:aq}{O:ai}{s:S}{a:Act}{W:World}
def Ce{x y:BE}(h:(w6 x y).ab O=J):x.ab O=J/\y.ab O=true:=by
 rw[abS] at h;simpa using h
def Ak{x y:K}(h:(qN .leq x y).ab O=J):x.ab O<=y.ab O:=by
 rw[DU] at h;simp only[iM] at h;exact wX h
def ayj(R:aE d g D f.ty V O s a W)(H:jW P f.ty)(hg:fO f.gl O){c:Call}(n:z.op=.call c)(m:c.callee=.builtin .append){dr:Bool}{b:BI}(h:eY f z r dr s=U b)(hn:b.bA.ab O=J):
  LQ P d g D f.ty V O s a W z b:=by
 unfold eY at h;simp only[n,m] at h;split at h;rename_i t l x y af G;split at h;rename_i e ak q L bg q2 ht ag;split at h;rename_i k F;split at h;cases h;rename_i j;have he:e=L:=by by_cases Q:e=L;exact Q;exact aG (.inl Q) j
 have al:Y k.ak≠0:=λQ=>j (.inr Q)
 subst he;split at h;rename_i N n1 bk M n2 dj i h2;obtain⟨cT,an,rfl⟩:=Aj h;obtain⟨a0,a1⟩:=Ce hn;obtain⟨A1,m1,c1,e1,B,g2,g3,g4,g5⟩:=ayh (cf:=f) R i a0;obtain⟨A2,m2,c2,L,k1,k2,k3,k4,k5⟩:=ayi R F h2 a1;have w:(bH f.ty (.sl e)).length=Y k.ak:=by simp[bH,F]
 obtain⟨A,v,W',r1,r2,r3⟩:=ayg (P:=P) (tyR:=z.type) (t:=t) (t2:=l) (cap2:=c2) (H _ _ F) al w (H _ _ ht).desc (H _ _ ag).desc B (by rw[<-w];exact g2) k1 k2 k3 g3 k4;have a3:(LE.nY N M).ae O=N.ae O++M.ae O:=rfl;have ac:(N.ae O++M.ae O).length=m1+m2:=by rw[gU,(uy B).1,k1]
 have a4:D0 f.ty V O s e (N.ae O++M.ae O) dj:=λb hb=>(ayd hb).elim (g5 dj b) (k5 b)
 obtain⟨R',a9⟩:=R.bind cT (old:=lG A1 c1) g4 an r2 ((gg.yN B).nY k2) a4 (by rw[w];exact r3);refine⟨.slice A (m1+m2) v,W',.mk (.slice A (N.ae O++M.ae O).length v) (N.ae O++M.ae O),.inl ?_,⟨⟨A,_,v,by rw[a3],rfl⟩,a9,λ_ _ _ _ h=>by cases h⟩, ?_,F7 _ _ _⟩;have ha:c.args.toList=[c.args.toList.getD 0 default,c.args.toList.getD 1 default]:=by
  have hl:Y c.args.toList=2:=by have:=ku Y G;simpa using this
  match c.args.toList,hl with
  |[p,q],_=>rfl
 have bb:∀X∈c.args.toList,a.eval X=(s.ev f.gl X).ab O V:=by
  intro X u;refine dw R hg X ?_;have:s.ev f.gl X∈[x,y]:=by rw[<-G];exact List.mem_map_of_mem u
  rcases dS.1 this with Q|Q;rw[Q];cases x<;>first|rfl|(simp[yC] at i)
  rw[T3.1 Q];cases y<;>first|rfl|(simp[sN] at h2)
 have bd:c.args.map a.eval= #[x.ab O V,y.ab O V]:=by
  apply oD;rw[yr];have:c.args.toList.map a.eval=(c.args.toList.map (s.ev f.gl)).map (C.ab O V):=by
   rw[pn];exact kJ λX u=>bb X u
  rw[this,G];rfl
 have bf:c.argTypes= #[t,l]:=by apply oD;rw[af]
 simp only[execOp,n,resolve,m,dt,fF,dq,invoke,builtin,bd,bf,e1,L,r1];have:=IW R' R.er z.dst;rw[RV.nJ,ac] at this;rw[ac];exact this;cases h;cases h;cases h;cases h
def ayk(X:CT):((Dy X).cq O).val=rU X:=by cases X<;>rfl
def ayl(R:aE d g D f.ty V O s a W)(af:jW P f.ty)(hg:fO f.gl O){xm:Operand}(ho:z.op=.makeSlice X n xm){dr:Bool}{b:BI}(h:eY f z r dr s=U b)(hn:b.bA.ab O=J):
  LQ P d g D f.ty V O s a W z b:=by
 unfold eY at h;simp only[ho] at h;split at h;rename_i e ak q Q m ht a4 a9;split at h;rename_i L u;split at h;rename_i hc;simp only[aA,bne_iff_ne,ne_eq] at hc;obtain⟨⟨bk,bl⟩,br⟩:=hc;obtain⟨cT,cs,rfl⟩:=Aj h;obtain⟨ag,al⟩:=Ce hn;have ag:=Ak ag;have al:=U6 al;simp only[K.ab] at ag;obtain⟨N,p⟩:∃N:Nat,Q.ab O=(N:Int):=⟨(Q.ab O).toNat,aa⟩;rw[p] at al;have bs:N<=536870912:=aa;have hw:(bH f.ty (.sl e)).length=Y L.ak:=by simp[bH,u]
 have l:bH f.ty (.sl e)=L.ak:=by simp[bH,u]
 have an:=dw R hg n (by rw[a4];rfl);have a1:=dw R hg xm (by rw[a9];rfl);have bt:m=Q:=(K.bZ _ _ bk).symm;rw[a4,C.ab,p] at an;rw[a9,C.ab,bt,p] at a1;obtain⟨i,hi,bx,M,hz,bb⟩:=(af _ _ u).Lv;have b0:=(af _ _ u).bytes i hi;have bd:M.cells.size=Y L.ak:=by rw[<-FA,bb];simp
 have hf:n7 f.ty s (bH f.ty (.sl e)) [eA L]=true:=by rw[l];exact bl
 have b1:U5 W f.ty (bH f.ty (.sl e)) ((eA L).map (C.cq O)):=acd R (F5 hf 0 _ rfl);have b2:(LE.sK Q (eA L)).ae O=eH N ((eA L).map (C.cq O)):=by simp[LE.ae,p]
 have y:gg W f.ty e (eH N ((eA L).map (C.cq O))):=gg.of (λi ac F=>by
  rw[Fw] at F;split at F;cases F;exact b1;cases F)
 have b3:D0 f.ty V O s e (eH N ((eA L).map (C.cq O))) []:=by
  intro b ⟨i,j,ac,c,M,k,B,G,H,hl⟩;rw[Fw] at B;split at B;cases B;exfalso;rw[dX,eA,dX] at G;rw[l] at H;rw[H] at G;simp only[eo,cS,Dy,C.cq,RE.rv] at G;subst G;cases hl with
  |deep e v b4 i j ac c M k b g1=>simp at g1
  |own e' ct b hl=>
   have a3:=(IU (F5 hf 0 _ rfl)).2 j _ (.aj (.k M)) (by rw[l];exact H) (by simp[eA,H,Dy]);simp[ui,RE.fits] at a3
  |here e a0 b5 b6 b4=>
   have a3:=(IU (F5 hf 0 _ rfl)).2 j _ (.aj (.k (.slice (U a0) (b5+1) b6))) (by rw[l];exact H) (by simp[eA,H,Dy]);simp[ui,RE.fits,RE.kind,RE.isNil] at a3
  cases B
 have b7:(ajY (N*Y L.ak)).map (M.cells[· %M.cells.size]!)=(eI (eH N ((eA L).map (C.cq O)))).toArray:=by
  apply oD;apply kK;intro q;have cv:(eI (eH N ((eA L).map (C.cq O)))).length=N*Y L.ak:=by rw[Cc y.len,hw];simp
  by_cases hq:q<N*Y L.ak;have b8:0<Y L.ak:=aa;have ca:q/Y L.ak<N:=aw2 (by rw[Uc];exact hq);have hj:q%Y L.ak<Y L.ak:=Ia _ b8;have bf:L.ak[q%Y L.ak]?=U L.ak[q%Y L.ak]:=cL hj;have B:(eH N ((eA L).map (C.cq O)))[q/Y L.ak]?=U ((eA L).map (C.cq O)):=by rw[Fw,aL ca]
  have G:((eA L).map (C.cq O))[q%Y L.ak]?=U ((Dy L.ak[q%Y L.ak]).cq O):=by simp[eA,bf]
  have H:=Pw (w:=Y L.ak) (λi ac F=>by rw[y.len i ac F,hw]) B G;have cc:q/Y L.ak*Y L.ak+q%Y L.ak=q:=by rw[Uc];exact ajS q _
  rw[cc,ayk] at H;simp only[yr,aw6,dX,FB hq,eo,bd];rw[H];congr 1;have bg:q%Y L.ak<M.cells.size:=by rw[bd];exact hj
  rw[getElem!_pos M.cells _ bg];have:M.cells.toList[q%Y L.ak]?=U (rU L.ak[q%Y L.ak]):=by rw[bb,dX,bf];rfl
  rw[aaW,awW bg] at this;simpa using this;rw[ke dh,ke (by rw[aaZ];omega)]
 have ch:IntKind.i64.wrap (N:Int)=N:=IntWalk.i64_in _ aa;have cx:(i.bytes:Int)*N<=2^46:=by
  have:i.bytes*N<=131072*536870912:=Ub b0 bs;have G:((i.bytes*N:Nat):Int)<=((131072*536870912:Nat):Int):=Int.ofNat_le.2 this;simp only[Int.natCast_mul] at G;omega
 obtain⟨R',cl⟩:=R.bind cT (old:=Z) (kill:=[]) (dj:=[]) (A:=U ⟨W.heap.size,0,Z⟩) (cap:=N) (W':=W.alloc (.cells (eI (eH N ((eA L).map (C.cq O)))).toArray e)) (.inl ⟨rfl,rfl⟩) aw (aKG W _ Z) y b3
  ⟨aw,aw,by
   rcases BG N with x|x;exact .inl x;exact .inr ⟨W.heap.size,_,rfl,TZ W _,by simp only[maxLen];omega,by
    rw[H6,Cc y.len,hw];simp,by
    rw[aaZ,KM];rw[Cc y.len];exact cg _,.inl (cg _)⟩⟩
 refine⟨.slice (U ⟨W.heap.size,0,Z⟩) N N,W.alloc (.cells (eI (eH N ((eA L).map (C.cq O)))).toArray e),.mk (.slice (U ⟨W.heap.size,0,Z⟩) (eH N ((eA L).map (C.cq O))).length N) _,.inl ?_,⟨⟨_,_,_,by rw[b2],rfl⟩,cl,λ_ _ _ _ h=>by cases h⟩, ?_,F7 _ _ _⟩;have hd:P.underlying X=U (.slice e):=(af _ _ ht).desc;rw[<-b7];have c1:¬((N:Int)<0):=aa;have c2:¬((i.bytes:Int)*N>2^48):=aa;by_cases x:N*Y L.ak=0;have cn:N=0:=by rcases Nat.mul_eq_zero.1 x with hh|hh;exact hh;exact aG hh br
 subst cn;have cp:IntKind.i64.wrap 0=0:=IntWalk.i64_in 0 aa;simp[execOp,ho,an,a1,Instr.makeSlice,fu.iS hd,asInt,asIntOf,typeInfo,hi,cp,Go.sizeOf,newRow,askRoom];congr 2;apply oD;simp[ajY];simp[execOp,ho,an,a1,Instr.makeSlice,fu.iS hd,asInt,asIntOf,typeInfo,hi,ch,c1,Go.sizeOf,bx,x,zeroValue,hz,newRow];intro hh;omega;have:=IW R' R.er z.dst;rw[RV.nJ] at this;simp only[List.length_replicate] at this⊢;exact this;cases h;cases h;cases h
def aym(Q:aE d g D f.ty V O s a W)(v:jW P f.ty)(hg:fO f.gl O){parts:Array (Nat×Operand)}(j:z.op=.buildSlice X R parts){dr:Bool}{b:BI}(h:eY f z r dr s=U b):
  LQ P d g D f.ty V O s a W z b:=by
 unfold eY at h;simp only[j] at h;split at h;cases h;split at h;rename_i e ak q ht;split at h;rename_i L u;split at h;rename_i l hf;split at h;rename_i hc;simp only[aA,bne_iff_ne,ne_eq,du,cz,iK] at hc;obtain⟨⟨⟨⟨⟨h1,h2⟩,h3⟩,h4⟩,h5⟩,h6⟩:=hc;obtain⟨cT,a3,rfl⟩:=Aj h;have F:bH f.ty (.sl e)=L.ak:=by simp[bH,u]
 have c:n7 f.ty s (bH f.ty (.sl e)) (kf (Y L.ak) R l)=true:=by rw[F];exact h2
 have ac:=acj Q c;have a4:(LE.lit (kf (Y L.ak) R l)).ae O=(kf (Y L.ak) R l).map λH=>H.map (C.cq O):=rfl
 have n:((kf (Y L.ak) R l).map λH=>H.map (C.cq O)).length=R:=by simp[U8]
 have a9:=ak6 Q c (dj:=C.p8 l) (λH bb N k B hk=>by
  obtain⟨ii,bd⟩:=ue bb;have:=(U7 bd).1;subst this;exact U9 (Dt (Fz B)) hk)
 have m:(eI ((kf (Y L.ak) R l).map λH=>H.map (C.cq O))).length=R*Y L.ak:=by rw[Cc (w:=Y L.ak) (λi H B=>by rw[ac.len i H B,F]),n]
 have bf:eI ((kf (Y L.ak) R l).map λH=>H.map (C.cq O))=C.aK O V l:=by
  apply kK;intro k;by_cases hk:k<R*Y L.ak;have af:k<(eI ((kf (Y L.ak) R l).map λH=>H.map (C.cq O))).length:=by rw[m];exact hk
  have:=ack (V:=V) (by rw[F]) c (λi H B=>by rw[ac.len i H B,F]) (cL af);rw[this,cL af];rw[ke (by rw[m];omega),ke (by rw[IM,h1];omega)]
 have bt:R<=536870912:=by simp only[K2] at h4;omega
 obtain⟨R',bg⟩:=Q.bind cT (old:=Z) (kill:=[]) (dj:=C.p8 l) (A:=U ⟨W.heap.size,0,Z⟩) (cap:=R) (W':=W.alloc (.cells (eI ((kf (Y L.ak) R l).map λH=>H.map (C.cq O))).toArray e)) (.inl ⟨rfl,rfl⟩) a3 (aKG W _ Z) ac a9
  ⟨by rw[n];exact cg _,aw,by
   rcases BG R with G|G;exact .inl G;exact .inr ⟨W.heap.size,_,rfl,TZ W _,by simp only[maxLen];omega,by
    rw[H6,m,F],by
    rw[aaZ,KM];rw[m,n,F];exact cg _,.inl (cg _)⟩⟩
 refine⟨.slice (U ⟨W.heap.size,0,Z⟩) R R,W.alloc (.cells (eI ((kf (Y L.ak) R l).map λH=>H.map (C.cq O))).toArray e),.mk (.slice (U ⟨W.heap.size,0,Z⟩) ((kf (Y L.ak) R l).map λH=>H.map (C.cq O)).length R) _,.inl ?_,⟨⟨_,_,_,by rw[a4],rfl⟩,bg,λ_ _ _ _ h=>by cases h⟩, ?_,F7 _ _ _⟩;have hd:P.underlying X=U (.slice e):=(v _ _ ht).desc;have ag:(parts.map λ(i,x)=>(i,a.eval x)).toList=(parts.toList.map λp=>(p.1,s.ev f.gl p.2)).map λp=>(p.1,p.2.ab O V):=by
  simp only[yr,pn];apply kJ;intro p hp;have:=dw Q hg p.2 (by
   cases hh:(s.ev f.gl p.2).fk;rfl;exact aG (lT.2 ⟨p,hp,hh⟩) (by rw[h6];simp))
  simp[this]
 obtain⟨M,bk,bl⟩:=Lz (P:=P) (W:=W) (O:=O) (V:=V) (v _ _ u);have al:=Pt (V:=V) (xo Q) _ _ _ _ hf;have y:(eA L).length=Y L.ak:=by simp[eA]
 have hzero:((ajY (R*Y L.ak)).map ((if R*Y L.ak=0 then #[] else M.cells)[· %(if R*Y L.ak=0 then #[] else M.cells).size]!))=(C.aK O V (yB R (eA L))).toArray:=by
  apply oD;apply kK;intro k;by_cases an:k<R*Y L.ak;have br:¬R*Y L.ak=0:=aa;have bs:0<Y L.ak:=Nat.pos_of_ne_zero h3;have a0:k%Y L.ak<(C.aK O V (eA L)).length:=by rw[IM,y];exact Ia _ bs
  simp only[br,gD,bl,yr,aw6,dX,FB an,eo,ur,aci _ _ _ (by rw[y];exact an),y];rw[<-ur,cL a0];simp only[H6,IM,y];rw[getElem!_pos _ _ (by simpa using a0)];simp;rw[ke dh,ke (by simp[ak5,y];omega)]
 have a1:¬R*Y L.ak>2^24:=aa;rw[bf];by_cases G:R*Y L.ak=0;simp only[aL G] at hzero;simp only[execOp,j,Instr.buildSlice,dt,fu.iS hd,dq,(v _ _ u).od,a1,gD,fF,aL G,ag];rw[hzero,al];simp[newRow];simp only[aP G] at hzero;simp only[execOp,j,Instr.buildSlice,dt,fu.iS hd,dq,(v _ _ u).od,a1,gD,fF,aP G,ag,bk];rw[hzero,al];simp[newRow];have:=IW R' Q.er z.dst;rw[RV.nJ] at this;rw[n] at this⊢;exact this;cases h;cases h;cases h;cases h
end
section
variable{p:aq}{g:World}{D:cF}{P:Program}{d:bL}{V:aq}{O:ai}{s:S}{a:Act}{W:World}
def PF{h:Nat}{N:aM}(X:((i.take h).drop R)[Q]?=U N):i[R+Q]?=U N/\R+Q<h:=by
 rw[vw,nA] at X;split at X;exact⟨X,eS⟩;cases X
def ayn{h:Nat}(M:n9 l X ((i.take h).drop R) Q):n9 l X i Q:=by
 obtain⟨N,j,L,c,z,k,H,G,F,B⟩:=M;exact⟨_,j,L,c,z,k,(PF H).1,G,F,B⟩
def ayo{X:Ty}{e:TypeId}{A:oE}{n Q l h:Nat}{R:ar}(M:bI W X (.sl e) (.mk (.slice A n Q) R))(f:l<=h)(d:h<=n):
  bI W X (.sl e) (.mk (.slice (if Q=l then A else A.map (·.add (l*(bH X (.sl e)).length))) (h-l) (Q-l)) ((R.take h).drop l)):=by
 obtain⟨F,hc⟩:=uy M;have B:((R.take h).drop l).length=h-l:=by simp[F];omega
 have z:=gg.yN M;have L:gg W X e ((R.take h).drop l):=gg.of (λi N y=>z.get (PF y).1);by_cases x:l=h;have:(R.take h).drop l=[]:=uc aa;rw[this,x,abd];exact DZ _ _;have ac:l<h:=aa;have w:Q≠l:=aa;rw[aP w];obtain⟨N,v⟩:∃N,R[l]?=U N:=⟨_,cL aa⟩;cases M with
 |sl e A af Q R g1 g2 H hi hb ho=>
  obtain⟨-,b,G,rfl,t,-⟩:=H l N v;rw[<-B];simp only[eo,yM];refine aca L t (λq u r=> ?_) aa;obtain⟨i,j,p,c,o,m,rfl,rfl⟩:=LL L.len r;obtain⟨-,b',ag,k,-,g⟩:=H (l+i) p (PF o).1;cases k;have:=g j c m;rw[show G+l*(bH X (.sl e)).length+(i*(bH X (.sl e)).length+j)=G+(l+i)*(bH X (.sl e)).length+j by rw[rI];omega];exact this
def acl(N:aE p g D d.ty V O s a W)(cT:s.bd=J){r:RE}(G:r.kind d.ty s=.sl X){A:oE}(m:r.ab O=.slice A R Q){l h:Nat}(j:l<=h)(f:h<=R){F:oE}{B:Nat}
  (L:F=if Q=l then A else A.map (·.add (l*(bH d.ty (.sl X)).length)))(c:B=Q-l):
  aE p g D d.ty V (O.add (.r (.mk (.slice F (h-l) B) (((r.rv O).ae.take h).drop l)))) {s with rs:=kL r.root.toList 0 (jU [] 0 s.rs)++[.sl X]} a W/\
   (((r.rv O).ae.take h).drop l).length=h-l/\∀b,ee d.ty (.sl X) (.mk (.slice F (h-l) B) (((r.rv O).ae.take h).drop l)) b->g.heap.size<=b\/b∈p\/O.qS d.ty s.rs b:=by
 have z:=sS N aw G;have v:r.rv O=.mk (.slice A R Q) (r.rv O).ae:=by rw[<-m];exact(IT _).symm
 rw[v] at z;have ac:=ayo z j f;have y:∀b,ee d.ty (.sl X) (.mk (.slice F (h-l) B) (((r.rv O).ae.take h).drop l)) b->ee d.ty (.sl X) (r.rv O) b:=by
  intro b H;rw[v];rcases akZ H with⟨a0,a4,c0,M,rfl⟩|M;simp only[Value.slice.injEq] at M;obtain⟨M,u,q⟩:=M;obtain⟨x,rfl⟩:∃x,R=x+1:=⟨R-1,aa⟩;rw[M] at L;have af:Q≠l:=by have:=(uy z).2;omega
  rw[aP af] at L;cases A with
  |none=>simp at L
  |some o=>
   simp only[eo,cS] at L;have:a0.block=o.block:=by rw[L];unfold Addr.add;split<;>rfl
   rw[this];exact ee.here X o x Q _
  exact UY (ayn M)
 have ag:jU [] 0 s.rs=s.rs:=by
  apply kK;intro i;rw[LI];cases s.rs[i]?<;>simp
 rw[ag];have R1:=N.nN (Pv r.root.toList s.rs);refine⟨?_,by have:=(uy z).1;simp;omega,λb H=>.inr (.inr (LN N aw G (y b H)).1)⟩;refine R1.add (PB cT (Cb _ _ _)) (by rw[L,c];exact ac) (λb H=>(LN N aw G (y b H)).2) (λk t rv b M u q w=> ?_) (λt b ht=>by cases ht);obtain⟨al,an⟩:=acf M;rcases w with w|⟨⟨t',a3⟩,_⟩;have:=U4 N al u q aw G (y b w);subst this;exact an (by simp[RE.root]);cases a3
def PG{n:Int}(h:0<=n):∃N:Nat,n=(N:Int):=⟨n.toNat,aa⟩
def ayp(R:aE p g D d.ty V O s a W)(ac:jW P d.ty)(hg:fO d.gl O){lo hi mx:Option Operand}(ho:z.op=.slice X n lo hi mx){dr:Bool}{b:BI}(h:eY d z r dr s=U b)(hn:b.bA.ab O=J):
  LQ P p g D d.ty V O s a W z b:=by
 unfold eY at h;simp only[ho] at h;split at h;cases h;have a1:∀{y:Option Operand}{v:C},y.map (s.ev d.gl)=U v->v≠ .any->y.map a.eval=U (v.ab O V):=by
  intro y v hy F;cases y with
  |none=>cases hy
  |some Q=>
   simp only[eo,cS] at hy⊢;rw[<-hy];exact dw R hg Q (by rw[hy];cases v<;>first|rfl|exact aG rfl F)
 have a3:∀{y:Option Operand},y.map (s.ev d.gl)=Z->y.map a.eval=none:=by
  intro y hy;cases y with
  |none=>rfl
  |some Q=>cases hy
 split at h
 
 rename_i e ak q N k1 k2 ht w ag al an;split at h;rename_i te j;split at h;rename_i hc;obtain⟨cT,bd,rfl⟩:=Aj h;have u:=dw R hg n (by rw[w];rfl);rw[w,C.ab] at u;have hd:P.underlying X=U (.slice e):=(ac _ _ ht).desc;obtain⟨A,M,G,F⟩:∃A M G,N.ab O=.slice A M G:=by
  rcases hc with hc|hc;exact Ps R hc;unfold RE.isNil at hc;split at hc;exact⟨Z,0,0,rfl⟩;cases hc
 obtain⟨R',a0⟩:=R.bind cT (old:=Z) (kill:=[]) (dj:=[]) (rows:=[]) (e:=e) (A:=A) (cap:=0) (W':=W) (.inl ⟨rfl,rfl⟩) aw ⟨rfl,rfl,rfl,cg _,λ_ _ _=>rfl⟩ gg.nil (λb hb=>(Pz hb).elim) ⟨aw,λ_=>rfl,.inl rfl⟩;refine⟨.slice A 0 0,W,.mk (.slice A 0 0) [],.inl ?_,⟨⟨A,0,0,rfl,rfl⟩,a0,λ_ _ _ _ h=>by cases h⟩,IW R' R.er z.dst,F7 _ _ _⟩;have e1:=a1 ag aw;have i:=a1 al aw;have f:=a3 an;simp only[C.ab,K.ab] at e1 i;simp[execOp,ho,u,F,e1,i,f,Instr.sliceAt,fu.iS hd,Instr.slice,Instr.sliceBounds,Instr.sliceBound,asIntOf,(ac _ _ j).od];cases h;cases h
 
 rename_i e ak q N ih il ht w ag al an;split at h;rename_i te j;split at h;rename_i m;obtain⟨cT,bd,rfl⟩:=Aj h;obtain⟨B,bb⟩:=Ce hn;obtain⟨bb,k⟩:=Ce bb;have B:=Ak B;have bb:=Ak bb;have k:=Ak k;have u:=dw R hg n (by rw[w];rfl);rw[w,C.ab] at u;have hd:P.underlying X=U (.slice e):=(ac _ _ ht).desc;obtain⟨A,M,G,F⟩:=Ps R m;have a4:lenOf (N.rv O).val=M:=by have:=F;unfold RE.ab at this;rw[this];rfl
 simp only[K.ab,a4] at B k;obtain⟨L,hL⟩:=PG B;obtain⟨H,hH⟩:=PG (show 0<=ih.ab O from aa);have bf:M<=G:=by
  have:=sS R aw m;rw[<-IT (N.rv O),show(N.rv O).val=.slice A M G from F] at this;exact(uy this).2
 obtain⟨R',a9,a0⟩:=acl R cT m F (l:=L) (h:=H) aa aa rfl rfl;have af:(LE.sub (.aj N) il ih).ae O=((N.rv O).ae.take H).drop L:=by simp[LE.ae,hL,hH]
 have hw:(bH d.ty (.sl e)).length=Y te.ak:=by simp[bH,j]
 refine⟨.slice (if G=L then A else A.map (·.add (L*(bH d.ty (.sl e)).length))) (H-L) (G-L),W,_,.inl ?_,⟨⟨_,_,_,by rw[af],by rw[af];exact a9⟩,a0,λ_ _ _ _ h=>by cases h⟩,IW R' R.er z.dst,F7 _ _ _⟩;have e1:=a3 ag;have i:=a1 al aw;have f:=a1 an aw;simp only[C.ab,hL,hH] at i f;have c1:(H:Int)<=(G:Int):=aa;have c2:(L:Int)<=(H:Int):=aa;simp[execOp,ho,u,F,e1,i,f,Instr.sliceAt,fu.iS hd,Instr.slice,Instr.sliceBounds,Instr.sliceBound,asIntOf,(ac _ _ j).od,hw];simp[show H<=G from aa,show L<=H from aa];cases h;cases h
 
 rename_i e ak q N ih ht w ag al an;split at h;rename_i te j;split at h;rename_i m;obtain⟨cT,bd,rfl⟩:=Aj h;obtain⟨B,k⟩:=Ce hn;have B:=Ak B;have k:=Ak k;have u:=dw R hg n (by rw[w];rfl);rw[w,C.ab] at u;have hd:P.underlying X=U (.slice e):=(ac _ _ ht).desc;obtain⟨A,M,G,F⟩:=Ps R m;have a4:lenOf (N.rv O).val=M:=by have:=F;unfold RE.ab at this;rw[this];rfl
 simp only[K.ab,a4] at B k;obtain⟨H,hH⟩:=PG B;have bf:M<=G:=by
  have:=sS R aw m;rw[<-IT (N.rv O),show(N.rv O).val=.slice A M G from F] at this;exact(uy this).2
 obtain⟨R',a9,a0⟩:=acl R cT m F (l:=0) (h:=H) aa aa rfl rfl;have af:(LE.sub (.aj N) (.c 0) ih).ae O=((N.rv O).ae.take H).drop 0:=by simp[LE.ae,hH,K.ab]
 have hw:(bH d.ty (.sl e)).length=Y te.ak:=by simp[bH,j]
 refine⟨.slice (if G=0 then A else A.map (·.add (0*(bH d.ty (.sl e)).length))) (H-0) (G-0),W,_,.inl ?_,⟨⟨_,_,_,by rw[af],by rw[af];exact a9⟩,a0,λ_ _ _ _ h=>by cases h⟩,IW R' R.er z.dst,F7 _ _ _⟩;have e1:=a3 ag;have i:=a1 al aw;have f:=a3 an;simp only[C.ab,hH] at i;simp[execOp,ho,u,F,e1,i,f,Instr.sliceAt,fu.iS hd,Instr.slice,Instr.sliceBounds,Instr.sliceBound,asIntOf,(ac _ _ j).od,hw];intro hh;omega;cases h;cases h
 
 rename_i e ak q N il ht w ag al an;split at h;rename_i te j;split at h;rename_i m;obtain⟨cT,bd,rfl⟩:=Aj h;obtain⟨B,k⟩:=Ce hn;have B:=Ak B;have k:=Ak k;have u:=dw R hg n (by rw[w];rfl);rw[w,C.ab] at u;have hd:P.underlying X=U (.slice e):=(ac _ _ ht).desc;obtain⟨A,M,G,F⟩:=Ps R m;have a4:lenOf (N.rv O).val=M:=by have:=F;unfold RE.ab at this;rw[this];rfl
 simp only[K.ab,a4] at B k;obtain⟨L,hL⟩:=PG B;have bf:M<=G:=by
  have:=sS R aw m;rw[<-IT (N.rv O),show(N.rv O).val=.slice A M G from F] at this;exact(uy this).2
 obtain⟨R',a9,a0⟩:=acl R cT m F (l:=L) (h:=M) aa aa rfl rfl;have af:(LE.sub (.aj N) il (.len N)).ae O=((N.rv O).ae.take M).drop L:=by simp[LE.ae,hL,K.ab,a4]
 have hw:(bH d.ty (.sl e)).length=Y te.ak:=by simp[bH,j]
 refine⟨.slice (if G=L then A else A.map (·.add (L*(bH d.ty (.sl e)).length))) (M-L) (G-L),W,_,.inl ?_,⟨⟨_,_,_,by rw[af],by rw[af];exact a9⟩,a0,λ_ _ _ _ h=>by cases h⟩,IW R' R.er z.dst,F7 _ _ _⟩;have e1:=a3 ag;have i:=a3 al;have f:=a1 an aw;simp only[C.ab,hL] at f;simp[execOp,ho,u,F,e1,i,f,Instr.sliceAt,fu.iS hd,Instr.slice,Instr.sliceBounds,Instr.sliceBound,asIntOf,(ac _ _ j).od,hw];intro hh;omega;cases h;cases h;cases h
mutual
def acm{k n:Nat}(h:(O.rv n).val=(O.rv k).val):∀(v:C),(v.iR k n).ab O V=v.ab O V
 |.int _ _|.bool _|.loc _ _|.jM _ _ _ _|.yl _|.any=>rfl
 |.aj (.v j)=>by
  simp only[C.iR];split;rename_i X;simp at X;subst X;simp only[C.ab,RE.ab,RE.rv,h];rfl
 |.aj (.cell _ _ _ _)=>rfl
 |.aj (.k _)=>rfl
 |.el (.v j) w i o=>by
  simp only[C.iR];split;rename_i X;simp at X;subst X;simp only[C.ab,RE.ab,RE.rv,h];rfl
 |.el (.cell _ _ _ _) _ _ _=>rfl
 |.el (.k _) _ _ _=>rfl
 |.agg l=>by simp only[C.iR,C.ab,LR h l]
 |.b9 l=>by simp only[C.iR,C.ab,LR h l]
 |.fn f l=>by simp only[C.iR,C.ab,LR h l]
 |.gF t x=>by simp only[C.iR,C.ab,acm h x]
 |.mp _=>rfl
 |.gz e Q R=>by simp only[C.iR,C.ab,LR h R]
def LR{k n:Nat}(h:(O.rv n).val=(O.rv k).val):∀(l:ap),C.aK O V (C.p9 k n l)=C.aK O V l
 |[]=>rfl
 |x::X=>by simp only[C.p9,C.aK,acm h x,LR h X]
end
def ayq(v:C):v.iR R Q=.any<->v=.any:=by
 cases v with
 |aj r=>cases r<;>simp[C.iR]<;>split<;>simp
 |el r w i o=>cases r<;>simp[C.iR]<;>split<;>simp
 |_=>simp[C.iR]
def ak7{k n:Nat}:∀(l:ap)(i:Nat),(C.p9 k n l)[i]?=(l[i]?).map (C.iR k n)
 |[],i=>by simp[C.p9]
 |x::X,0=>by simp[C.p9]
 |x::X,i+1=>by simp[C.p9,ak7 X i]
def ak8{k n:Nat}:∀(l:ap),(C.p9 k n l).length=Y l
 |[]=>rfl
 |x::X=>by simp[C.p9,ak8 X]
def PH{k n:Nat}:∀(l:bK),(vC k n l).length=Y l
 |[]=>rfl
 |Z::X=>by simp[vC,PH X]
 |U (t,R)::X=>by simp[vC,PH X]
def acn(k n:Nat)(x:TypeId×ap):TypeId×ap:=(x.1,if rJ x.1 then x.2 else C.p9 k n x.2)
def Va{k n:Nat}:∀(l:bK)(i:Nat),cJ (vC k n l) i=(cJ l i).map (acn k n)
 |[],i=>by simp[vC,dC]
 |Z::X,0=>by simp[vC,dC]
 |U (t,R)::X,0=>by simp[vC,dC,acn]
 |Z::X,i+1=>by have:=Va X i (k:=k) (n:=n);simpa[vC,dC] using this
 |U (t,R)::X,i+1=>by have:=Va X i (k:=k) (n:=n);simpa[vC,dC] using this
def IX{k n:Nat}(l:bK)(i:Nat):aW (vC k n l) i=aW l i:=by simp[aW,Va]
def aE.iR{A:Ty}(R:aE p g D A V O s a W){k n:Nat}(h:(O.rv n).val=(O.rv k).val):aE p g D A V O (s.iR k n) a W:=by
 have y:(s.iR k n).ao=vC k n s.ao:=rfl;refine⟨⟨R.mem.base,λi N=>R.mem.own i (by rw[<-IX (k:=k) (n:=n)];exact N),λi j N w=>R.mem.inj i j (by rw[<-IX (k:=k) (n:=n)];exact N) (by rw[<-IX (k:=k) (n:=n)];exact w),λi t r X=> ?_,λH e G Q F=> ?_⟩,
  by simp[S.iR,PH,R.gX],R.ei,R.eb,R.er,R.dO,by simp[S.iR,ak8,R.size],λt q L=> ?_,λH e G b Q F v=> ?_⟩
 rw[y,Va] at X;cases M:cJ s.ao i with
 |none=>rw[M] at X;cases X
 |some x=>
  obtain⟨z,lg⟩:=x;rw[M] at X;simp only[eo,acn,cS,FH] at X;obtain⟨rfl,rfl⟩:=X;have B:=R.mem.box i z lg M;cases u:rJ z;simp only[jR,gD];rw[uw u] at B⊢;rw[LR h];exact B;simp only[cN];exact B
 exact⟨(R.mem.aj H e G Q F).1,λb X i N=>(R.mem.aj H e G Q F).2 b X i (by rw[<-IX (k:=k) (n:=n)];exact N)⟩;simp only[S.iR,ak7] at L;cases M:s.tmps[t]? with
 |none=>rw[M] at L;cases L
 |some x=>
  rw[M] at L;simp only[eo,cS] at L;subst L;rcases R.tmps t x M with Q|Q;exact .inl ((ayq x).2 Q);right;rw[acm h];exact Q
 have t:=R.gH H e G b Q F v;exact⟨t.own,t.mem,λi N=>t.box i (by rw[<-IX (k:=k) (n:=n)];exact N),t.alone,t.inner⟩

def ak9:∀(Q X:aM)(R:Nat),(fA X R Q).length=Y X
 |[],X,R=>rfl
 |v::Q,X,R=>by rw[fA,ak9];simp
def Vb:∀(R Q:aM)(X j:Nat),X+Y R<=Y Q->(fA Q X R)[j]?=if X<=j/\j<X+Y R then R[j-X]? else Q[j]?
 |[],Q,X,j,_=>by simp[fA];intro M N;omega
 |v::R,Q,X,j,h=>by
  simp only[qI] at h;rw[fA,Vb R _ (X+1) j dh];by_cases M:j=X;subst M;rw[aP aa,aL aw,H0 aa];simp;by_cases N:X+1<=j/\j<X+1+Y R;rw[aL N,aL dh,show j-X=(j-(X+1))+1 from aa];simp;rw[aP N,aP dh,sI aa]
def ala:∀(R l:gE)(X j:Nat),X+Y R<=Y l->(Ai l X R)[j]?=if X<=j/\j<X+Y R then R[j-X]? else l[j]?
 |[],l,X,j,_=>by simp[Ai];intro N Q;omega
 |v::R,l,X,j,h=>by
  simp only[qI] at h;rw[Ai,ala R _ (X+1) j dh];by_cases N:j=X;subst N;rw[aP aa,aL aw,H0 aa];simp;by_cases Q:X+1<=j/\j<X+1+Y R;rw[aL Q,aL dh,show j-X=(j-(X+1))+1 from aa];simp;rw[aP Q,aP dh,sI aa]
def LS{f:aM->aM}{N:aM}(h:(i.modify R f)[Q]?=U N):(Q=R/\∃X,i[R]?=U X/\N=f X)\/(Q≠R/\i[Q]?=U N):=by
 rw[OC] at h;by_cases M:R=Q;subst M;simp only[cN] at h;cases L:i[R]? with
 |none=>rw[L] at h;cases h
 |some X=>rw[L] at h;simp at h;exact .inl ⟨rfl,X,rfl,h.symm⟩
 simp only[M,gD] at h;exact .inr ⟨λH=>M H.symm,by simpa using h⟩
def ayr{w:Nat}{l:gE}(Q:∀(X:Nat)(R:aM),i[X]?=U R->Y R=w)(M:Y l=Y i*w)(h:∀(X j:Nat)(R:aM)(c:RV),i[X]?=U R->R[j]?=U c->l[X*w+j]?=U c.val):l=eI i:=by
 apply kK;intro q;by_cases L:q<(eI i).length;have N:=cL L;obtain⟨X,j,R,c,H,G,F,B⟩:=LL Q N;rw[N,B];subst F;exact h X j R c H G;rw[ke (l:=eI i) aa,ke];rw[M,<-Cc Q];omega
def ays(R:aE p g D d.ty V O s a W)(cx:jW P d.ty)(hg:fO d.gl O){y:Operand}(ho:z.op=.store X n y){dr:Bool}{b:BI}(h:eY d z r dr s=U b)(hn:b.bA.ab O=J):
  LQ P p g D d.ty V O s a W z b:=by
 unfold eY at h;simp only[ho] at h;split at h;cases h;split at h;rename_i B k w i H cy hx;split at h;rename_i e hk;split at h;rename_i te cA;split at h;rename_i hc;simp only[aA,du,cz] at hc;obtain⟨⟨⟨⟨cB,bb⟩,cC⟩,al⟩,cD⟩:=hc;cases hb:kM s Z (w7 i (.len (.v k))) e (.own e) (.set (.aj (.v k)) i H (s.ev d.gl y).cells) [k] (C.p8 (s.ev d.gl y).cells) with
 |none=>rw[hb] at h;cases h
 |some b0=>
  rw[hb] at h;simp only[eo,cS] at h;obtain⟨cT,cI,rfl⟩:=Aj hb;subst h;have b3:bH d.ty (.sl e)=te.ak:=by simp[bH,cA]
  have hw:(bH d.ty (.sl e)).length=w:=by rw[b3];exact cB
  obtain⟨A,Q,ac,g1,g2,g3⟩:=PE R hk;have bg:=vM R hk;simp only[w7] at hn;obtain⟨bd,an⟩:=Ce hn;have bd:=Ak bd;rw[DU] at an;simp only[iM,K.ab,RE.rv] at bd an;have an:=wX an;rw[g1] at an;simp only[RV.nJ,lenOf] at an;obtain⟨N,hI⟩:=PG bd;have dn:N<Q:=aa;obtain⟨b4,b5⟩:=uy g2;have a4:=gg.yN g2;obtain⟨bk,a9,hA,b6,cO,bf⟩:∃b a9,A=U ⟨b,0,Z⟩/\W.heap[b]?=U (.cells a9 e (0,0))/\ac<=maxLen/\a9.size=ac*(bH d.ty (.sl e)).length:=by
   rcases g3.mem with h0|h0;omega;exact h0
  subst hA;have cR:lG (U ⟨bk,0,Z⟩) ac=U bk:=by cases ac with
   |zero=>omega
   |succ c=>rfl
  have cW:s.ev d.gl y≠ .any:=by
   intro hy;rw[hy] at al bb;simp only[C.cells,aaV] at bb;rw[<-bb] at al;cases hd:(te.ak.drop H).take 1 with
   |nil=>rw[hd] at al;simp[mK,C.cells] at al
   |cons c cs=>rw[hd] at al;simp[mK,C.cells,ui] at al
  have c0:=dw R hg y (by cases hh:s.ev d.gl y<;>first|rfl|exact aG hh cW);have c1:=dw R hg n (by rw[hx];rfl);have c2:=UV (O:=O) (V:=V) (xo R) cD;obtain⟨f1,f2⟩:=IU al;have dH:(s.ev d.gl y).cells.length=Y B.ak:=bb;have ds:((te.ak.drop H).take (Y B.ak)).length=Y B.ak:=dh;have b7:∀(j:Nat),j<Y B.ak->((te.ak.drop H).take (Y B.ak))[j]?=(bH d.ty (.sl e))[H+j]?:=by
   intro j hj;rw[nA,aL hj,vw,b3]
  have b8:C.aK O V (s.ev d.gl y).cells=((s.ev d.gl y).cells.map (C.cq O)).map RV.val:=by
   apply kK;intro j;rw[ur,dX,dX];cases hv:(s.ev d.gl y).cells[j]? with
   |none=>rfl
   |some v=>
    have hj:j<Y B.ak:=by rw[<-dH];exact(cj.1 hv).1
    obtain⟨ct,c3⟩:∃ct,((te.ak.drop H).take (Y B.ak))[j]?=U ct:=⟨_,cL aa⟩;simp only[eo];rw[ak2 (f2 j ct v c3 hv)]
  have a0:=acd R al;have ca:(LE.set (.aj (.v k)) i H (s.ev d.gl y).cells).ae O=(O.rv k).ae.modify N λG=>fA G H ((s.ev d.gl y).cells.map (C.cq O)):=by simp[LE.ae,RE.rv,hI]
  have bl:((s.ev d.gl y).cells.map (C.cq O)).length=Y B.ak:=by simp[dH]
  generalize c4:(s.ev d.gl y).cells.map (C.cq O)=vv at*;have br:∀F:aM,Y F=(bH d.ty (.sl e)).length->H+Y vv<=Y F:=λF h0=>by rw[h0,hw,bl];exact cC
  have bs:gg W d.ty e ((O.rv k).ae.modify N λG=>fA G H vv):=by
   refine gg.of (λm G hr=> ?_);rcases LS hr with⟨rfl,F,f,rfl⟩|⟨bt,f⟩
   ·have q:=a4.get f;have c5:=br F q.len;refine⟨by rw[ak9];exact q.len,λj c kk af ag=> ?_,λj c af ag=> ?_,λj c M kk af ag=> ?_⟩
    all_goals
     rw[Vb _ _ _ _ c5] at af;split at af;rename_i hj;have bx:j-H<Y B.ak:=aa;have a1:=b7 _ bx;rw[show H+(j-H)=j from aa,ag] at a1
     first
      |exact a0.int (j-H) c _ af a1
      |exact a0.bool (j-H) c af a1
      |exact a0.aS (j-H) c _ _ af a1
     first
      |exact q.int j c _ af ag
      |exact q.bool j c af ag
      |exact q.aS j c _ _ af ag
   exact a4.get f
  have c6:D0 d.ty V O s e ((O.rv k).ae.modify N λG=>fA G H vv) (C.p8 (s.ev d.gl y).cells):=by
   intro b ⟨m,j,G,c,M,kk,h1,l,h3,hl⟩;have elder:∀F,(O.rv k).ae[m]?=U F->F[j]?=U c->O.qS d.ty s.rs b/\(∀i,aW s.ao i=J->ad V i≠b)/\∀(k':Nat)(X:TypeId)(rv:RV),s.rs[k']?=U (.own X)->O.r[k']?=U rv->rv.lE=U b->k'∈C.p8 (s.ev d.gl y).cells:=by
    intro F q1 q2;have hi:n9 d.ty e (O.rv k).ae b:=⟨m,j,F,c,M,kk,q1,q2,h3,hl⟩;have cc:=LM (O:=O) (e0:=.own e) rfl hi;exact⟨⟨k,_,hk,cc⟩,(R.mem.aj k _ _ hk bg).2 b cc,λk' X rv q3 q4 q5=>(PA R q3 q4 q5 hk rfl hi).elim⟩
   rcases LS h1 with⟨rfl,F,f,rfl⟩|⟨bt,f⟩;rw[Vb _ _ _ _ (br F (a4.len _ _ f))] at l;split at l;rename_i hj;have bx:j-H<Y B.ak:=aa;have a1:((te.ak.drop H).take (Y B.ak))[j-H]?=U (.aS M kk):=(b7 _ bx).trans (by rw[show H+(j-H)=j from aa];exact h3);rw[<-c4] at l;obtain⟨L,q1,q2,q3,q4⟩:=ace al l a1 hl;obtain⟨p1,p2⟩:=LN R q3 q2 q4;refine⟨p1,p2,λk' X rv k1 k2 k3=> ?_⟩;have:=U4 R k1 k2 k3 q3 q2 q4;subst this;exact U9 (ki q1) rfl;exact elder F f l;exact elder G f l
  have b1:(C.aK O V (s.ev d.gl y).cells).length=Y B.ak:=by simp[dH]
  have c7:N*w+H+Y B.ak<=ac*w:=by
   have:(N+1)*w<=ac*w:=H3 _ aa;rw[rI] at this;omega
  obtain⟨W',r1,r2,r3,r4,r5,r6,r7⟩:=ab7 (P:=P) bk (N*w+H) e (C.aK O V (s.ev d.gl y).cells) 0 a9 W b6 (by rw[b1,bf,hw];omega) (λu hu=>by
   rw[b8] at hu;obtain⟨c,c8,rfl⟩:=iL.1 hu;obtain⟨j,hj⟩:=ue c8;have dx:j<Y B.ak:=by rw[<-bl];exact(cj.1 hj).1
   obtain⟨ct,ag⟩:∃ct,((te.ak.drop H).take (Y B.ak))[j]?=U ct:=⟨_,cL aa⟩;cases ct with
   |int kk=>obtain⟨n',b2⟩:=a0.int j c kk hj ag;rw[b2];rfl
   |bool=>obtain⟨n',b2⟩:=a0.bool j c hj ag;rw[b2];rfl
   |aS M kk=>exact Ly (a0.aS j c M kk hj ag))
  have a3:((O.rv k).ae.modify N λG=>fA G H vv).length=Q:=by simp[b4]
  have ch:=acg g2 b6;rw[b4,hw] at ch;obtain⟨R',c9⟩:=R.bind cT (old:=U bk) (kill:=[k]) (dj:=C.p8 (s.ev d.gl y).cells) (A:=U ⟨bk,0,Z⟩) (cap:=ac) (W':=W') (.inr ⟨k,e,_,rfl,hk,bg,by rw[g1,LO,cR]⟩) cI
   ⟨r5,r6,r7,aa,λq _ hq=>r3 q (λh=>hq (by rw[h]))⟩ bs c6
   ⟨by rw[a3];exact b5,aw,.inr ⟨bk,_,rfl,r2,cO,by rw[hw,H6,ab6,FA,bf,hw],by
    rw[a3,hw];refine ayr (w:=w) (λm G hr=>by rw[bs.len m G hr,hw]) ?_ (λm j G c h1 l=> ?_);rw[a3,FD,aaZ,ab6,FA,bf,hw];exact OF (H3 _ b5);have dy:m<Q:=by rw[<-a3];exact(cj.1 h1).1
    have dz:j<w:=by rw[<-hw,<-bs.len m G h1];exact(cj.1 l).1
    have cl:m*w+j<Q*w:=by
     have:(m+1)*w<=Q*w:=H3 _ aa;rw[rI] at this;omega
    rw[nA,aL cl,aaZ,zU,ala _ _ _ _ (by rw[b1,FA,bf,hw];exact c7),b1];have cn:∀F:aM,(O.rv k).ae[m]?=U F->F[j]?=U c->a9.toList[m*w+j]?=U c.val:=by
     intro F q1 q2;have:=Pw (w:=w) (λi G hr=>by rw[a4.len i G hr,hw]) q1 q2;rw[<-ch,nA,aL cl] at this;exact this
    rcases LS h1 with⟨rfl,F,f,rfl⟩|⟨bt,f⟩;rw[Vb _ _ _ _ (br F (a4.len _ _ f)),bl] at l;by_cases hj:H<=j/\j<H+Y B.ak;rw[aL hj] at l;rw[aL aa,b8,show m*w+j-(m*w+H)=j-H from aa,dX,l];rfl;rw[aP hj] at l;rw[aP aa];exact cn F f l;have dc:¬(N*w+H<=m*w+j/\m*w+j<N*w+H+Y B.ak):=by
     rintro⟨q1,q2⟩;rcases aKJ bt with dT|d0;have:(m+1)*w<=N*w:=H3 _ aa;rw[rI] at this;omega;have:(N+1)*w<=m*w:=H3 _ aa;rw[rI] at this;omega
    rw[aP dc];exact cn G f l,.inr rfl⟩⟩
  have dd:k<Y O.r:=(cj.1 bg).1;have R2:=R'.iR (k:=k) (n:=Y s.rs) (by
   rw[<-R.er];have e1:(O.add (.r (.mk (.slice (U ⟨bk,0,Z⟩) ((O.rv k).ae.modify N λG=>fA G H vv).length ac) ((O.rv k).ae.modify N λG=>fA G H vv)))).rv (Y O.r)=.mk (.slice (U ⟨bk,0,Z⟩) ((O.rv k).ae.modify N λG=>fA G H vv).length ac) ((O.rv k).ae.modify N λG=>fA G H vv):=by simp[ai.rv,ai.add]
   have e2:(O.add (.r (.mk (.slice (U ⟨bk,0,Z⟩) ((O.rv k).ae.modify N λG=>fA G H vv).length ac) ((O.rv k).ae.modify N λG=>fA G H vv)))).rv k=O.rv k:=by simp[ai.rv,ai.add,dZ,dd]
   rw[e1,e2,RV.nJ,a3];have:=ku RV.val g1;exact this.symm)
  refine⟨undef,W',_,.inr ⟨?_,rfl⟩,⟨⟨_,_,_,by rw[ca],by rw[ca]⟩,c9,λk' _ _ _ hx=>by
   cases hx;rw[RV.nJ,a3];exact(ku RV.val g1).symm⟩,R2.put z.dst (.b9 []), ?_⟩
  have df:(O.rv k).val=.slice (U ⟨bk,0,Z⟩) Q ac:=by rw[g1];rfl
  have cp:((s.ev d.gl y).ab O V).cells.toList=C.aK O V (s.ev d.gl y).cells:=c2;have dk:((s.ev d.gl y).ab O V).cells.size=Y B.ak:=by rw[<-FA,cp];simp[dH]
  simp only[execOp,ho,c1,c0,hx,C.ab,RE.ab,RE.rv,df,oI,hI,zR,jz,Instr.storeAt,Instr.sureAddr,storeVar,dt,fF,dq,(cx _ _ cy).od,dk,cp,ne_eq,not_true_eq_false,gD,r1];have cv:bS s O V ({s with rs:=kL (C.p8 (s.ev d.gl y).cells) 0 (jU [k] 0 s.rs)++[.own e]}:S) _ V:=F7 (rv:=.mk (.slice (U ⟨bk,0,Z⟩) ((O.rv k).ae.modify N λG=>fA G H vv).length ac) ((O.rv k).ae.modify N λG=>fA G H vv)) _ Z (.b9 []);refine bS.put (s:=s) (s':=(({s with rs:=kL (C.p8 (s.ev d.gl y).cells) 0 (jU [k] 0 s.rs)++[.own e]}:S).put Z (.aj (.v (Y s.rs)))).iR k (Y s.rs)) ⟨cv.ext,λq hq=> ?_,by simp[S.put,S.iR,PH],cv.aC⟩ _ _;simp only[S.put,S.iR,IX];exact hq
 cases h;cases h;cases h;cases h
def aco(R:aE p g D d.ty V O s a W)(Q:jW P d.ty)(N:fO d.gl O){H:Bool}{b:BI}(h:eY d z r H s=U b)(M:b.bA.ab O=J):LQ P p g D d.ty V O s a W z b:=by
 cases X:z.op with
 |call c=>
  cases L:c.callee with
  |builtin G=>cases G with
   |append=>exact ayj R Q N X L h M
   |_=>simp[eY,X,L] at h
  |_=>simp[eY,X,L] at h
 |makeSlice t n m=>exact ayl R Q N X h M
 |buildSlice t F parts=>exact aym R Q N X h
 |slice t x B A w=>exact ayp R Q N X h M
 |store t x y=>exact ays R Q N X h M
 |_=>simp[eY,X] at h
end
