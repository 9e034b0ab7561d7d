/- Part 1 of the proof; the last part says what is shown. -/
import GoSem.Step
import Derived.Below
import Derived.Laws.AppendOwn
import Derived.Deep.Draws
import Derived.RangeFuncRecord
import Derived.CallsIn
import Derived.OrdersIn
import Derived.Sort.LoopGhostIn
import Derived.RangeFuncCalls
import Derived.Laws.Cells
import Derived.MapKept
import Derived.IntWalk
set_option linter.all false
set_option maxRecDepth 100000
set_option maxHeartbeats 100000000
open Bool renaming and_eq_true->aw,not_eq_true'->f9,false_eq_true->iC,or_eq_true->iD,eq_iff_iff->uF,not_eq_false->BC,rec->Ge,not_eq_true->aaD,or_eq_true_iff->alp,and_assoc->alA,true_or->alH,true->J,false->E
open List renaming getElem?_eq_some_iff->bJ,getD_eq_getElem?_getD->cw,getElem?_eq_getElem->ce,getElem?_append_left->dF,getElem?_map->dM,getElem?_append_right->gK,mem_append->eC,mem_cons->dJ,all_eq_true->eO,replicate->ew,length_append->fQ,map_cons->ep,mem_of_getElem?->iU,getElem?_eq_none->jx,map_congr_left->jh,range->e8,any_eq_true->jy,ext_getElem?->jV,eq_nil_of_length_eq_zero->qG,length_eq_one_iff->nj,mem_map->gL,getElem?_take->lT,getElem?_cons_succ->qH,getElem?_set_ne->pM,getElem?_of_mem->qI,getElem?_drop->rJ,getElem_mem->pN,length_cons->pO,length_map->o8,map_map->mT,getElem?_eq_none_iff->zT,getElem?_set->td,drop_eq_getElem_cons->Dv,mem_of_mem_drop->zU,getElem?_replicate->Dw,mem_cons_of_mem->By,mem_of_mem_take->Bz,getElem?_set_self->Dy,take_of_length_le->F7,append_assoc->BD,range'->uI,size_toArray->DB,getElem?_range->F8,mem_of_find?_eq_some->NB,foldl_cons->BF,length_drop->DD,length_take->F9,length_singleton->NE,range_eq_range'->NF,find?_cons->Ga,mem_singleton->NI,rec->v7,drop_drop->JJ,toList_toArray->Tm,all_cons->JK,find?_some->NN,zip_cons_cons->To,flatMap_cons->Tq,getElem?_toArray->aay,range'_succ->Ts,drop_eq_nil_of_le->alj,getElem?_modify->alo,drop_zero->alB,mapM_cons->alC,length->Y
open Go.Result renaming andThen_ok->cT
open Nat renaming le_refl->bU,lor->bE,zero_add->gV,shiftLeft->ld,beq->hM,blt->iW,le_trans->pP,add_mul->pe,eq_zero_or_pos->BB,mul_le_mul_right->Dz,add_zero->uH,testBit_or->BG,min_eq_left->Gb,add_assoc->DE,testBit_add_one->NH,lt_of_lt_of_le->Tn,mul_comm->NS,mod_lt->JN,zero_le->NT,rec->DF,testBit_shiftLeft->alk,div_lt_of_lt_mul->aln,div_add_mod->aaF,sub_self->Tv,one_shiftLeft->alr,gcd->JO,testBit_zero->alw,eq_of_beq_eq_true->axb,mul_le_mul->alD,beq_eq->aaM,testBit_two_pow->axj,lt_or_gt_of_ne->axp
open Option renaming map_some->dQ,isSome_iff_exists->jw,getD_some->nl,bind_some->Tt,getD_none->aaC,some->U,none->Z
open Go.Sem renaming run_bind->cZ,run_pure->eI
open Array renaming getElem?_eq_some_iff->jg,ext'->kG,toList_map->th,getElem?_eq_getElem->F6,length_toList->BA,getElem?_modify->JB,getElem?_setIfInBounds_ne->aav,getElem?_toList->Tk,toList_range->alq,mapM_eq_mapM_toList->awZ,getElem?_eq_none->aw7,range->aaK,foldl_toList->axo
open Go.Op renaming operands->gu,equalIn->zW,equal->BL
open Go.Region renaming binds->alI
open Go.World renaming putObj_heap_other->rI,cell?->mC,putObj->BJ,alloc_heap_new->NG,setCell->NQ,frozen?->NR,grownBy_alloc->axk
open List.cons renaming injEq->uG
open Go.Call renaming operands->xS
open Int renaming toNat_natCast->DC
open Prod.mk renaming injEq->BH
open Go.IntKind renaming i64->I
namespace Go.Proofs.YtfpoabmmjhhncaaGreatDoor.Y
variable{R Q i:Nat}
def aa{p:Prop}(h:p:=by omega):p:=h
def au{p:Prop}(h:p:=by simp):p:=h
def DG{p:Prop}(h:p:=by assumption):p:=h
def eW{p:Prop}(h:p:=by decide):p:=h
def dG{p:Prop}(h:p:=by simp;omega):p:=h
def bS{p:Prop}(h:p:=by simp[gu]):p:=h
def qK{p:Prop}(h:p:=by dsimp only;decide):p:=h
def bZ:= @decide_eq_true_eq
def di:= @beq_iff_eq
def aE:= @if_pos
def aJ:= @if_neg
def cH:= @if_true
def fH:= @if_false
def bp:= @absurd
def ji:= @congrArg
def uJ:= @of_decide_eq_true
def cg:= @Option.some.injEq
def lf:= @Option.some.inj
structure Sh where
 kt:TypeId
 vt:TypeId
 nk:Nat
 ka:Bool
 va:Bool
 deriving DecidableEq
abbrev ap:=List Nat
abbrev bX:=Option Nat
abbrev aZ:=List Int
abbrev iX:=List TypeId
abbrev pQ:=Option (List TypeId)
abbrev db:=Array Oper
abbrev nM:=List Oper
abbrev lW:=List (Nat×Nat×Nat)
abbrev lg:=List ResultVar
abbrev zX:=List (Nat×Nat)
abbrev eX:=List Value
abbrev kH:=Array Value
abbrev kJ:=List Bool
abbrev mU:=Option Addr
abbrev qL:=List (Value×Value)
inductive RK where
 |sl (e:TypeId)
 |str
 |ac
 |own (e:TypeId)
 |ao
 |mr (sh:Sh)
 deriving DecidableEq
abbrev aY:=List RK
def RK.rd:RK->RK
 |.own e=>.sl e
 |k=>k
inductive CT where
 |int (k:IntKind)
 |bool
 |ac (z:Value) (k:RK)
abbrev eG:=List CT
inductive TD where
 |one
 |fT
 |str
 |slice (e:TypeId)
 |arr (n:Nat) (e:TypeId)
 |struct (fs:List (Nat×TypeId))
 |map (k e:TypeId) (n:Nat) (ag:Bool)
structure TI where
 d:TD
 aj:eG
 eq:Bool:=E
abbrev BM:=Option TI
mutual
inductive K where
 |c (n:Int)
 |v (k:Nat)
 |bin (op:BinOp) (k:IntKind) (a b:K)
 |conv(k:IntKind) (a:K)
 |len (r:RE)
 |mm (mx:Bool) (a b:K)
 |dv (b:BE) (x y:K)
 |cell (r:RE) (i:K) (j:Nat)
 |mV (r:RE) (i:K)
 |look (r:RE) (n:Nat) (a b c:K) (j:Nat)
inductive BE where
 |c (b:Bool)
 |v (k:Nat)
 |cmp (op:BinOp) (a b:K)
 |not (a:BE)
 |and (a b:BE)
 |beq (a b:BE)
 |dv (b x y:BE)
 |cell (r:RE) (i:K) (j:Nat)
 |seq (a b:RE)
 |look (r:RE) (n:Nat) (a b c:K) (j:Nat)
 |has (r:RE) (n:Nat) (a b c:K)
inductive RE where
 |v (k:Nat)
 |cell (r:RE) (i:K) (j:Nat) (k:RK)
 |k (v:Value)
end
inductive C where
 |int (k:IntKind) (e:K)
 |bool (b:BE)
 |ah (r:RE)
 |loc (i off:Nat)
 |el (r:RE) (w:Nat) (i:K) (off:Nat)
 |ij (i off len cap:Nat)
 |agg (l:List C)
 |bA (l:List C)
 |fn (f:FuncId) (caps:List C)
 |fT (t:TypeId) (x:C)
 |yl (n:Nat)
 |any
 |mp (i:Nat)
 |fy (e:K) (ks:List Int) (vs:List C)
abbrev am:=List C
abbrev uK:=List (List C)
abbrev DH:=Option (List C)
inductive PX where
 |ret
 |exit (id:Nat)
 deriving DecidableEq
inductive DJ where
 |ready
 |busy
 |done (e:PX)
 deriving DecidableEq
abbrev rK:=List DJ
abbrev bn:=List (Option (TypeId×am))
structure S where
 tmps:am
 ak:bn
 ni:Nat
 nb:Nat
 rs:aY
 av:Nat
 lk:Nat
 pd:rK
noncomputable def bM(l:bn)(i:Nat):Option (TypeId×am):=v7 (motive:=λ_=>Nat->Option (TypeId×am)) (λ_=>Z) (λx _ X t=>DF (motive:=λ_=>Option (TypeId×am)) x (λm _=>X m) t) l i
def cj:∀(l:bn)(i:Nat),bM l i=(match l[i]? with
  |U (U b)=>U b
  |_=>Z)
 |[],_=>rfl
 |Z::_,0=>rfl
 |U _::_,0=>rfl
 |_::l,i+1=>by rw[qH];exact cj l i
noncomputable section
def rL:TypeId:=1099511627776
def tj:TypeId:=1099511627777
def uL:TypeId:=1099511627778
def ow(t:TypeId):Bool:=decide (rL<=t)
def kK(l:bn)(i:Nat):Option (TypeId×am):=match bM l i with
 |U (t,X)=>if ow t then Z else U (t,X)
 |none=>Z
inductive LK where
 |int (k:IntKind)
 |bool
 |ah (k:RK)
 deriving DecidableEq
abbrev aI:=List LK
inductive XE where
 |normal
 |ret
 |exit (id:Nat)
 |aW (v:C)
inductive LE where
 |ah (r:RE)
 |lit (l:List (List C))
 |jW (a b:LE)
 |tq (n:K) (row:List C)
 |set (a:LE) (i:K) (off:Nat) (cs:List C)
 |sub (a:LE) (lo hi:K)
 |ins (a:LE) (n:Nat) (cs:List C)
inductive bB where
 |lex (cs:List Nat) (desc:Bool)
 |ratio (n d:Nat)
 |da (k:Nat) (o:bB) (as:List K)
abbrev xW:=List (FuncId×FuncId×TypeId×bB×Bool)
inductive T where
 |out (e:XE) (s:S)
 |ret (v:C) (bx:bn) (rs:List RK)
 |aW (v:C)
 |aS (b:BE) (t f:T)
 |aN (b:BE) (t:T)
 |call (f:FuncId) (args:List C) (bx:bn) (rs:List RK) (ks:List LK) (iE:C) (t:T)
 |loop (av:Nat) (ks:List LK) (x0:List C) (t:T)
 |back (av:Nat) (x:List C)
 |new (e:TypeId) (x:LE) (rs rsn:List RK) (t:T)
 |ae (k:RK) (x:LE) (rs:List RK) (t:T)
 |fU (g h:BE) (t f:T)
 |pick (n:K) (g h:BE) (t f:T)
 |dK (f g:FuncId) (e:TypeId) (sp:bB) (st:Bool) (r:RE) (rs:List RK) (t:T)
 |stuck (msg:String)
def Gf:Value->C
 |.int k n=>.int k (.c n)
 |.bool b=>.bool (.c b)
 |v=>.ah (.k v)
def JP:Value->C
 |.int k n=>.int k (.c n)
 |.bool b=>.bool (.c b)
 |.agg X=>.agg (X.toList.map Gf)
 |v=>.ah (.k v)
def Tw(l:am)(t:Nat):C:=v7 (motive:=λ_=>Nat->C) (λ_=>.any) (λx _ X t=>DF (motive:=λ_=>C) x (λm _=>X m) t) l t
def aaO(l:am)(d:Nat)(v:C):am:=v7 (motive:=λ_=>Nat->am) (λ_=>[]) (λx X W d=>DF (motive:=λ_=>am) (v::X) (λm _=>x::W m) d) l d
@[simp] def uM:∀(l:am)(t:Nat),Tw l t=l.getD t .any
 |[],_=>rfl
 |_::_,0=>rfl
 |_::X,t+1=>uM X t
@[simp] def tw:∀(l:am)(d:Nat)(v:C),aaO l d v=l.set d v
 |[],_,_=>rfl
 |_::_,0,_=>rfl
 |x::X,d+1,v=>ji (x::·) (tw X d v)
def S.ev(X:lW)(s:S):Operand->C
 |.tmp t=>Tw s.tmps t
 |.const v=>JP v
 |.global g=>match X.find? (λx=>x.1==g) with
  |U (_,k,w)=>.el (.v k) w (.c 0) 0
  |none=>.any
 |.func f=>.fn f []
def S.put(s:S)(X:bX)(v:C):S:=
 match X with
 |U d=>{s with tmps:=aaO s.tmps d v}
 |none=>s
def BN(r:RE)(i:K)(j:Nat):CT->C
 |.int k=>.int k (.cell r i j)
 |.bool=>.bool (.cell r i j)
 |.ac _ k=>.ah (.cell r i j k)
def zY:CT->C
 |.int k=>.int k (.c 0)
 |.bool=>.bool (.c E)
 |.ac z _=>.ah (.k z)
def TD.isAgg:TD->Bool
 |.arr _ _|.struct _=>J
 |_=>E
def C.cells:C->am
 |.agg l=>l
 |v=>[v]
def ik:Value->Bool
 |.agg _|.tuple _=>E
 |_=>J
def RE.DK:RE->Bool
 |.k w=>ik w
 |_=>J
def C.DL:C->Bool
 |.ah (.k w)=>ik w
 |_=>J
def C.single:C->Bool
 |.ah (.k w)=>ik w
 |.agg _|.bA _|.any=>E
 |_=>J
noncomputable def BO(l:am):Bool:=v7 (motive:=λ_=>Bool) J (λx _ X=>Ge (motive:=λ_=>Bool) E X x.single) l
def NU:(BO []=J)/\(∀x X,BO (x::X)=(x.single&&BO X)):=⟨rfl,λx X=>by
 show Ge (motive:=λ_=>Bool) E (BO X) x.single=_;cases x.single<;>rfl⟩
def uN(l:am)(X n:Nat):am:=(l.drop X).take n
def uO(X:TI)(l:am)(W:Nat):Option C:=
 if X.d.isAgg then(if W+Y X.aj<=Y l then U (.agg (uN l W (Y X.aj))) else Z) else l[W]?
def ko(l:am)(X:Nat):am->am
 |[]=>l
 |v::r=>ko (l.set X v) (X+1) r
def v8(place:Nat->Option (Nat×Nat))(cells:am):List (Nat×C)->DH
 |[]=>U cells
 |(i,v)::V=>
  match place i with
  |none=>Z
  |U (X,W)=>if Y v.cells !=W||decide (Y cells<X+W)|| !v.DL then Z else v8 place (ko cells X v.cells) V
def dV(X:TI):am:=X.aj.map zY
def uP(n:Nat)(l:am):am:=match n with
 |0=>[]
 |n+1=>l++uP n l
def NV:BinOp->Bool
 |.eql|.neq|.lss|.leq|.gtr|.geq=>J
 |_=>E
def gm:BinOp->Int->Int->Bool
 |.eql,x,y=>x==y
 |.neq,x,y=>x !=y
 |.lss,x,y=>decide (x<y)
 |.leq,x,y=>decide (x<=y)
 |.gtr,x,y=>decide (x>y)
 |.geq,x,y=>decide (x>=y)
 |_,_,_=>E
def bH:BinOp->IntKind->Int->Int->Int
 |.add,k,x,y=>k.wrap (x+y)
 |.sub,k,x,y=>k.wrap (x-y)
 |.mul,k,x,y=>k.wrap (x*y)
 |.quo,k,x,y=>k.wrap (x.tdiv y)
 |.rem,_,x,y=>x.tmod y
 |.shr,k,x,y=>x.fdiv (2^min y.toNat k.bits)
 |.and,k,x,y=>k.wrap (BitVec.ofInt k.bits x&&& BitVec.ofInt k.bits y).toNat
 |_,_,_,_=>0
def Tx:BinOp->Bool
 |.add|.sub|.mul|.and=>J
 |_=>E
def Tz:BinOp->Bool
 |.quo|.rem=>J
 |_=>E
def aaP:BinOp->Bool
 |.shr=>J
 |_=>E
inductive PR where
 |ok (v:C)
 |aN (b:BE) (v:C)
 |no (why:String)
def BP(X:BinOp)(k:IntKind):K->K->K
 |.c x,.c y=>.c (bH X k x y)
 |a,b=>.bin X k a b
def oz(X:BinOp):K->K->BE
 |.c x,.c y=>.c (gm X x y)
 |a,b=>.cmp X a b
def BQ:BE->BE
 |.c b=>.c (!b)
 |b=>.not b
def tA:BE->BE->BE
 |.c J,b=>b
 |.c E,_=>.c E
 |a,.c J=>a
 |a,b=>.and a b
def JQ:BE->BE->BE
 |.c a,.c b=>.c (a==b)
 |.c J,b=>b
 |.c E,b=>BQ b
 |a,.c J=>a
 |a,.c E=>BQ a
 |a,b=>.beq a b
def tB(i:K)(n:K):BE:=tA (oz .leq (.c 0) i) (oz .lss i n)
def NW(X:Bool):K->K->K
 |.c x,.c y=>.c (if X then max x y else min x y)
 |a,b=>.mm X a b
def DM(X:Bool)(k:IntKind):K->am->Option K
 |e,[]=>U e
 |e,.int W x::r=>if k=W then DM X k (NW X e x) r else Z
 |_,_=>Z
abbrev Ty:=TypeId->BM
def bm(W:Ty):RK->eG
 |.sl e=>match W e with
  |U X=>X.aj
  |none=>[]
 |.mr V=>(match W V.kt with
  |U X=>X.aj
  |none=>[])++(match W V.vt with
  |U X=>X.aj
  |none=>[])
 |_=>[]
def DN:Option CT->RK
 |U (.ac _ k)=>k
 |_=>.ac
def RE.isNil:RE->Bool
 |.k (.slice Z 0 0)=>J
 |_=>E
def RE.kind(X:Ty)(s:S):RE->RK
 |.v n=>(s.rs.getD n .ac).rd
 |.cell r _ j W=>match RE.kind X s r with
  |.sl e=>if DN (bm X (.sl e))[j]?=W then W else .ac
  |_=>.ac
 |.k (.string _)=>.str
 |.k _=>.ac
def Gg(X:Ty)(s:S):CT->C->C->Option BE
 |.int k,.int W a,.int V b=>if W=k/\V=k then U (oz .eql a b) else Z
 |.bool,.bool a,.bool b=>U (JQ a b)
 |.ac _ .str,.ah a,.ah b=>if a.kind X s=.str/\b.kind X s=.str then U (.seq a b) else Z
 |_,_,_=>Z
def pR(X:Ty)(s:S):eG->am->am->Option BE
 |[],[],[]=>U (.c J)
 |c::W,x::V,y::R=>match Gg X s c x y,pR X s W V R with
  |U a,U b=>U (tA a b)
  |_,_=>Z
 |_,_,_=>Z
def Gh(X:Ty)(s:S)(W:BM)(a b:am):Option BE:=match W with
 |U ⟨_,aj,J⟩=>pR X s aj a b
 |_=>Z
def TA(X:Ty)(W:List (Nat×TypeId))(i:Nat):Option (Nat×Nat):=match W[i]? with
 |U (o,V)=>(X V).map λf=>(o,Y f.aj)
 |none=>Z
def RE.nil:RE->Bool
 |.k (.slice Z 0 0)=>J
 |_=>E
def RE.nq(X:Ty)(s:S)(W:Sh)(r:RE):Bool:=decide (r.kind X s=.mr W)||r.nil
def DO(n:Nat)(X:Bool):C->Option (K×K×K)
 |.int I a=>if n==1&& !X then U (a,.c 0,.c 0) else Z
 |.agg [.int I a]=>if n==1&&X then U (a,.c 0,.c 0) else Z
 |.agg [.int I a,.int I b]=>if n==2&&X then U (a,b,.c 0) else Z
 |.agg [.int I a,.int I b,.int I c]=>if n==3&&X then U (a,b,c) else Z
 |_=>Z
def lX:CT->Bool
 |.ac _ _=>E
 |_=>J
def pf(r:RE)(n:Nat)(a b c:K):Nat->eG->am
 |_,[]=>[]
 |j,.int k::X=>.int k (.look r n a b c j)::pf r n a b c (j+1) X
 |j,.bool::X=>.bool (.look r n a b c j)::pf r n a b c (j+1) X
 |j,.ac z _::X=>.ah (.k z)::pf r n a b c (j+1) X
def qM(X:Bool)(l:am):C:=if X then .agg l else l.getD 0 .any
def ph:am->Option aZ
 |[]=>U []
 |.int I (.c k)::_::r=>(ph r).map (k::·)
 |_=>Z
def lj:am->am
 |_::v::r=>v::lj r
 |_=>[]
def xX(e:K):aZ->am->Option K
 |k::X,.int _ x::W=>(xX e X W).map λy=>.dv (.cmp .eql e (.c k)) x y
 |[],[]=>U (.c 0)
 |_,_=>Z
def zZ(e:K):aZ->am->Option BE
 |k::X,.bool x::W=>(zZ e X W).map λy=>.dv (.cmp .eql e (.c k)) x y
 |[],[]=>U (.c E)
 |_,_=>Z
def Gi:C->Bool
 |.fn f _=>iW f 2000000
 |.ah (.k .nilFunc)=>J
 |_=>E
def JR:BM->Bool
 |U ⟨.one,[.ac .nilFunc _],_⟩=>J
 |_=>E
def Aa(e:K):aZ->am->BE
 |k::X,.fn _ _::W=>.dv (.cmp .eql e (.c k)) (.c E) (Aa e X W)
 |k::X,_::W=>.dv (.cmp .eql e (.c k)) (.c J) (Aa e X W)
 |_,_=>.c J
def TC(e:K)(W:aZ)(X:am):CT->Option C
 |.int k=>if X.all λv=>match v with|.int V _=>decide (k=V)|_=>E then(xX e W X).map (.int k) else Z
 |.bool=>(zZ e W X).map .bool
 |.ac .nilFunc _=>if X.all Gi&&Y W==Y X then U (.fy e W X) else Z
 |_=>Z
def Ac(e:K)(X:aZ)(W:uK):Nat->eG->DH
 |_,[]=>U []
 |j,c::V=>match TC e X (W.map λr=>r.getD j .any) c,Ac e X W (j+1) V with
  |U v,U r=>U (v::r)
  |_,_=>Z
def DP(e:K):aZ->BE
 |[]=>.c E
 |k::X=>.dv (.cmp .eql e (.c k)) (.c J) (DP e X)
def ez{X:Type}(x:Int):aZ->List X->Option X
 |k::W,v::V=>if x=k then U v else ez x W V
 |_,_=>Z
def xY(X:TI)(v:C):Bool:=Y v.cells==Y X.aj&&v.DL&&(match v with
 |.agg _=>X.d.isAgg
 |_=> !X.d.isAgg)
def aaQ(X:TI)(e:K)(W:am):Option (C×BE):=match ph W with
 |U V=>match e with
  |.c x=>match ez x V (lj W) with
   |U v=>U (v,.c J)
   |none=>U (qM X.d.isAgg (dV X),.c E)
  |e=>if(lj W).all (xY X) then(Ac e V ((lj W).map C.cells) 0 X.aj).map λl=>(qM X.d.isAgg l,DP e V) else Z
 |none=>Z
def TE:CT->Bool
 |.int I=>J
 |_=>E
def qN(X:Ty)(k:TypeId)(n:Nat)(W:Bool):Bool:=match X k with
 |U tk=>Y tk.aj==n&&tk.aj.all TE&&tk.d.isAgg==W
 |none=>E
def NX(X:Bool)(v:C)(b:BE):PR:=.ok (if X then .bA [v,.bool b] else v)
def NY(V:Ty)(s:S)(k e:TypeId)(n:Nat)(W R:Bool)(i:Nat)(O:C):PR:=match V e,DO n W O,bM s.ak i with
 |U X,U (a,b,c),U (Q,P)=>if !qN V k n W then .no "" else
  if Q==tj then(match P with
   |[.ah r,.int I (.c N),.bool (.c M),.bool (.c L)]=>if r.nq V s ⟨k,e,n,W,X.d.isAgg⟩&&N==(n:Int)&&M==W&&L==X.d.isAgg&&X.aj.all lX&&Y X.aj !=0 then NX R (qM X.d.isAgg (pf r n a b c n X.aj)) (.has r n a b c) else .no ""
   |_=>.no "")
  else if Q==rL then(if n==1&& !W then(match aaQ X a P with
   |U (v,x)=>NX R v x
   |none=>.no "") else .no "")
  else .no ""
 |_,_,_=>.no ""
def Ad(n:Nat):aZ:=(e8 n).map λ(i:Nat)=>(i:Int)
def NZ(X:TI)(e:K)(V:aZ)(W:am):Option C:=if W.all (xY X) then(Ac e V (W.map C.cells) 0 X.aj).map (qM X.d.isAgg) else Z
def wa(X:am):bX:=match X with
 |.loc i _::_=>if X.all λv=>match v with
  |.loc j _=>i==j
  |_=>E then U i else Z
 |_=>Z
def BR{X:Type}:List (Option X)->Option (List X)
 |[]=>U []
 |U x::r=>(BR r).map (x::·)
 |Z::_=>Z
def TF(X:TI)(W:am):C->Option C
 |.loc _ V=>uO X W V
 |_=>Z
def DQ:Value->Value->Bool
 |.string a,.string b=>a.data.toList==b.data.toList
 |.slice Z a b,.slice Z c d=>a==c&&b==d
 |.pointer Z,.pointer Z=>J
 |.nilFunc,.nilFunc=>J
 |.nilIface,.nilIface=>J
 |.map Z,.map Z=>J
 |_,_=>E
def xZ(a b:BinOp):Bool:=decide (a=b)
noncomputable def K.aH(e:K):K->Bool:=K.rec (motive_1:=λ_=>K->Bool) (motive_2:=λ_=>BE->Bool) (motive_3:=λ_=>RE->Bool) (λn e=>match e with|K.c N=>n==N|_=>E) (λk e=>match e with|K.v O=>k==O|_=>E) (λo k _ _ X W e=>match e with|K.bin D O V R=>xZ o D&&decide (k=O)&&X V&&W R|_=>E) (λk _ X e=>match e with|K.conv O V=>decide (k=O)&&X V|_=>E) (λ_ Q e=>match e with|K.len P=>Q P|_=>E) (λm _ _ X W e=>match e with|K.mm x V R=>m==x&&X V&&W R|_=>E) (λ_ _ _ W B A e=>match e with|K.dv R z y=>W R&&B z&&A y|_=>E) (λ_ _ j Q L e=>match e with|K.cell P H M=>Q P&&L H&&j==M|_=>E) (λ_ _ Q L e=>match e with|K.mV P H=>Q P&&L H|_=>E) (λ_ n _ _ _ j Q X W G e=>match e with|K.look P N V R F M=>Q P&&n==N&&X V&&W R&&G F&&j==M|_=>E) (λn e=>match e with|BE.c N=>n==N|_=>E) (λk e=>match e with|BE.v O=>k==O|_=>E) (λo _ _ X W e=>match e with|BE.cmp D V R=>xZ o D&&X V&&W R|_=>E) (λ_ X e=>match e with|BE.not V=>X V|_=>E) (λ_ _ X W e=>match e with|BE.and V R=>X V&&W R|_=>E) (λ_ _ X W e=>match e with|BE.beq V R=>X V&&W R|_=>E) (λ_ _ _ W B A e=>match e with|BE.dv R z y=>W R&&B z&&A y|_=>E) (λ_ _ j Q L e=>match e with|BE.cell P H M=>Q P&&L H&&j==M|_=>E) (λ_ _ X W e=>match e with|BE.seq V R=>X V&&W R|_=>E) (λ_ n _ _ _ j Q X W G e=>match e with|BE.look P N V R F M=>Q P&&n==N&&X V&&W R&&G F&&j==M|_=>E) (λ_ n _ _ _ Q X W G e=>match e with|BE.has P N V R F=>Q P&&n==N&&X V&&W R&&G F|_=>E) (λk e=>match e with|RE.v O=>k==O|_=>E) (λ_ _ j k Q L e=>match e with|RE.cell P H M O=>Q P&&L H&&j==M&&decide (k=O)|_=>E) (λv e=>match e with|RE.k w=>DQ v w|_=>E) e
noncomputable def BE.aH(e:BE):BE->Bool:=BE.rec (motive_1:=λ_=>K->Bool) (motive_2:=λ_=>BE->Bool) (motive_3:=λ_=>RE->Bool) (λn e=>match e with|K.c N=>n==N|_=>E) (λk e=>match e with|K.v O=>k==O|_=>E) (λo k _ _ X W e=>match e with|K.bin D O V R=>xZ o D&&decide (k=O)&&X V&&W R|_=>E) (λk _ X e=>match e with|K.conv O V=>decide (k=O)&&X V|_=>E) (λ_ Q e=>match e with|K.len P=>Q P|_=>E) (λm _ _ X W e=>match e with|K.mm x V R=>m==x&&X V&&W R|_=>E) (λ_ _ _ W B A e=>match e with|K.dv R z y=>W R&&B z&&A y|_=>E) (λ_ _ j Q L e=>match e with|K.cell P H M=>Q P&&L H&&j==M|_=>E) (λ_ _ Q L e=>match e with|K.mV P H=>Q P&&L H|_=>E) (λ_ n _ _ _ j Q X W G e=>match e with|K.look P N V R F M=>Q P&&n==N&&X V&&W R&&G F&&j==M|_=>E) (λn e=>match e with|BE.c N=>n==N|_=>E) (λk e=>match e with|BE.v O=>k==O|_=>E) (λo _ _ X W e=>match e with|BE.cmp D V R=>xZ o D&&X V&&W R|_=>E) (λ_ X e=>match e with|BE.not V=>X V|_=>E) (λ_ _ X W e=>match e with|BE.and V R=>X V&&W R|_=>E) (λ_ _ X W e=>match e with|BE.beq V R=>X V&&W R|_=>E) (λ_ _ _ W B A e=>match e with|BE.dv R z y=>W R&&B z&&A y|_=>E) (λ_ _ j Q L e=>match e with|BE.cell P H M=>Q P&&L H&&j==M|_=>E) (λ_ _ X W e=>match e with|BE.seq V R=>X V&&W R|_=>E) (λ_ n _ _ _ j Q X W G e=>match e with|BE.look P N V R F M=>Q P&&n==N&&X V&&W R&&G F&&j==M|_=>E) (λ_ n _ _ _ Q X W G e=>match e with|BE.has P N V R F=>Q P&&n==N&&X V&&W R&&G F|_=>E) (λk e=>match e with|RE.v O=>k==O|_=>E) (λ_ _ j k Q L e=>match e with|RE.cell P H M O=>Q P&&L H&&j==M&&decide (k=O)|_=>E) (λv e=>match e with|RE.k w=>DQ v w|_=>E) e
noncomputable def RE.aH(e:RE):RE->Bool:=RE.rec (motive_1:=λ_=>K->Bool) (motive_2:=λ_=>BE->Bool) (motive_3:=λ_=>RE->Bool) (λn e=>match e with|K.c N=>n==N|_=>E) (λk e=>match e with|K.v O=>k==O|_=>E) (λo k _ _ X W e=>match e with|K.bin D O V R=>xZ o D&&decide (k=O)&&X V&&W R|_=>E) (λk _ X e=>match e with|K.conv O V=>decide (k=O)&&X V|_=>E) (λ_ Q e=>match e with|K.len P=>Q P|_=>E) (λm _ _ X W e=>match e with|K.mm x V R=>m==x&&X V&&W R|_=>E) (λ_ _ _ W B A e=>match e with|K.dv R z y=>W R&&B z&&A y|_=>E) (λ_ _ j Q L e=>match e with|K.cell P H M=>Q P&&L H&&j==M|_=>E) (λ_ _ Q L e=>match e with|K.mV P H=>Q P&&L H|_=>E) (λ_ n _ _ _ j Q X W G e=>match e with|K.look P N V R F M=>Q P&&n==N&&X V&&W R&&G F&&j==M|_=>E) (λn e=>match e with|BE.c N=>n==N|_=>E) (λk e=>match e with|BE.v O=>k==O|_=>E) (λo _ _ X W e=>match e with|BE.cmp D V R=>xZ o D&&X V&&W R|_=>E) (λ_ X e=>match e with|BE.not V=>X V|_=>E) (λ_ _ X W e=>match e with|BE.and V R=>X V&&W R|_=>E) (λ_ _ X W e=>match e with|BE.beq V R=>X V&&W R|_=>E) (λ_ _ _ W B A e=>match e with|BE.dv R z y=>W R&&B z&&A y|_=>E) (λ_ _ j Q L e=>match e with|BE.cell P H M=>Q P&&L H&&j==M|_=>E) (λ_ _ X W e=>match e with|BE.seq V R=>X V&&W R|_=>E) (λ_ n _ _ _ j Q X W G e=>match e with|BE.look P N V R F M=>Q P&&n==N&&X V&&W R&&G F&&j==M|_=>E) (λ_ n _ _ _ Q X W G e=>match e with|BE.has P N V R F=>Q P&&n==N&&X V&&W R&&G F|_=>E) (λk e=>match e with|RE.v O=>k==O|_=>E) (λ_ _ j k Q L e=>match e with|RE.cell P H M O=>Q P&&L H&&j==M&&decide (k=O)|_=>E) (λv e=>match e with|RE.k w=>DQ v w|_=>E) e
def K.gv:(∀n e,K.aH (.c n) e=match e with|K.c Q=>n==Q|_=>E)/\(∀k e,K.aH (.v k) e=match e with|K.v R=>k==R|_=>E)/\(∀o k a b e,K.aH (.bin o k a b) e=match e with|K.bin N R X W=>xZ o N&&decide (k=R)&&K.aH a X&&K.aH b W|_=>E)/\(∀k a e,K.aH (.conv k a) e=match e with|K.conv R X=>decide (k=R)&&K.aH a X|_=>E)/\(∀r e,K.aH (.len r) e=match e with|K.len V=>RE.aH r V|_=>E)/\(∀m a b e,K.aH (.mm m a b) e=match e with|K.mm M X W=>m==M&&K.aH a X&&K.aH b W|_=>E)/\(∀b x y e,K.aH (.dv b x y) e=match e with|K.dv W L H=>BE.aH b W&&K.aH x L&&K.aH y H|_=>E)/\(∀r i j e,K.aH (.cell r i j) e=match e with|K.cell V P O=>RE.aH r V&&K.aH i P&&j==O|_=>E)/\(∀r i e,K.aH (.mV r i) e=match e with|K.mV V P=>RE.aH r V&&K.aH i P|_=>E)/\(∀r n a b c j e,K.aH (.look r n a b c j) e=match e with|K.look V Q X W G O=>RE.aH r V&&n==Q&&K.aH a X&&K.aH b W&&K.aH c G&&j==O|_=>E):=⟨λ_ _=>rfl,λ_ _=>rfl,λ_ _ _ _ _=>rfl,λ_ _ _=>rfl,λ_ _=>rfl,λ_ _ _ _=>rfl,λ_ _ _ _=>rfl,λ_ _ _ _=>rfl,λ_ _ _=>rfl,λ_ _ _ _ _ _ _=>rfl⟩
def BE.gv:(∀n e,BE.aH (.c n) e=match e with|BE.c V=>n==V|_=>E)/\(∀k e,BE.aH (.v k) e=match e with|BE.v O=>k==O|_=>E)/\(∀o a b e,BE.aH (.cmp o a b) e=match e with|BE.cmp N X W=>xZ o N&&K.aH a X&&K.aH b W|_=>E)/\(∀a e,BE.aH (.not a) e=match e with|BE.not X=>BE.aH a X|_=>E)/\(∀a b e,BE.aH (.and a b) e=match e with|BE.and X W=>BE.aH a X&&BE.aH b W|_=>E)/\(∀a b e,BE.aH (.beq a b) e=match e with|BE.beq X W=>BE.aH a X&&BE.aH b W|_=>E)/\(∀b x y e,BE.aH (.dv b x y) e=match e with|BE.dv W M L=>BE.aH b W&&BE.aH x M&&BE.aH y L|_=>E)/\(∀r i j e,BE.aH (.cell r i j) e=match e with|BE.cell R H Q=>RE.aH r R&&K.aH i H&&j==Q|_=>E)/\(∀a b e,BE.aH (.seq a b) e=match e with|BE.seq X W=>RE.aH a X&&RE.aH b W|_=>E)/\(∀r n a b c j e,BE.aH (.look r n a b c j) e=match e with|BE.look R V X W P Q=>RE.aH r R&&n==V&&K.aH a X&&K.aH b W&&K.aH c P&&j==Q|_=>E)/\(∀r n a b c e,BE.aH (.has r n a b c) e=match e with|BE.has R V X W P=>RE.aH r R&&n==V&&K.aH a X&&K.aH b W&&K.aH c P|_=>E):=⟨λ_ _=>rfl,λ_ _=>rfl,λ_ _ _ _=>rfl,λ_ _=>rfl,λ_ _ _=>rfl,λ_ _ _=>rfl,λ_ _ _ _=>rfl,λ_ _ _ _=>rfl,λ_ _ _=>rfl,λ_ _ _ _ _ _ _=>rfl,λ_ _ _ _ _ _=>rfl⟩
def RE.gv:(∀k e,RE.aH (.v k) e=match e with|RE.v X=>k==X|_=>E)/\(∀r i j k e,RE.aH (.cell r i j k) e=match e with|RE.cell W V R X=>RE.aH r W&&K.aH i V&&j==R&&decide (k=X)|_=>E)/\(∀v e,RE.aH (.k v) e=match e with|RE.k Q=>DQ v Q|_=>E):=⟨λ_ _=>rfl,λ_ _ _ _ _=>rfl,λ_ _=>rfl⟩
noncomputable def C.aH(v:C):C->Bool:=C.rec (motive_1:=λ_=>C->Bool) (motive_2:=λ_=>am->Bool) (λk e v=>match v with|C.int O V=>decide (k=O)&&e.aH V|_=>E) (λb v=>match v with|C.bool R=>b.aH R|_=>E) (λr v=>match v with|C.ah Q=>r.aH Q|_=>E) (λi o v=>match v with|C.loc X P=>i==X&&o==P|_=>E) (λr w i o v=>match v with|C.el Q N X P=>r.aH Q&&w==N&&i.aH X&&o==P|_=>E) (λa b c d v=>match v with|C.ij M R L H=>a==M&&b==R&&c==L&&d==H|_=>E) (λ_ h v=>match v with|C.agg W=>h W|_=>E) (λ_ h v=>match v with|C.bA W=>h W|_=>E) (λf _ h v=>match v with|C.fn G W=>f==G&&h W|_=>E) (λt _ h v=>match v with|C.fT F D=>t==F&&h D|_=>E) (λn v=>match v with|C.yl B=>n==B|_=>E) (λv=>match v with|C.any=>J|_=>E) (λi v=>match v with|C.mp X=>i==X|_=>E) (λe A _ h v=>match v with|C.fy V z x=>e.aH V&&A==z&&h x|_=>E) (λl=>match l with|[]=>J|_=>E) (λ_ _ h u l=>match l with|y::s=>h y&&u s|_=>E) v
noncomputable def C.pi(l:am):am->Bool:=C.rec_1 (motive_1:=λ_=>C->Bool) (motive_2:=λ_=>am->Bool) (λk e v=>match v with|C.int O V=>decide (k=O)&&e.aH V|_=>E) (λb v=>match v with|C.bool R=>b.aH R|_=>E) (λr v=>match v with|C.ah Q=>r.aH Q|_=>E) (λi o v=>match v with|C.loc X P=>i==X&&o==P|_=>E) (λr w i o v=>match v with|C.el Q N X P=>r.aH Q&&w==N&&i.aH X&&o==P|_=>E) (λa b c d v=>match v with|C.ij M R L H=>a==M&&b==R&&c==L&&d==H|_=>E) (λ_ h v=>match v with|C.agg W=>h W|_=>E) (λ_ h v=>match v with|C.bA W=>h W|_=>E) (λf _ h v=>match v with|C.fn G W=>f==G&&h W|_=>E) (λt _ h v=>match v with|C.fT F D=>t==F&&h D|_=>E) (λn v=>match v with|C.yl B=>n==B|_=>E) (λv=>match v with|C.any=>J|_=>E) (λi v=>match v with|C.mp X=>i==X|_=>E) (λe A _ h v=>match v with|C.fy V z x=>e.aH V&&A==z&&h x|_=>E) (λl=>match l with|[]=>J|_=>E) (λ_ _ h u l=>match l with|y::s=>h y&&u s|_=>E) l
def C.gv:(∀k e v,C.aH (.int k e) v=match v with|C.int M V=>decide (k=M)&&e.aH V|_=>E)/\(∀b v,C.aH (.bool b) v=match v with|C.bool R=>b.aH R|_=>E)/\(∀r v,C.aH (.ah r) v=match v with|C.ah Q=>r.aH Q|_=>E)/\(∀i o v,C.aH (.loc i o) v=match v with|C.loc X P=>i==X&&o==P|_=>E)/\(∀r w i o v,C.aH (.el r w i o) v=match v with|C.el Q L X P=>r.aH Q&&w==L&&i.aH X&&o==P|_=>E)/\(∀a b c d v,C.aH (.ij a b c d) v=match v with|C.ij H R G F=>a==H&&b==R&&c==G&&d==F|_=>E)/\(∀l v,C.aH (.agg l) v=match v with|C.agg W=>C.pi l W|_=>E)/\(∀l v,C.aH (.bA l) v=match v with|C.bA W=>C.pi l W|_=>E)/\(∀f l v,C.aH (.fn f l) v=match v with|C.fn D W=>f==D&&C.pi l W|_=>E)/\(∀t x v,C.aH (.fT t x) v=match v with|C.fT B A=>t==B&&C.aH x A|_=>E)/\(∀n v,C.aH (.yl n) v=match v with|C.yl z=>n==z|_=>E)/\(∀v,C.aH (.any) v=match v with|C.any=>J|_=>E)/\(∀i v,C.aH (.mp i) v=match v with|C.mp X=>i==X|_=>E)/\(∀e O N v,C.aH (.fy e O N) v=match v with|C.fy V y u=>e.aH V&&O==y&&C.pi N u|_=>E):=⟨λ_ _ _=>rfl,λ_ _=>rfl,λ_ _=>rfl,λ_ _ _=>rfl,λ_ _ _ _ _=>rfl,λ_ _ _ _ _=>rfl,λ_ _=>rfl,λ_ _=>rfl,λ_ _ _=>rfl,λ_ _ _=>rfl,λ_ _=>rfl,λ_=>rfl,λ_ _=>rfl,λ_ _ _ _=>rfl⟩
def C.aaR:(∀l,C.pi [] l=match l with|[]=>J|_=>E)/\(∀x X l,C.pi (x::X) l=match l with|y::W=>C.aH x y&&C.pi X W|_=>E):=⟨λ_=>rfl,λ_ _ _=>rfl⟩
def bT(X:Ty)(W:lW)(s:S):Op->PR
 |.move x|.assign x=>.ok (s.ev W x)
 |.pick c a b=>match s.ev W c with
  |.bool (.c J)=>.ok (s.ev W a)
  |.bool (.c E)=>.ok (s.ev W b)
  |_=>.no ""
 |.load t a=>match X t,s.ev W a with
  |U P,.loc i V=>match kK s.ak i with
   |U (_,G)=>match uO P G V with
    |U v=>.ok v
    |none=>.no ""
   |none=>.no ""
  |U P,.el r w i V=>match r.kind X s with
   |.sl e=>
    if(bm X (.sl e)).length !=w then .no "" else
    match uO P ((e8 w).map λj=>BN r i j ((bm X (.sl e)).getD j .bool)) V with
    |U v=>.aN (tB i (.len r)) v
    |none=>.no ""
   |_=>.no ""
  |U P,.fy e M N=>match(wa N).bind λi=>kK s.ak i with
   |U (_,G)=>match(BR (N.map (TF P G))).bind (NZ P e M) with
    |U v=>if Y M==Y N then .aN (DP e M) v else .no ""
    |none=>.no ""
   |none=>.no ""
  |_,_=>.no ""
 |.fieldAddr F x f=>match X F,s.ev W x with
  |U ⟨.struct O,_,_⟩,.loc i V=>match O[f]? with
   |U (o,t)=>match X t with
    |U P=>if Y P.aj==0 then .no "" else .ok (.loc i (V+o))
    |none=>.no ""
   |none=>.no ""
  |U ⟨.struct O,_,_⟩,.el r w i V=>match O[f]? with
   |U (o,t)=>match X t with
    |U P=>if Y P.aj==0 then .no "" else .ok (.el r w i (V+o))
    |none=>.no ""
   |none=>.no ""
  |_,_=>.no ""
 |.field F x f=>match X F,s.ev W x with
  |U ⟨.struct O,_,_⟩,.agg l=>match O[f]? with
   |U (o,t)=>match X t with
    |U P=>match uO P l o with
     |U v=>.ok v
     |none=>.no ""
    |none=>.no ""
   |none=>.no ""
  |_,_=>.no ""
 |.indexAddr t x L=>match X t,s.ev W x,s.ev W L with
  |U ⟨.arr n e,_,_⟩,.loc i V,.int _ (.c m)=>match X e with
   |U R=>if decide (0<=m)&&decide (m<(n:Int)) then .ok (.loc i (V+m.toNat*Y R.aj)) else .no ""
   |none=>.no ""
  |U ⟨.arr n e,_,_⟩,.el r w (.c i) V,.int _ m=>match X e with
   |U R=>if Y R.aj==w&&i==0&&V==0&&Y R.aj !=0 then .aN (tB m (.c n)) (.el r w m 0) else
    match m with
    |.c m=>if decide (0<=m)&&decide (m<(n:Int)) then .ok (.el r w (.c i) (V+m.toNat*Y R.aj)) else .no ""
    |_=>.no ""
   |none=>.no ""
  |U ⟨.arr n e,_,_⟩,.el r w i V,.int _ (.c m)=>match X e with
   |U R=>if decide (0<=m)&&decide (m<(n:Int)) then .ok (.el r w i (V+m.toNat*Y R.aj)) else .no ""
   |none=>.no ""
  |U ⟨.slice e,_,_⟩,.ah r,.int _ m=>match X e,r.kind X s with
   |U R,.sl _=>.aN (tB m (.len r)) (.el r (Y R.aj) m 0)
   |_,_=>.no ""
  |U ⟨.slice e,_,_⟩,.ij i V A _,.int _ (.c m)=>match X e with
   |U R=>if decide (0<=m)&&decide (m<(A:Int)) then .ok (.loc i (V+m.toNat*Y R.aj)) else .no ""
   |none=>.no ""
  |U ⟨.arr n e,_,_⟩,.loc i V,.int _ m=>match X e with
   |U R=>.aN (tB m (.c n)) (.fy m (Ad n) ((e8 n).map λj=>.loc i (V+j*Y R.aj)))
   |none=>.no ""
  |_,_,_=>.no ""
 |.index t x L=>match X t,s.ev W x,s.ev W L with
  |U ⟨.arr n e,_,_⟩,.agg l,.int _ (.c m)=>match X e with
   |U R=>if decide (0<=m)&&decide (m<(n:Int)) then(match uO R l (m.toNat*Y R.aj) with
    |U v=>.ok v
    |none=>.no "") else .no ""
   |none=>.no ""
  |U ⟨.arr n e,_,_⟩,.agg l,.int _ m=>match X e with
   |U R=>match(BR ((e8 n).map λj=>uO R l (j*Y R.aj))).bind (NZ R m (Ad n)) with
    |U v=>.aN (tB m (.c n)) v
    |none=>.no ""
   |none=>.no ""
  |U ⟨.str,_,_⟩,.ah r,.int _ m=>match r.kind X s with
   |.str=>.aN (tB m (.len r)) (.int .u8 (.mV r m))
   |_=>.no ""
  |_,_,_=>.no ""
 |.binOp Q t x y _=>match s.ev W x,s.ev W y with
  |.int k a,.int z b=>
   if aaP Q then(match b with
    |.c n=>if decide (0<=n) then .ok (.int k (BP Q k a (.c n))) else .no ""
    |b=>.aN (.cmp .leq (.c 0) b) (.int k (BP Q k a b))) else
   if k≠z then .no "" else
   if NV Q then .ok (.bool (oz Q a b)) else
   if Tx Q then .ok (.int k (BP Q k a b)) else
   if Tz Q then(match b with
    |.c n=>if n==0 then .no "" else .ok (.int k (BP Q k a b))
    |_=>.aN (oz .neq b (.c 0)) (.int k (BP Q k a b))) else .no ""
  |.bool a,.bool b=>match X t,Q with
   |U ⟨.one,[.bool],_⟩,.eql=>.ok (.bool (JQ a b))
   |U ⟨.one,[.bool],_⟩,.neq=>.ok (.bool (BQ (JQ a b)))
   |_,_=>.no ""
  |.ah (.k .nilFunc),.ah (.k .nilFunc)=>if !JR (X t) then .no "" else match Q with
   |.eql=>.ok (.bool (.c J))
   |.neq=>.ok (.bool (.c E))
   |_=>.no ""
  |.ah a,.ah b=>match a.kind X s,b.kind X s,Q with
   |.str,.str,.eql=>.ok (.bool (.seq a b))
   |.str,.str,.neq=>.ok (.bool (.not (.seq a b)))
   |_,_,_=>.no ""
  |.fn f _,.ah (.k .nilFunc)=>if !JR (X t)|| !iW f 2000000 then .no "" else match Q with
   |.eql=>.ok (.bool (.c E))
   |.neq=>.ok (.bool (.c J))
   |_=>.no ""
  |.fy e M N,.ah (.k .nilFunc)=>if N.all Gi&&Y M==Y N&&JR (X t) then(match Q with
   |.eql=>.ok (.bool (Aa e M N))
   |.neq=>.ok (.bool (BQ (Aa e M N)))
   |_=>.no "") else .no ""
  |.agg a,.agg b=>match Q,Gh X s (X t) a b with
   |.eql,U e=>.ok (.bool e)
   |.neq,U e=>.ok (.bool (BQ e))
   |_,_=>.no ""
  |_,_=>.no ""
 |.unOp Q _ x=>match Q,s.ev W x with
  |.not,.bool b=>.ok (.bool (BQ b))
  |.neg,.int k e=>.ok (.int k (BP .sub k (.c 0) e))
  |_,_=>.no ""
 |.convert u g x=>match X u,X g,s.ev W x with
  |U ⟨.one,[.int _],_⟩,U ⟨.one,[.int k],_⟩,.int _ (.c n)=>.ok (.int k (.c (k.wrap n)))
  |U ⟨.one,[.int _],_⟩,U ⟨.one,[.int k],_⟩,.int _ e=>.ok (.int k (.conv k e))
  |_,_,_=>.no ""
 |.makeInterface t x=>match X t with
  |U ⟨.fT,_,_⟩=>.no ""
  |U _=>.ok (.fT t (s.ev W x))
  |none=>.no ""
 |.makeFunc d first H=>match d,first.toList with
  |.func f,[]=>cond (iW f 1000000) (.ok (.fn f (H.toList.map (s.ev W)))) (.no "")
  |.func f,[x]=>cond (iW f 1000000) (.ok (.fn (f+1000000) (s.ev W x::H.toList.map (s.ev W)))) (.no "")
  |_,_=>.no ""
 |.extract x i=>match s.ev W x with
  |.bA l=>match l[i]? with
   |U v=>.ok v
   |none=>.no ""
  |_=>.no ""
 |.nilCheck x=>match s.ev W x with
  |.loc i V=>.ok (.loc i V)
  |.el r w i V=>.ok (.el r w i V)
  |.fn f H=>cond (iW f 2000000) (.ok (.fn f H)) (.no "")
  |_=>.no ""
 |.slice t x D B mx=>match X t,s.ev W x,mx with
  |U ⟨.arr n e,_,_⟩,.loc i V,Z=>match X e,D.map (s.ev W),B.map (s.ev W) with
   |U _,Z,Z=>.ok (.ij i V n n)
   |U R,U (.int _ (.c l)),Z=>if decide (0<=l)&&decide (l<(n:Int)) then .ok (.ij i (V+l.toNat*Y R.aj) (n-l.toNat) (n-l.toNat)) else .no ""
   |_,_,_=>.no ""
  |U ⟨.slice e,_,_⟩,.ah r,U m=>match D,B.map (s.ev W),s.ev W m with
   |Z,U (.int I h),.int I q=>if r.isNil=J then(if h.aH (.c 0)&&q.aH (.c 0)&&(X e).isSome then .ok (.ah r) else .no "") else if r.kind X s=.sl e then(if h.aH (.len r)&&q.aH (.len r)&&(X e).isSome then .ok (.fn 3000000 [.ah r]) else .no "") else .no ""
   |_,_,_=>.no ""
  |_,_,_=>.no ""
 |.build t parts=>match X t with
  |U ⟨.struct O,aj,q⟩=>if !(O.all λf=>(X f.2).isSome) then .no "" else match v8 (TA X O) (dV ⟨.struct O,aj,q⟩) (parts.toList.map λp=>(p.1,s.ev W p.2)) with
   |U l=>.ok (.agg l)
   |none=>.no ""
  |U ⟨.arr n e,aj,q⟩=>match X e with
   |U R=>match v8 (λi=>U (i*Y R.aj,Y R.aj)) (dV ⟨.arr n e,aj,q⟩) (parts.toList.map λp=>(p.1,s.ev W p.2)) with
    |U l=>.ok (.agg l)
    |none=>.no ""
   |none=>.no ""
  |_=>.no ""
 |.call c=>match c.callee with
  |.builtin .len=>match c.argTypes.toList,c.args.toList.map (s.ev W) with
   |[t],[.ah (.k (.slice Z 0 0))]=>match X t with
    |U ⟨.slice _,_,_⟩=>.ok (.int I (.c 0))
    |_=>.no ""
   |[t],[.ah r]=>match X t,r.kind X s with
    |U ⟨.slice _,_,_⟩,.sl _=>.ok (.int I (.len r))
    |U ⟨.str,_,_⟩,.str=>.ok (.int I (.len r))
    |_,_=>.no ""
   |[t],[.ij _ _ n _]=>match X t with
    |U ⟨.slice _,_,_⟩=>.ok (.int I (.c n))
    |_=>.no ""
   |_,_=>.no ""
  |.builtin .min=>match c.args.toList.map (s.ev W) with
   |.int k x::r=>match DM E k x r with
    |U e=>.ok (.int k e)
    |none=>.no ""
   |_=>.no ""
  |.builtin .max=>match c.args.toList.map (s.ev W) with
   |.int k x::r=>match DM J k x r with
    |U e=>.ok (.int k e)
    |none=>.no ""
   |_=>.no ""
  |_=>.no ""
 |.lookup t x L ok=>match X t,s.ev W x with
  |U ⟨.map k e n ag,_,_⟩,.mp i=>NY X s k e n ag ok i (s.ev W L)
  |_,_=>.no ""
 |_=>.no ""
def ya(X:lW)(s:S):Op->bX
 |.load _ x=>match s.ev X x with
  |.loc i _=>U i
  |.fy _ _ W=>wa W
  |_=>Z
 |.lookup _ x _ _=>match s.ev X x with
  |.mp i=>U i
  |_=>Z
 |_=>Z
def aaS:∀n:Nat,∃q,8^n=7*q+1
 |0=>⟨0,rfl⟩
 |n+1=>by
  obtain⟨q,h⟩:=aaS n;exact⟨8*q+1,by rw[Nat.pow_succ,h];omega⟩
def A3(n:Nat):Nat:=Nat.div (Nat.sub (Nat.pow 8 n) 1) 7
def aaT(n:Nat):8^n=7*A3 n+1:=by
 obtain⟨q,h⟩:=aaS n;have:A3 n=q:=by
  show(8^n-1)/7=q;rw[h];omega
 rw[this];exact h
def N0(n:Nat):A3 (n+1)=8*A3 n+1:=by
 have X:=aaT n;have W:=aaT (n+1);rw[Nat.pow_succ,X] at W;omega
def aaU:∀(n j:Nat),(A3 n).testBit j=(decide (j%3=0)&&decide (j/3<n))
 |0,j=>by simp[show A3 0=0 from rfl]
 |n+1,0=>by rw[N0,alw];simp;omega
 |n+1,1=>by rw[N0,NH,show(8*A3 n+1)/2=4*A3 n from aa,alw];simp;omega
 |n+1,2=>by rw[N0,NH,NH,show(8*A3 n+1)/2/2=2*A3 n from aa,alw];simp
 |n+1,j+3=>by
  rw[N0,NH,NH,NH,show(8*A3 n+1)/2/2/2=A3 n from aa,aaU n j,Nat.add_mod_right,Nat.add_div_right _ aa];simp
def ll(X W V:Nat):Nat:=bE (A3 X) (bE (ld (A3 W) 1) (ld (A3 V) 2))
def TG(X W V j:Nat):(ll X W V).testBit j=if j%3=0 then decide (j/3<X) else if j%3=1 then decide (j/3<W) else decide (j/3<V):=by
 change(A3 X|||(A3 W<<<1|||A3 V<<<2)).testBit j=_;simp only[BG,alk,aaU];rw[uF];simp only[iD,aw,bZ];split;simp only[bZ];omega;split;simp only[bZ];omega;simp only[bZ];omega
def JS:hM (bE R Q) Q=J<->∀j,R.testBit j=J->Q.testBit j=true:=by
 rw[aaM];constructor;intro h j X;have:(R|||Q).testBit j=Q.testBit j:=ji (λx=>Nat.testBit x j) h;rw[<-this,BG,X,alH];intro h;refine Nat.eq_of_testBit_eq λj=> ?_
 change(R|||Q).testBit j=_;rw[BG];cases W:R.testBit j with
 |true=>rw[h j W];rfl
 |false=>simp
def kq(a b A:Nat):hM (bE (bE a b) A) A=(hM (bE a A) A&&hM (bE b A) A):=by
 rw[uF,aw,JS,JS,JS];change(∀j,(a|||b).testBit j=J->_)<->_;simp only[BG,iD];exact⟨λh=>⟨λj k=>h j (.inl k),λj k=>h j (.inr k)⟩,λh j k=>k.elim (h.1 j) (h.2 j)⟩
def TH(k A:Nat):hM (bE (ld 1 k) A) A=A.testBit k:=by
 rw[uF,JS];change(∀j,(1<<<k).testBit j=J->_)<->_;simp only[alr,axj,bZ];exact⟨λh=>h k rfl,λh j e=>e▸h⟩
def DR(A:Nat):hM (bE 0 A) A=true:=JS.2 λj h=>by simp at h
noncomputable def K.ln(e:K):Nat:=K.rec (motive_1:=λ_=>Nat) (motive_2:=λ_=>Nat) (motive_3:=λ_=>Nat) (λ_=>0) (λk=>ld 1 (3*k)) (λ_ _ _ _ a b=>bE a b) (λ_ _ a=>a) (λ_ r=>r) (λ_ _ _ a b=>bE a b) (λ_ _ _ b x y=>bE (bE b x) y) (λ_ _ _ r i=>bE r i) (λ_ _ r i=>bE r i) (λ_ _ _ _ _ _ r a b c=>bE (bE (bE r a) b) c) (λ_=>0) (λk=>ld 1 (3*k+1)) (λ_ _ _ a b=>bE a b) (λ_ a=>a) (λ_ _ a b=>bE a b) (λ_ _ a b=>bE a b) (λ_ _ _ b x y=>bE (bE b x) y) (λ_ _ _ r i=>bE r i) (λ_ _ a b=>bE a b) (λ_ _ _ _ _ _ r a b c=>bE (bE (bE r a) b) c) (λ_ _ _ _ _ r a b c=>bE (bE (bE r a) b) c) (λk=>ld 1 (3*k+2)) (λ_ _ _ _ r i=>bE r i) (λ_=>0) e
noncomputable def BE.ln(e:BE):Nat:=BE.rec (motive_1:=λ_=>Nat) (motive_2:=λ_=>Nat) (motive_3:=λ_=>Nat) (λ_=>0) (λk=>ld 1 (3*k)) (λ_ _ _ _ a b=>bE a b) (λ_ _ a=>a) (λ_ r=>r) (λ_ _ _ a b=>bE a b) (λ_ _ _ b x y=>bE (bE b x) y) (λ_ _ _ r i=>bE r i) (λ_ _ r i=>bE r i) (λ_ _ _ _ _ _ r a b c=>bE (bE (bE r a) b) c) (λ_=>0) (λk=>ld 1 (3*k+1)) (λ_ _ _ a b=>bE a b) (λ_ a=>a) (λ_ _ a b=>bE a b) (λ_ _ a b=>bE a b) (λ_ _ _ b x y=>bE (bE b x) y) (λ_ _ _ r i=>bE r i) (λ_ _ a b=>bE a b) (λ_ _ _ _ _ _ r a b c=>bE (bE (bE r a) b) c) (λ_ _ _ _ _ r a b c=>bE (bE (bE r a) b) c) (λk=>ld 1 (3*k+2)) (λ_ _ _ _ r i=>bE r i) (λ_=>0) e
noncomputable def RE.ln(e:RE):Nat:=RE.rec (motive_1:=λ_=>Nat) (motive_2:=λ_=>Nat) (motive_3:=λ_=>Nat) (λ_=>0) (λk=>ld 1 (3*k)) (λ_ _ _ _ a b=>bE a b) (λ_ _ a=>a) (λ_ r=>r) (λ_ _ _ a b=>bE a b) (λ_ _ _ b x y=>bE (bE b x) y) (λ_ _ _ r i=>bE r i) (λ_ _ r i=>bE r i) (λ_ _ _ _ _ _ r a b c=>bE (bE (bE r a) b) c) (λ_=>0) (λk=>ld 1 (3*k+1)) (λ_ _ _ a b=>bE a b) (λ_ a=>a) (λ_ _ a b=>bE a b) (λ_ _ a b=>bE a b) (λ_ _ _ b x y=>bE (bE b x) y) (λ_ _ _ r i=>bE r i) (λ_ _ a b=>bE a b) (λ_ _ _ _ _ _ r a b c=>bE (bE (bE r a) b) c) (λ_ _ _ _ _ r a b c=>bE (bE (bE r a) b) c) (λk=>ld 1 (3*k+2)) (λ_ _ _ _ r i=>bE r i) (λ_=>0) e
noncomputable def K.bd(X W V:Nat)(e:K):Bool:=hM (bE e.ln (ll X W V)) (ll X W V)
noncomputable def BE.bd(X W V:Nat)(e:BE):Bool:=hM (bE e.ln (ll X W V)) (ll X W V)
noncomputable def RE.bd(X W V:Nat)(e:RE):Bool:=hM (bE e.ln (ll X W V)) (ll X W V)
def alP(X W V k:Nat):(ll X W V).testBit (3*k)=decide (k<X):=by
 rw[TG,aE aa,show 3*k/3=k from aa]
def alQ(W X V k:Nat):(ll W X V).testBit (3*k+1)=decide (k<X):=by
 rw[TG,aJ aa,aE aa,show(3*k+1)/3=k from aa]
def alR(W V X k:Nat):(ll W V X).testBit (3*k+2)=decide (k<X):=by
 rw[TG,aJ aa,aJ aa,show(3*k+2)/3=k from aa]
def K.aQ:(∀n,K.bd R Q i (.c n)=J)/\(∀k,K.bd R Q i (.v k)=decide (k<R))/\(∀o k a b,K.bd R Q i (.bin o k a b)=(K.bd R Q i a&&K.bd R Q i b))/\(∀k a,K.bd R Q i (.conv k a)=(K.bd R Q i a))/\(∀r,K.bd R Q i (.len r)=(RE.bd R Q i r))/\(∀m a b,K.bd R Q i (.mm m a b)=(K.bd R Q i a&&K.bd R Q i b))/\(∀b x y,K.bd R Q i (.dv b x y)=(BE.bd R Q i b&&K.bd R Q i x&&K.bd R Q i y))/\(∀r X j,K.bd R Q i (.cell r X j)=(RE.bd R Q i r&&K.bd R Q i X))/\(∀r X,K.bd R Q i (.mV r X)=(RE.bd R Q i r&&K.bd R Q i X))/\(∀r n a b c j,K.bd R Q i (.look r n a b c j)=(RE.bd R Q i r&&K.bd R Q i a&&K.bd R Q i b&&K.bd R Q i c)):=⟨λ_=>DR _,λ_=>(TH _ _).trans (alP _ _ _ _),λ_ _ _ _=>kq _ _ _,λ_ _=>rfl,λ_=>rfl,λ_ _ _=>kq _ _ _,λ_ _ _=>(kq _ _ _).trans (ji (· &&_) (kq _ _ _)),λ_ _ _=>kq _ _ _,λ_ _=>kq _ _ _,λ_ _ _ _ _ _=>(kq _ _ _).trans (ji (· &&_) ((kq _ _ _).trans (ji (· &&_) (kq _ _ _))))⟩
def BE.aQ:(∀n,BE.bd R Q i (.c n)=J)/\(∀k,BE.bd R Q i (.v k)=decide (k<Q))/\(∀o a b,BE.bd R Q i (.cmp o a b)=(K.bd R Q i a&&K.bd R Q i b))/\(∀a,BE.bd R Q i (.not a)=(BE.bd R Q i a))/\(∀a b,BE.bd R Q i (.and a b)=(BE.bd R Q i a&&BE.bd R Q i b))/\(∀a b,BE.bd R Q i (.beq a b)=(BE.bd R Q i a&&BE.bd R Q i b))/\(∀b x y,BE.bd R Q i (.dv b x y)=(BE.bd R Q i b&&BE.bd R Q i x&&BE.bd R Q i y))/\(∀r X j,BE.bd R Q i (.cell r X j)=(RE.bd R Q i r&&K.bd R Q i X))/\(∀a b,BE.bd R Q i (.seq a b)=(RE.bd R Q i a&&RE.bd R Q i b))/\(∀r n a b c j,BE.bd R Q i (.look r n a b c j)=(RE.bd R Q i r&&K.bd R Q i a&&K.bd R Q i b&&K.bd R Q i c))/\(∀r n a b c,BE.bd R Q i (.has r n a b c)=(RE.bd R Q i r&&K.bd R Q i a&&K.bd R Q i b&&K.bd R Q i c)):=⟨λ_=>DR _,λ_=>(TH _ _).trans (alQ _ _ _ _),λ_ _ _=>kq _ _ _,λ_=>rfl,λ_ _=>kq _ _ _,λ_ _=>kq _ _ _,λ_ _ _=>(kq _ _ _).trans (ji (· &&_) (kq _ _ _)),λ_ _ _=>kq _ _ _,λ_ _=>kq _ _ _,λ_ _ _ _ _ _=>(kq _ _ _).trans (ji (· &&_) ((kq _ _ _).trans (ji (· &&_) (kq _ _ _)))),λ_ _ _ _ _=>(kq _ _ _).trans (ji (· &&_) ((kq _ _ _).trans (ji (· &&_) (kq _ _ _))))⟩
def RE.aQ:(∀k,RE.bd R Q i (.v k)=decide (k<i))/\(∀r X j k,RE.bd R Q i (.cell r X j k)=(RE.bd R Q i r&&K.bd R Q i X))/\(∀v,RE.bd R Q i (.k v)=J):=⟨λ_=>(TH _ _).trans (alR _ _ _ _),λ_ _ _ _=>kq _ _ _,λ_=>DR _⟩
noncomputable def C.ln(v:C):Nat:=C.rec (motive_1:=λ_=>Nat) (motive_2:=λ_=>Nat) (λ_ e=>e.ln) (λb=>b.ln) (λr=>r.ln) (λ_ _=>0) (λr _ i _=>bE r.ln i.ln) (λ_ _ _ _=>0) (λ_ l=>l) (λ_ l=>l) (λ_ _ l=>l) (λ_ _ x=>x) (λ_=>0) 0 (λ_=>0) (λe _ _ l=>bE e.ln l) 0 (λ_ _ a b=>bE a b) v
noncomputable def C.Gj(l:am):Nat:=C.rec_1 (motive_1:=λ_=>Nat) (motive_2:=λ_=>Nat) (λ_ e=>e.ln) (λb=>b.ln) (λr=>r.ln) (λ_ _=>0) (λr _ i _=>bE r.ln i.ln) (λ_ _ _ _=>0) (λ_ l=>l) (λ_ l=>l) (λ_ _ l=>l) (λ_ _ x=>x) (λ_=>0) 0 (λ_=>0) (λe _ _ l=>bE e.ln l) 0 (λ_ _ a b=>bE a b) l
noncomputable def C.yb(v:C):Nat:=C.rec (motive_1:=λ_=>Nat) (motive_2:=λ_=>Nat) (λ_ _=>0) (λ_=>0) (λ_=>0) (λi _=>ld 1 i) (λ_ _ _ _=>0) (λi _ _ _=>ld 1 i) (λ_ l=>l) (λ_ l=>l) (λ_ _ l=>l) (λ_ _ x=>x) (λ_=>0) 0 (λi=>ld 1 i) (λ_ _ _ l=>l) 0 (λ_ _ a b=>bE a b) v
noncomputable def C.DS(l:am):Nat:=C.rec_1 (motive_1:=λ_=>Nat) (motive_2:=λ_=>Nat) (λ_ _=>0) (λ_=>0) (λ_=>0) (λi _=>ld 1 i) (λ_ _ _ _=>0) (λi _ _ _=>ld 1 i) (λ_ l=>l) (λ_ l=>l) (λ_ _ l=>l) (λ_ _ x=>x) (λ_=>0) 0 (λi=>ld 1 i) (λ_ _ _ l=>l) 0 (λ_ _ a b=>bE a b) l
noncomputable def C.Gk(X:Nat->Bool)(v:C):Bool:=C.rec (motive_1:=λ_=>Bool) (motive_2:=λ_=>Bool) (λ_ _=>J) (λ_=>J) (λ_=>J) (λi _=>X i) (λ_ _ _ _=>J) (λi _ _ _=>X i) (λ_ l=>l) (λ_ l=>l) (λ_ _ l=>l) (λ_ _ x=>x) (λ_=>J) J (λi=>X i) (λ_ _ _ l=>l) J (λ_ _ a b=>a&&b) v
noncomputable def C.Gl(X:Nat->Bool)(l:am):Bool:=C.rec_1 (motive_1:=λ_=>Bool) (motive_2:=λ_=>Bool) (λ_ _=>J) (λ_=>J) (λ_=>J) (λi _=>X i) (λ_ _ _ _=>J) (λi _ _ _=>X i) (λ_ l=>l) (λ_ l=>l) (λ_ _ l=>l) (λ_ _ x=>x) (λ_=>J) J (λi=>X i) (λ_ _ _ l=>l) J (λ_ _ a b=>a&&b) l
noncomputable def C.bd(X W V:Nat)(R:Nat->Bool)(v:C):Bool:=Ge (motive:=λ_=>Bool) E (Ge (motive:=λ_=>Bool) (v.Gk R) J (hM v.yb 0)) (hM (bE v.ln (ll X W V)) (ll X W V))
def C.aaV(X W V:Nat)(R:Nat->Bool)(v:C):C.bd X W V R v=(hM (bE v.ln (ll X W V)) (ll X W V)&&(hM v.yb 0||v.Gk R)):=by
 unfold C.bd;cases hM (bE v.ln (ll X W V)) (ll X W V)<;>cases hM v.yb 0<;>rfl
noncomputable def C.dA(X W V:Nat)(R:Nat->Bool)(l:am):Bool:=v7 (motive:=λ_=>Bool) J (λx _ Q=>Ge (motive:=λ_=>Bool) E Q (C.bd X W V R x)) l
def C.gO{X:Nat->Bool}:(C.dA R Q i X []=J)/\(∀x W,C.dA R Q i X (x::W)=(C.bd R Q i X x&&C.dA R Q i X W)):=⟨rfl,λx W=>by
 show Ge (motive:=λ_=>Bool) E (C.dA R Q i X W) (C.bd R Q i X x)=_;cases C.bd R Q i X x<;>rfl⟩
def aaW:hM (bE R Q) 0=(hM R 0&&hM Q 0):=by
 rw[uF,aw,aaM,aaM,aaM];exact Nat.or_eq_zero_iff
def N1(i:Nat):hM (ld 1 i) 0=false:=by
 have:ld 1 i≠0:=by
  change 1<<<i≠0;rw[alr];exact Nat.ne_of_gt (Nat.two_pow_pos i)
 cases h:hM (ld 1 i) 0 with
 |false=>rfl
 |true=>exact bp (axb h) this
mutual
def TJ(X:Nat->Bool):∀v:C,hM v.yb 0=J->v.Gk X=J
 |.int _ _,_=>rfl
 |.bool _,_=>rfl
 |.ah _,_=>rfl
 |.loc i _,h=>by rw[show(C.loc i _).yb=ld 1 i from rfl,N1] at h;cases h
 |.el _ _ _ _,_=>rfl
 |.ij i _ _ _,h=>by rw[show(C.ij i _ _ _).yb=ld 1 i from rfl,N1] at h;cases h
 |.agg l,h=>Gm X l h
 |.bA l,h=>Gm X l h
 |.fn _ l,h=>Gm X l h
 |.fT _ x,h=>TJ X x h
 |.yl _,_=>rfl
 |.any,_=>rfl
 |.mp i,h=>by rw[show(C.mp i).yb=ld 1 i from rfl,N1] at h;cases h
 |.fy _ _ l,h=>Gm X l h
def Gm(X:Nat->Bool):∀l:am,hM (C.DS l) 0=J->C.Gl X l=J
 |[],_=>rfl
 |x::W,h=>by
  rw[show C.DS (x::W)=bE x.yb (C.DS W) from rfl,aaW,aw] at h;show(x.Gk X&&C.Gl X W)=J;rw[TJ X x h.1,Gm X W h.2];rfl
end
def JT(V R Q:Nat)(W:Nat->Bool):∀l:am,(hM (bE (C.Gj l) (ll V R Q)) (ll V R Q)&&(hM (C.DS l) 0||C.Gl W l))=C.dA V R Q W l
 |[]=>by rw[show C.Gj []=0 from rfl,DR];rfl
 |x::X=>by
  rw[C.gO.2,<-JT V R Q W X,C.aaV,show C.Gj (x::X)=bE x.ln (C.Gj X) from rfl,show C.DS (x::X)=bE x.yb (C.DS X) from rfl,kq,aaW,show C.Gl W (x::X)=(x.Gk W&&C.Gl W X) from rfl];have P:=TJ W x;have O:=Gm W X;cases N:hM x.yb 0<;>cases M:hM (C.DS X) 0<;>cases L:x.Gk W<;>cases H:C.Gl W X<;>cases hM (bE x.ln (ll V R Q)) (ll V R Q)<;>cases hM (bE (C.Gj X) (ll V R Q)) (ll V R Q)<;>simp_all
def C.aQ{W:Nat->Bool}:(∀k e,C.bd R Q i W (.int k e)=e.bd R Q i)/\(∀b,C.bd R Q i W (.bool b)=b.bd R Q i)/\(∀r,C.bd R Q i W (.ah r)=r.bd R Q i)/\(∀X o,C.bd R Q i W (.loc X o)=W X)/\(∀X a b c,C.bd R Q i W (.ij X a b c)=W X)/\(∀r w X o,C.bd R Q i W (.el r w X o)=(r.bd R Q i&&X.bd R Q i))/\(∀l,C.bd R Q i W (.agg l)=C.dA R Q i W l)/\(∀l,C.bd R Q i W (.bA l)=C.dA R Q i W l)/\(∀f l,C.bd R Q i W (.fn f l)=C.dA R Q i W l)/\(∀t x,C.bd R Q i W (.fT t x)=C.bd R Q i W x)/\(∀n,C.bd R Q i W (.yl n)=J)/\(C.bd R Q i W .any=J)/\(∀X,C.bd R Q i W (.mp X)=W X)/\(∀e N O,C.bd R Q i W (.fy e N O)=(e.bd R Q i&&C.dA R Q i W O)):=by
 have V:∀b:Bool,(b&&(hM 0 0||J))=b:=λb=>by cases b<;>rfl
 have P:∀X,(hM (bE 0 (ll R Q i)) (ll R Q i)&&(hM (ld 1 X) 0||W X))=W X:=λX=>by rw[DR,N1];rfl
 simp only[C.aaV];refine⟨λ_ _=>V _,λ_=>V _,λ_=>V _,λ_ _=>P _,λ_ _ _ _=>P _,λr _ X _=> ?_,λl=>JT _ _ _ _ l,λl=>JT _ _ _ _ l,λ_ l=>JT _ _ _ _ l,λ_ _=>rfl,λ_=>(V _).trans (DR _),(V _).trans (DR _),λ_=>P _,λe _ l=> ?_⟩;exact(V _).trans (kq _ _ _);rw[<-JT];show(hM (bE (bE e.ln (C.Gj l)) _) _&&_)=_;rw[kq,alA];rfl
def C.pj(X W V:Nat)(R:Nat->Bool):bn->Bool
 |[]=>J
 |U x::Q=>C.dA X W V R x.2&&C.pj X W V R Q
 |Z::Q=>C.pj X W V R Q
def aF(l:bn)(i:Nat):Bool:=(bM l i).isSome
def S.bd(s:S):Bool:=C.dA s.ni s.nb (Y s.rs) (aF s.ak) s.tmps&&C.pj s.ni s.nb (Y s.rs) (aF s.ak) s.ak
def S.eD(s:S)(l:am):Bool:=s.bd&&C.dA s.ni s.nb (Y s.rs) (aF s.ak) l
structure eV where
 tm:List (Nat×LK)
 cl:List (Nat×Nat×LK)
inductive alS where
 |alT
 |inv (a:eV)
inductive FK where
 |box
 |slot (t:Nat) (vs:List Int)
 |cell (b j:Nat) (vs:aZ)
structure bi where
 ty:Ty
 gl:lW
 inl:FuncId->Option (Code×Nat×lg)
 sig:FuncId->pQ
 loop:FuncId->Nat->alS
 aaX:TypeId:=3
 uQ:FuncId->FuncId->Option (TypeId×bB×Bool):=λ_ _=>Z
 ku:Bool:=E
 DT:FuncId->Nat->Bool:=λ_ _=>E
 frk:FuncId->Nat->Option FK:=λ_ _=>Z
def S.fresh(s:S):LK->C×S
 |.int k=>(.int k (.v s.ni),{s with ni:=s.ni+1})
 |.bool=>(.bool (.v s.nb),{s with nb:=s.nb+1})
 |.ah e=>(.ah (.v (Y s.rs)),{s with rs:=s.rs++[e]})
def rM:CT->LK
 |.int k=>.int k
 |.bool=>.bool
 |.ac _ k=>.ah k
def S.b9(s:S):aI->am×S
 |[]=>([],s)
 |k::X=>let r:=s.fresh k;let q:=r.2.b9 X;(r.1::q.1,q.2)
def yc(W:Ty):iX->am->DH
 |[],_=>U []
 |t::V,l=>match W t with
  |U X=>match yc W V (l.drop (Y X.aj)) with
   |U r=>U ((if X.d.isAgg then .agg (l.take (Y X.aj)) else l.getD 0 .any)::r)
   |none=>Z
  |none=>Z
def gH(X:Ty):iX->Option aI
 |[]=>U []
 |t::W=>match X t,gH X W with
  |U V,U r=>U (V.aj.map rM++r)
  |_,_=>Z
def one(l:am):C:=match l with
 |[v]=>v
 |l=>.bA l
def Code.nu:Code->ap
 |.region _ X _=>X.toList.filterMap (·.dst)
 |.seq a b=>Code.nu a++Code.nu b
 |.cond _ a b=>Code.nu a++Code.nu b
 |.block _ c=>Code.nu c
 |.loop c=>Code.nu c
 |.scope c=>Code.nu c
 |.rangeFunc _ W a b=>W.toList++Code.nu a++Code.nu b
 |_=>[]
def Code.first:Code->bX
 |.region id _ _=>U id
 |.seq a b=>match Code.first a with
  |U i=>U i
  |none=>Code.first b
 |.cond _ a b=>match Code.first a with
  |U i=>U i
  |none=>Code.first b
 |.block _ c=>Code.first c
 |.loop c=>Code.first c
 |.scope c=>Code.first c
 |_=>Z
mutual
def C.DU:C->ap
 |.loc i _=>[i]
 |.ij i _ _ _=>[i]
 |.agg l=>C.nN l
 |.bA l=>C.nN l
 |.fn _ l=>C.nN l
 |.fT _ x=>C.DU x
 |.mp i=>[i]
 |.fy _ _ X=>C.nN X
 |_=>[]
def C.nN:am->ap
 |[]=>[]
 |x::X=>C.DU x++C.nN X
end
def pS(X:ap):Nat->bn->bn
 |_,[]=>[]
 |n,x::W=>(if X.contains n then x else Z)::pS X (n+1) W
def tC:bn->bn
 |[]=>[]
 |x::X=>match x,tC X with
  |Z,[]=>[]
  |x,r=>x::r
def C.ec:C->Bool
 |.any=>J
 |_=>E
inductive wb where
 |fn (g:FuncId)
 |yl (n:Nat)
abbrev nO:=wb->am->S->(C->S->T)->(C->S->T)->T
abbrev YH:=Nat->am->S->(C->S->T)->(C->S->T)->T
def gM:YH:=λ_ _ _ _ _=>.stuck ""
structure OM where
 o:Oper
 ix:Nat
 bC:Bool
 j:Nat
 dr:Bool
 so:Bool
abbrev ck:=List OM
inductive OR where
 |ok (s:S)
 |aN (b:BE) (s:S)
 |split(b:BE) (s1 s2:S)
 |no (why:String)
def RE.fits(X:Ty)(s:S)(k:RK)(r:RE):Bool:=match k with
 |.sl e=>decide (r.kind X s=.sl e)||r.isNil
 |.str=>decide (r.kind X s=.str)
 |_=>E
def qO(X:Ty)(s:S):CT->C->Bool
 |.int k,.int W _=>decide (k=W)
 |.bool,.bool _=>J
 |.ac _ k,.ah r=>r.fits X s k
 |_,_=>E
def lq(X:Ty)(s:S):eG->am->Bool
 |[],[]=>J
 |c::W,v::V=>qO X s c v&&lq X s W V
 |_,_=>E
def mD(X:Ty)(s:S)(aj:eG):uK->Bool
 |[]=>J
 |r::W=>lq X s aj r&&mD X s aj W
def iO(w:Nat):Nat->am->uK
 |0,_=>[]
 |n+1,l=>l.take w::iO w n (l.drop w)
def LE.bd(X W V:Nat):LE->Bool
 |.ah r=>r.bd X W V
 |.lit l=>l.all (C.dA X W V λ_=>E)
 |.jW a b=>LE.bd X W V a&&LE.bd X W V b
 |.tq n Q=>n.bd X W V&&C.dA X W V (λ_=>E) Q
 |.set a i _ R=>LE.bd X W V a&&i.bd X W V&&C.dA X W V (λ_=>E) R
 |.sub a P O=>LE.bd X W V a&&P.bd X W V&&O.bd X W V
 |.ins a _ R=>LE.bd X W V a&&C.dA X W V (λ_=>E) R
def RE.root:RE->bX
 |.v n=>U n
 |.cell r _ _ _=>r.root
 |.k _=>Z
mutual
def C.TK:C->ap
 |.ah r=>r.root.toList
 |.el r _ _ _=>r.root.toList
 |.agg l=>C.nP l
 |.bA l=>C.nP l
 |.fn _ l=>C.nP l
 |.fT _ x=>C.TK x
 |.fy _ _ X=>C.nP X
 |_=>[]
def C.nP:am->ap
 |[]=>[]
 |x::X=>C.TK x++C.nP X
end
def wc(b:Bool):RK->RK
 |.own e=>if b then .sl e else .own e
 |x=>x
def JU(b:Bool):RK->RK
 |.own e=>if b then .sl e else .ao
 |x=>x
def jz(X:ap):Nat->aY->aY
 |_,[]=>[]
 |n,x::W=>wc (X.contains n) x::jz X (n+1) W
def iw(X:ap):Nat->aY->aY
 |_,[]=>[]
 |n,x::W=>(if X.contains n then .ao else x)::iw X (n+1) W
def Ae(X:ap):Nat->aY->aY
 |_,[]=>[]
 |n,x::W=>JU (X.contains n) x::Ae X (n+1) W
mutual
def C.gC(k n:Nat):C->C
 |.ah (.v j)=>if j==k then .ah (.v n) else .ah (.v j)
 |.el (.v j) w i o=>if j==k then .el (.v n) w i o else .el (.v j) w i o
 |.agg l=>.agg (C.nQ k n l)
 |.bA l=>.bA (C.nQ k n l)
 |.fn f l=>.fn f (C.nQ k n l)
 |.fT t x=>.fT t (C.gC k n x)
 |.fy e X W=>.fy e X (C.nQ k n W)
 |v=>v
def C.nQ(k n:Nat):am->am
 |[]=>[]
 |x::X=>C.gC k n x::C.nQ k n X
end
def rN(k n:Nat):bn->bn
 |[]=>[]
 |Z::X=>Z::rN k n X
 |U (t,W)::X=>U (t,if ow t then W else C.nQ k n W)::rN k n X
def S.gC(s:S)(k n:Nat):S:={s with tmps:=C.nQ k n s.tmps,ak:=rN k n s.ak}
structure BI where
 aN:BE
 e:TypeId
 x:LE
 s:S
def Gn:Int:=536870912
def DV(n:K):BE:=oz .leq n (.c Gn)
def pT(Q:Ty)(s:S)(e:TypeId)(X:TI):C->Option (LE×BE×ap)
 |.ah r=>if r.isNil then U (.lit [],.c J,[]) else if r.kind Q s=.sl e then U (.ah r,DV (.len r),[]) else Z
 |.ij i V W _=>match kK s.ak i with
  |U (_,R)=>if mD Q s X.aj (iO (Y X.aj) W (uN R V (W*Y X.aj)))&&decide (V+W*Y X.aj<=Y R)&&decide ((W:Int)<=Gn) then U (.lit (iO (Y X.aj) W (uN R V (W*Y X.aj))),.c J,C.nP (uN R V (W*Y X.aj))) else Z
  |none=>Z
 |_=>Z
def tD(X:Ty)(s:S)(e:TypeId)(bC:Bool):C->Option (LE×BE×ap)
 |.ah (.v k)=>if s.rs[k]?=U (.own e)/\ !(bC&&s.lk.testBit (2*k+1)) then U (.ah (.v k),DV (.len (.v k)),[k]) else Z
 |.ah r=>if r.isNil then U (.lit [],.c J,[]) else Z
 |.ij _ _ 0 0=>U (.lit [],.c J,[])
 |.fn 3000000 [.ah r]=>if r.kind X s=.sl e then U (.ah r,DV (.len r),[]) else Z
 |_=>Z
def TL:C->LE->Bool
 |.fn _ _,.lit (_::_)=>J
 |.fn _ _,_=>E
 |_,_=>J
def jA(s:S)(d:bX)(aN:BE)(e:TypeId)(k:RK)(x:LE)(X cM:ap):Option BI:=
 if s.bd&&X.all (λk=> !cM.contains k)&&LE.bd s.ni s.nb (Y s.rs) x&&aN.bd s.ni s.nb (Y s.rs) then U ⟨aN,e,x,{s with rs:=jz cM 0 (iw X 0 s.rs)++[k]}.put d (.ah (.v (Y s.rs)))⟩ else Z
def eA(X:bi)(o:Oper)(bC R:Bool)(s:S):Option BI:=match o.op with
 |.call c=>match c.callee with
  |.builtin .append=>match c.argTypes.toList,c.args.toList.map (s.ev X.gl) with
   |[t,O],[x,y]=>match X.ty t,X.ty O with
    |U ⟨.slice e,_,_⟩,U ⟨.slice N,_,_⟩=>match X.ty e with
     |U W=>if e≠N\/Y W.aj=0 then Z else match tD X.ty s e bC x,pT X.ty s e W y with
      |U (a,M,L),U (b,H,cM)=>if !TL x b then Z else jA s o.dst (tA M H) e (.own e) (.jW a b) L cM
      |_,_=>Z
     |none=>Z
    |_,_=>Z
   |_,_=>Z
  |_=>Z
 |.makeSlice t n m=>match X.ty t,s.ev X.gl n,s.ev X.gl m with
  |U ⟨.slice e,_,_⟩,.int I n,.int I m=>match X.ty e with
   |U W=>if n.aH m&&mD X.ty s W.aj [dV W]&&Y W.aj !=0 then jA s o.dst (tA (oz .leq (.c 0) n) (DV n)) e (.own e) (.tq n (dV W)) [] [] else Z
   |none=>Z
  |_,_,_=>Z
 |.buildSlice t V parts=>if R|| !X.ku then Z else match X.ty t with
  |U ⟨.slice e,_,_⟩=>match X.ty e with
   |U W=>match v8 (λi=>U (i*Y W.aj,Y W.aj)) (uP V (dV W)) (parts.toList.map λp=>(p.1,s.ev X.gl p.2)) with
    |U l=>if(Y l==V*Y W.aj&&mD X.ty s W.aj (iO (Y W.aj) V l)&&Y W.aj !=0&&decide ((V:Int)<=Gn)&&decide (V*Y W.aj<=16777216)&& !(parts.toList.any λp=>(s.ev X.gl p.2).ec)) then jA s o.dst (.c J) e (.own e) (.lit (iO (Y W.aj) V l)) [] (C.nP l) else Z
    |none=>Z
   |none=>Z
  |_=>Z
 |.slice t x G F D=>if R then Z else match X.ty t,s.ev X.gl x,D.map (s.ev X.gl),F.map (s.ev X.gl),G.map (s.ev X.gl) with
  |U ⟨.slice e,_,_⟩,.ah r,U (.int _ (.c 0)),U (.int _ (.c 0)),Z=>match X.ty e with
   |U _=>if r.kind X.ty s=.sl e\/r.isNil then jA s o.dst (.c J) e (.own e) (.lit []) [] [] else Z
   |none=>Z
  |U ⟨.slice e,_,_⟩,.ah r,Z,U (.int I h),U (.int I l)=>match X.ty e with
   |U _=>if r.kind X.ty s=.sl e then jA s o.dst (tA (oz .leq (.c 0) l) (tA (oz .leq l h) (oz .leq h (.len r)))) e (.sl e) (.sub (.ah r) l h) [] r.root.toList else Z
   |none=>Z
  |U ⟨.slice e,_,_⟩,.ah r,Z,U (.int I h),Z=>match X.ty e with
   |U _=>if r.kind X.ty s=.sl e then jA s o.dst (tA (oz .leq (.c 0) h) (oz .leq h (.len r))) e (.sl e) (.sub (.ah r) (.c 0) h) [] r.root.toList else Z
   |none=>Z
  |U ⟨.slice e,_,_⟩,.ah r,Z,Z,U (.int I l)=>match X.ty e with
   |U _=>if r.kind X.ty s=.sl e then jA s o.dst (tA (oz .leq (.c 0) l) (oz .leq l (.len r))) e (.sl e) (.sub (.ah r) l (.len r)) [] r.root.toList else Z
   |none=>Z
  |_,_,_,_,_=>Z
 |.store t a x=>if R then Z else match X.ty t,s.ev X.gl a with
  |U Q,.el (.v k) w i P=>match s.rs[k]? with
   |U (.own e)=>match X.ty e with
    |U W=>if(Y W.aj==w&&(s.ev X.gl x).cells.length==Y Q.aj&&decide (P+Y Q.aj<=w)&&lq X.ty s ((W.aj.drop P).take (Y Q.aj)) (s.ev X.gl x).cells&&(s.ev X.gl x).DL) then
      (jA s Z (tB i (.len (.v k))) e (.own e) (.set (.ah (.v k)) i P (s.ev X.gl x).cells) [k] (C.nP (s.ev X.gl x).cells)).map λb=>{b with s:=(b.s.gC k (Y s.rs)).put o.dst (.bA [])} else Z
    |none=>Z
   |_=>Z
  |_,_=>Z
 |_=>Z
def S.cU(s:S)(n:Nat)(t:TypeId)(X:am):S:={s with ak:=s.ak.set n (U (t,X))}
def JV(bC:Bool):C->Nat
 |.loc i _=>if bC then 1<<<(2*i) else 0
 |.el r _ _ _=>if bC then(match r.root with
  |U k=>1<<<(2*k+1)
  |none=>0) else 0
 |.fy _ _ X=>if bC then(match wa X with
  |U i=>1<<<(2*i)
  |none=>0) else 0
 |_=>0
def S.de(s:S)(d:bX)(v:C)(l:Nat):S:={s with lk:=s.lk|||l}.put d v
def qP(s:S)(d:bX)(l:Nat):PR->OR
 |.ok v=>.ok (s.de d v l)
 |.aN b v=>if b.bd s.ni s.nb (Y s.rs) then .aN b (s.de d v l) else .no ""
 |.no w=>.no w
def fA(l:bn)(n:Nat):Bool:=match l[n]? with
 |U Z=>J
 |_=>E
def oA(l:bn)(n:Nat)(t:TypeId):Bool:=fA l n&& !ow t
def fJ(X:bi)(m:OM)(s:S):OR:=
 if m.o.op.operands.toList.any λx=>(s.ev X.gl x).ec then .no (""++toString m.j++ ""++toString m.o.dst) else
 match m.o.op with
 |.alloc t=>match X.ty t with
  |U W=>if s.eD (dV W)&&oA s.ak m.ix t then .ok ((s.cU m.ix t (dV W)).put m.o.dst (.loc m.ix 0)) else .no ""
  |none=>.no ""
 |.box t x=>match X.ty t with
  |U W=>if(s.ev X.gl x).cells.length==Y W.aj&&s.eD (s.ev X.gl x).cells&&(s.ev X.gl x).DL&&oA s.ak m.ix t then .ok ((s.cU m.ix t (s.ev X.gl x).cells).put m.o.dst (.loc m.ix 0)) else .no ""
  |none=>.no ""
 |.buildSlice t V parts=>match X.ty t with
  |U ⟨.slice e,_,_⟩=>match X.ty e with
   |U R=>match v8 (λi=>U (i*Y R.aj,Y R.aj)) (uP V (dV R)) (parts.toList.map λp=>(p.1,s.ev X.gl p.2)) with
    |U l=>if s.eD l&&decide (V*Y R.aj<=16777216)&&oA s.ak m.ix e then .ok ((s.cU m.ix e l).put m.o.dst (.ij m.ix 0 V V)) else .no ""
    |none=>.no ""
   |none=>.no ""
  |_=>.no ""
 |.store t a x=>match X.ty t,s.ev X.gl a with
  |U W,.loc i Q=>match kK s.ak i with
   |U (O,P)=>if(s.ev X.gl x).cells.length==Y W.aj&&decide (Q+(s.ev X.gl x).cells.length<=Y P)&&BO (s.ev X.gl x).cells&&(s.ev X.gl x).DL&& !(m.bC&&s.lk.testBit (2*i)) then .ok ((s.cU i O (ko P Q (s.ev X.gl x).cells)).put m.o.dst (.bA [])) else .no ""
   |none=>.no ""
  |_,_=>.no ""
 |.pick c x y=>match s.ev X.gl c with
  |.bool b=>.split b (s.put m.o.dst (s.ev X.gl x)) (s.put m.o.dst (s.ev X.gl y))
  |_=>.no ""
 |.load t a=>qP s m.o.dst (JV m.bC (s.ev X.gl a)) (bT X.ty X.gl s (.load t a))
 |op=>qP s m.o.dst 0 (bT X.ty X.gl s op)
inductive MR where
 |ok (s:S)
 |ae (k:RK) (x:LE) (s:S)
def DW(X:TI)(n:Nat)(W:Bool):TypeId×am:=if X.aj.all lX&&Y X.aj !=0 then(tj,[.ah (.k (.slice Z 0 0)),.int I (.c n),.bool (.c W),.bool (.c X.d.isAgg)]) else(rL,[])
def S.we(s:S)(b:TypeId×am):S:={s with ak:=s.ak++[U b]}
def ye(V:bi)(s:S)(k e:TypeId)(n:Nat)(W:Bool)(X:TI):am->Option RE
 |[.ah r,.int I (.c R),.bool (.c Q),.bool (.c P)]=>if r.nq V.ty s ⟨k,e,n,W,X.d.isAgg⟩&&R==(n:Int)&&Q==W&&P==X.d.isAgg&&X.aj.all lX then U r else Z
 |_=>Z
def BS(V:bi)(d:bX)(s:S)(t:TypeId)(O R v:C):Option MR:=match V.ty t,O with
 |U ⟨.map k e n X,_,_⟩,.mp i=>match V.ty e,DO n X R,bM s.ak i with
  |U W,U (N,_,_),U (P,Q)=>if !qN V.ty k n X|| !s.eD [R,v]|| !xY W v then Z else
   if P==tj then(match ye V s k e n X W Q with
    |U r=>if lq V.ty s W.aj v.cells then
      U (.ae (RK.mr ⟨k,e,n,X,W.d.isAgg⟩) (.ins (.ah r) n (R.cells++v.cells)) (S.put {s with rs:=s.rs++[RK.mr ⟨k,e,n,X,W.d.isAgg⟩],ak:=s.ak.set i (U (tj,[.ah (.v (Y s.rs)),.int I (.c n),.bool (.c X),.bool (.c W.d.isAgg)]))} d (.bA []))) else Z
    |none=>Z)
   else if P==rL&&n==1&& !X then(match N,ph Q with
    |.c x,U M=>if M.contains x then Z else U (.ok ((s.cU i rL (Q++[.int I (.c x),v])).put d (.bA [])))
    |_,_=>Z)
   else Z
  |_,_,_=>Z
 |_,_=>Z
def N2(X:bi)(d:bX)(s:S)(t:TypeId):Option S:=match X.ty t with
 |U ⟨.map k e n W,_,_⟩=>match X.ty e with
  |U V=>if s.bd&&qN X.ty k n W then U ((s.we (DW V n W)).put d (.mp (Y s.ak))) else Z
  |none=>Z
 |_=>Z
def uR(X:bi):Sh:=⟨X.aaX,uL,1,E,E⟩
def DX(X:bi):Bool:=qN X.ty X.aaX 1 E&&(X.ty uL).isNone
def TN(R:bi)(s:S)(k e:TypeId)(n:Nat)(X:Bool)(Q:TI)(i:Nat):Option K:=match bM s.ak i with
 |U (W,V)=>if W==tj then(ye R s k e n X Q V).map .len
  else if W==rL&&n==1&& !X then(ph V).map λP=>.c (Y P) else Z
 |none=>Z
def N3(X:bi)(d:bX)(s:S)(t:TypeId)(W:C):Option S:=match X.ty t,W with
 |U ⟨.map k e n V,_,_⟩,.mp i=>match X.ty e with
  |U R=>match TN X s k e n V R i with
   |U c=>if s.bd&&c.bd s.ni s.nb (Y s.rs)&&aF s.ak i then U ((s.we (uL,[.mp i,.int I (.c t),.int I c,.ah (.k (.slice Z 0 0))])).put d (.loc (Y s.ak) 0)) else Z
   |none=>Z
  |none=>Z
 |_,_=>Z
def rO(r:RE)(i:K):Nat->eG->am
 |_,[]=>[]
 |j,c::X=>BN r i j c::rO r i (j+1) X
def Gp(r:RE)(i:K)(n:Nat)(X:Bool):C:=qM X ((e8 n).map λj=>.int I (.cell r i j))
def TO(X:bi)(d:bX)(s:S)(q W:Nat)(i t:Nat)(c:K)(V v:C):S:=
 S.put {s with ni:=W,rs:=s.rs++[RK.mr (uR X)],ak:=s.ak.set q (U (uL,[.mp i,.int I (.c t),.int I c,.ah (.v (Y s.rs))]))} d (.bA [.bool (.c J),V,v])
def N4(X:RE)(j:K):BE:=.not (.has X 1 j (.c 0) (.c 0))
def N5(X:TI)(e:K)(W:aZ)(V:am):Option (C×C):=if V.all (xY X) then(match xX e (Ad (Y W)) (W.map λk=>.int I (.c k)),Ac e (Ad (Y W)) (V.map C.cells) 0 X.aj with
 |U a,U l=>U (.int I a,qM X.d.isAgg l)
 |_,_=>Z) else Z
def N6(W:bi)(s:S)(c:K)(X:RE)(t V:T):T:=
 .pick c (N4 X (.v s.ni)) (.cmp .leq c (.len X)) (.ae (.mr (uR W)) (.ins (.ah X) 1 [.int I (.v s.ni)]) s.rs t) V
def TP(X:bi)(d:bX)(s:S)(L:C)(P O:S->T):Option T:=match L with
 |.loc q 0=>match bM s.ak q with
  |U (H,[.mp i,.int I (.c t),.int I c,.ah R])=>if !(H==uL&&DX X&&R.nq X.ty s (uR X)&&s.bd&&({s with ni:=s.ni+1}:S).bd&&decide (0<=t)) then Z else match X.ty t.toNat,bM s.ak i with
   |U ⟨.map k e n V,_,_⟩,U (N,Q)=>match X.ty e with
    |U W=>if !qN X.ty k n V then Z else
     if N==tj then(match ye X s k e n V W Q with
      |U r=>if c.aH (.len r)&&Y W.aj !=0 then U (N6 X s c R (P (TO X d s q (s.ni+1) i t.toNat c (Gp r (.v s.ni) n V) (qM W.d.isAgg (rO r (.v s.ni) n W.aj)))) (O (s.put d (.bA [.bool (.c E)])))) else Z
      |none=>Z)
     else if N==rL&&n==1&& !V then(match ph Q with
      |U M=>if c.aH (.c (Y M)) then(match N5 W (.v s.ni) M (lj Q) with
       |U (G,v)=>U (N6 X s c R (P (TO X d s q (s.ni+1) i t.toNat c G v)) (O (s.put d (.bA [.bool (.c E)]))))
       |none=>Z) else Z
      |none=>Z)
     else Z
    |none=>Z
   |_,_=>Z
  |_=>Z
 |_=>Z
def tE(X:RE):K:=.cell X (.bin .sub I (.len X) (.c 1)) 0
def TQ(c:K)(X:RE):BE:=tA (tA (oz .leq (.c 1) (.len X)) (DV (.len X))) (tB (tE X) c)
def TR(X:bi)(d:bX)(s:S)(M:C)(P:S->T):Option T:=match M with
 |.loc q 0=>match bM s.ak q with
  |U (L,[.mp i,.int I (.c t),.int I c,.ah W])=>if !(L==uL&&DX X&&W.nq X.ty s (uR X)&&s.bd&&decide (0<=t)) then Z else match X.ty t.toNat,bM s.ak i with
   |U ⟨.map k e n V,_,_⟩,U (O,Q)=>match X.ty e with
    |U R=>if !qN X.ty k n V then Z else
     if O==tj then(match ye X s k e n V R Q with
      |U r=>if c.aH (.len r) then U (.aN (TQ c W) (P (s.put d (.bA [Gp r (tE W) n V,qM R.d.isAgg (rO r (tE W) n R.aj)])))) else Z
      |none=>Z)
     else if O==rL&&n==1&& !V then(match ph Q with
      |U N=>if c.aH (.c (Y N)) then(match N5 R (tE W) N (lj Q) with
       |U (H,v)=>U (.aN (TQ c W) (P (s.put d (.bA [H,v]))))
       |none=>Z) else Z
      |none=>Z)
     else Z
    |none=>Z
   |_,_=>Z
  |_=>Z
 |_=>Z
def N7(X:bi)(d:bX)(s:S)(t:TypeId)(W:Bool)(x y:C)(V:S->T):Option T:=match X.ty t,x,y with
 |U ⟨.slice e,_,_⟩,.ah r,.ah (.k (.slice Z 0 0))=>if r.kind X.ty s=.sl e then U (.fU (.c J) (.cmp .leq (.len r) (.c 0)) (V (s.put d (.bool (.c W)))) (V (s.put d (.bool (.c (!W)))))) else Z
 |_,_,_=>Z
abbrev Fx:=List (BE×Bool)
def JW(X:Fx):BE->Option Bool
 |.c v=>U v
 |b=>(X.find? λx=>x.1.aH b).map (·.2)
def Af(s:S)(X:Fx)(b:BE)(t f:Fx->T):T:=match JW X b with
 |U J=>t X
 |U E=>f X
 |none=>if b.bd s.ni s.nb (Y s.rs) then .aS b (t ((b,J)::X)) (f ((b,E)::X)) else .stuck ""
inductive CK where
 |call (g:wb) (args:List C)
 |aW (v:C)
 |op
 |no
def wh(g:FuncId)(X:am):am->CK
 |[]=>.call (.fn g) X
 |v::r=>cond (iW g 1000000) (.call (.fn g) (X++v::r)) (cond (iW g 2000000) (.call (.fn (g-1000000)) (v::(X++r))) .no)
def dW(X:bi)(s:S)(o:Oper):CK:=
 match o.op with
 |.panic x=>match s.ev X.gl x with
  |.fT t y=>.aW (.fT t y)
  |_=>.no
 |.call c=>match c.callee with
  |.value f=>match s.ev X.gl f with
   |.fn g W=>if c.args.toList.any λx=>(s.ev X.gl x).ec then .no else wh g (c.args.toList.map (s.ev X.gl)) W
   |.yl n=>if c.args.toList.any λx=>(s.ev X.gl x).ec then .no else .call (.yl n) (c.args.toList.map (s.ev X.gl))
   |_=>.no
  |.invoke _ _=>.no
  |.builtin .panic=>match c.args.toList with
   |[x]=>match s.ev X.gl x with
    |.fT t y=>.aW (.fT t y)
    |_=>.no
   |_=>.no
  |.builtin _=>.op
 |_=>.op
def nR(s:S)(X:Fx):Fx:=X.filter λx=>x.1.bd s.ni s.nb (Y s.rs)
def TS(b:BE):C->C->Option C
 |.int k x,.int X y=>if k=X then U (.int k (.dv b x y)) else Z
 |.bool x,.bool y=>U (.bool (.dv b x y))
 |_,_=>Z
def JX(b:BE):am->Nat->am->DH
 |[],_,X=>U X
 |x::V,W,X=>match X[W]? with
  |U R=>match TS b x R with
   |U c=>JX b V (W+1) (X.set W c)
   |none=>Z
  |none=>Z
def DY(e:K)(W:am):aZ->am->am->DH
 |[],[],X=>U X
 |k::V,.loc _ R::Q,X=>match JX (.cmp .eql e (.c k)) W R X with
  |U P=>DY e W V Q P
  |none=>Z
 |_,_,_=>Z
def N8:aZ->Bool
 |[]=>J
 |x::X=> !X.contains x&&N8 X
def JY:C->Bool
 |.int _ _|.bool _=>J
 |_=>E
def Gq:am->Bool
 |[]=>E
 |[x]=>JY x
 |x::X=>JY x&&Gq X
def TU(d:bX)(s:S)(R:TI)(e:K)(X:aZ)(W:am)(V:C)(k:S->T):Option T:=match wa W with
 |U i=>match kK s.ak i with
  |U (Q,P)=>match DY e V.cells X W P with
   |U O=>if Y R.aj==Y V.cells&&Y X==Y W&&N8 X&&Gq V.cells then U (.aN (DP e X) (k ((s.cU i Q O).put d (.bA [])))) else Z
   |none=>Z
  |none=>Z
 |none=>Z
def yf(X:bi)(m:OM)(s:S)(V:S->Fx->T)(R:Fx):Option T:=if m.dr||m.o.op.operands.toList.any λx=>(s.ev X.gl x).ec then Z else match m.o.op with
 |.makeMap t Z=>(N2 X m.o.dst s t).map λW=>V W R
 |.mapUpdate t x y z=>match BS X m.o.dst s t (s.ev X.gl x) (s.ev X.gl y) (s.ev X.gl z) with
  |U (.ok W)=>U (V W R)
  |U (.ae k x W)=>U (.ae k x s.rs (V W (nR s R)))
  |none=>Z
 |.insert t x y z=>match BS X m.o.dst s t (s.ev X.gl x) (s.ev X.gl y) (s.ev X.gl z) with
  |U (.ok W)=>U (V W R)
  |U (.ae k x W)=>U (.ae k x s.rs (V W (nR s R)))
  |none=>Z
 |.range t x=>(N3 X m.o.dst s t (s.ev X.gl x)).map λW=>V W R
 |.next Q E=>TP X m.o.dst s (s.ev X.gl Q) (λW=>V W (nR s R)) (λW=>V W R)
 |.entry Q=>TR X m.o.dst s (s.ev X.gl Q) λW=>V W R
 |.store t a x=>match X.ty t,s.ev X.gl a with
  |U P,.fy e O N=>TU m.o.dst s P e O N (s.ev X.gl x) λW=>V W R
  |_,_=>Z
 |.binOp M t x y _=>match M with
  |.eql=>N7 X m.o.dst s t E (s.ev X.gl x) (s.ev X.gl y) λW=>V W R
  |.neq=>N7 X m.o.dst s t J (s.ev X.gl x) (s.ev X.gl y) λW=>V W R
  |_=>Z
 |_=>Z
def yg(X:bi)(m:OM)(s:S):Option (K×aZ×am×am):=if m.dr then Z else match m.o.op with
 |.call c=>match c.callee with
  |.value f=>match s.ev X.gl f with
   |.fy e W V=>if(c.args.toList.any λx=>(s.ev X.gl x).ec)|| !e.bd s.ni s.nb (Y s.rs) then Z else U (e,W,V,c.args.toList.map (s.ev X.gl))
   |_=>Z
  |_=>Z
 |_=>Z
def BT(e:K)(X:FuncId->am->T):aZ->am->T
 |k::W,.fn g R::V=>.aS (.cmp .eql e (.c k)) (cond (iW g 1000000) (X g R) (.stuck "")) (BT e X W V)
 |k::W,.ah (.k .nilFunc)::V=>.aS (.cmp .eql e (.c k)) (.stuck "") (BT e X W V)
 |_,_=>.stuck ""
structure yi where
 f:FuncId
 g:FuncId
 e:TypeId
 sp:bB
 st:Bool
 r:RE
 s:S
def JZ:am->Option (List K×FuncId)
 |[.fn g []]=>U ([],g)
 |.int I e::r=>match JZ r with
  |U x=>U (e::x.1,x.2)
  |none=>Z
 |_=>Z
def bB.fill:bB->List K->Option bB
 |.da k o _,X=>U (.da k o X)
 |W,[]=>U W
 |_,_::_=>Z
def TV(V:bi)(f:FuncId)(R:am)(s:S)(d:bX):Option yi:=match R with
 |.ah r::Q=>match JZ Q with
  |U (P,g)=>match(if f==g then Z else V.uQ f g) with
   |U (e,O,X)=>match O.fill P with
    |U W=>match r with
     |.v k=>if s.rs[k]?=U (.own e) then U ⟨f,g,e,W,X,.v k,(({s with rs:=jz [] 0 (iw [k] 0 s.rs)++[.own e]}:S).gC k (Y s.rs)).put d (.bA [])⟩ else Z
     |.k (.slice Z 0 0)=>U ⟨f,g,e,W,X,.k (.slice Z 0 0),({s with rs:=jz [] 0 (iw [] 0 s.rs)++[.own e]}:S).put d (.bA [])⟩
     |_=>Z
    |none=>Z
   |none=>Z
  |none=>Z
 |_=>Z
def DZ(V:bi)(f:FuncId)(R:am)(s:S)(d:bX):Option yi:=match R with
 |[.int I i,.loc X 0,.loc W 0]=>match V.uQ f f with
  |U (e,.da 0 o _,J)=>match bM s.ak X,bM s.ak W with
   |U (Q,[.ah (.v k)]),U (P,[.fn O [.loc N 0,.loc M 0]])=>if i.bd s.ni s.nb (Y s.rs)&&O==f&&iW f 1000000&&N==X&&M==W&& !ow Q&& !ow P&&decide (s.rs[k]?=U (.own e)) then U ⟨f,f,e,.da 0 o [i],J,.v k,(({s with rs:=jz [] 0 (iw [k] 0 s.rs)++[.own e]}:S).gC k (Y s.rs)).put d (.int I (.cell (.v (Y s.rs)) i 0))⟩ else Z
   |_,_=>Z
  |_=>Z
 |_=>Z
def Ag(X:bi)(m:OM)(s:S):Option yi:=if m.dr|| !s.bd then Z else match dW X s m.o with
 |.call (.fn f) W=>match TV X f W s m.o.dst with
  |U u=>U u
  |none=>DZ X f W s m.o.dst
 |_=>Z
def D0(X:bi)(o:Oper)(s:S):Option yi:=if !s.bd then Z else match dW X s o with
 |.call (.fn f) W=>DZ X f W s o.dst
 |_=>Z
def yj(R:bi)(O:nO)(m:OM)(s:S)(X:S->Fx->T)(P:C->S->T)(W:Fx):T:=
 match yg R m s with
 |U (e,N,M,Q)=>BT e (λg L=>O (.fn g) (Q++L) s (λv V=>X (V.put m.o.dst v) (nR s W)) P) N M
 |none=>
 match Ag R m s with
 |U u=>.dK u.f u.g u.e u.sp u.st u.r s.rs (X u.s (nR s W))
 |none=>
 match dW R s m.o with
 |.call (.fn g) Q=>O (.fn g) Q s (λv V=>X (V.put m.o.dst v) (nR s W)) P
 |.call (.yl n) Q=>if m.so then O (.yl n) Q s (λv V=>X (V.put m.o.dst v) (nR s W)) P else .stuck ""
 |.aW v=>P v s
 |.no=>.stuck ""
 |.op=>match yf R m s X W with
  |U t=>t
  |none=>match eA R m.o m.bC m.dr s with
  |U b=>.aN b.aN (.new b.e b.x s.rs b.s.rs (X b.s (nR s W)))
  |none=>match fJ R m s with
  |.ok V=>X V W
  |.aN b V=>.aN b (X V W)
  |.split b H G=>Af s W b (X H) (X G)
  |.no F=>.stuck F
def N9(R:db)(m:OM)(s:S)(X:Fx)(W V:Fx->T):T:=
 match m.o.guard with
 |none=>W X
 |U (j,Q)=>match(R[j]?).bind (·.dst) with
  |U d=>match s.tmps[d]? with
   |U (.bool b)=>if Q then Af s X b W V else Af s X b V W
   |U (.bA [])=>V X
   |_=>.stuck ""
  |none=>.stuck ""
def jX(X:bi)(W:nO)(V:db)(k:S->T)(R:C->S->T):ck->S->Fx->T
 |[],s,_=>k s
 |m::Q,s,P=>N9 V m s P (yj X W m s (jX X W V k R Q) R) (jX X W V k R Q (s.put m.o.dst (.bA [])))
def fW:Op->Bool
 |.alloc _|.box _ _|.buildSlice _ _ _=>J
 |_=>E
def kL(l:nM):Nat:=(l.filter λo=>fW o.op).length
def fh(bC:Nat->Bool)(X W:Bool):Nat->Nat->nM->ck
 |_,_,[]=>[]
 |j,n,o::r=>⟨o,n,bC j,j,W,X⟩::fh bC X W (j+1) (if fW o.op then n+1 else n) r
def S.room(s:S)(n:Nat):S:={s with ak:=s.ak++ew n Z,lk:=0}
def rP(X:bi)(s:S):lg->DH
 |[]=>U []
 |.tmp t::W=>match rP X s W with
  |U l=>if(s.tmps.getD t .any).ec then Z else U (s.tmps.getD t .any::l)
  |none=>Z
 |.cell a t::W=>match rP X s W,s.tmps.getD a .any,X.ty t with
  |U l,.loc i V,U R=>match kK s.ak i with
   |U (_,Q)=>match uO R Q V with
    |U v=>U (v::l)
    |none=>Z
   |none=>Z
  |_,_,_=>Z
def tF(n:Nat):List (Nat×LK)->am->Option C
 |(t,_)::r,v::X=>if t==n then U v else tF n r X
 |_,_=>Z
def yk(b n:Nat):List (Nat×Nat×LK)->am->Option C
 |(X,W,_)::r,v::V=>if X==b&&W==n then U v else yk b n r V
 |_,_=>Z
def aaZ(l:bn)(x:Nat×Nat×LK):C:=match bM l x.1 with
 |U (_,X)=>X.getD x.2.1 .any
 |none=>.any
def eV.ks(a:eV):aI:=a.tm.map (·.2)++a.cl.map (·.2.2)
def jI(a:eV)(s:S):am:=a.tm.map (λx=>s.tmps.getD x.1 .any)++a.cl.map (aaZ s.ak)
def Oa:LK->C->ap
 |.ah (.own _),.ah (.v k)=>[k]
 |_,_=>[]
def Ah:aI->am->ap
 |k::X,v::W=>Oa k v++Ah X W
 |_,_=>[]
def D4(a:eV)(s:S):ap:=Ah a.ks (jI a s)
def iA(a:eV)(s:S):aY:=iw (D4 a s) 0 s.rs
def wi:aY->aY->Bool
 |[],_=>J
 |x::X,y::W=>(decide (x=.ao)||decide (x=y))&&wi X W
 |_::_,[]=>E
def lY:ap->Bool
 |[]=>J
 |x::X=> !X.contains x&&lY X
def D5(X:aY)(l:ap):Bool:=lY l&&l.all λk=>decide (Y X<=k)||decide (X[k]?=U .ao)
def ym(a:eV)(X:ap)(W:am):Nat->am->am
 |_,[]=>[]
 |n,x::V=>(tF n a.tm W).getD (if X.contains n then .any else x)::ym a X W (n+1) V
def D6(a:eV)(X:am)(b:Nat):Nat->am->am
 |_,[]=>[]
 |n,x::W=>(yk b n a.cl X).getD x::D6 a X b (n+1) W
def rQ(a:eV)(X:am):Nat->bn->bn
 |_,[]=>[]
 |n,Z::W=>Z::rQ a X (n+1) W
 |n,U (t,V)::W=>U (t,D6 a X n 0 V)::rQ a X (n+1) W
def pl(a:eV)(X:ap)(s:S):S:=
 let r:am×S:=S.b9 {s with av:=s.av+1,rs:=iA a s} a.ks
 {r.2 with tmps:=ym a X r.1 0 s.tmps,ak:=rQ a (r.1.drop (Y a.tm)) 0 s.ak}
def wj(a:eV)(X:ap):Nat->am->am->Bool
 |_,[],[]=>J
 |n,x::W,y::V=>(a.tm.any (·.1==n)||X.contains n||C.aH x y)&&wj a X (n+1) W V
 |_,_,_=>E
def D7(a:eV)(b:Nat):Nat->am->am->Bool
 |_,[],[]=>J
 |n,x::X,y::W=>(a.cl.any (λc=>c.1==b&&c.2.1==n)||C.aH x y)&&D7 a b (n+1) X W
 |_,_,_=>E
def qQ(a:eV):Nat->bn->bn->Bool
 |_,[],_=>J
 |n,Z::X,_::W=>qQ a (n+1) X W
 |n,U x::X,U y::W=>x.1==y.1&&D7 a n 0 x.2 y.2&&qQ a (n+1) X W
 |_,_,_=>E
def Ai(s:S):LK->C->Bool
 |.int k,.int X _=>decide (k=X)
 |.bool,.bool _=>J
 |.ah e,.ah (.v k)=>s.rs[k]?==U e
 |.ah (.sl _),.ah (.k (.slice Z 0 0))=>J
 |.ah (.own _),.ah (.k (.slice Z 0 0))=>J
 |.ah (.mr _),.ah (.k (.slice Z 0 0))=>J
 |_,_=>E
def qR(s:S):aI->am->Bool
 |[],[]=>J
 |k::X,v::W=>Ai s k v&&qR s X W
 |_,_=>E
def D8:LK->Bool
 |.ah (.own _)=>E
 |_=>J
def oB:aI->Bool
 |[]=>J
 |k::X=>D8 k&&oB X
def J0:aI->Bool
 |[]=>E
 |.ah _::_=>J
 |_::X=>J0 X
def J1(X:am)(n:Nat):ap:=if(C.nN X).isEmpty then C.nP X else e8 n
def J2(W:am)(X:aY):aY:=Ae (J1 W (Y X)) 0 X
def Aj(W:am)(V:aI)(X:aY):aY:=if J0 V then jz (J1 W (Y X)) 0 X else X
def S.cut(s:S)(X:am)(W:aI):S:={s with rs:=Aj X W s.rs}
def wl(V:bi)(f:FuncId)(X:am)(s:S)(k:C->S->T):T:=
 match V.sig f with
 |U R=>match gH V.ty R with
  |U W=>match yc V.ty R ((s.cut X W).b9 W).1 with
   |U l=>if s.eD X&&oB W then .call f X (tC (pS (C.nN X) 0 s.ak)) (J2 X s.rs) W (one l) (k (one l) ((s.cut X W).b9 W).2) else .stuck ""
   |none=>.stuck ""
  |none=>.stuck ""
 |none=>.stuck (""++toString f)
def im(o:Oper):ap:=(o.after.toList.filter λe=>alI .any e).map (·.on)
def nS(X:nM):ap:=X.foldl (λacc o=>acc++[(im o).foldl (λl e=>l|||(1<<<e)|||acc.getD e 0) 0]) []
def yo:Op->Bool
 |.load _ _=>J
 |_=>E
def wm:Op->Bool
 |.store _ _ _=>J
 |_=>E
def mE:Op->Bool
 |.call c=>match c.callee with
  |.builtin .len|.builtin .min|.builtin .max=>J
  |_=>E
 |.move _|.assign _|.pick _ _ _|.load _ _|.fieldAddr _ _ _|.field _ _ _|.indexAddr _ _ _|.index _ _ _|.binOp _ _ _ _ _|.unOp _ _ _|.convert _ _ _|.makeInterface _ _|.makeFunc _ _ _|.extract _ _|.nilCheck _|.slice _ _ _ _ _|.build _ _|.lookup _ _ _ _=>J
 |_=>E
def iY(X:db)(o:Oper):ap:=o.op.operands.toList.filterMap (λx=>match x with
  |.tmp t=>U t
  |_=>Z)++(match o.guard with
  |U (j,_)=>((X[j]?).bind (·.dst)).toList
  |none=>[])
def Gr:Op->Bool
 |.panic _=>J
 |.call c=>match c.callee with
  |.builtin .panic=>J
  |_=>E
 |_=>E
def Ak:Op->Bool
 |.call c=>match c.callee with
  |.builtin .append=>J
  |_=>E
 |_=>E
def rR:Op->Bool
 |.call c=>match c.callee with
  |.builtin .append=>J
  |_=>E
 |.makeSlice _ _ _=>J
 |_=>E
def looks:Op->Bool
 |.call _|.load _ _|.indexAddr _ _ _|.index _ _ _|.lookup _ _ _ _|.slice _ _ _ _ (U _)=>J
 |.binOp X _ _ _ _=>NV X
 |_=>E
def Ob(X:db)(x y:OM):Bool:=
 x.dr&&y.dr&&mE x.o.op&& !Gr y.o.op&&(match x.o.dst with
  |U d=> !(iY X y.o).contains d&&y.o.dst !=U d&& !(iY X x.o).contains d
  |none=>E)&&(match y.o.dst with
  |U d=> !(iY X x.o).contains d
  |none=>J)&&(!(wm y.o.op)|| !(yo x.o.op)||(x.bC&&y.bC))&&(!(Ak y.o.op)|| !(looks x.o.op)||(yo x.o.op&&x.bC&&y.bC))
def uS:Operand->Bool
 |.global _=>E
 |_=>J
def wn:Op->Bool
 |.call c=>match c.callee with
  |.value _=>J
  |_=>E
 |_=>E
def D9:Op->Bool
 |.alloc _=>J
 |_=>E
def Oc(X:db)(x y:OM):Bool:=(match x.o.dst with
  |U d=> !(iY X y.o).contains d&&y.o.dst !=U d
  |none=>J)&&(match y.o.dst with
  |U d=> !(iY X x.o).contains d
  |none=>J)
def Gs:Op->Bool
 |.call c=>match c.callee with
  |.value (.func _)=>c.args.toList.isEmpty
  |_=>E
 |_=>E
def Od(X:db):Bool:=(e8 X.size).all λi=>(e8 X.size).all λj=>match X[i]?,X[j]? with
 |U x,U y=> !(wn x.op)|| !(fW y.op||rR y.op)||((nS X.toList).getD i 0).testBit j||((nS X.toList).getD j 0).testBit i||(Gs x.op&&D9 y.op)
 |_,_=>J
def Gt(X:db)(x y:OM):Bool:=
 x.dr&&y.dr&&D9 y.o.op&&y.o.guard.isNone&&(fW x.o.op||rR x.o.op||wn x.o.op)&&(!fW x.o.op||x.ix !=y.ix)&&x.o.op.operands.toList.all uS&&Oc X x y&&(!wn x.o.op|| !Od X||Gs x.o.op)
def BU:Op->Bool
 |.move _|.assign _|.fieldAddr _ _ _=>J
 |_=>E
def J3(X:db)(x y:OM):Bool:=
 x.dr&&y.dr&&fW x.o.op&& !D9 x.o.op&&x.o.guard.isNone&&x.o.op.operands.toList.all uS&&y.o.op.operands.toList.all uS&&(fW y.o.op||rR y.o.op||wn y.o.op||BU y.o.op||wm y.o.op)&&(!fW y.o.op||x.ix !=y.ix)&&Oc X x y&&(!wn y.o.op|| !Od X)
def rT(X:db)(x y:OM):Bool:= !x.so&& !y.so&&(Ob X x y||Gt X x y||J3 X x y)
def J4(X:nM):Nat->ap->ap
 |0,acc=>acc
 |n+1,acc=>
  let W:=(e8 (Y X)).filter λi=> !acc.contains i&&(match X[i]? with
   |U o=>(im o).all acc.contains
   |none=>E)
  match W.find? λi=>match X[i]? with
   |U o=>mE o.op
   |none=>E with
  |U i=>J4 X n (acc++[i])
  |none=>match(W.find? λi=>match X[i]? with
   |U o=>fW o.op&& !D9 o.op
   |none=>E).or (W.find? λi=>match X[i]? with
   |U o=> !D9 o.op
   |none=>E) with
   |U i=>J4 X n (acc++[i])
   |none=>match W with
   |i::_=>J4 X n (acc++[i])
   |[]=>acc
def BV(X:db)(W:ap):ck->Bool
 |[]=>J
 |x::r=>(r.all λy=>(W.getD y.j 0).testBit x.j||rT X x y)&&BV X W r
def BW(X:db):ap->ck->Bool
 |_,[]=>J
 |done,x::r=>(match X[x.j]? with
  |U o=>(im o).all done.contains
  |none=>E)&&BW X (x.j::done) r
def Oe(X:nM)(W:ap):Bool:=(e8 (Y X)).all λj=>match X[j]? with
 |U o=>(im o).all (λe=>decide (e<j))&&(e8 (Y X)).all λi=> !(W.getD j 0).testBit i||(im o).contains i||(im o).any λe=>(W.getD e 0).testBit i
 |none=>E
def J5(X:nM)(W:ap)(j:Nat):Bool:=match X[j]? with
 |U o=>(yo o.op&&(e8 (Y X)).any λi=>(match X[i]? with
   |U q=>wm q.op||Ak q.op
   |none=>E)&& !(W.getD i 0).testBit j&& !(W.getD j 0).testBit i)||
  ((wm o.op||Ak o.op)&&(e8 (Y X)).any λi=>(match X[i]? with
   |U q=>yo q.op
   |none=>E)&& !(W.getD i 0).testBit j&& !(W.getD j 0).testBit i)
 |none=>E
def yp(X:ap):ck->Bool
 |[]=>J
 |x::r=>(r.all λy=>(X.getD y.j 0).testBit x.j)&&yp X r
def alU:Op->Bool
 |.call c=>match c.callee with
  |.value (.tmp _)=>J
  |_=>E
 |_=>E
def rU(X:ap):ck->ck->ck
 |_,[]=>[]
 |W,m::r=>{m with so:=alU m.o.op&&yp X (m::r)&&W.all (λx=>(X.getD m.j 0).testBit x.j)}::rU X (W++[m]) r
def qS(X:ap):Nat->am->am
 |_,[]=>[]
 |n,x::W=>(if X.contains n then .any else x)::qS X (n+1) W
def S.plus(s:S)(X:bn):S:={s with ak:=s.ak++X}
abbrev rV:=FuncId->am->S->Option (C×bn)
def qT(W:bi)(V:rV)(R:YH):nO
 |.fn f,X,s,k,_=>match V f X s with
  |U (v,Q)=>if s.bd then k v (s.plus Q) else .stuck ""
  |none=>wl W f X s k
 |.yl n,X,s,k,P=>R n X s k P
def Gu(l:ck)(X:ap):ck:=X.filterMap λi=>l[i]?
def BX(l:nM):ap:=l.filterMap (·.dst)
def Al(X:db)(n:Nat):Option ck:=
 let V:=nS X.toList;let W:=rU V [] (Gu (fh (J5 X.toList V) E J 0 n X.toList) (J4 X.toList X.size []))
 if Oe X.toList V&&BW X [] W&&BV X V W&&lY (W.filterMap (·.o.dst))&&lY (W.map (·.j))&&lY ((W.filter λm=>fW m.o.op).map (·.ix))&&Y W==X.size&&(e8 X.size).all (λi=>W.any λm=>m.j==i) then U W else Z
def aa0(X:db):Bool:=decide (0<X.size)&&((e8 X.size).all λi=>match X[i]? with
  |U o=>((im o).all λe=>decide (e<i))&&(match o.guard with
   |U (j,_)=>decide (j+1<X.size)
   |none=>J)
  |none=>J)&&(e8 (X.size-1)).all λj=>(e8 X.size).any λi=>decide (j<i)&&(match X[i]? with
  |U o=>(im o).contains j
  |none=>E)
def J6(b:Bool)(X:db):Option Oper:=if b&&aa0 X then X[X.size-1]? else Z
def Ed(X:bi)(t:TypeId):Bool:=(X.ty t).isSome&& !ow t
def yq(X:bi):nM->Bool
 |[]=>J
 |o::r=>(match o.op with
  |.alloc t=>Ed X t
  |_=>J)&&yq X r
def aa1(s:S)(X:ap):ap:=X.filter λd=>match s.tmps[d]? with
 |U w=> !(w.bd s.ni s.nb (Y s.rs) (aF s.ak))
 |none=>J
def S.rW(s:S)(X:db)(W:ck):S:={s.room (kL X.toList) with tmps:=qS (aa1 s (BX (W.dropLast.map (·.o)))) 0 s.tmps}
def J7(X:S->T)(k:XE->S->T):XE->S->T
 |.normal,s=>X s
 |e,s=>k e s
def TW(id:Nat)(k:XE->S->T):XE->S->T
 |.exit j,s=>if j==id then k .normal s else k (.exit j) s
 |e,s=>k e s
def Gv(W:bi)(s:S)(V:lg)(k R:C->S->T):XE->S->T
 |.normal,X=>match rP W X V with
  |U l=>k (one l) {X with tmps:=s.tmps}
  |none=>.stuck ""
 |.ret,X=>match rP W X V with
  |U l=>k (one l) {X with tmps:=s.tmps}
  |none=>.stuck ""
 |.aW v,X=>R v {X with tmps:=s.tmps}
 |.exit _,_=>.stuck ""
def iZ(W:bi)(R:FuncId->Code->S->(XE->S->T)->T)(Q:YH):nO
 |.fn f,X,s,k,V=>match W.inl f with
  |U (c,P,O)=>if s.eD X then R f c {s with tmps:=X++ew (P-Y X) (.bA [])} (Gv W s O k V) else .stuck ""
  |none=>wl W f X s k
 |.yl n,X,s,k,V=>Q n X s k V
def TX(b:Bool)(R:bi)(V:nO):nO
 |.fn f,X,s,k,W=>if b then wl R f X s k else V (.fn f) X s k W
 |.yl n,X,s,k,W=>V (.yl n) X s k W
def alV:T:=.fU (.c E) (.c E) (.stuck "") (.stuck "")
def TY:T->Bool
 |.fU (.c E) (.c E) _ _=>J
 |_=>E
mutual
def C.yr:C->Bool
 |.agg l=>C.uT l
 |.bA l=>C.uT l
 |.fn _ l=>C.uT l
 |.fT _ x=>C.yr x
 |.yl _=>E
 |.fy _ _ X=>C.uT X
 |_=>J
def C.uT:am->Bool
 |[]=>J
 |x::X=>C.yr x&&C.uT X
end
def BY:bn->Bool
 |[]=>J
 |Z::X=>BY X
 |U x::X=>C.uT x.2&&BY X
def lZ:bn->bn->Bool
 |[],[]=>J
 |Z::X,Z::W=>lZ X W
 |U x::X,U y::W=>x.1==y.1&&C.pi x.2 y.2&&lZ X W
 |_,_=>E
def mW(W:am)(X:bn):bn:=if W.isEmpty then X.map (λ_=>Z) else X
def rX(X:am)(s:S):S:=⟨[],mW X s.ak,s.ni,s.nb,s.rs.map RK.rd,0,0,[]⟩
def aa2(W V X:S):Bool:=lZ X.ak V.ak&&X.ni==W.ni&&X.nb==W.nb&&decide (X.rs=W.rs)
def Gw(V:bi)(R:FuncId->Code->S->(XE->S->T)->T)(g:FuncId)(W:am)(s:S):Option (C×bn):=
 match iZ V R gM (.fn g) W (rX W s) (λv X=>.out .normal {X with tmps:=[v]}) (λ_ _=>.stuck "") with
 |.out .normal X=>match X.tmps with
  |[v]=>if C.uT W&&BY (mW W s.ak)&&v.yr&&BY X.ak&&lZ (X.ak.take (Y s.ak)) (mW W s.ak)&&v.bd s.ni s.nb (Y s.rs) (aF X.ak)&&C.pj s.ni s.nb (Y s.rs) (aF X.ak) X.ak&&TY (iZ V R gM (.fn g) W (rX W s) (λQ P=>if Q.aH v&&aa2 (rX W s) X P then alV else .stuck "") (λ_ _=>.stuck "")) then U (v,X.ak.drop (Y s.ak)) else Z
  |_=>Z
 |_=>Z
def yt(X:bi)(W:db)(V:FuncId->Code->S->(XE->S->T)->T):rV:=λg R s=>if Od W&&(X.inl g).isSome then Gw X V g R s else Z
def TZ:Op->Bool
 |.pick _ _ _=>J
 |_=>E
def aa3:Op->Bool
 |.buildSlice _ _ _=>J
 |_=>E
def J8:Op->Bool
 |.buildSlice _ _ _|.alloc _|.box _ _|.store _ _ _=>J
 |_=>E
def yu(X:bi)(s:S)(o:Oper):Option (BE×C):=
 if(o.op.operands.toList.any λx=>(s.ev X.gl x).ec)||TZ o.op then Z else match bT X.ty X.gl s o.op with
 |.ok v=>U (.c J,v)
 |.aN b v=>if b.bd s.ni s.nb (Y s.rs) then U (b,v) else Z
 |.no _=>Z
def BE.T1:BE->Bool
 |.c b=>b
 |_=>E
def BZ(X:bi):ck->S->Option (S×List BE)
 |[],s=>U (s,[])
 |q::r,s=>match yu X s q.o with
  |U (b,v)=>(BZ X r (s.put q.o.dst v)).map λx=>(x.1,if b.T1 then x.2 else b::x.2)
  |none=>Z
def T2(X:bi)(lu:List BE)(s:S)(W:ck):Bool:=W.all λq=>match q.o.dst,yu X s q.o with
 |U d,U (b,v)=>(match s.tmps[d]? with
  |U w=>v.aH w&&(b.T1||lu.any λx=>x.aH b)
  |none=>E)
 |_,_=>E
def Of:List BE->T->T
 |[],t=>t
 |b::r,t=>.aN b (Of r t)
def S.bw(s:S)(X:ap):S:={s with tmps:=qS X 0 s.tmps}
def Gx{X:Type}:List X->List (X×List X)
 |[]=>[]
 |x::r=>(x,r)::(Gx r).map λy=>(y.1,x::y.2)
def T3(X:ap)(x:OM×ck):Bool:=x.2.all λy=> !(X.getD x.1.j 0).testBit y.j
def Gy:uK->uK->Bool
 |[],[]=>J
 |x::X,y::W=>C.pi x y&&Gy X W
 |_,_=>E
def LE.aH:LE->LE->Bool
 |.ah r,.ah Q=>r.aH Q
 |.lit l,.lit P=>Gy l P
 |.jW a b,.jW X O=>LE.aH a X&&LE.aH b O
 |.tq n N,.tq W M=>n.aH W&&C.pi N M
 |.set a i L V,.set X H G R=>LE.aH a X&&i.aH H&&L==G&&C.pi V R
 |.sub a F D,.sub X B A=>LE.aH a X&&F.aH B&&D.aH A
 |.ins a n V,.ins X W R=>LE.aH a X&&n==W&&C.pi V R
 |_,_=>E
def S.aH(s X:S):Bool:=C.pi s.tmps X.tmps&&lZ s.ak X.ak&&s.ni==X.ni&&s.nb==X.nb&&decide (s.rs=X.rs)&&s.av==X.av&&s.lk==X.lk&&decide (s.pd=X.pd)
def T.aH:T->T->Bool
 |.ret v P W,.ret O N V=>v.aH O&&lZ P N&&decide (W=V)
 |.aW v,.aW O=>v.aH O
 |.aS b t f,.aS M X R=>b.aH M&&T.aH t X&&T.aH f R
 |.aN b t,.aN M X=>b.aH M&&T.aH t X
 |.call f B P W L iE t,.call R A N V H z X=>f==R&&C.pi B A&&lZ P N&&decide (W=V)&&decide (L=H)&&iE.aH z&&T.aH t X
 |.loop av L y t,.loop G H w X=>av==G&&decide (L=H)&&C.pi y w&&T.aH t X
 |.back av x,.back G Q=>av==G&&C.pi x Q
 |.new e x W u t,.new r Q V q X=>e==r&&LE.aH x Q&&decide (W=V)&&decide (u=q)&&T.aH t X
 |.ae k x W t,.ae p Q V X=>decide (k=p)&&LE.aH x Q&&decide (W=V)&&T.aH t X
 |.fU g h t f,.fU F D X R=>g.aH F&&h.aH D&&T.aH t X&&T.aH f R
 |.pick n g h t f,.pick o F D X R=>n.aH o&&g.aH F&&h.aH D&&T.aH t X&&T.aH f R
 |.out .normal s,.out .normal m=>S.aH s m
 |_,_=>E
def Ee:List T->List T
 |[]=>[]
 |t::X=>if X.any (T.aH t) then Ee X else t::Ee X
def Am:List T->T
 |[]=>.stuck ""
 |[t]=>t
 |t::X=>.fU (.c J) (.c J) t (Am X)
def Gz:Op->Bool
 |.call c=>match c.callee with
  |.builtin .append=>J
  |_=>E
 |.makeSlice _ _ _|.buildSlice _ _ _|.slice _ _ _ _ _|.store _ _ _=>J
 |_=>E
def alW:Op->Bool
 |.mapUpdate _ _ _ _=>J
 |_=>E
def An(X:bi)(o:Oper)(s:S):Option MR:=match o.op with
 |.mapUpdate t x y z=>if o.op.operands.toList.any λx=>(s.ev X.gl x).ec then Z else BS X o.dst s t (s.ev X.gl x) (s.ev X.gl y) (s.ev X.gl z)
 |_=>Z
def B3(V:bi)(P:nO)(R:ap)(O:C->S->T)(m:OM)(W:S->T)(s:S):T:=match D0 V m.o s with
 |U u=>.dK u.f u.g u.e u.sp u.st u.r s.rs (W u.s)
 |none=>match dW V s m.o with
  |.call (.fn g) Q=>P (.fn g) Q s (λv X=>W (X.put m.o.dst v)) (λv X=>O v (X.bw R))
  |.call (.yl n) Q=>P (.yl n) Q (s.bw R) (λv X=>W (X.put m.o.dst v)) (λv X=>O v (X.bw R))
  |.op=>match(if Gz m.o.op then eA V m.o m.bC E s else Z) with
   |U b=>.aN b.aN (.new b.e b.x s.rs b.s.rs (W b.s))
   |none=>match An V m.o s with
    |U (.ok X)=>W X
    |U (.ae k x X)=>.ae k x s.rs (W X)
    |none=>if mE m.o.op then(match yu V s m.o with
     |U (b,v)=>.aN b (W (s.put m.o.dst v))
     |none=>.stuck "") else
    if J8 m.o.op then(match fJ V m s with
     |.ok X=>W X
     |_=>.stuck "") else .stuck ""
  |_=>.stuck ""
def GA(X:ap)(m:OM)(W:ck):ck:=W.filter λq=> !(X.getD m.j 0).testBit q.j
def nT(X:bi)(R:nO)(W:ap)(lu:List BE)(V:ck)(Q:ap)(k:S->T)(P:C->S->T):Nat->ck->S->T
 |_,[],s=>if T2 X lu s V then k s else .stuck ""
 |0,_::_,_=>.stuck ""
 |n+1,m::r,s=>if !T2 X lu s V then .stuck "" else Am (Ee (((Gx (m::r)).filter (T3 W)).map λx=>B3 X R Q P x.1 (λO=>nT X R W lu (GA W x.1 V) Q k P n x.2 O) s))
def T.l8(k:S->T)(X:C->S->T):T->T
 |.out .normal s=>k s
 |.out (.aW v) s=>X v s
 |.aS b t f=>.aS b (t.l8 k X) (f.l8 k X)
 |.aN b t=>.aN b (t.l8 k X)
 |.call f a V W R iE t=>.call f a V W R iE (t.l8 k X)
 |.new e x W Q t=>.new e x W Q (t.l8 k X)
 |.ae e x W t=>.ae e x W (t.l8 k X)
 |.dK f g e P O r W t=>.dK f g e P O r W (t.l8 k X)
 |.fU g h t f=>.fU g h (t.l8 k X) (f.l8 k X)
 |t=>t
def J9(X:bi):nO
 |.fn g,W,s,k,_=>if(X.inl g).isNone then wl X g W s k else .stuck ""
 |_,_,_,_,_=>.stuck ""
def alX:Op->Bool
 |.slice _ _ _ _ _=>J
 |_=>E
def alY:Op->Bool
 |.indexAddr .. =>J
 |_=>E
def alZ:Op->Bool
 |.store _ _ _=>J
 |_=>E
def Og(W:Bool)(X:db):ap:=(e8 X.size).foldl (λacc i=>match X[i]? with
 |U o=>if mE o.op&&(W|| !alX o.op)&& !(alY o.op&&(e8 i).any λj=>match X[j]? with
   |U x=>alZ x.op
   |none=>E)&&((e8 X.size).all λj=>match(X[j]?).bind (·.dst) with
   |U d=> !(iY X o).contains d||acc.contains j
   |none=>J) then acc++[i] else acc
 |none=>acc) []
structure Ka where
 qs:ck
 ch:ck
 s:S
 lu:List BE
def T4(X:bi)(s:S)(W:nM):Bool:=W.any λo=>match o.op with
 |.call c=>(match c.callee with
  |.value (.func g)=>(X.inl g).isSome
  |.value (.tmp t)=>(BX W).contains t||(match s.tmps[t]? with
   |U (.fn g _)=>(X.inl g).isSome
   |_=>E)
  |_=>E)
 |_=>E
def T5(X:db)(Q:ap)(W V R:ck):Bool:=
 Oe X.toList Q&&W.all (λm=>m.o.guard.isNone&& !m.bC)&&lY (W.filterMap (·.o.dst))&&
 W.all (λm=>W.all λx=>match x.o.dst with
  |U d=> !(iY X m.o).contains d||(Q.getD m.j 0).testBit x.j
  |none=>J)&&V.all (λq=>mE q.o.op&&q.o.dst.isSome)&&(e8 X.size).all (λi=>(V++R).any λm=>m.j==i)&&(V++R).length==X.size&&lY ((V++R).map (·.j))&&
 R.all (λm=>mE m.o.op||J8 m.o.op||Gz m.o.op||alW m.o.op||(match m.o.op with
  |.call _=>J
  |_=>E))
def Ao(W:Bool)(X:db)(n:Nat):ck:=(fh (λ_=>E) E J 0 n X.toList).filter λm=>(Og W X).contains m.j
def Ap(W:Bool)(X:db)(n:Nat):ck:=(fh (λ_=>E) E J 0 n X.toList).filter λm=> !(Og W X).contains m.j
def GB(W:Bool)(X:db)(n:Nat):Bool:=T5 X (nS X.toList) (fh (λ_=>E) E J 0 n X.toList) (Ao W X n) (Ap W X n)
def al0:CK->Bool
 |.call (.yl _) _=>J
 |_=>E
def T6(W:bi)(V X:ck)(x:S×List BE):Option Ka:=if X.any λm=>al0 (dW W x.1 m.o) then Z else U ⟨V,X,x.1,x.2⟩
def GC(V:bi)(W:Bool)(X:db)(s:S):Option Ka:=
 if(!W||(T4 V s X.toList||(V.ku&&X.toList.any λo=>aa3 o.op))&&yp (nS X.toList) (Ap W X (Y s.ak)))&&GB W X (Y s.ak) then(BZ V (Ao W X (Y s.ak)) (s.room (kL X.toList))).bind (T6 V (Ao W X (Y s.ak)) (Ap W X (Y s.ak))) else Z
def aa4(X:eV)(s W:S):String:= ""
def Oi(W:eV)(V:ap)(s:S)(k:XE->S->T):XE->S->T
 |.normal,X=>if wj W V 0 s.tmps X.tmps&&qQ W 0 s.ak X.ak&&qR X W.ks (jI W X)&&wi (iA W s) X.rs&&D5 (iA W s) (D4 W X)&&decide (X.pd=s.pd) then .back s.av (jI W X) else .stuck (aa4 W s X)
 |e,X=>k e X
mutual
def C.uU(n:Nat):C->Bool
 |.agg l=>C.nU n l
 |.bA l=>C.nU n l
 |.fn _ l=>C.nU n l
 |.fT _ x=>C.uU n x
 |.yl m=>decide (n<=m)
 |.fy _ _ X=>C.nU n X
 |_=>E
def C.nU(n:Nat):am->Bool
 |[]=>E
 |x::X=>C.uU n x||C.nU n X
end
def uV(n:Nat):bn->Bool
 |[]=>E
 |Z::X=>uV n X
 |U x::X=>C.nU n x.2||uV n X
def S.uU(s:S)(n:Nat):Bool:=C.nU n s.tmps||uV n s.ak
def Ef:ap->am->am->am
 |p::X,v::W,l=>Ef X W (l.set p v)
 |_,_,l=>l
def mF(n:Nat):Nat->bn->bn
 |_,[]=>[]
 |k+1,x::X=>x::mF n k X
 |0,Z::X=>Z::mF n 0 X
 |0,U x::X=>(if C.nU n x.2 then Z else U x)::mF n 0 X
def S.rY(s X:S):S:={X with tmps:=s.tmps,ak:=mF (Y s.pd) (Y s.ak) X.ak,pd:=X.pd.take (Y s.pd)}
def Eg(s:S)(k:XE->S->T):XE->S->T
 |.aW v,X=>if v.uU (Y s.pd)||uV (Y s.pd) (s.rY X).ak then .stuck "" else k (.aW v) (s.rY X)
 |.exit _,_=>.stuck ""
 |_,X=>if uV (Y s.pd) (s.rY X).ak then .stuck "" else match X.pd[Y s.pd]? with
  |U .ready=>k .normal (s.rY X)
  |U (.done .ret)=>k .ret (s.rY X)
  |U (.done (.exit id))=>k (.exit id) (s.rY X)
  |_=>.stuck ""
def jk:Code->Bool
 |.seq a b=>jk a||jk b
 |.cond _ a b=>jk a||jk b
 |.block _ c=>jk c
 |.loop c=>jk c
 |.scope c=>jk c
 |.rangeFunc _ _ _ _=>J
 |_=>E
def Oj(n:Nat)(W:S)(k V:C->S->T):XE->S->T
 |.normal,X=>k (.bool (.c J)) {X with tmps:=W.tmps,pd:=X.pd.set n .ready}
 |.ret,X=>k (.bool (.c E)) {X with tmps:=W.tmps,pd:=X.pd.set n (.done .ret)}
 |.exit id,X=>k (.bool (.c E)) {X with tmps:=W.tmps,pd:=X.pd.set n (.done (.exit id))}
 |.aW v,X=>V v {X with tmps:=W.tmps}
def Kb(n:Nat)(k:S->T):XE->S->T
 |.normal,X=>if decide (X.pd[n]?=U .ready) then k X else .stuck ""
 |_,_=>.stuck ""
def GD(s:S)(W:Nat)(X:am):S:={s with tmps:=(.yl (Y s.pd)::X)++ew (W-(C.yl (Y s.pd)::X).length) (.bA []),pd:=s.pd++[.ready]}
def Kc(n V:Nat)(R:am->S->(C->S->T)->(C->S->T)->T):YH:=λm X W Q P=>
 if m==n&&decide (W.pd[n]?=U .ready)&&Y X==V&&W.eD X then R X W Q P else .stuck ""
def Aq(X s:S)(W:ap)(V:am):S:={X with tmps:=Ef W V s.tmps}
def S.Ar(s:S)(n:Nat)(x:DJ):S:={s with pd:=s.pd.set n x}
def aa5(X:eV)(W:ap)(s:S):String:= ""
def eV.at(a:eV)(s:S):eV:=⟨a.tm,a.cl.filterMap λx=>match bM s.ak (x.1%1000) with
 |U (t,X)=>(match X[x.2.1]? with
  |U v=>if Ai s x.2.2 v&&(!ow t||(match x.2.2 with
   |.ah _=>J
   |_=>E))&&(x.1/1000==0||decide (Y s.ak<=x.1/1000)) then U (x.1%1000,x.2) else Z
  |none=>Z)
 |none=>Z⟩
def aa6:am->Option (K×aZ)
 |[]=>Z
 |.fy e X _::_=>U (e,X)
 |_::r=>aa6 r
def Ol:bn->Option (K×aZ)
 |[]=>Z
 |U x::r=>match aa6 x.2 with
  |U y=>U y
  |none=>Ol r
 |Z::r=>Ol r
def Eh(k:Int):aZ->am->Option C
 |X::W,.fn f l::V=>if k=X then U (.fn f l) else Eh k W V
 |X::W,.ah (.k .nilFunc)::V=>if k=X then U (.ah (.k .nilFunc)) else Eh k W V
 |_,_=>Z
def Kd(e:K)(k:Int):Nat->BE->BE
 |0,b=>b
 |n+1,.dv (.cmp .eql X (.c W)) x y=>if K.aH e X then(if k=W then Kd e k n x else Kd e k n y) else .dv (.cmp .eql X (.c W)) x y
 |_,b=>b
def Ke(e:K)(k:Int):Nat->K->K
 |0,b=>b
 |n+1,.dv (.cmp .eql X (.c W)) x y=>if K.aH e X then(if k=W then Ke e k n x else Ke e k n y) else .dv (.cmp .eql X (.c W)) x y
 |_,b=>b
def T7(e:K)(k:Int):C->C
 |.bool b=>.bool (Kd e k 20 b)
 |.int t b=>.int t (Ke e k 20 b)
 |.fy X W V=>if K.aH e X then(match Eh k W V with
  |U v=>v
  |none=>.fy X W V) else .fy X W V
 |v=>v
def Om(e:K)(V:aZ):C->C
 |.fy X W R=>if K.aH e X&&W.all V.contains then .ah (.k .nilFunc) else .fy X W R
 |v=>v
def Ei(f:C->C)(l:bn):bn:=l.map λx=>match x with
 |U y=>U (y.1,y.2.map f)
 |none=>Z
def S.fix(f:C->C)(s:S):S:={s with ak:=Ei f s.ak}
def GF(e:K)(fU:Int->S)(ac:T)(g:S->T):aZ->T
 |[]=>ac
 |k::X=>.aS (.cmp .eql e (.c k)) (g (fU k)) (GF e fU ac g X)
def T8(e:K)(v:Int):C->C
 |.int k x=>if K.aH e x then .int k (.c v) else .int k x
 |y=>y
def On(V:bi)(R id:Nat)(s:S):Option (K×aZ×(Int->S)×Option S):=match V.frk R id with
 |U .box=>match Ol s.ak with
  |U (e,X)=>U (e,X,λk=>s.fix (T7 e k),match Ol (Ei (Om e X) s.ak) with
   |none=>U (s.fix (Om e X))
   |U _=>Z)
  |none=>Z
 |U (.slot t W)=>match Tw s.tmps t with
  |.int _ (.c _)=>Z
  |.int k e=>U (e,W,λv=>{s with tmps:=s.tmps.set t (.int k (.c v))},Z)
  |_=>Z
 |U (.cell b j W)=>match bM s.ak b with
  |U (_,Q)=>match Q.getD j .any with
   |.int _ (.c _)=>Z
   |.int _ e=>U (e,W,λv=>s.fix (T8 e v),Z)
   |_=>Z
  |none=>Z
 |none=>Z
def T9(g:S->T):Option S->T
 |U s=>g s
 |none=>.stuck ""
def Kf(W:bi)(V:nO)(X:db)(k:XE->S->T)(c:Ka):T:=Of c.lu (if yp (nS X.toList) c.ch||T4 W c.s X.toList then nT W V (nS X.toList) c.lu c.qs (BX X.toList) (k .normal) (λv=>k (.aW v)) (Y c.ch) c.ch c.s
 else(nT W (J9 W) (nS X.toList) c.lu c.qs (BX X.toList) (.out .normal) (λv=>.out (.aW v)) (Y c.ch) c.ch c.s).l8 (k .normal) λv=>k (.aW v))
def Ua(X:eV)(s:S):ap:=(X.tm.filterMap λx=>match x.2,s.tmps[x.1]? with
 |.ah (.sl e),U (.ah (.v k))=>if s.rs[k]?=U (.own e) then U k else Z
 |_,_=>Z)++X.cl.filterMap λx=>match x.2.2,bM s.ak (x.1%1000) with
 |.ah (.sl e),U (_,W)=>(match W[x.2.1]? with
  |U (.ah (.v k))=>if s.rs[k]?=U (.own e) then U k else Z
  |_=>Z)
 |_,_=>Z
def S.cM(X:eV)(s:S):S:={s with rs:=jz (Ua X s) 0 s.rs}
def eY(X:bi):Nat->FuncId->Code->S->YH->(XE->S->T)->T
 |0,_,_,_,_,_=>.stuck ""
 |n+1,R,c,s,W,k=>
  match c with
  |.skip=>k .normal s
  |.label _=>k .normal s
  |.ret=>k .ret s
  |.exit id=>k (.exit id) s
  |.seq a b=>eY X n R a s W (J7 (λP=>eY X n R b P W k) k)
  |.block id a=>eY X n R a s W (TW id k)
  |.scope a=>eY X n R a s W k
  |.cond c a b=>match s.ev X.gl c with
   |.bool (.c J)=>eY X n R a s W k
   |.bool (.c E)=>eY X n R b s W k
   |.bool x=>match c with
    |.tmp t=>.aS x (eY X n R a {s with tmps:=s.tmps.set t (.bool (.c J))} W k) (eY X n R b {s with tmps:=s.tmps.set t (.bool (.c E))} W k)
    |_=>.stuck ""
   |_=>.stuck ""
  |.region id V N=>match On X R id s with
   |U (e,G,fU,ac)=>GF e fU (T9 (λP=>eY X n R (.region id V N) P W k) ac) (λP=>eY X n R (.region id V N) P W k) G
   |none=>if N then
    match J6 (X.DT R (id+2000000)) V with
    |U o=>(match Al V.pop (Y s.ak) with
     |U O=>if !yq X V.pop.toList then .stuck "" else jX X (qT X (yt X V.pop λf c s k=>eY X n f c s gM k) W) V.pop (λP=>jX X (iZ X (λf c s k=>eY X n f c s W k) W) V (k .normal) (λv=>k (.aW v)) (fh (λ_=>E) J E (V.size-1) (Y P.ak) [o]) P []) (λv=>k (.aW v)) O (s.rW V.pop O) []
     |none=>.stuck "")
    |none=>
    match GC X (!X.DT R id) V s with
    |U c=>Kf X (iZ X (λf c s k=>eY X n f c s W k) W) V k c
    |none=>match Al V (Y s.ak) with
    |U O=>if !yq X V.toList then .stuck "" else jX X (qT X (yt X V λf c s k=>eY X n f c s gM k) W) V (k .normal) (λv=>k (.aW v)) O (s.rW V O) []
    |none=>match GC X E V s with
     |U c=>Kf X (iZ X (λf c s k=>eY X n f c s W k) W) V k c
     |none=>.stuck ""
   else
   jX X (TX (X.DT R (id+1000000)) X (iZ X (λf c s k=>eY X n f c s W k) W)) V (k .normal) (λv=>k (.aW v)) (fh (λ_=>E) J E 0 (Y s.ak) V.toList) (s.room (kL V.toList)) []
  |.loop a=>match(Code.first a).map (X.loop R) with
   |U (.inv Q)=>
    if !(Ua Q s).isEmpty then eY X n R (.loop a) (s.cM Q) W k else
    if !s.bd|| !qR s (Q.at s).ks (jI (Q.at s) s)|| !wj (Q.at s) (Code.nu a) 0 s.tmps s.tmps|| !qQ (Q.at s) 0 s.ak s.ak|| !wi (iA (Q.at s) s) s.rs|| !D5 (iA (Q.at s) s) (D4 (Q.at s) s) then .stuck (aa5 (Q.at s) (Code.nu a) s) else
    .loop s.av (Q.at s).ks (jI (Q.at s) s) (eY X n R a (pl (Q.at s) (Code.nu a) s) W (Oi (Q.at s) (Code.nu a) s k))
   |_=>eY X n R a s W (J7 (λP=>eY X n R (.loop a) P W k) k)
  |.rangeFunc f L assign body=>match s.ev X.gl f with
   |.fn g M=>match X.inl g with
    |U (c,F,[])=>
     if !s.eD M||s.uU (Y s.pd)||C.nU (Y s.pd) M||jk assign||jk body|| !iW g 1000000 then .stuck "" else
     eY X n g c (GD s F M)
      (Kc (Y s.pd) L.size λD H B A=>
       eY X n R assign (Aq H s L.toList D) gM (Kb (Y s.pd) λz=>
        eY X n R body (z.Ar (Y s.pd) .busy) W (Oj (Y s.pd) H B A))) (Eg s k)
    |_=>.stuck ""
   |_=>.stuck ""
  |_=>.stuck ""
def GG{X:Type}(f:C->aY->(C->aY->X)->X):am->aY->(am->aY->X)->X
 |[],W,k=>k [] W
 |x::V,W,k=>f x W λR Q=>GG f V Q λP O=>k (R::P) O
def S.fY(X:aY):S:=⟨[],[],0,0,X,0,0,[]⟩
def GH(R:bi)(P:bn):Nat->C->aY->(C->aY->T)->T
 |0,_,_,_=>.stuck ""
 |n+1,.ij i N Q M,X,k=>match kK P i with
  |U (e,L)=>match R.ty e with
   |U V=>GG (GH R P n) L X λO W=>if mD R.ty (.fY W) V.aj (iO (Y V.aj) Q O)&&Y O==Q*Y V.aj&&N==0&&decide (Q<=M)&&Y V.aj !=0 then .new e (.lit (iO (Y V.aj) Q O)) W (W++[.sl e]) (k (.ah (.v (Y W))) (W++[.sl e])) else .stuck ""
   |none=>.stuck ""
  |none=>.stuck ""
 |n+1,.agg l,X,k=>GG (GH R P n) l X λH W=>k (.agg H) W
 |_+1,.int q e,X,k=>k (.int q e) X
 |_+1,.bool e,X,k=>k (.bool e) X
 |_+1,.ah r,X,k=>k (.ah r) X
 |_+1,_,_,_=>.stuck ""
mutual
def C.al1:C->Bool
 |.ij _ _ _ _=>J
 |.agg l=>C.Ub l
 |_=>E
def C.Ub:am->Bool
 |[]=>E
 |x::X=>C.al1 x||C.Ub X
end
def Kg(V:bi)(W:Nat)(l:am)(X:S):T:=if W==0&&C.Ub l&&X.bd&&C.dA X.ni X.nb (Y X.rs) (aF X.ak) l then GG (GH V X.ak 9) l (X.rs.map RK.rd) λR Q=>.ret (one R) [] Q else .ret (one l) (tC (X.ak.take W)) (X.rs.map RK.rd)
def Oo(W:bi)(V:Nat)(R:lg):XE->S->T
 |.normal,X=>match rP W X R with
  |U l=>Kg W V l X
  |none=>.stuck ""
 |.ret,X=>match rP W X R with
  |U l=>Kg W V l X
  |none=>.stuck ""
 |.aW v,_=>.aW v
 |.exit _,_=>.stuck ""
def Kh(X:bi)(n:Nat)(V:FuncId)(c:Code)(R:Nat)(Q:lg)(W:am)(s:S):T:=
 eY X n V c {s with tmps:=W++ew (R-Y W) (.bA [])} gM (Oo X (Y s.ak) Q)
structure DI where
 qU:db
 rest:Code
 g:FuncId
 te:Nat
 tf:Nat
def aa7(qU:db)(Q:Code):nM->Option DI
 |[X,W]=>match X.op,X.dst,X.guard,W.op,W.guard,W.dst with
  |.makeFunc (.func g) first P,U V,Z,.defer R,Z,Z=>match first.toList,P.toList,R.callee,R.args.toList with
   |[],[.tmp O],.value (.tmp N),[]=>if V==N then U ⟨qU,Q,g,O,V⟩ else Z
   |_,_,_,_=>Z
  |_,_,_,_,_,_=>Z
 |_=>Z
def pm:Code->Option DI
 |.seq (.region _ qU E) (.seq (.region _ X E) W)=>aa7 qU W X.toList
 |_=>Z
def pU(W:bi)(V:Nat)(R:lg)(X:S):T:=match rP W X R with
 |U l=>.ret (one l) (tC (X.ak.take V)) (X.rs.map RK.rd)
 |none=>.stuck ""
def Uc(W:bi)(V:Nat)(R:TypeId)(P:Nat)(Q:lg):XE->S->T
 |.normal,X=>pU W V Q X
 |.ret,X=>pU W V Q X
 |.aW v,X=>match v with
  |.fT t (.int I x)=>match bM X.ak P with
   |U (O,[.int I _])=>if t==R&&O==R then pU W V Q {X with ak:=X.ak.set P (U (R,[.int I x]))} else .stuck ""
   |_=>.stuck ""
  |_=>.stuck ""
 |.exit _,_=>.stuck ""
def Ud(W:bi)(n:Nat)(R:FuncId)(d:DI)(V:TypeId)(Q:Nat)(P:lg)(X:S):T:=match X.tmps[d.te]? with
 |U (.loc i 0)=>if !ow V&&aF X.ak i&&decide (d.tf<Y X.tmps)&&iW d.g 1000000 then eY W n R d.rest (X.put (U d.tf) (.fn d.g [.loc i 0])) gM (Uc W Q V i P) else .stuck ""
 |_=>.stuck ""
def Ki(X:bi)(n:Nat)(V:FuncId)(c:Code)(R:Nat)(Q:lg)(P:TypeId)(W:am)(s:S):T:=match pm c with
 |U d=>jX X (iZ X (λf c s k=>eY X n f c s gM k) gM) d.qU (Ud X n V d P (Y s.ak) Q) (λ_ _=>.stuck "") (fh (λ_=>E) J E 0 (Y s.ak) d.qU.toList) (({s with tmps:=W++ew (R-Y W) (C.bA [])}:S).room (kL d.qU.toList)) []
 |none=>.stuck ""
end
end Go.Proofs.YtfpoabmmjhhncaaGreatDoor.Y
namespace Go.Proofs.YtfpoabmmjhhncaaGreatDoor
open Go.RowKit
structure ga(S:List Nat)(w w':World):Prop where
 os:w'.os=w.os
 tape:w'.tape=w.tape
 output:w'.output=w.output
 size:w.heap.size<=w'.heap.size
 block:∀k,k<w.heap.size->k∉S->w'.heap[k]?=w.heap[k]?
def ga.refl(S:List Nat)(w:World):ga S w w:=⟨rfl,rfl,rfl,bU _,λ_ _ _=>rfl⟩
def ga.trans{S:List Nat}{a b c:World}(h:ga S a b)(k:ga S b c):ga S a c:=
 ⟨k.os.trans h.os,k.tape.trans h.tape,k.output.trans h.output,pP h.size k.size,λi X W=>(k.block i (Tn X h.size) W).trans (h.block i X W)⟩
def ga.mono{S X:List Nat}{a b:World}(h:ga S a b)(W:∀x,x∈S->x∈X):ga X a b:=
 ⟨h.os,h.tape,h.output,h.size,λi V R=>h.block i V (λm=>R (W i m))⟩
def ga.alloc{S:List Nat}{a w:World}(h:ga S a w)(o:Obj):ga S a (w.alloc o):=
 h.trans ⟨rfl,rfl,rfl,by simp,λk X _=>Below.heap_alloc _ _ _ X⟩
def ga.drew{S:List Nat}{a w:World}(h:ga S a w):ga S a w.drew:=⟨h.os,h.tape,h.output,h.size,h.block⟩
def ga.setCell{S:List Nat}{a w:World}(h:ga S a w){p:Addr}(X:p.block∈S)(u:Value):ga S a (w.setCell p u):=
 h.trans ⟨rfl,rfl,rfl,by simp[NQ],λk _ W=>Below.heap_setCell _ _ _ _ (λe=>W (e▸X))⟩
def ga.putObj{S:List Nat}{a w:World}(h:ga S a w){r:Nat}(X:r∈S)(o:Obj):ga S a (w.putObj r o):=
 h.trans ⟨rfl,rfl,rfl,by simp[BJ],λk _ W=>rI (λe=>W (e▸X))⟩
def ga.al2{S:List Nat}{w X:World}(h:Below w.heap.size w X):ga S w X:=⟨h.os,h.tape,h.output,h.size,λk W _=>h.block k W⟩
def ga.call{S:List Nat}{a w X:World}(h:ga S a w)(k:Below w.heap.size w X):ga S a X:=h.trans (ga.al2 k)
def ga.grown{S:List Nat}{a w W:World}{V:Option Nat}(h:ga S a w)(X:w.grownBy W V)(O:∀k,V=U k->k∈S\/a.heap.size<=k):ga S a W:=
 ⟨X.os.trans h.os,X.tape.trans h.tape,X.output.trans h.output,pP h.size X.size,λk R Q=>(X.block k (Tn R h.size) (λe=>by rcases O k e.symm with P|P;exact Q P;omega)).trans (h.block k R Q)⟩
def ga.heap{S:List Nat}{w V:World}(h:ga S w V){b:Nat}{o:Obj}(X:w.heap[b]?=U o)(R:b∉S):V.heap[b]?=U o:=by
 have W:b<w.heap.size:=by
  by_cases W:b<w.heap.size;exact W;rw[aw7 (by omega)] at X;cases X
 exact(h.block b W R).trans X
end Go.Proofs.YtfpoabmmjhhncaaGreatDoor
namespace Go.Proofs.YtfpoabmmjhhncaaGreatDoor.Y
open Go.RowKit
noncomputable section
variable{c:FuncId}{R Q i:Nat}{t:Bool}{X:TypeId}{b:Value}{N:World}{F:Oper}{r:Operand}
variable{w:am}{M:C}
inductive RV where
 |mk (val:Value) (rows:List (List RV))
abbrev aq:=List (List RV)
abbrev aC:=List RV
abbrev As:=Option (List (List RV))
abbrev yv:=List Deferred
def RV.val:RV->Value
 |.mk v _=>v
def RV.ae:RV->aq
 |.mk _ r=>r
@[simp] def RV.l9 (v:Value) (r:aq):(RV.mk v r).val=v:=rfl
@[simp] def RV.ma (v:Value) (r:aq):(RV.mk v r).ae=r:=rfl
instance:Inhabited RV:=⟨.mk (.pointer Z) []⟩
structure ai where
 i:aZ
 b:kJ
 r:aC
 y:ap
def ai.at(O:ai)(y:ap):ai:={O with y:=y}
def ai.rv(O:ai)(k:Nat):RV:=O.r.getD k default
def bF:Value->Int
 |.int _ n=>n
 |_=>0
def iF:Value->Bool
 |.bool b=>b
 |_=>E
def lenOf:Value->Int
 |.slice _ n _=>n
 |.string s=>s.size
 |_=>0
def yw(v:Value)(i:Int):Int:=match v with
 |.string s=>match s[i.toNat]? with
  |U b=>b.toNat
  |none=>0
 |_=>0
def tG:Value->Value->Bool
 |.string a,.string b=>a.toList==b.toList
 |_,_=>E
def jJ(n:Nat)(X:aZ)(W:aC):Bool:=decide ((W.take n).map (λc=>bF c.val)=X.take n)
def gD(n:Nat)(X:aZ)(W:aq):Option aC:=W.find? (jJ n X)
def eL(n:Nat)(X:aC):aq->aq
 |[]=>[X]
 |r::W=>if jJ n ((X.take n).map λc=>bF c.val) r then X::W else r::eL n X W
def jK(x:Int):aZ->eX->Value
 |k::X,v::W=>if x=k then(if ik v then v else .nilFunc) else jK x X W
 |_,_=>.nilFunc
def bz(X:aq)(i:Int)(j:Nat):RV:=(X.getD i.toNat []).getD j default
def dl:RK->RV->RV
 |.sl _,v|.own _,v=>match v.val with
  |.slice _ _ _=>v
  |_=>.mk (.slice Z 0 0) []
 |.str,v=>match v.val with
  |.string s=>.mk (.string s) []
  |_=>.mk (.string ⟨#[]⟩) []
 |.ac,v=>if ik v.val then .mk v.val [] else .mk (.pointer Z) []
 |.ao,v=>if ik v.val then v else .mk (.pointer Z) []
 |.mr _,v=>match v.val with
  |.slice _ _ _=>v
  |_=>.mk (.slice Z 0 0) []
mutual
def K.ab(O:ai):K->Int
 |.c n=>n
 |.v k=>O.i.getD k 0
 |.bin X k a b=>bH X k (a.ab O) (b.ab O)
 |.conv k a=>k.wrap (a.ab O)
 |.len r=>lenOf (r.rv O).val
 |.mm W a b=>if W then max (a.ab O) (b.ab O) else min (a.ab O) (b.ab O)
 |.dv b x y=>if b.ab O then x.ab O else y.ab O
 |.cell r i j=>bF (bz (r.rv O).ae (i.ab O) j).val
 |.mV r i=>yw (r.rv O).val (i.ab O)
 |.look r n a b c j=>match gD n [a.ab O,b.ab O,c.ab O] (r.rv O).ae with
  |U V=>bF (V.getD j default).val
  |none=>0
def BE.ab(O:ai):BE->Bool
 |.c b=>b
 |.v k=>O.b.getD k E
 |.cmp X a b=>gm X (a.ab O) (b.ab O)
 |.not a=> !(a.ab O)
 |.and a b=>a.ab O&&b.ab O
 |.beq a b=>a.ab O==b.ab O
 |.dv b x y=>if b.ab O then x.ab O else y.ab O
 |.cell r i j=>iF (bz (r.rv O).ae (i.ab O) j).val
 |.seq a b=>tG (a.rv O).val (b.rv O).val
 |.look r n a b c j=>match gD n [a.ab O,b.ab O,c.ab O] (r.rv O).ae with
  |U W=>iF (W.getD j default).val
  |none=>E
 |.has r n a b c=>(gD n [a.ab O,b.ab O,c.ab O] (r.rv O).ae).isSome
def RE.rv(O:ai):RE->RV
 |.v k=>O.rv k
 |.cell r i j k=>dl k (bz (r.rv O).ae (i.ab O) j)
 |.k v=>.mk v []
end
def RE.ab(O:ai)(r:RE):Value:=(r.rv O).val
def C.bN(O:ai):C->RV
 |.int k e=>.mk (.int k (e.ab O)) []
 |.bool b=>.mk (.bool (b.ab O)) []
 |.ah r=>r.rv O
 |_=>default
def gE(X:aC)(W:Nat):aC->aC
 |[]=>X
 |v::r=>gE (X.set W v) (W+1) r
def LE.ae(O:ai):LE->aq
 |.ah r=>(r.rv O).ae
 |.lit l=>l.map λX=>X.map (C.bN O)
 |.jW a b=>a.ae O++b.ae O
 |.tq n X=>ew (n.ab O).toNat (X.map (C.bN O))
 |.set a i V W=>(a.ae O).modify (i.ab O).toNat λX=>gE X V (W.map (C.bN O))
 |.sub a R Q=>((a.ae O).take (Q.ab O).toNat).drop (R.ab O).toNat
 |.ins a n W=>eL n (W.map (C.bN O)) (a.ae O)
def gI(x:LE)(O:ai):RV:=.mk (.slice Z (x.ae O).length (x.ae O).length) (x.ae O)
def aK(c:Nat)(X:aC):Int:=bF (X.getD c default).val
def i7(X:Bool):ap->aC->aC->Bool
 |[],_,_=>E
 |c::W,x,y=>if aK c x=aK c y then i7 X W x y else if X then decide (aK c y<aK c x) else decide (aK c x<aK c y)
def bB.lt:bB->aC->aC->Bool
 |.lex X d,x,y=>i7 d X x y
 |.ratio n d,x,y=>decide (aK n x*aK d y<aK n y*aK d x)
 |.da _ _ _,_,_=>E
def kM(n d:Int):Bool:=decide (1<=d)&&decide (d<=1073741824)&&decide (-1073741824<=n)&&decide (n<=1073741824)&&JO n.natAbs d.toNat==1
def bB.ok:bB->aC->Bool
 |.lex _ _,_=>J
 |.ratio n d,x=>kM (aK n x) (aK d x)
 |.da _ _ _,_=>E
def eH(lt:aC->aC->Bool)(x:aC):aq->aq
 |[]=>[x]
 |y::r=>if lt x y then x::y::r else y::eH lt x r
def bK(lt:aC->aC->Bool)(l:aq):aq:=l.foldl (λacc x=>eH lt x acc) []
def uW(lt:aC->aC->Bool):aq->Bool
 |[]=>J
 |x::r=>r.all (λy=>lt x y||lt y x)&&uW lt r
def io:bB->Bool->aq->As
 |.da _ _ _,_,_=>Z
 |W,V,X=>if decide (Y X<=1099511627776)&&(X.all W.ok&&(V||uW W.lt X)) then U (bK W.lt X) else Z
def kN(X:aq):Bool:=(e8 (Y X)).all λk=>decide (0<=aK 0 (X.getD k []))&&decide (aK 0 (X.getD k [])<=k)
def pn:Nat->Int->aq->aq
 |0,_,X=>X
 |n+1,i,X=>if aK 0 (X.getD i.toNat [])=i then X else(pn n (aK 0 (X.getD i.toNat [])) X).set i.toNat ((pn n (aK 0 (X.getD i.toNat [])) X).getD (aK 0 (X.getD i.toNat [])).toNat [])
def tH(i:Int)(X:aq):As:=if decide (Y X<=1099511627776)&&decide (0<=i)&&decide (i<Y X)&&kN X then U (pn (Y X) i X) else Z
def aR(X:aq)(a b:Nat):aq:=(X.drop a).take (b-a)
def uX(lt:aC->aC->Bool):aq->Bool
 |[]=>J
 |x::r=>r.all (λy=> !lt y x)&&uX lt r
def mb(k:Nat)(o:bB)(W:aZ)(X:aq):As:=match k,W with
 |0,[a,b,n]=>if decide (0<=a)&&decide (0<=n)&&decide (a+n<=b)&&decide (b+n<=Y X) then U (X.take a.toNat++(aR X b.toNat (b+n).toNat++(aR X (a+n).toNat b.toNat++(aR X a.toNat (a+n).toNat++X.drop (b+n).toNat)))) else Z
 |1,[a,m,b]=>if decide (0<=a)&&decide (a<m)&&decide (m<b)&&decide (b<=Y X) then U (X.take a.toNat++(aR X m.toNat b.toNat++(aR X a.toNat m.toNat++X.drop b.toNat))) else Z
 |2,[a,b]=>if decide (0<=a)&&decide (a<=b)&&decide (b<=Y X)&&X.all o.ok then U (X.take a.toNat++(bK o.lt (aR X a.toNat b.toNat)++X.drop b.toNat)) else Z
 |n+3,[a,m,b]=>if decide (0<=a)&&decide (a<m)&&decide (m<b)&&decide (b<=Y X)&&decide (b-a<n)&&X.all o.ok&&uX o.lt (aR X a.toNat m.toNat)&&uX o.lt (aR X m.toNat b.toNat) then U (X.take a.toNat++(bK o.lt (aR X a.toNat b.toNat)++X.drop b.toNat)) else Z
 |_,_=>Z
def ad(V:ap)(i:Nat):Nat:=V.getD i 0
def mX(v:Value)(n:Nat):Addr:=match v with
 |.slice (U a) _ _=>⟨a.block,a.off+n,Z⟩
 |_=>⟨0,n,Z⟩
def Ue:Value->Value
 |.slice a n _=>.slice a n n
 |_=>.nilFunc
def uY(f:FuncId):eX->Value
 |[]=>.func (.func f) #[] #[]
 |v::r=>cond (iW f 1000000) (.func (.func f) #[] (v::r).toArray) (cond (iW f 2000000) (.func (.func (f-1000000)) #[v] r.toArray) (Ue v))
@[simp] def axC:uY c []=.func (.func c) #[] #[]:=rfl
@[simp] def Oq (f:FuncId) (l:eX):ik (uY f l)=true:=by
 cases l with
 |nil=>rfl
 |cons v r=>
  unfold uY;cases iW f 1000000;cases iW f 2000000;cases v<;>rfl;rfl;rfl
def Uf{l:eX}(h:iW c 1000000=J):uY c l=.func (.func c) #[] l.toArray:=by
 cases l<;>simp[uY,h]
def Ug(l:eX)(h:iW c 2000000=J):∃a b X,uY c l=.func (.func a) b X:=by
 cases l;exact⟨_,_,_,rfl⟩;unfold uY;rw[h];cases iW c 1000000<;>exact⟨_,_,_,rfl⟩
mutual
def C.ab(O:ai)(V:ap):C->Value
 |.int k e=>.int k (e.ab O)
 |.bool b=>.bool (b.ab O)
 |.ah r=>r.ab O
 |.loc i X=>.pointer (U ⟨ad V i,X,Z⟩)
 |.el r w i X=>.pointer (U (mX (r.ab O) ((i.ab O).toNat*w+X)))
 |.ij i X W R=>.slice (U ⟨ad V i,X,Z⟩) W R
 |.agg l=>.agg (C.ay O V l).toArray
 |.bA l=>.tuple (C.ay O V l).toArray
 |.fn f l=>uY f (C.ay O V l)
 |.fT t x=>.iface t (C.ab O V x)
 |.yl n=>.func (.yield (O.y.getD n 0)) #[] #[]
 |.any=>undef
 |.mp i=>.map (U (ad V i))
 |.fy e Q P=>jK (e.ab O) Q (C.ay O V P)
def C.ay(O:ai)(V:ap):am->eX
 |[]=>[]
 |x::X=>C.ab O V x::C.ay O V X
end
def nx(O:ai)(V:ap):∀l,C.ay O V l=l.map (C.ab O V)
 |[]=>rfl
 |x::X=>by rw[C.ay,nx O V X];rfl
@[simp] def Ej (O:ai) (V:ap) (l:am):(C.ay O V l).length=Y l:=by rw[nx];simp
def qV(O:ai)(V:ap)(l:am)(i:Nat):(C.ay O V l)[i]?=(l[i]?).map (C.ab O V):=by rw[nx];simp
def Ot(O:ai)(V:ap)(l m:am):C.ay O V (l++m)=C.ay O V l++C.ay O V m:=by simp[nx]
def Uh(g:FuncId)(X W:am):wh g X W=.no\/∃V a,wh g X W=.call (.fn V) a:=by
 unfold wh;split;exact .inr ⟨_,_,rfl⟩;cases iW g 1000000;cases iW g 2000000;exact .inl rfl;exact .inr ⟨_,_,rfl⟩;exact .inr ⟨_,_,rfl⟩
def al3{X W:am}(h:wh c w X=.call (.yl R) W):False:=by
 rcases Uh c w X with q|⟨_,_,q⟩<;>rw[q] at h<;>cases h
def aa8{X:am}(h:wh c w X=.op):False:=by
 rcases Uh c w X with q|⟨_,_,q⟩<;>rw[q] at h<;>cases h
def aa9{X:am}(h:wh c w X=.aW M):False:=by
 rcases Uh c w X with q|⟨_,_,q⟩<;>rw[q] at h<;>cases h
def aba(O:ai)(V:ap){g:FuncId}{W R:am}(h:wh c w W=.call (.fn g) R):∃p q:kH,(C.fn c W).ab O V=.func (.func g) p q/\p++(C.ay O V w).toArray++q=(C.ay O V R).toArray:=by
 unfold wh at h;rw[C.ab];split at h;simp only[CK.call.injEq,wb.fn.injEq] at h;obtain⟨rfl,rfl⟩:=h;exact⟨#[], #[],rfl,au⟩;rename_i v r;simp only[C.ay,uY];cases X:iW c 1000000;cases Q:iW c 2000000;simp only[X,Q,cond_false] at h;cases h;simp only[X,Q,cond_false,cond_true,CK.call.injEq,wb.fn.injEq] at h;obtain⟨P,N⟩:=h;refine⟨#[v.ab O V],(C.ay O V r).toArray, ?_, ?_⟩;simp only[cond_false,cond_true];rw[P];rw[<-N];simp[C.ay,Ot];simp only[X,cond_true,CK.call.injEq,wb.fn.injEq] at h;obtain⟨rfl,rfl⟩:=h;exact⟨#[],_,by simp only[cond_true];rfl,by simp[Ot,C.ay]⟩
inductive bu(W:World)(ty:Ty):RK->RV->Prop where
 |sl (e:TypeId) (A:Option Addr) (len cap:Nat) (rows:List (List RV)) (h1:Y rows=len) (h2:len<=cap)
   (h3:∀(i:Nat)(row:List RV),rows[i]?=U row->Y row=(bm ty (.sl e)).length/\∃b off,A=U ⟨b,off,Z⟩/\(∃cs t fr,W.heap[b]?=U (.cells cs t fr))/\
    ∀(j:Nat)(c:RV),row[j]?=U c->W.cell? ⟨b,off+i*(bm ty (.sl e)).length+j,Z⟩=U c.val)
   (hi:∀(i j:Nat)(row:List RV)(c:RV)(k:IntKind),rows[i]?=U row->row[j]?=U c->(bm ty (.sl e))[j]?=U (.int k)->∃n,c.val=.int k n)
   (hb:∀(i j:Nat)(row:List RV)(c:RV),rows[i]?=U row->row[j]?=U c->(bm ty (.sl e))[j]?=U .bool->∃x,c.val=.bool x)
   (ho:∀(i j:Nat)(row:List RV)(c:RV)(z:Value)(k:RK),rows[i]?=U row->row[j]?=U c->(bm ty (.sl e))[j]?=U (.ac z k)->bu W ty k c):
   bu W ty (.sl e) (.mk (.slice A len cap) rows)
 |str (s:ByteArray):bu W ty .str (.mk (.string s) [])
 |ac (v:Value) (h:ik v=J):bu W ty .ac (.mk v [])
 |own (e:TypeId) (rv:RV) (h:bu W ty (.sl e) rv) (hn:∀l c,rv.val=.slice Z l c->c=0):bu W ty (.own e) rv
 |ao (rv:RV) (h:ik rv.val=J):bu W ty .ao rv
 |mr (sh:Sh) (rows:List (List RV)) (h1:∀(i:Nat)(row:List RV),rows[i]?=U row->Y row=(bm ty (.mr sh)).length)
   (hi:∀(i j:Nat)(row:List RV)(c:RV)(k:IntKind),rows[i]?=U row->row[j]?=U c->(bm ty (.mr sh))[j]?=U (.int k)->∃n,c=.mk (.int k n) [])
   (hb:∀(i j:Nat)(row:List RV)(c:RV),rows[i]?=U row->row[j]?=U c->(bm ty (.mr sh))[j]?=U .bool->∃x,c=.mk (.bool x) [])
   (ho:∀(i j:Nat)(row:List RV)(c:RV)(z:Value)(k:RK),rows[i]?=U row->row[j]?=U c->(bm ty (.mr sh))[j]?≠U (.ac z k)):
   bu W ty (.mr sh) (.mk (.slice Z (Y rows) (Y rows)) rows)
inductive dL(ty:Ty):RK->RV->Nat->Prop where
 |here (e:TypeId) (a:Addr) (len cap:Nat) (rows:List (List RV)):dL ty (.sl e) (.mk (.slice (U a) (len+1) cap) rows) a.block
 |deep (e:TypeId) (v:Value) (rows:List (List RV)) (i j:Nat) (row:List RV) (c:RV) (z:Value) (k:RK) (b:Nat):rows[i]?=U row->row[j]?=U c->(bm ty (.sl e))[j]?=U (.ac z k)->dL ty k c b->dL ty (.sl e) (.mk v rows) b
 |own (e:TypeId) (rv:RV) (b:Nat):dL ty (.sl e) rv b->dL ty (.own e) rv b
def RV.jY(X:RV):bX:=match X.val with
 |.slice (U a) _ (_+1)=>U a.block
 |_=>Z
def wq(W:Ty)(e:RK)(X:RV)(b:Nat):Prop:=dL W e X b\/(∃t,e=.own t)/\X.jY=U b
def mG(X:Ty)(e:TypeId)(V:aq)(b:Nat):Prop:=∃(i j:Nat)(W:aC)(c:RV)(z:Value)(k:RK),V[i]?=U W/\W[j]?=U c/\(bm X (.sl e))[j]?=U (.ac z k)/\dL X k c b
structure wt(S0:ap)(w0:World)(V:ap)(O:ai)(bx:bn)(ty:Ty)(rs:aY)(W:World)(k:Nat)(e:TypeId)(rv:RV)(b:Nat):Prop where
 own:w0.heap.size<=b\/b∈S0
 mem:∃len cap cJ,rv.val=.slice (U ⟨b,0,Z⟩) len cap/\W.heap[b]?=U (.cells cJ e (0,0))/\len<=cap/\cap<=maxLen/\cJ.size=cap*(bm ty (.sl e)).length
 box:∀i,aF bx i=J->ad V i≠b
 alone:∀(k':Nat)(e':RK)(rv':RV),k'≠k->rs[k']?=U e'->O.r[k']?=U rv'->¬wq ty e' rv' b
 inner:¬mG ty e rv.ae b
def C.gc(O:ai)(V:ap)(v:C):RV:=match v with
 |.ah r=>r.rv O
 |v=>.mk (v.ab O V) []
def C.dw(O:ai)(V:ap)(l:am):aC:=l.map (C.gc O V)
def fK:Nat->qL->List MapEntry
 |_,[]=>[]
 |n,x::r=>⟨x.1,x.2,n⟩::fK (n+1) r
def oC(l:qL):Obj:=.map (fK 0 l).toArray (Y l)
def At:eX->qL
 |k::v::r=>(k,v)::At r
 |_=>[]
def po(a:Bool)(l:aC):Value:=if a then .agg (l.map RV.val).toArray else(l.headD default).val
def tI(n:Nat)(W V:Bool)(X:aC):Value×Value:=(po W (X.take n),po V (X.drop n))
def abb:Value->bX
 |.map a=>a
 |_=>Z
def nV(X:aC):Nat:=(bF (X.headD default).val).toNat
def kO(t:TypeId)(l:aC):Obj:=
 if t=rL then oC (At (l.map RV.val)) else
 if t=tj then(match l with
  |[X,.mk (.int _ n) _,.mk (.bool W) _,.mk (.bool V) _]=>oC (X.ae.map (tI n.toNat W V))
  |_=>oC []) else
 if t=uL then(match l with
  |[R,_,.mk (.int _ n) _,Q]=>.mapIter (abb R.val) n.toNat (Q.ae.map nV).toArray n.toNat
  |_=>oC []) else
 .cells (l.map RV.val).toArray t (0,0)
structure i8(S0:ap)(w0:World)(V:ap)(O:ai)(bx:bn)(ty:Ty)(rs:aY)(W:World):Prop where
 base:ga S0 w0 W
 own:∀i,aF bx i=J->w0.heap.size<=ad V i\/ad V i∈S0
 inj:∀i j,aF bx i=J->aF bx j=J->ad V i=ad V j->i=j
 box:∀(i:Nat)(t:TypeId)(cs:am),bM bx i=U (t,cs)->W.heap[ad V i]?=U (kO t (C.dw O V cs))
 ah:∀(k:Nat)(e:RK)(rv:RV),rs[k]?=U e->O.r[k]?=U rv->bu W ty e rv/\∀b,dL ty e rv b->∀i,aF bx i=J->ad V i≠b
structure bI where
 out:ap
 cV:List (Nat×Loop)
 rd:Bool
 base:yv
def bI.none:bI:=⟨[],[],E,[]⟩
def kP(r:Nat):Deferred:={target:=.collected r,args:= #[]}
def PX.code:PX->Code
 |.ret=>.ret
 |.exit id=>.exit id
def pV(r:Loop):DJ->Loop
 |.ready=>{r with state:=.ready,pending:=Z}
 |.busy=>{r with state:=.busy,pending:=Z}
 |.done e=>{r with state:=.done,pending:=U e.code}
structure dR(w0:World)(D:bI)(pd:rK)(y:ap)(dfr:yv)(W:World):Prop where
 len:Y D.cV=Y pd
 oD:Y y=Y pd
 cV:∀(n l:Nat)(r:Loop)(st:DJ),D.cV[n]?=U (l,r)->pd[n]?=U st->y[n]?=U l/\W.heap[l]?=U (.loop (pV r st))/\w0.heap.size<=l
 inj:∀(n n' l:Nat)(r r':Loop),D.cV[n]?=U (l,r)->D.cV[n']?=U (l,r')->n=n'
 kQ:∃ms:ap,dfr=ms.map kP++D.base/\(D.rd=J->ms=[])/\(ms++D.out).Nodup/\∀d∈ms++D.out,W.heap[d]?=U (.deferred (U []))/\w0.heap.size<=d
structure ax(S0:ap)(w0:World)(D:bI)(ty:Ty)(V:ap)(O:ai)(s:S)(a:Act)(W:World):Prop where
 mem:i8 S0 w0 V O s.ak ty s.rs W
 fM:Y V=Y s.ak
 ei:Y O.i=s.ni
 eb:Y O.b=s.nb
 er:Y O.r=Y s.rs
 cQ:dR w0 D s.pd O.y a.defers W
 size:a.tmps.size=Y s.tmps
 tmps:∀(t:Nat)(sv:C),s.tmps[t]?=U sv->sv=.any\/a.tmps[t]?=U (sv.ab O V)
 fz:∀(k:Nat)(e:TypeId)(rv:RV)(b:Nat),s.rs[k]?=U (.own e)->O.r[k]?=U rv->rv.jY=U b->wt S0 w0 V O s.ak ty s.rs W k e rv b
def ai.oE(X:Ty)(O:ai)(W:aY)(b:Nat):Prop:=∃(k:Nat)(e:RK),W[k]?=U e/\dL X e (O.rv k) b
inductive XV where
 |i (n:Int)
 |b (x:Bool)
 |r (v:RV)
abbrev aX:=List XV
def ai.add(O:ai):XV->ai
 |.i n=>{O with i:=O.i++[n]}
 |.b x=>{O with b:=O.b++[x]}
 |.r v=>{O with r:=O.r++[v]}
def ai.ext(O:ai):aX->ai
 |[]=>O
 |x::X=>(O.add x).ext X
def C.xv(O:ai):C->XV
 |.int _ e=>.i (e.ab O)
 |.bool b=>.b (b.ab O)
 |.ah r=>.r (r.rv O)
 |_=>.i 0
def pW:LK->XV->Prop
 |.int _,.i _=>True
 |.bool,.b _=>True
 |.ah _,.r _=>True
 |_,_=>False
def ee:aI->aX->Prop
 |[],[]=>True
 |k::X,x::W=>pW k x/\ee X W
 |_,_=>False
def al4(X:Ty)(W:World)(B:Nat)(R:Nat->Prop):LK->XV->Prop
 |.ah e,.r V=>bu W X e V/\∀b,dL X e V b->B<=b\/R b
 |_,_=>True
def GI(X:Ty)(W:World)(B:Nat)(V:Nat->Prop):aI->aX->Prop
 |k::R,x::Q=>al4 X W B V k x/\GI X W B V R Q
 |_,_=>True
structure Ek(ty:Ty)(S0:ap)(w0:World)(e:TypeId)(x:LE)(rs:aY)(O:ai)(rv:RV):Prop where
 val:∃A n c,rv=.mk (.slice A n c) (x.ae O)/\(x.ae O).length=n
 oE:∀b,dL ty (.sl e) rv b->w0.heap.size<=b\/b∈S0\/O.oE ty rs b
 Ui:∀(k:Nat)(i:K)(off:Nat)(cs:am),x=.set (.ah (.v k)) i off cs->rv.val=(O.rv k).val
structure LC where
 av:Nat
 I:aX->Prop
 μ:aX->Nat
 m:Nat
abbrev cX:=List LC
def mY(av:Nat):cX->Option LC
 |[]=>Z
 |x::X=>if x.av=av then U x else mY av X
def XE.to(O:ai)(V:ap):XE->Exit
 |.normal=>.normal
 |.ret=>.ret
 |.exit id=>.exit id
 |.aW v=>.panic [{v:=v.ab O V,recovered:=E}]
structure Sp where
 P:Program
 ty:Ty
 S0:ap
 w0:World
 D:bI
 R:Ending->World->Prop
 Q:Exit->Act->World->Prop
def nW(k:Nat)(o:bB)(W:aZ)(X:aq):As:=if Y X<=1099511627776 then mb k o W X else Z
def jL(O:ai):bB->Bool->aq->As
 |.da k o W,E,X=>nW k o (W.map (K.ab O)) X
 |.da _ _ [i],J,X=>tH (i.ab O) X
 |.da _ _ _,J,_=>Z
 |V,R,X=>io V R X
def mH(O:ai):bB->Bool->aq->As
 |.da _ _ _,E,_=>Z
 |.da _ _ [i],J,X=>tH (i.ab O) X
 |.da _ _ _,J,_=>Z
 |W,V,X=>io W V X
def abc{O:ai}{X:bB}{W r:aq}(h:mH O X t W=U r):jL O X t W=U r:=by
 cases X with
 |lex R d=>exact h
 |ratio n d=>exact h
 |da k o V=>
  cases t with
  |false=>simp[mH] at h
  |true=>
   cases V with
   |nil=>simp[mH] at h
   |cons i l=>
    cases l with
    |nil=>exact h
    |cons j l=>simp[mH] at h
def T.aG(p:Sp):T->ai->cX->Prop
 |.out e s,O,_=>∀y V a W,ax p.S0 p.w0 p.D p.ty V (O.at y) s a W->p.Q (e.to (O.at y) V) a W
 |.ret v F M,O,_=>∀y V W,i8 p.S0 p.w0 V (O.at y) F p.ty M W->p.R (.returned (v.ab (O.at y) V)) W
 |.aW v,O,_=>∀y V W,ga p.S0 p.w0 W->p.R (.panicked [{v:=v.ab (O.at y) V,recovered:=E}]) W
 |.aS b t f,O,L=>(b.ab O=J->t.aG p O L)/\(b.ab O=E->f.aG p O L)
 |.aN b t,O,L=>b.ab O=J/\t.aG p O L
 |.call f w F M G iE t,O,L=>∀y V W,i8 p.S0 p.w0 V (O.at y) F p.ty M W->Calls p.P f (C.ay (O.at y) V w).toArray W λ
   |.returned v,H=>∃N,ee G N/\v=iE.ab ((O.ext N).at y) V/\Below W.heap.size W H/\GI p.ty H W.heap.size (O.oE p.ty M) G N/\t.aG p (O.ext N) L
   |.panicked u,H=>Below W.heap.size W H/\p.R (.panicked u) H
   |.outgrown,_=>False
 |.loop av G q t,O,L=>∃X B,X (q.map (C.xv O))/\∀N,ee G N->X N->t.aG p (O.ext N) (⟨av,X,B,B N⟩::L)
 |.back av x,O,L=>match mY av L with
   |U c=>c.I (x.map (C.xv O))/\c.μ (x.map (C.xv O))<c.m
   |none=>False
 |.new e x M _ t,O,L=>∀A,Ek p.ty p.S0 p.w0 e x M O A->t.aG p (O.add (.r A)) L
 |.ae _ x _ t,O,L=>t.aG p (O.add (.r (gI x O))) L
 |.fU g h t f,O,L=>(g.ab O=J->t.aG p O L)/\(h.ab O=J->f.aG p O L)
 |.pick n g h t f,O,L=>(∀j:Int,0<=j->j<n.ab O->g.ab (O.add (.i j))=J->t.aG p (O.add (.i j)) L)/\(h.ab O=J->f.aG p O L)
 |.dK _ _ _ o l r _ t,O,L=>∃z,jL O o l (r.rv O).ae=U z/\t.aG p (O.add (.r (.mk (r.rv O).val z))) L
 |.stuck _,_,_=>False
variable{l:ai}{x:bn}{y:ap}
def abd:∀(a b:Value),DQ a b=J->a=b:=by
 intro a b h;unfold DQ at h;split at h;rename_i a b;have X:a.data.toList=b.data.toList:=by simpa using h
 have W:a.data=b.data:=by simpa using X
 cases a;cases b;simp_all;simp at h;rw[h.1,h.2]
 all_goals first|rfl|cases h
mutual
def K.bD:∀(a b:K),K.aH a b=J->a=b
 |.c a,b,h=>by cases b<;>simp[K.gv] at h;rw[h]
 |.v a,b,h=>by cases b<;>simp[K.gv] at h;rw[h]
 |.bin o k a b,x,h=>by
  cases x<;>simp[K.gv,xZ] at h;obtain⟨⟨⟨rfl,rfl⟩,X⟩,W⟩:=h;rw[K.bD _ _ X,K.bD _ _ W]
 |.conv k a,x,h=>by
  cases x<;>simp[K.gv] at h;obtain⟨rfl,X⟩:=h;rw[K.bD _ _ X]
 |.len r,x,h=>by
  cases x<;>simp[K.gv] at h;rw[RE.bD _ _ h]
 |.mm m a b,x,h=>by
  cases x<;>simp[K.gv] at h;obtain⟨⟨rfl,X⟩,W⟩:=h;rw[K.bD _ _ X,K.bD _ _ W]
 |.dv b a c,x,h=>by
  cases x<;>simp[K.gv] at h;obtain⟨⟨V,X⟩,W⟩:=h;rw[BE.bD _ _ V,K.bD _ _ X,K.bD _ _ W]
 |.cell r i j,x,h=>by
  cases x<;>simp[K.gv] at h;obtain⟨⟨V,X⟩,rfl⟩:=h;rw[RE.bD _ _ V,K.bD _ _ X]
 |.mV r i,x,h=>by
  cases x<;>simp[K.gv] at h;obtain⟨V,X⟩:=h;rw[RE.bD _ _ V,K.bD _ _ X]
 |.look r n a b c j,x,h=>by
  cases x<;>simp[K.gv] at h;obtain⟨⟨⟨⟨⟨V,rfl⟩,X⟩,W⟩,R⟩,rfl⟩:=h;rw[RE.bD _ _ V,K.bD _ _ X,K.bD _ _ W,K.bD _ _ R]
def BE.bD:∀(a b:BE),BE.aH a b=J->a=b
 |.c a,b,h=>by cases b<;>simp[BE.gv] at h;rw[h]
 |.v a,b,h=>by cases b<;>simp[BE.gv] at h;rw[h]
 |.cmp o a b,x,h=>by
  cases x<;>simp[BE.gv,xZ] at h;obtain⟨⟨rfl,X⟩,W⟩:=h;rw[K.bD _ _ X,K.bD _ _ W]
 |.not a,x,h=>by
  cases x<;>simp[BE.gv] at h;rw[BE.bD _ _ h]
 |.and a b,x,h=>by
  cases x<;>simp[BE.gv] at h;rw[BE.bD _ _ h.1,BE.bD _ _ h.2]
 |.beq a b,x,h=>by
  cases x<;>simp[BE.gv] at h;rw[BE.bD _ _ h.1,BE.bD _ _ h.2]
 |.dv b a c,x,h=>by
  cases x<;>simp[BE.gv] at h;obtain⟨⟨V,X⟩,W⟩:=h;rw[BE.bD _ _ V,BE.bD _ _ X,BE.bD _ _ W]
 |.cell r i j,x,h=>by
  cases x<;>simp[BE.gv] at h;obtain⟨⟨V,X⟩,rfl⟩:=h;rw[RE.bD _ _ V,K.bD _ _ X]
 |.seq a b,x,h=>by
  cases x<;>simp[BE.gv] at h;rw[RE.bD _ _ h.1,RE.bD _ _ h.2]
 |.look r n a b c j,x,h=>by
  cases x<;>simp[BE.gv] at h;obtain⟨⟨⟨⟨⟨V,rfl⟩,X⟩,W⟩,R⟩,rfl⟩:=h;rw[RE.bD _ _ V,K.bD _ _ X,K.bD _ _ W,K.bD _ _ R]
 |.has r n a b c,x,h=>by
  cases x<;>simp[BE.gv] at h;obtain⟨⟨⟨⟨V,rfl⟩,X⟩,W⟩,R⟩:=h;rw[RE.bD _ _ V,K.bD _ _ X,K.bD _ _ W,K.bD _ _ R]
def RE.bD:∀(a b:RE),RE.aH a b=J->a=b
 |.v a,b,h=>by cases b<;>simp[RE.gv] at h;rw[h]
 |.cell r i j k,x,h=>by
  cases x<;>simp[RE.gv] at h;obtain⟨⟨⟨X,W⟩,rfl⟩,rfl⟩:=h;rw[RE.bD _ _ X,K.bD _ _ W]
 |.k a,b,h=>by cases b<;>simp[RE.gv] at h;rw[abd _ _ h]
end
mutual
def C.bD:∀(a b:C),C.aH a b=J->a=b
 |.int k e,x,h=>by cases x<;>simp[C.gv] at h;rw[h.1,K.bD _ _ h.2]
 |.bool b,x,h=>by cases x<;>simp[C.gv] at h;rw[BE.bD _ _ h]
 |.ah r,x,h=>by cases x<;>simp[C.gv] at h;rw[RE.bD _ _ h]
 |.loc i o,x,h=>by cases x<;>simp[C.gv] at h;rw[h.1,h.2]
 |.el r w i o,x,h=>by
  cases x<;>simp[C.gv] at h;obtain⟨⟨⟨X,rfl⟩,W⟩,rfl⟩:=h;rw[RE.bD _ _ X,K.bD _ _ W]
 |.ij a b c d,x,h=>by
  cases x<;>simp[C.gv] at h;obtain⟨⟨⟨rfl,rfl⟩,rfl⟩,rfl⟩:=h;rfl
 |.agg l,x,h=>by cases x<;>simp[C.gv] at h;rw[C.qW _ _ h]
 |.bA l,x,h=>by cases x<;>simp[C.gv] at h;rw[C.qW _ _ h]
 |.fn f l,x,h=>by cases x<;>simp[C.gv] at h;rw[h.1,C.qW _ _ h.2]
 |.fT t y,x,h=>by cases x<;>simp[C.gv] at h;rw[h.1,C.bD _ _ h.2]
 |.yl n,x,h=>by cases x<;>simp[C.gv] at h;rw[h]
 |.any,x,h=>by cases x<;>simp[C.gv] at h;rfl
 |.mp i,x,h=>by cases x<;>simp[C.gv] at h;rw[h]
 |.fy e V R,x,h=>by cases x<;>simp[C.gv] at h;rw[K.bD _ _ h.1.1,h.1.2,C.qW _ _ h.2]
def C.qW:∀(a b:am),C.pi a b=J->a=b
 |[],b,h=>by cases b<;>simp[C.aaR] at h;rfl
 |x::X,b,h=>by cases b<;>simp[C.aaR] at h;rw[C.bD _ _ h.1,C.qW _ _ h.2]
end
structure gW(O O':ai)(ni nb nr:Nat):Prop where
 i:∀k,k<ni->O'.i.getD k 0=O.i.getD k 0
 b:∀k,k<nb->O'.b.getD k E=O.b.getD k E
 r:∀k,k<nr->O'.rv k=O.rv k
 y:O'.y=O.y
mutual
def K.dS{O W:ai}{V R Q:Nat}(X:gW O W V R Q):∀(e:K),e.bd V R Q=J->e.ab W=e.ab O
 |.c n,_=>by simp[K.ab]
 |.v k,h=>by simp[K.aQ] at h;simp only[K.ab];exact X.i k h
 |.bin o k a b,h=>by simp[K.aQ] at h;simp only[K.ab,K.dS X a h.1,K.dS X b h.2]
 |.conv k a,h=>by simp[K.aQ] at h;simp only[K.ab,K.dS X a h]
 |.len r,h=>by simp[K.aQ] at h;simp only[K.ab,RE.pX X r h]
 |.mm m a b,h=>by simp[K.aQ] at h;simp only[K.ab,K.dS X a h.1,K.dS X b h.2]
 |.dv b x y,h=>by simp[K.aQ] at h;simp only[K.ab,BE.dS X b h.1.1,K.dS X x h.1.2,K.dS X y h.2]
 |.cell r i j,h=>by simp[K.aQ] at h;simp only[K.ab,K.dS X i h.2,RE.pX X r h.1]
 |.mV r i,h=>by simp[K.aQ] at h;simp only[K.ab,RE.pX X r h.1,K.dS X i h.2]
 |.look r n a b c j,h=>by simp[K.aQ] at h;simp only[K.ab,RE.pX X r h.1.1.1,K.dS X a h.1.1.2,K.dS X b h.1.2,K.dS X c h.2]
def BE.dS{O W:ai}{V R Q:Nat}(X:gW O W V R Q):∀(e:BE),e.bd V R Q=J->e.ab W=e.ab O
 |.c n,_=>by simp[BE.ab]
 |.v k,h=>by simp[BE.aQ] at h;simp only[BE.ab];exact X.b k h
 |.cmp o a b,h=>by simp[BE.aQ] at h;simp only[BE.ab,K.dS X a h.1,K.dS X b h.2]
 |.not a,h=>by simp[BE.aQ] at h;simp only[BE.ab,BE.dS X a h]
 |.and a b,h=>by simp[BE.aQ] at h;simp only[BE.ab,BE.dS X a h.1,BE.dS X b h.2]
 |.beq a b,h=>by simp[BE.aQ] at h;simp only[BE.ab,BE.dS X a h.1,BE.dS X b h.2]
 |.dv b x y,h=>by simp[BE.aQ] at h;simp only[BE.ab,BE.dS X b h.1.1,BE.dS X x h.1.2,BE.dS X y h.2]
 |.cell r i j,h=>by simp[BE.aQ] at h;simp only[BE.ab,K.dS X i h.2,RE.pX X r h.1]
 |.seq a b,h=>by simp[BE.aQ] at h;simp only[BE.ab,RE.pX X a h.1,RE.pX X b h.2]
 |.look r n a b c j,h=>by simp[BE.aQ] at h;simp only[BE.ab,RE.pX X r h.1.1.1,K.dS X a h.1.1.2,K.dS X b h.1.2,K.dS X c h.2]
 |.has r n a b c,h=>by simp[BE.aQ] at h;simp only[BE.ab,RE.pX X r h.1.1.1,K.dS X a h.1.1.2,K.dS X b h.1.2,K.dS X c h.2]
def RE.pX{O W:ai}{V R Q:Nat}(X:gW O W V R Q):∀(e:RE),e.bd V R Q=J->e.rv W=e.rv O
 |.v k,h=>by simp[RE.aQ] at h;simp only[RE.rv,X.r k h]
 |.cell r i j k,h=>by simp[RE.aQ] at h;simp only[RE.rv,K.dS X i h.2,RE.pX X r h.1]
 |.k v,_=>by simp[RE.rv]
end
def RE.dS{X:ai}(W:gW l X R Q i)(e:RE)(h:e.bd R Q i=J):e.ab X=e.ab l:=by simp only[RE.ab,RE.pX W e h]
mutual
def C.dS{O R:ai}{V Q:ap}{P N M:Nat}{L:Nat->Bool}(X:gW O R P N M)(W:∀k,L k=J->ad Q k=ad V k):∀(v:C),v.bd P N M L=J->v.ab R Q=v.ab O V
 |.int k e,h=>by simp[C.aQ] at h;simp only[C.ab,K.dS X e h]
 |.bool e,h=>by simp[C.aQ] at h;simp only[C.ab,BE.dS X e h]
 |.ah e,h=>by simp[C.aQ] at h;simp only[C.ab,RE.dS X e h]
 |.loc i o,h=>by simp[C.aQ] at h;simp only[C.ab,W i h]
 |.el r w i o,h=>by simp[C.aQ] at h;simp only[C.ab,RE.dS X r h.1,K.dS X i h.2]
 |.ij i o l c,h=>by simp[C.aQ] at h;simp only[C.ab,W i h]
 |.agg l,h=>by simp[C.aQ] at h;simp only[C.ab,C.GJ X W l h]
 |.bA l,h=>by simp[C.aQ] at h;simp only[C.ab,C.GJ X W l h]
 |.fn f l,h=>by simp[C.aQ] at h;simp only[C.ab,C.GJ X W l h]
 |.fT t x,h=>by simp[C.aQ] at h;simp only[C.ab,C.dS X W x h]
 |.yl n,_=>by simp only[C.ab,X.y]
 |.any,_=>by simp[C.ab]
 |.mp i,h=>by simp[C.aQ] at h;simp only[C.ab,W i h]
 |.fy e G H,h=>by simp[C.aQ] at h;simp only[C.ab,K.dS X e h.1,C.GJ X W H h.2]
def C.GJ{O X:ai}{V W:ap}{R Q P:Nat}{N:Nat->Bool}(M:gW O X R Q P)(L:∀k,N k=J->ad W k=ad V k):∀(l:am),C.dA R Q P N l=J->C.ay X W l=C.ay O V l
 |[],_=>rfl
 |x::H,h=>by simp[C.gO] at h;simp only[C.ay,C.dS M L x h.1,C.GJ M L H h.2]
end
def tJ{W V R:Nat}{Q:Nat->Bool}:∀{l:am}{i:Nat}{v:C},C.dA W V R Q l=J->l[i]?=U v->v.bd W V R Q=J
 |[],i,v,_,h=>by simp at h
 |x::P,0,v,X,h=>by simp[C.gO] at X;simp at h;exact h▸X.1
 |x::P,i+1,v,X,h=>by simp[C.gO] at X;simp at h;exact tJ X.2 h
def jl{b:TypeId×am}:bM x R=U b<->x[R]?=U (U b):=by
 simp only[cj];cases h:x[R]? with
 |none=>simp
 |some X=>cases X<;>simp
def qX{V R Q:Nat}{P:Nat->Bool}:∀{l:bn}{i:Nat}{v:TypeId×am},C.pj V R Q P l=J->bM l i=U v->C.dA V R Q P v.2=J
 |[],i,v,_,h=>by simp[cj] at h
 |U x::W,0,v,X,h=>by simp[C.pj] at X;simp[cj] at h;exact h▸X.1
 |Z::W,0,v,X,h=>by simp[cj] at h
 |U x::W,i+1,v,X,h=>by simp[C.pj] at X;exact qX X.2 (by simpa[cj] using h)
 |Z::W,i+1,v,X,h=>by simp[C.pj] at X;exact qX X (by simpa[cj] using h)
def gW.refl(O:ai)(X W V:Nat):gW O O X W V:=⟨λ_ _=>rfl,λ_ _=>rfl,λ_ _=>rfl,rfl⟩
def gW.trans{a b c:ai}{W V R:Nat}(h:gW a b W V R)(k:gW b c W V R):gW a c W V R:=
 ⟨λj X=>(k.i j X).trans (h.i j X),λj X=>(k.b j X).trans (h.b j X),λj X=>(k.r j X).trans (h.r j X),k.y.trans h.y⟩
def gW.mono{b:ai}{X W V:Nat}(h:gW l b R Q i)(O:X<=R)(N:W<=Q)(M:V<=i):gW l b X W V:=
 ⟨λj P=>h.i j aa,λj P=>h.b j aa,λj P=>h.r j aa,h.y⟩
def Ou(O:ai)(x:XV):gW O (O.add x) (Y O.i) (Y O.b) (Y O.r):=by
 cases x<;>refine⟨λk X=> ?_,λk X=> ?_,λk X=> ?_,rfl⟩<;>simp[ai.add,ai.rv,dF,X]
def B4:∀(X:aX)(O:ai),gW O (O.ext X) (Y O.i) (Y O.b) (Y O.r)
 |[],O=>gW.refl _ _ _ _
 |x::X,O=>by
  have W:=Ou O x;have V:=B4 X (O.add x);exact W.trans (V.mono (by cases x<;>simp[ai.add]) (by cases x<;>simp[ai.add]) (by cases x<;>simp[ai.add]))
mutual
def Ov{O:ai}{V X:ap}(h:ad X=ad V):∀(v:C),v.ab O X=v.ab O V
 |.int k e=>by simp only[C.ab]
 |.bool e=>by simp only[C.ab]
 |.ah e=>by simp only[C.ab]
 |.loc i o=>by simp only[C.ab,h]
 |.el r w i o=>by simp only[C.ab]
 |.ij i o l c=>by simp only[C.ab,h]
 |.agg l=>by simp only[C.ab,Kj h l]
 |.bA l=>by simp only[C.ab,Kj h l]
 |.fn f l=>by simp only[C.ab,Kj h l]
 |.fT t x=>by simp only[C.ab,Ov h x]
 |.yl n=>by simp only[C.ab]
 |.any=>by simp only[C.ab]
 |.mp i=>by simp only[C.ab,h]
 |.fy e R W=>by simp only[C.ab,Kj h W]
def Kj{O:ai}{V X:ap}(h:ad X=ad V):∀(l:am),C.ay O X l=C.ay O V l
 |[]=>rfl
 |x::W=>by simp only[C.ay,Ov h x,Kj h W]
end
def al5(O:ai)(V:ap)(v:C):(v.gc O V).val=v.ab O V:=by
 cases v<;>simp[C.gc,C.ab,RE.ab]
def abe(O:ai)(V:ap)(l:am):(C.dw O V l).map RV.val=C.ay O V l:=by
 rw[nx,C.dw,mT];exact jh λv _=>al5 O V v
def pu(h:ow X=E)(O:ai)(V:ap)(l:am):kO X (C.dw O V l)=.cells (C.ay O V l).toArray X (0,0):=by
 have W:=of_decide_eq_false h;unfold kO;rw[aJ (λe=>W (by rw[e];exact bU _)),aJ (λe=>W (by rw[e];decide)),aJ (λe=>W (by rw[e];decide)),abe]
def wu(h:kK x R=U (X,w)):bM x R=U (X,w)/\ow X=false:=by
 unfold kK at h;split at h;rename_i Q P W;split at h;cases h;rename_i V;cases h;exact⟨W,by simpa using V⟩;cases h
def Kk{X:bn}(h:bM X Q=bM x R):kK X Q=kK x R:=by simp[kK,h]
def Uj{X:ai}{W:ap}{P:Nat->Bool}(N:gW l X R Q i)(M:∀k,P k=J->ad W k=ad y k)(v:C)(h:v.bd R Q i P=J):v.gc X W=v.gc l y:=by
 have L:=C.dS N M v h;cases v<;>simp only[C.gc]<;>try rw[L]
 simp only[C.aQ] at h;exact RE.pX N _ h
def Kl{O X:ai}{V W:ap}{R Q P:Nat}{N:Nat->Bool}(M:gW O X R Q P)(L:∀k,N k=J->ad W k=ad V k):∀(l:am),C.dA R Q P N l=J->C.dw X W l=C.dw O V l
 |[],_=>rfl
 |x::H,h=>by
  simp only[C.gO,aw] at h;have:=Kl M L H h.2;simp only[C.dw,ep] at this⊢;rw[Uj M L x h.1,this]
def abf{W:ap}(h:ad W=ad y)(X:am):C.dw l W X=C.dw l y X:=by
 refine jh λv _=> ?_
 have R:=Ov (O:=l) h v;cases v<;>simp only[C.gc]<;>rw[R]
def Uk(x:Int):∀(X:aZ)(W:eX),ik (jK x X W)=J
 |[],_=>by simp[jK,ik]
 |_::_,[]=>by simp[jK,ik]
 |k::X,v::W=>by
  simp only[jK];split;split;rename_i h;exact h;rfl;exact Uk x X W
def abg(h:ik b=J):b.cells.toList=[b]:=by
 cases b<;>simp[ik] at h<;>rfl
variable{v:TI}
def pw(c:CT):Value:=match c with
 |.int k=>.int k 0
 |.bool=>.bool E
 |.ac z _=>z
def TD.Ok(P:Program)(t:TypeId)(aj:eG):TD->Prop
 |.struct X=>∃F:Array Field,P.underlying t=U (.struct F)/\F.toList.map (λf=>(f.offset,f.type))=X
 |.arr n e=>P.underlying t=U (.array n e)
 |.slice e=>P.underlying t=U (.slice e)
 |.str=>P.underlying t=U .string
 |.one=>∃d,P.underlying t=U d/\((match d with|.struct _|.array _ _|.slice _|.string|.interface _=>False|_=>True)/\∀k,aj=[.ac .nilFunc k]->∃a b c,d=.func a b c)/\(∀k,aj=[.int k]->d=.int k)/\(aj=[.bool]->d=.bool)
 |.fT=>∃m,P.underlying t=U (.interface m)
 |.map k e _ _=>P.underlying t=U (.map k e)
def Au:Value->Value->Option Bool
 |.int k a,.int X b=>if k=X then U (a==b) else Z
 |.bool a,.bool b=>U (a==b)
 |.string a,.string b=>U (a.toList==b.toList)
 |_,_=>Z
def Av:CT->Value->Prop
 |.int k,.int X _=>k=X
 |.bool,.bool _=>True
 |.ac _ .str,.string _=>True
 |_,_=>False
def jZ:eG->eX->Prop
 |[],[]=>True
 |c::X,v::R=>Av c v/\jZ X R
 |_,_=>False
def jm:eX->eX->Option Bool
 |[],[]=>U J
 |x::X,y::R=>match Au x y,jm X R with
  |U a,U b=>U (a&&b)
  |_,_=>Z
 |_,_=>Z
def gf(X:Bool)(l:aZ):Value:=if X then .agg (l.map (Value.int I)).toArray else .int I (l.headD 0)
def uZ:Value->aZ
 |.int _ x=>[x]
 |.agg X=>X.toList.map bF
 |_=>[]
def mZ(l:aZ):List MapEntry->Nat->Option (Nat×Value)
 |[],_=>Z
 |e::X,i=>if uZ e.key=l then U (i,e.val) else mZ l X (i+1)
def rZ(P:Program)(k:TypeId)(n:Nat)(X:Bool):Prop:=(X=E->n=1)/\∀(l:aZ)(R:List MapEntry)(W:World),Y l=n->(∀e∈R,∃Q:aZ,Y Q=n/\e.key=gf X Q)->
 (∀b,(Instr.checkKey b 10000 k (gf X l)).run P W=.ok () W)/\(Instr.findKey k (gf X l) R).run P W=.ok (mZ l R 0) W
def Ow:Value->Bool
 |.agg _=>J
 |_=>E
structure eB(P:Program)(t:TypeId)(ti:TI):Prop where
 GK:∃i,P.info? t=U i/\i.size=Y ti.aj/\∃z,i.zero=U z/\z.cells.toList=ti.aj.map pw
 desc:ti.d.Ok P t ti.aj
 bytes:∀i,P.info? t=U i->i.bytes<=131072
 eq:ti.eq=J->∀(xs ys:eX)(r:Bool)(x y:Operand)(w:World),jZ ti.aj xs->jZ ti.aj ys->jm xs ys=U r->
  (do eqGuard .eql t x y (.agg xs.toArray) (.agg ys.toArray);binOp .eql t (.agg xs.toArray) (.agg ys.toArray)).run P w=.ok (.bool r) w/\
  (do eqGuard .neq t x y (.agg xs.toArray) (.agg ys.toArray);binOp .neq t (.agg xs.toArray) (.agg ys.toArray)).run P w=.ok (.bool !r) w
 key:∀k e n ag,ti.d=.map k e n ag->rZ P k n ag
 abh:∀i z,P.info? t=U i->i.zero=U z->Ow z=ti.d.isAgg
def ip(P:Program)(o:Ty):Prop:=∀t X,o t=U X->eB P t X
def et(gl:lW)(O:ai):Prop:=∀x∈gl,x.2.1<Y O.r/\∃X R,(O.rv x.2.1).val=.slice (U ⟨x.1,0,Z⟩) X R
section
variable{P:Program}{o:Ty}{gl:lW}{W:World}
def eB.gp{d:TypeDesc}(h:P.underlying X=U d):(underlying X).run P W=.ok d W:=by simp[underlying,h]
def eB.lw(h:eB P X v):(Go.sizeOf X).run P W=.ok (Y v.aj) W:=by
 obtain⟨i,R,Q,_⟩:=h.GK;simp[Go.sizeOf,typeInfo,R,Q]
def eB.abi(h:eB P X v):(isAgg X).run P W=.ok v.d.isAgg W:=by
 have Q:=h.desc;revert Q;cases v.d<;>simp only[TD.Ok,TD.isAgg];rintro⟨d,R,⟨N,-⟩,-,-⟩;cases d<;>simp[isAgg,underlying,R]<;>simp at N;rintro⟨m,R⟩;simp[isAgg,underlying,R];intro R;simp[isAgg,underlying,R];intro R;simp[isAgg,underlying,R];intro R;simp[isAgg,underlying,R];rintro⟨F,R,-⟩;simp[isAgg,underlying,R];intro R;simp[isAgg,underlying,R]
def tK(b X n:Nat):(⟨b,X,Z⟩:Addr).add n=⟨b,X+n,Z⟩:=by
 unfold Addr.add;split;rename_i h;subst h;rfl;rfl
def Ul(h:eB P X v)(Q:uO v w R=U M):
  (part X (C.ay l y w).toArray R).run P W=.ok (M.ab l y) W:=by
 unfold uO at Q;simp only[part,cZ,h.abi,cT];by_cases N:v.d.isAgg=J;simp only[N,cH] at Q⊢;split at Q;rename_i H;cases Q;simp only[C.ab,uN,cZ,h.lw,cT,eI];congr 2;apply kG;simp only[nx,List.map_take,List.map_drop,Array.toList_extract,List.extract_eq_take_drop];simp;cases Q;have L:v.d.isAgg=false:=by simpa using N
 simp only[L,iC,fH] at Q⊢;have:(C.ay l y w).toArray[R]?=U (M.ab l y):=by simp[qV,Q]
 rw[this];rfl
def Ox(h:eB P X v){O:ai}{V:ap}{b base:Nat}(Q:uO v w R=U M)
  (H:∀j x,w[j]?=U x->W.cell? ⟨b,base+j,Z⟩=U (x.ab O V)):
  (Instr.loadAt X (.pointer (U ⟨b,base+R,Z⟩))).run P W=.ok (M.ab O V) W:=by
 unfold uO at Q;simp only[Instr.loadAt,Instr.sureAddr,loadVar,cZ,eI,cT,h.abi];by_cases G:v.d.isAgg=J;simp only[G,cH] at Q⊢;split at Q;rename_i A;cases Q;simp only[cZ,h.lw,cT,C.ab];have F:(C.ay O V (uN w R (Y v.aj))).length=Y v.aj:=by simp[uN];omega
 have:=run_loadCells_list (P:=P) W ⟨b,base+R,Z⟩ (C.ay O V (uN w R (Y v.aj))) (λj M N=>by
  rw[qV] at N;cases L:(uN w R (Y v.aj))[j]? with
  |none=>rw[L] at N;cases N
  |some x=>
   rw[L] at N;simp at N;simp only[uN,lT,rJ] at L;split at L;rw[tK,<-N,DE];exact H _ _ L;cases L)
 rw[F] at this;rw[this];simp;cases Q;have B:v.d.isAgg=false:=by simpa using G
 simp only[B,iC,fH] at Q⊢;have:=H R M Q;simp[this]
end
section
variable{p:ap}{q:World}{D:bI}{P:Program}{o:Ty}{gl:lW}{V:ap}{O:ai}{s:S}{a:Act}{W:World}
def al6(v:Value):(Gf v).ab O V=v:=by unfold Gf;split<;>simp[C.ab,K.ab,BE.ab,RE.ab,RE.rv]
def al7(v:Value):(JP v).ab O V=v:=by
 unfold JP;split;simp[C.ab,K.ab];simp[C.ab,BE.ab];rename_i X;simp only[C.ab,nx,mT];congr 1;have:(C.ab O V∘Gf)=id:=by funext v;simp[al6]
 rw[this];simp;simp[C.ab,RE.ab,RE.rv]
def cK(R:ax p q D o V O s a W)(L:et gl O)(x:Operand)(h:(s.ev gl x).ec=E):a.eval x=(s.ev gl x).ab O V:=by
 cases x with
 |tmp t=>
  simp only[S.ev,uM,cw] at h⊢;cases X:s.tmps[t]? with
  |none=>rw[X] at h;simp[C.ec] at h
  |some H=>
   rw[X] at h;simp only[nl] at h⊢;rcases R.tmps t H X with rfl|Q;simp[C.ec] at h;simp[Act.eval,Q]
 |const v=>simp only[S.ev,Act.eval,al7]
 |global g=>
  simp only[S.ev] at h⊢;split at h;rename_i k w N;obtain⟨Q,F,B,G⟩:=L _ (NB N);have M:=NN N;simp only[di] at M;simp only[C.ab,RE.ab,RE.rv,Act.eval,mX,G,K.ab,M];simp;simp[C.ec] at h
 |func f=>simp[S.ev,Act.eval,C.ab,C.ay]
def GM(X:BinOp)(k:IntKind)(x y:K):(BP X k x y).ab O=bH X k (x.ab O) (y.ab O):=by unfold BP;split<;>simp[K.ab]
def Aw(X:BinOp)(x y:K):(oz X x y).ab O=gm X (x.ab O) (y.ab O):=by unfold oz;split<;>simp[K.ab,BE.ab]
def Km(x:BE):(BQ x).ab O= !(x.ab O):=by unfold BQ;split<;>simp[BE.ab]
def Um(x y:BE):(tA x y).ab O=(x.ab O&&y.ab O):=by unfold tA;split<;>simp[BE.ab]
def Un(x y:BE):(JQ x y).ab O=(x.ab O==y.ab O):=by unfold JQ;split<;>simp[BE.ab,Km]<;>cases BE.ab O _<;>simp
def al8(m:Bool)(x y:K):(NW m x y).ab O=if m then max (x.ab O) (y.ab O) else min (x.ab O) (y.ab O):=by unfold NW;split<;>simp[K.ab]
def GN(i n:K):(tB i n).ab O=J<->0<=i.ab O/\i.ab O<n.ab O:=by
 rw[tB,Um,Aw,Aw,aw];exact and_congr decide_eq_true_iff decide_eq_true_iff
def Uo(X:Bool)(k:IntKind):∀(l:am)(e r:K),DM X k e l=U r->
  ((C.ay O V l).foldlM (if X then Builtin.max2 else Builtin.min2) (.int k (e.ab O)):Sem Value).run P W=.ok (.int k (r.ab O)) W
 |[],e,r,h=>by simp[DM] at h;subst h;simp[C.ay]
 |.int Q x::l,e,r,h=>by
  simp only[DM] at h;split at h;have R:=Uo X k l (NW X e x) r h;rw[al8] at R;simp only[C.ay,C.ab,List.foldlM_cons,cZ];cases X;simp only[iC,fH] at R⊢;simp only[Builtin.min2,eI,cT];rw[show(if x.ab O<e.ab O then x.ab O else e.ab O)=min (e.ab O) (x.ab O) from aa];exact R;simp only[cH] at R⊢;simp only[Builtin.max2,eI,cT];rw[show(if x.ab O>e.ab O then x.ab O else e.ab O)=max (e.ab O) (x.ab O) from aa];exact R;cases h
 |.bool _::_,_,_,h|.ah _::_,_,_,h|.loc _ _::_,_,_,h|.el _ _ _ _::_,_,_,h|.ij _ _ _ _::_,_,_,h|.agg _::_,_,_,h|.bA _::_,_,_,h|.fn _ _::_,_,_,h|.fT _ _::_,_,_,h|.any::_,_,_,h=>by simp[DM] at h
end
section
variable{V:ap}{O:ai}
def Oy{R Q:Type}{x:Int}{f:R->Q}:∀{W:aZ}{X:List R},ez x W (X.map f)=(ez x W X).map f
 |[],X=>by simp[ez]
 |_::_,[]=>by simp[ez]
 |k::W,v::X=>by
  simp only[ep,ez];split;rfl;exact Oy
def GO{W:Type}{x:Int}:∀{R:aZ}{X:List W}{v:W},ez x R X=U v->v∈X
 |[],X,v,h=>by simp[ez] at h
 |_::_,[],v,h=>by simp[ez] at h
 |k::R,u::X,v,h=>by
  simp only[ez] at h;split at h;cases h;simp;exact By _ (GO h)
def Uq{e:K}:∀{R:aZ}{Q:am}{y:K},xX e R Q=U y->∃w,y.ab O=w/\(∀v,ez (e.ab O) R Q=U v->∃k z,v=.int k z/\w=z.ab O)/\(ez (e.ab O) R Q=Z->w=0)
 |[],[],y,h=>by simp[xX] at h;subst h;exact⟨0,rfl,λv h=>by simp[ez] at h,λ_=>rfl⟩
 |k::R,v::Q,y,h=>by
  cases v<;>simp only[xX] at h<;>try cases h
  rename_i N x;cases P:xX e R Q with
  |none=>rw[P] at h;cases h
  |some G=>
   rw[P] at h;simp only[dQ,cg] at h;subst h;obtain⟨w,M,L,H⟩:=Uq P;simp only[K.ab,BE.ab,gm,ez];by_cases W:e.ab O=k;refine⟨x.ab O,by simp[W],λv X=> ?_,λX=> ?_⟩;rw[aE W] at X;cases X;exact⟨N,x,rfl,rfl⟩;rw[aE W] at X;cases X;refine⟨w,by simp[W,M],λv X=> ?_,λX=> ?_⟩;rw[aJ W] at X;exact L v X;rw[aJ W] at X;exact H X
 |[],_::_,y,h=>by simp[xX] at h
 |_::_,[],y,h=>by simp[xX] at h
def abj{e:K}:∀{R:aZ}{Q:am}{y:BE},zZ e R Q=U y->∃w,y.ab O=w/\(∀v,ez (e.ab O) R Q=U v->∃z,v=.bool z/\w=z.ab O)/\(ez (e.ab O) R Q=Z->w=E)
 |[],[],y,h=>by simp[zZ] at h;subst h;exact⟨E,rfl,λv h=>by simp[ez] at h,λ_=>rfl⟩
 |k::R,v::Q,y,h=>by
  cases v<;>simp only[zZ] at h<;>try cases h
  rename_i x;cases P:zZ e R Q with
  |none=>rw[P] at h;cases h
  |some H=>
   rw[P] at h;simp only[dQ,cg] at h;subst h;obtain⟨w,N,M,L⟩:=abj P;simp only[BE.ab,K.ab,gm,ez];by_cases W:e.ab O=k;refine⟨x.ab O,by simp[W],λv X=> ?_,λX=> ?_⟩;rw[aE W] at X;cases X;exact⟨x,rfl,rfl⟩;rw[aE W] at X;cases X;refine⟨w,by simp[W,N],λv X=> ?_,λX=> ?_⟩;rw[aJ W] at X;exact M v X;rw[aJ W] at X;exact L X
 |[],_::_,y,h=>by simp[zZ] at h
 |_::_,[],y,h=>by simp[zZ] at h
def abk{x:Int}:∀{ks:aZ}{X:am},X.all Gi=J->(∀v,ez x ks X=U v->jK x ks (C.ay O V X)=v.ab O V)/\(ez x ks X=Z->jK x ks (C.ay O V X)=.nilFunc)
 |[],X,_=>⟨λv h=>by simp[ez] at h,λ_=>by simp[jK]⟩
 |_::_,[],_=>⟨λv h=>by simp[ez] at h,λ_=>by simp[jK,C.ay]⟩
 |k::ks,u::X,W=>by
  simp only[JK,aw] at W;obtain⟨P,N⟩:=abk (ks:=ks) W.2;simp only[ez,C.ay,jK];by_cases Q:x=k;simp only[Q,cH];refine⟨λv R=> ?_,λR=>by cases R⟩;cases R;have M:ik (u.ab O V)=true:=by
   have:=W.1;unfold Gi at this;split at this;exact Oq _ _;rfl;cases this
  rw[aE M];simp only[Q,fH];exact⟨P,N⟩
def al9{e:K}{Q:aZ}{H:CT}(h:TC e Q w H=U M):(∀v,ez (e.ab O) Q w=U v->M.ab O V=v.ab O V)/\(ez (e.ab O) Q w=Z->M.ab O V=pw H):=by
 unfold TC at h;split at h;rename_i k;split at h;rename_i N;cases W:xX e Q w with
 |none=>rw[W] at h;cases h
 |some y=>
  rw[W] at h;simp only[dQ,cg] at h;subst h;obtain⟨x,R,P,L⟩:=Uq (O:=O) W;refine⟨λv X=> ?_,λX=>by simp only[C.ab,R,L X,pw]⟩;obtain⟨G,z,rfl,rfl⟩:=P v X;have:=eO.1 N _ (GO X);simp at this;subst this;simp only[C.ab,R]
 cases h;cases W:zZ e Q w with
 |none=>rw[W] at h;cases h
 |some y=>
  rw[W] at h;simp only[dQ,cg] at h;subst h;obtain⟨x,R,P,L⟩:=abj (O:=O) W;refine⟨λv X=> ?_,λX=>by simp only[C.ab,R,L X,pw]⟩;obtain⟨z,rfl,rfl⟩:=P v X;simp only[C.ab,R]
 split at h;rename_i N;simp only[aw] at N;cases h;obtain⟨R,P⟩:=abk (O:=O) (V:=V) (x:=e.ab O) (ks:=Q) N.1;exact⟨λv X=>by simp only[C.ab];exact R v X,λX=>by simp only[C.ab,pw];exact P X⟩;cases h;cases h
def Oz{e:K}{Q:aZ}{P:uK}:∀{aj:eG}{j:Nat}{l:am},Ac e Q P j aj=U l->
  Y l=Y aj/\(∀X,ez (e.ab O) Q P=U X->Y X=j+Y aj->C.ay O V l=C.ay O V (X.drop j))/\(ez (e.ab O) Q P=Z->C.ay O V l=aj.map pw)
 |[],j,l,h=>by
  simp[Ac] at h;subst h;exact⟨rfl,λX _ R=>by rw[alj (by simp at R;omega)],λ_=>rfl⟩
 |c::aj,j,l,h=>by
  simp only[Ac] at h;split at h;rename_i v r H G;cases h;obtain⟨F,D,B⟩:=Oz G;obtain⟨N,M⟩:=al9 (O:=O) (V:=V) H;rw[Oy] at N M;refine⟨by simp[F],λX W R=> ?_,λW=> ?_⟩;have L:j<Y X:=by simp at R;omega
  rw[Dv L];simp only[C.ay];rw[D X W (by simp at R⊢;omega),N _ (by rw[W];rfl)];simp[cw,L];simp only[C.ay,ep];rw[B W,M (by rw[W];rfl)];cases h
def OA{e:K}:∀{X:aZ}{W:Type}{R:List W},Y X=Y R->(DP e X).ab O=(ez (e.ab O) X R).isSome
 |[],W,R,h=>by simp[DP,BE.ab,ez]
 |k::X,W,[],h=>by simp at h
 |k::X,W,v::R,h=>by
  simp only[DP,BE.ab,K.ab,gm,ez];by_cases Q:e.ab O=k;simp[Q];simp only[Q,fH,di];exact OA (by simpa using h)
def OC(W:∀r:RE,r.DK=J->ik (r.ab O)=J)(h:xY v M=J):M.ab O V=if v.d.isAgg then .agg (C.ay O V M.cells).toArray else(C.ay O V M.cells).headD undef:=by
 simp only[xY,aw] at h;obtain⟨⟨-,R⟩,X⟩:=h;cases M<;>simp only[f9] at X<;>rw[X]<;>rfl
def Ax(h:t=E->Y w=1):(qM t w).ab O V=if t then .agg (C.ay O V w).toArray else(C.ay O V w).headD undef:=by
 cases t;obtain⟨x,rfl⟩:=nj.1 (h rfl);rfl;rfl
def OD{x:Int}:∀{W:aZ}{X:am}{v:C},ez x W X=U v->ik (v.ab O V)=J->jK x W (C.ay O V X)=v.ab O V
 |[],X,v,h,_=>by simp[ez] at h
 |_::_,[],v,h,_=>by simp[ez] at h
 |k::W,u::X,v,h,Q=>by
  simp only[ez] at h;simp only[C.ay,jK];split at h;rename_i R;cases h;rw[aE R,aE Q];rename_i R;rw[aJ R];exact OD h Q
def ama(h:xY v M=J):(v.d.isAgg=E->Y v.aj=1)/\Y M.cells=Y v.aj:=by
 simp only[xY,aw,di] at h;obtain⟨⟨X,Q⟩,W⟩:=h;refine⟨λR=> ?_,X⟩;cases M<;>simp only[C.cells,NE] at X<;>first|exact X.symm|(rw[R] at W;cases W)
def abl(N:∀r:RE,r.DK=J->ik (r.ab O)=J){e:K}{X:aZ}{p:C}(h:NZ v e X w=U M)(R:ez (e.ab O) X w=U p):M.ab O V=p.ab O V:=by
 unfold NZ at h;split at h;rename_i L;cases W:Ac e X (w.map C.cells) 0 v.aj with
 |none=>rw[W] at h;cases h
 |some l=>
  rw[W] at h;cases h;obtain⟨H,G,-⟩:=Oz (O:=O) (V:=V) W;have F:=GO R;have Q:=eO.1 L p F;obtain⟨D,B⟩:=ama Q;have P:=G p.cells (by rw[Oy,R];rfl) (by rw[B,gV]);rw[alB] at P;rw[Ax (λA=>by rw[H];exact D A),OC N Q,P]
 cases h
def abm{X:Type}{x:Int}{f:Nat->X}(L:0<=x)(H:x<(R:Int)):ez x (Ad R) ((e8 R).map f)=U (f x.toNat):=by
 unfold Ad;have W:∀(m k:Nat),(k:Int)<=x->x<((k+m:Nat):Int)->ez x ((uI k m).map λi:Nat=>(i:Int)) ((uI k m).map f)=U (f x.toNat):=by
  intro m;induction m with
  |zero=>intro k Q P;omega
  |succ m N=>
   intro k Q P;simp only[Ts,ep,ez];split;rename_i M;subst M;simp;exact N (k+1) aa aa
 rw[NF];exact W R 0 aa aa
def Ur{R L:Type}{f:R->Option L}{x:Int}:∀{Q:aZ}{vs:List R}{W:List L}{v:R},BR (vs.map f)=U W->ez x Q vs=U v->∃p,f v=U p/\ez x Q W=U p
 |[],vs,W,v,_,h=>by simp[ez] at h
 |_::_,[],W,v,_,h=>by simp[ez] at h
 |k::Q,u::vs,W,v,X,h=>by
  simp only[ep] at X;cases P:f u with
  |none=>rw[P] at X;cases X
  |some p=>
   rw[P] at X;simp only[BR] at X;cases N:BR (vs.map f) with
   |none=>rw[N] at X;cases X
   |some H=>
    rw[N] at X;simp only[dQ,cg] at X;subst X;simp only[ez] at h⊢;split at h;rename_i M;cases h;rw[aE M];exact⟨p,P,rfl⟩;rename_i M;rw[aJ M];exact Ur N h
def abn(h:wa w=U R)(W:M∈w):∃X,M=.loc R X:=by
 unfold wa at h;split at h;rename_i j o r;split at h;rename_i Q;cases h;have:=eO.1 Q M W;split at this;rename_i P X;simp only[di] at this;subst this;exact⟨X,rfl⟩;cases this;cases h;cases h
end
variable{n:Ty}{z:RK}{L:RV}
def PR.gives(O:ai)(v:C):PR->Prop
 |.ok x=>v=x
 |.aN b x=>b.ab O=J/\v=x
 |_=>False
def abo(h:bu N n z L):dl z L=L:=by
 cases h with
 |sl e A M H X=>rfl
 |str s=>rfl
 |ac L R=>simp[dl,R]
 |own e Q h G=>cases h;rfl
 |ao Q h=>simp[dl,h]
 |mr F X=>rfl
def abp(k:RK):bu N n k (dl k default):=by
 cases k with
 |sl e=>
  refine bu.sl e Z 0 0 [] rfl (bU _) ?_ ?_ ?_ ?_<;>(intro i;intros;rename_i h;simp at*)
 |str=>exact bu.str _
 |ac=>exact bu.ac _ rfl
 |own e=>
  refine bu.own e _ (bu.sl e Z 0 0 [] rfl (bU _) ?_ ?_ ?_ ?_) (λl c h=>by cases h;rfl)<;>(intro i;intros;rename_i h;simp at*)
 |ao=>exact bu.ao _ rfl
 |mr X=>
  refine bu.mr X [] ?_ ?_ ?_ ?_<;>(intro i;intros;rename_i h;simp at*)
def amc(k:RK)(v:RV):ik (dl k v).val=true:=by
 cases k;simp only[dl];split;rename_i h;rw[h];rfl;rfl;simp only[dl];split<;>rfl;simp only[dl];split;rename_i h;exact h;rfl;simp only[dl];split;rename_i h;rw[h];rfl;rfl;simp only[dl];split;rename_i h;exact h;rfl;simp only[dl];split;rename_i h;rw[h];rfl;rfl
def GP(h:bu N n z L):ik L.val=true:=by
 cases h with
 |sl e A M H X=>rfl
 |str s=>rfl
 |ac L R=>exact R
 |own e Q h G=>cases h;rfl
 |ao Q h=>exact h
 |mr F X=>rfl
def abq(h:bu N n z L):bu N n z.rd L:=by
 cases h with
 |own e u h t=>exact h
 |sl e A G F X R Q M H B y=>exact bu.sl e A G F X R Q M H B y
 |str s=>exact bu.str s
 |ac L x=>exact bu.ac L x
 |ao _ h=>exact bu.ao _ h
 |mr w X R Q M H=>exact bu.mr w X R Q M H
def amd(h:bu N n (.sl X) L)(i:Int)(j:Nat)(k:RK)(Q:DN (bm n (.sl X))[j]?=k):bu N n k (dl k (bz L.ae i j)):=by
 cases h with
 |sl X A p o x m l w u t r=>
  simp only[RV.ma,bz];cases M:x[i.toNat]? with
  |none=>simp only[cw,M,aaC,List.getElem?_nil];exact abp k
  |some H=>
   simp only[cw,M,nl];cases F:H[j]? with
   |none=>simp only[aaC];exact abp k
   |some c=>
    simp only[nl];have g:j<(bm n (.sl X)).length:=by
     have:=(w _ H M).1;have:=(bJ.1 F).1;omega
    cases G:(bm n (.sl X))[j]? with
    |none=>rw[zT] at G;omega
    |some q=>
     rw[G] at Q;cases q with
     |int B=>
      simp only[DN] at Q;subst Q;obtain⟨R,y⟩:=u _ _ H c B M F G;simp only[dl,y,ik,cH];exact bu.ac _ rfl
     |bool=>
      simp only[DN] at Q;subst Q;obtain⟨R,y⟩:=t _ _ H c M F G;simp only[dl,y,ik,cH];exact bu.ac _ rfl
     |ac z B=>
      simp only[DN] at Q;subst Q;have:=r _ _ H c z B M F G;rw[abo this];exact this
section
variable{g:ap}{m:World}{D:bI}{P:Program}{ty:Ty}{B:lW}{V:ap}{O:ai}{s:S}{a:Act}{W:World}
def Us(X:ax g m D ty V O s a W)(h:s.rs[R]?=U z):bu W ty z (O.rv R):=by
 have Q:R<Y O.r:=by rw[X.er];exact(bJ.1 h).1
 have:=(X.mem.ah R z O.r[R] h (ce Q)).1;simpa[ai.rv,Q] using this
def oF(R:ax g m D ty V O s a W):∀{r:RE}{e:RK},e≠ .ac->r.kind ty s=e->bu W ty e (r.rv O)
 |.v k,e,X,h=>by
  simp only[RE.kind,cw] at h;cases Q:s.rs[k]? with
  |none=>rw[Q] at h;exact bp (show e=.ac from h.symm) X
  |some q=>rw[Q] at h;simp at h;subst h;exact abq (Us R Q)
 |.cell r i j L,e,X,h=>by
  simp only[RE.kind] at h;split at h;rename_i H N;split at h;rename_i M;subst h;exact amd (oF R au N) (i.ab O) j _ M;exact bp h.symm X;exact bp h.symm X
 |.k v,e,X,h=>by
  cases v<;>simp only[RE.kind] at h
  case string s=>subst h;exact bu.str s
  all_goals exact bp h.symm X
def Ko(R:ax g m D ty V O s a W){r:RE}(h:r.kind ty s=.sl X):∃x l c,r.ab O=.slice x l c:=by
 have:=oF R au h;unfold RE.ab;revert this;generalize r.rv O=v;intro Q;cases Q with
 |sl X A N M L=>exact⟨A,N,M,rfl⟩
def B5(R:ax g m D ty V O s a W){r:RE}(h:r.kind ty s=.str):∃x,r.ab O=.string x:=by
 have:=oF R au h;unfold RE.ab;revert this;generalize r.rv O=v;intro X;cases X with
 |str s=>exact⟨s,rfl⟩
def ame(R:ax g m D ty V O s a W){c:CT}{y:C}{e:BE}(h:Gg ty s c M y=U e):Av c (M.ab O V)/\Av c (y.ab O V)/\Au (M.ab O V) (y.ab O V)=U (e.ab O):=by
 unfold Gg at h;split at h;split at h;rename_i X;obtain⟨rfl,rfl⟩:=X;cases h;exact⟨rfl,rfl,by simp[C.ab,Au,Aw,gm]⟩;cases h;cases h;exact⟨trivial,trivial,by simp[C.ab,Au,Un]⟩;split at h;rename_i X;cases h;obtain⟨p,Q⟩:=B5 R X.1;obtain⟨q,N⟩:=B5 R X.2;simp only[C.ab,Q,N];unfold RE.ab at Q N;exact⟨trivial,trivial,by simp[Au,BE.ab,Q,N,tG]⟩;cases h;cases h
def abr(R:ax g m D ty V O s a W):∀{X:eG}{x y:am}{e:BE},pR ty s X x y=U e->jZ X (C.ay O V x)/\jZ X (C.ay O V y)/\jm (C.ay O V x) (C.ay O V y)=U (e.ab O)
 |[],[],[],e,h=>by simp[pR] at h;subst h;exact⟨trivial,trivial,by simp[C.ay,jm,BE.ab]⟩
 |c::X,x::B,y::A,e,h=>by
  simp only[pR] at h;split at h;rename_i a b Q N;cases h;obtain⟨M,a2,L⟩:=ame R Q;obtain⟨H,G,F⟩:=abr R N;exact⟨⟨M,H⟩,⟨a2,G⟩,by simp only[C.ay,jm,L,F,Um]⟩;cases h
 |[],[],_::_,e,h=>by simp[pR] at h
 |[],_::_,_,e,h=>by simp[pR] at h
 |_::_,[],_,e,h=>by simp[pR] at h
 |_::_,_::_,[],e,h=>by simp[pR] at h
def abs(R:ax g m D ty V O s a W){X:BM}{y:am}{e:BE}(h:Gh ty s X w y=U e):∃aj d,X=U ⟨d,aj,J⟩/\jZ aj (C.ay O V w)/\jZ aj (C.ay O V y)/\jm (C.ay O V w) (C.ay O V y)=U (e.ab O):=by
 unfold Gh at h;split at h;exact⟨_,_,rfl,abr R h⟩;cases h
def abt(B:bu W ty (.sl X) L)(i:Int)(h:0<=i)(y:i<lenOf L.val):
  ∃Q b N,L.ae[i.toNat]?=U Q/\Y Q=(bm ty (.sl X)).length/\(∃l c,L.val=.slice (U ⟨b,N,Z⟩) l c)/\(∀(j:Nat)(c:RV),Q[j]?=U c->W.cell? ⟨b,N+i.toNat*(bm ty (.sl X)).length+j,Z⟩=U c.val)/\
   (∀(j:Nat)(c:RV)(M:CT),Q[j]?=U c->(bm ty (.sl X))[j]?=U M->match M with
    |.int k=>∃n,c.val=.int k n
    |.bool=>∃x,c.val=.bool x
    |.ac _ k=>bu W ty k c):=by
 cases B with
 |sl X A w v H g f u t r q=>
  simp only[RV.l9,lenOf] at y;have p:i.toNat<Y H:=aa;have R:H[i.toNat]?=U H[i.toNat]:=ce p;obtain⟨o,b,N,rfl,d,m⟩:=u i.toNat _ R;refine⟨H[i.toNat],b,N,R,o,⟨w,v,rfl⟩,m,λj c M G F=> ?_⟩;cases M with
  |int k=>exact t _ j _ c k R G F
  |bool=>exact r _ j _ c R G F
  |ac z k=>exact q _ j _ c z k R G F
def amf{r:RE}{i:K}{H:aC}{X:CT}(G:(r.rv O).ae[(i.ab O).toNat]?=U H)(F:H[R]?=U L)(Q:match X with
    |.int k=>∃n,L.val=.int k n
    |.bool=>∃y,L.val=.bool y
    |.ac _ k=>bu W ty k L):
  (BN r i R X).ab O V=L.val:=by
 have N:bz (r.rv O).ae (i.ab O) R=L:=by simp[bz,G,F]
 cases X with
 |int B=>obtain⟨n,M⟩:=Q;simp[BN,C.ab,K.ab,N,bF,M]
 |bool=>obtain⟨n,M⟩:=Q;simp[BN,C.ab,BE.ab,N,iF,M]
 |ac z e=>simp only[BN,C.ab,RE.ab,RE.rv,N];rw[abo Q]
def tL(R:ax g m D ty V O s a W):∀(r:RE),r.DK=J->ik (r.ab O)=J
 |.v k,_=>by
  simp only[RE.ab,RE.rv];by_cases X:k<Y s.rs;exact GP (Us R (ce X));have:O.rv k=default:=by
   have:=R.er;simp[ai.rv,show¬k<Y O.r from aa]
  rw[this];rfl
 |.cell r i j k,_=>amc k _
 |.k w,h=>h
def amg(R:ax g m D ty V O s a W)(d:ip P ty)(hg:et B O)(A:F.op=.load X r)(hk:(s.ev B r).ec=E)
  (h:(bT ty B s (.load X r)).gives O M):(execOp a.eval F).run P W=.ok (.value (M.ab O V)) W:=by
 have he:=cK R hg r hk;simp only[execOp,A,cZ,he];simp only[bT] at h;split at h;rename_i ti i p n k;rw[k];split at h;rename_i tt f N;split at h;rename_i w L;cases h;have:=Ox (P:=P) (W:=W) (d _ _ n) (O:=O) (V:=V) (b:=ad V i) (base:=0) L (λj y hy=>by
  obtain⟨N,A⟩:=wu N;have:=R.mem.box i tt f N;rw[pu A] at this;simp[mC,this,qV,hy])
 simp only[gV] at this;simp only[C.ab,this,cT,eI];exact h.elim;exact h.elim;rename_i ti Q w i p n k;rw[k];split at h;rename_i e ba;split at h;exact h.elim;rename_i hw;split at h;rename_i y L;obtain⟨N,rfl⟩:=h;rw[GN] at N;simp only[K.ab] at N;have hh:=oF R au ba;have bb:w=(bm ty (.sl e)).length:=by simpa using Eq.symm (by simpa using hw:(bm ty (.sl e)).length=w)
 obtain⟨af,b,a0,h1,bl,⟨l,c,h3⟩,h4,h5⟩:=abt hh (i.ab O) N.1 N.2;have:=Ox (P:=P) (W:=W) (d _ _ n) (O:=O) (V:=V) (b:=b) (base:=a0+(i.ab O).toNat*w) L (λj z G=>by
  simp only[dM] at G;cases hj:(e8 w)[j]? with
  |none=>rw[hj] at G;cases G
  |some H=>
   have bc:j<w/\H=j:=by
    have:=bJ.1 hj;obtain⟨q1,q2⟩:=this;simp at q1 q2;exact⟨q1,q2.symm⟩
   obtain⟨br,rfl⟩:=bc;rw[hj] at G;simp only[dQ,cg] at G;have bd:(bm ty (.sl e))[H]?=U ((bm ty (.sl e)).getD H .bool):=by
    rw[cw,ce aa];rfl
   have bf:H<Y af:=aa;have ag:af[H]?=U af[H]:=ce bf;rw[<-G,amf (W:=W) (ty:=ty) h1 ag (h5 H _ _ ag bd)];rw[bb];exact h4 H _ ag)
 have hA:mX (RE.ab O Q) ((i.ab O).toNat*w+p)=⟨b,a0+(i.ab O).toNat*w+p,Z⟩:=by
  simp only[RE.ab,h3,mX,DE]
 simp only[C.ab,hA,this,cT,eI];exact h.elim;exact h.elim;rename_i ti e ks vs n k;rw[k];split at h;rename_i tt f N;split at h;rename_i w L;split at h;rename_i a1;obtain⟨a3,rfl⟩:=h;simp only[di] at a1;cases al:wa vs with
 |none=>rw[al] at N;cases N
 |some i=>
  rw[al] at N;simp only[Tt] at N;rw[OA a1] at a3;obtain⟨u,hu⟩:=jw.1 a3;obtain⟨p,rfl⟩:=abn al (GO hu);cases an:BR (vs.map (TF ti f)) with
  |none=>rw[an] at L;cases L
  |some ps=>
   rw[an] at L;simp only[Tt] at L;obtain⟨q,a4,bg⟩:=Ur an hu;simp only[TF] at a4;have a9:=Ox (P:=P) (W:=W) (d _ _ n) (O:=O) (V:=V) (b:=ad V i) (base:=0) a4 (λj y hy=>by
    obtain⟨N,A⟩:=wu N;have:=R.mem.box i tt f N;rw[pu A] at this;simp[mC,this,qV,hy])
   simp only[gV] at a9;have bk:(C.fy e ks vs).ab O V=.pointer (U ⟨ad V i,p,Z⟩):=by
    simp only[C.ab];rw[OD hu rfl];rfl
   rw[bk,abl (tL R) L bg];simp only[a9,cT,eI]
 exact h.elim;exact h.elim;exact h.elim;exact h.elim
def amh(Q:ax g m D ty V O s a W)(af:ip P ty)(hg:et B O)(ho:F.op=.fieldAddr X r R)(hk:(s.ev B r).ec=E)
  (h:(bT ty B s (.fieldAddr X r R)).gives O M):(execOp a.eval F).run P W=.ok (.value (M.ab O V)) W:=by
 have he:=cK Q hg r hk;have ag:∀(G:List (Nat×TypeId))(aj:eG)(q:Bool)(y:Nat)(p:TypeId)(H:TI)(A:Addr),ty X=U ⟨.struct G,aj,q⟩->G[R]?=U (y,p)->ty p=U H->(Y H.aj==0)=E->A.spot=Z->
   (Instr.fieldAt X (.pointer (U A)) R).run P W=.ok (.pointer (U ⟨A.block,A.off+y,Z⟩)) W:=by
  intro G aj q y p H A h1 u h3 h4 h5;obtain⟨N,hF,al⟩:=(af _ _ h1).desc;rw[<-al,dM] at u;cases z:N.toList[R]? with
  |none=>rw[z] at u;cases u
  |some fd=>
   rw[z] at u;simp only[dQ,cg,BH] at u;obtain⟨rfl,rfl⟩:=u;have an:N[R]?=U fd:=by simpa using z
   have a0:¬Y H.aj=0:=by simpa using h4
   obtain⟨b,of,sp⟩:=A;simp only at h5;subst h5;simp only[Instr.fieldAt,Instr.sureAddr,fieldPlace,cZ,eB.gp hF,cT,an,eI,(af _ _ h3).lw,aJ a0,Sem.run_ite,tK]
 simp only[execOp,ho,cZ,he];simp only[bT] at h;split at h;rename_i G aj q i y l k;rw[k];split at h;rename_i j e z;split at h;rename_i H d;split at h;exact h.elim;rename_i c;cases h;simp only[C.ab,ag G aj q j e H ⟨ad V i,y,Z⟩ l z d (by simpa using c) rfl,cT,eI];exact h.elim;exact h.elim;rename_i G aj q L w i y l k;rw[k];split at h;rename_i j e z;split at h;rename_i H d;split at h;exact h.elim;rename_i c;cases h;have a1:∀M n,(mX M n).spot=none:=by intro M n;unfold mX;split<;>rfl
 simp only[C.ab,ag G aj q j e H _ l z d (by simpa using c) (a1 _ _),cT,eI];congr 4;unfold mX;split;simp only[Addr.mk.injEq,and_true,true_and];omega;simp only[Addr.mk.injEq,and_true,true_and];omega;exact h.elim;exact h.elim;exact h.elim
end
section
variable{G:ap}{H:World}{D:bI}{P:Program}{u:Ty}{B:lW}{V:ap}{O:ai}{s:S}{a:Act}{W:World}
def ami(Q:ax G H D u V O s a W)(z:ip P u)(w:et B O)(p:F.op=.field X r R)(n:(s.ev B r).ec=E)
  (h:(bT u B s (.field X r R)).gives O M):(execOp a.eval F).run P W=.ok (.value (M.ab O V)) W:=by
 have m:=cK Q w r n;simp only[execOp,p,cZ,m];simp only[bT] at h;split at h;rename_i fs aj q l k j;rw[j];split at h;rename_i o' t' L;split at h;rename_i ti i;split at h;rename_i y g;cases h;obtain⟨N,e,d⟩:=(z _ _ k).desc;rw[<-d,dM] at L;cases A:N.toList[R]? with
 |none=>rw[A] at L;cases L
 |some c=>
  rw[A] at L;simp only[dQ,cg,BH] at L;obtain⟨rfl,rfl⟩:=L;have b:N[R]?=U c:=by simpa using A
  simp only[C.ab,Instr.field,cZ,eB.gp e,cT,b,asAgg,eI,Ul (z _ _ i) g]
 exact h.elim;exact h.elim;exact h.elim;exact h.elim
def amj(R:ax G H D u V O s a W)(ag:ip P u)(hg:et B O){y:Operand}(ho:F.op=.indexAddr X r y)(hk:(s.ev B r).ec=E)(a1:(s.ev B y).ec=E)
  (h:(bT u B s (.indexAddr X r y)).gives O M):(execOp a.eval F).run P W=.ok (.value (M.ab O V)) W:=by
 have he:=cK R hg r hk;have a3:=cK R hg y a1;have al:∀(n:Nat)(e:TypeId)(aj:eG)(q:Bool)(L:TI)(A:Addr)(k:IntKind)(m:Int),u X=U ⟨.arr n e,aj,q⟩->u e=U L->0<=m->m<n->A.spot=Z->
   (Instr.indexAt X (.pointer (U A)) (.int k m)).run P W=.ok (.pointer (U ⟨A.block,A.off+m.toNat*Y L.aj,Z⟩)) W:=by
  intro n e aj q L A k m h1 h2 h3 h4 h5;have hd:P.underlying X=U (.array n e):=(ag _ _ h1).desc;obtain⟨b,of,sp⟩:=A;simp only at h5;subst h5;simp only[Instr.indexAt,asIntOf,cZ,eI,cT,eB.gp hd,Instr.sureAddr,h3,h4,and_self,cH,(ag _ _ h2).lw,tK]
 simp only[execOp,ho,cZ,he,a3];simp only[bT] at h;split at h;rename_i n e aj q i af k m g d hy;rw[d,hy];split at h;rename_i L f;split at h;rename_i z;cases h;simp only[aw,bZ] at z;simp only[C.ab,K.ab,al n e aj q L ⟨ad V i,af,Z⟩ k m g f z.1 z.2 rfl,cT,eI];exact h.elim;exact h.elim;rename_i n e aj q Q w i af k m g d hy;rw[d,hy];have an:∀M n,(mX M n).spot=none:=by intro M n;unfold mX;split<;>rfl
 have a0:∀(M:Value)(p q:Nat),(⟨(mX M p).block,(mX M p).off+q,Z⟩:Addr)=mX M (p+q):=by intro M p q;unfold mX;split<;>simp[DE]
 split at h;rename_i L f;split at h;rename_i hc;obtain⟨N,rfl⟩:=h;rw[GN] at N;simp only[aw,di] at hc;obtain⟨⟨⟨h1,h2⟩,h3⟩,-⟩:=hc;subst h1 h2 h3;simp only[K.ab] at N;simp only[C.ab,al n e aj q L _ k (m.ab O) g f N.1 N.2 (an _ _),cT,eI,a0];simp[K.ab];split at h;rename_i m;split at h;rename_i z;cases h;simp only[aw,bZ] at z;simp only[C.ab,K.ab,al n e aj q L _ k m g f z.1 z.2 (an _ _),cT,eI,a0,DE];exact h.elim;exact h.elim;exact h.elim;rename_i n e aj q Q w i af k m ba g d hy;rw[d,hy];have an:∀M n,(mX M n).spot=none:=by intro M n;unfold mX;split<;>rfl
 have a0:∀(M:Value)(p q:Nat),(⟨(mX M p).block,(mX M p).off+q,Z⟩:Addr)=mX M (p+q):=by intro M p q;unfold mX;split<;>simp[DE]
 split at h;rename_i L f;split at h;rename_i z;cases h;simp only[aw,bZ] at z;simp only[C.ab,K.ab,al n e aj q L _ k m g f z.1 z.2 (an _ _),cT,eI,a0,DE];exact h.elim;exact h.elim;rename_i e aj q Q k m g d hy;rw[d,hy];split at h;rename_i L e' f a4;obtain⟨N,rfl⟩:=h;rw[GN] at N;simp only[K.ab] at N;have hh:=abt (oF R au a4) (m.ab O) N.1 N.2;obtain⟨bb,b,af,-,-,⟨l,c,hv⟩,-⟩:=hh;have hd:P.underlying X=U (.slice e):=(ag _ _ g).desc;rw[hv] at N;simp only[lenOf] at N;simp only[C.ab,RE.ab,hv,Instr.indexAt,asIntOf,cZ,eI,cT,eB.gp hd,N.1,N.2,and_self,cH,(ag _ _ f).lw,tK,mX,uH];exact h.elim;rename_i e aj q i af bc bd k m g d hy;rw[d,hy];split at h;rename_i L f;split at h;rename_i z;cases h;simp only[aw,bZ] at z;have hd:P.underlying X=U (.slice e):=(ag _ _ g).desc;simp only[C.ab,K.ab,Instr.indexAt,asIntOf,cZ,eI,cT,eB.gp hd,z.1,z.2,and_self,cH,(ag _ _ f).lw,tK];exact h.elim;exact h.elim;rename_i n e aj q i af k m bf g d hy;rw[d,hy];split at h;rename_i L f;obtain⟨N,rfl⟩:=h;rw[GN] at N;simp only[K.ab] at N;have a9:(C.fy m (Ad n) ((e8 n).map λj=>C.loc i (af+j*Y L.aj))).ab O V=.pointer (U ⟨ad V i,af+(m.ab O).toNat*Y L.aj,Z⟩):=by
  simp only[C.ab];rw[OD (abm N.1 N.2) rfl];rfl
 rw[a9];simp only[C.ab,al n e aj q L ⟨ad V i,af,Z⟩ k (m.ab O) g f N.1 N.2 rfl,cT,eI];exact h.elim;exact h.elim
def amk(R:ax G H D u V O s a W)(L:ip P u)(hg:et B O){y:Operand}(ho:F.op=.index X r y)(hk:(s.ev B r).ec=E)(an:(s.ev B y).ec=E)
  (h:(bT u B s (.index X r y)).gives O M):(execOp a.eval F).run P W=.ok (.value (M.ab O V)) W:=by
 have he:=cK R hg r hk;have a0:=cK R hg y an;simp only[execOp,ho,cZ,he,a0];simp only[bT] at h;split at h;rename_i n e aj q l k m A w i;rw[w,i];split at h;rename_i b g;split at h;rename_i hm;split at h;rename_i z hp;cases h;simp only[aw,bZ] at hm;have d:P.underlying X=U (.array n e):=(L _ _ A).desc;simp only[C.ab,K.ab,Instr.index,asIntOf,cZ,eI,cT,eB.gp d,hm.1,hm.2,and_self,cH,(L _ _ g).lw,Ul (L _ _ g) hp];exact h.elim;exact h.elim;exact h.elim;rename_i n e aj q l k m ba A w i;rw[w,i];split at h;rename_i b g;split at h;rename_i z c;obtain⟨N,rfl⟩:=h;rw[GN] at N;simp only[K.ab] at N;cases af:BR ((e8 n).map λj=>uO b l (j*Y b.aj)) with
 |none=>rw[af] at c;cases c
 |some ps=>
  rw[af] at c;simp only[Tt] at c;obtain⟨p,a1,a3⟩:=Ur (vs:=e8 n) af (by have:=abm (f:=λj=>j) N.1 N.2;simpa using this);have d:P.underlying X=U (.array n e):=(L _ _ A).desc;rw[abl (tL R) c a3];simp only[C.ab,Instr.index,asIntOf,cZ,eI,cT,eB.gp d,N.1,N.2,and_self,cH,(L _ _ g).lw,Ul (L _ _ g) a1]
 exact h.elim;exact h.elim;rename_i aj q Q k m A w i;rw[w,i];split at h;rename_i a4;obtain⟨N,rfl⟩:=h;rw[GN] at N;obtain⟨ag,al⟩:=B5 R a4;unfold RE.ab at al;have d:P.underlying X=U .string:=(L _ _ A).desc;simp only[K.ab,al,lenOf] at N;have a9:(m.ab O).toNat<ag.size:=aa;simp only[C.ab,RE.ab,al,K.ab,Instr.index,asIntOf,cZ,eI,cT,eB.gp d,N.1,cH,yw];have:ag[(m.ab O).toNat]?=U ag[(m.ab O).toNat]:=by simp[a9]
 rw[this];rfl;exact h.elim;exact h.elim
def aml(X:BinOp)(R:NV X=J)(t:TypeId)(k:IntKind)(m n:Int):(binOp X t (.int k m) (.int k n)).run P W=.ok (.bool (gm X m n)) W:=by
 cases X<;>simp[NV] at R<;>simp[binOp,Op.intCmp,gm]
def amm(X:BinOp)(R:Tx X=J)(t:TypeId)(k:IntKind)(m n:Int):(binOp X t (.int k m) (.int k n)).run P W=.ok (.int k (bH X k m n)) W:=by
 cases X<;>simp[Tx] at R<;>simp[binOp,Op.intArith,Op.intBits,bH]
def abu(X:BinOp)(R:Tz X=J)(t:TypeId)(k:IntKind)(m n:Int)(Q:n≠0):(binOp X t (.int k m) (.int k n)).run P W=.ok (.int k (bH X k m n)) W:=by
 cases X<;>simp[Tz] at R<;>simp[binOp,Op.intDiv,bH,Q]
def Ut(X:BinOp)(t:TypeId)(x y:Operand)(k:IntKind)(n:Int)(w:Value):(eqGuard X t x y (.int k n) w).run P W=.ok () W:=by cases X<;>rfl
def amn(X:BinOp)(t:TypeId)(x y:Operand)(n:Bool)(w:Value):(eqGuard X t x y (.bool n) w).run P W=.ok () W:=by cases X<;>rfl
def abv(X:BinOp)(t:TypeId)(x y:Operand)(n:ByteArray)(w:Value):(eqGuard X t x y (.string n) w).run P W=.ok () W:=by cases X<;>rfl
def abw(R:P.underlying X=U .bool)(m n:Bool):(BL X (.bool m) (.bool n)).run P W=.ok (m==n) W:=by
 have:BL X (.bool m) (.bool n)=zW (9999+1) X (.bool m) (.bool n):=rfl;rw[this,zW,cZ,eB.gp R];rfl
def amo(R:P.underlying X=U .bool)(m n:Bool):(binOp .eql X (.bool m) (.bool n)).run P W=.ok (.bool (m==n)) W:=by
 show((BL X (.bool m) (.bool n))>>=λb=>(pure (.bool b):Sem Value)).run P W=_;rw[cZ,abw R];rfl
def amp(R:P.underlying X=U .bool)(m n:Bool):(binOp .neq X (.bool m) (.bool n)).run P W=.ok (.bool !(m==n)) W:=by
 show((BL X (.bool m) (.bool n))>>=λb=>(pure (.bool !b):Sem Value)).run P W=_;rw[cZ,abw R];rfl
def Uu(R:ip P u)(h:JR (u X)=J):∃a b c,P.underlying X=U (.func a b c):=by
 unfold JR at h;split at h;rename_i k q Q;obtain⟨d,N,⟨-,M⟩,-,-⟩:=(R _ _ Q).desc;obtain⟨a,b,c,rfl⟩:=M k rfl;exact⟨a,b,c,N⟩;cases h
def Uv{x y:Operand}{Q:_}{N:_}{M:_}(L:P.underlying X=U (.func Q N M))(v:Value)(n:Bool)(R:(v=.nilFunc/\n=J)\/(∃f a b,v=.func f a b)/\n=E):
  (do eqGuard .eql X x y v .nilFunc;binOp .eql X v .nilFunc).run P W=.ok (.bool n) W/\(do eqGuard .neq X x y v .nilFunc;binOp .neq X v .nilFunc).run P W=.ok (.bool !n) W:=by
 have H:(BL X v .nilFunc).run P W=.ok n W:=by
  have G:BL X v .nilFunc=zW (9999+1) X v .nilFunc:=rfl;rw[G,zW,cZ,eB.gp L,cT];rcases R with⟨rfl,rfl⟩|⟨⟨f,a,b,rfl⟩,rfl⟩<;>rfl
 rcases R with⟨rfl,rfl⟩|⟨⟨f,a,b,rfl⟩,rfl⟩<;>constructor<;>simp[eqGuard,binOp,H]
def abx{e:K}:∀{ks:aZ}{vs:am},vs.all Gi=J->Y ks=Y vs->
  (jK (e.ab O) ks (C.ay O V vs)=.nilFunc/\(Aa e ks vs).ab O=J)\/((∃f a b,jK (e.ab O) ks (C.ay O V vs)=.func f a b)/\(Aa e ks vs).ab O=E)
 |[],[],_,_=>.inl ⟨rfl,rfl⟩
 |[],_::_,_,h=>by simp at h
 |_::_,[],_,h=>by simp at h
 |k::ks,v::vs,Q,M=>by
  simp only[JK,aw] at Q;have N:=abx (e:=e) (ks:=ks) (vs:=vs) Q.2 (by simpa using M);have R:=Q.1;unfold Gi at R;split at R;rename_i g L;simp only[C.ay,C.ab,jK,Aa,BE.ab,gm,K.ab];by_cases X:e.ab O=k;right;obtain⟨G,a2,F,H⟩:=Ug (C.ay O V L) R;simp[X,ik,H];simp only[X,fH,di];exact N;simp only[C.ay,C.ab,jK,Aa,BE.ab,gm,K.ab];by_cases X:e.ab O=k;left;simp[X,RE.ab,RE.rv,ik];simp only[X,fH,di];exact N;cases R
def amq(R:ax G H D u V O s a W)(l:ip P u)(hg:et B O){w:BinOp}{t2:TypeId}{y:Operand}(ho:F.op=.binOp w X r y t2)(hk:(s.ev B r).ec=E)(af:(s.ev B y).ec=E)
  (h:(bT u B s (.binOp w X r y t2)).gives O M):(execOp a.eval F).run P W=.ok (.value (M.ab O V)) W:=by
 have he:=cK R hg r hk;have ag:=cK R hg y af;simp only[execOp,ho];rw[cZ,he,ag];simp only[bT] at h;split at h;rename_i k m k' n Q N;rw[Q,N];split at h;rename_i al;have an:w=.shr:=by cases w<;>simp[aaP] at al;rfl
 subst an;split at h;rename_i n;split at h;rename_i L;have j:¬n<0:=by simp only[bZ] at L;omega
 cases h;simp only[C.ab,GM,K.ab];rw[cZ,Ut,cT];simp[binOp,Op.shift,bH,j];exact h.elim;obtain⟨L,rfl⟩:=h;have ba:0<=n.ab O:=by
  simp only[BE.ab,K.ab,gm] at L;exact uJ L
 have j:¬n.ab O<0:=aa;simp only[C.ab,GM];rw[cZ,Ut,cT];simp[binOp,Op.shift,bH,j];split at h;exact h.elim;rename_i a0;have a3:k=k':=by simpa using a0
 subst a3;simp only[C.ab];rw[cZ,Ut,cT];split at h;rename_i hc;cases h;simp only[aml w hc,cT,eI,C.ab,Aw];split at h;rename_i hc;cases h;simp only[amm w hc,cT,eI,C.ab,GM];split at h;rename_i hc;split at h;rename_i n;split at h;exact h.elim;rename_i L;cases h;have j:n≠0:=by simpa using L
 simp only[C.ab,GM,K.ab];rw[abu w hc _ _ _ _ j];rfl;obtain⟨hb,rfl⟩:=h;rw[Aw] at hb;have j:n.ab O≠0:=by simpa[gm,K.ab] using hb
 simp only[C.ab,GM];rw[abu w hc _ _ _ _ j];rfl;exact h.elim;rename_i m n Q N;rw[Q,N];simp only[C.ab];rw[cZ,amn,cT];split at h;rename_i q i;cases h;obtain⟨d,A,-,-,hb⟩:=(l _ _ i).desc;rw[hb rfl] at A;rw[amo A];simp[C.ab,Un];rename_i q i;cases h;obtain⟨d,A,-,-,hb⟩:=(l _ _ i).desc;rw[hb rfl] at A;rw[amp A];simp[C.ab,Un,Km];exact h.elim;rename_i Q N;rw[Q,N];split at h;exact h.elim;rename_i z;obtain⟨d1,d2,d3,A⟩:=Uu l (by simpa using z);obtain⟨q1,q2⟩:=Uv (x:=r) (y:=y) (W:=W) A .nilFunc J (.inl ⟨rfl,rfl⟩);have L:C.ab O V (.ah (.k .nilFunc))=.nilFunc:=rfl;rw[L];split at h;cases h;rw[q1];rfl;cases h;rw[q2];rfl;exact h.elim;rename_i m n bb Q N;rw[Q,N];split at h;rename_i g c;cases h;obtain⟨p,b⟩:=B5 R g;obtain⟨q,hq⟩:=B5 R c;simp only[C.ab,b,hq];rw[cZ,abv,cT];unfold RE.ab at b hq;simp[binOp,Op.stringOp,BE.ab,b,hq,tG];rename_i g c;cases h;obtain⟨p,b⟩:=B5 R g;obtain⟨q,hq⟩:=B5 R c;simp only[C.ab,b,hq];rw[cZ,abv,cT];unfold RE.ab at b hq;simp[binOp,Op.stringOp,BE.ab,b,hq,tG];exact h.elim;rename_i f a4 Q N;rw[Q,N];split at h;exact h.elim;rename_i z;simp only[iD,not_or,f9,BC] at z;obtain⟨d1,d2,d3,A⟩:=Uu l z.1;obtain⟨q1,q2⟩:=Uv (x:=r) (y:=y) (W:=W) A ((C.fn f a4).ab O V) E (.inr ⟨let⟨a1,b1,c1,e1⟩:=Ug _ (by simpa using z.2);⟨.func a1,b1,c1,e1⟩,rfl⟩);have L:C.ab O V (.ah (.k .nilFunc))=.nilFunc:=rfl;rw[L];split at h;cases h;rw[q1];rfl;cases h;rw[q2];rfl;exact h.elim;rename_i e ks vs Q N;rw[Q,N];split at h;rename_i z;simp only[aw,di] at z;obtain⟨d1,d2,d3,A⟩:=Uu l z.2;have a9:=abx (O:=O) (V:=V) (e:=e) z.1.1 z.1.2;obtain⟨q1,q2⟩:=Uv (x:=r) (y:=y) (W:=W) A (jK (e.ab O) ks (C.ay O V vs)) ((Aa e ks vs).ab O) a9;have L:C.ab O V (.ah (.k .nilFunc))=.nilFunc:=rfl;rw[L,C.ab];split at h;cases h;rw[q1];rfl;cases h;rw[q2];simp[C.ab,Km];exact h.elim;exact h.elim;rename_i m n Q N;rw[Q,N];simp only[C.ab];split at h;rename_i e he;cases h;obtain⟨aj,d,i,g,c,h3⟩:=abs R he;have:=((l _ _ i).eq rfl _ _ _ r y W g c h3).1;rw[this];rfl;rename_i e he;cases h;obtain⟨aj,d,i,g,c,h3⟩:=abs R he;have:=((l _ _ i).eq rfl _ _ _ r y W g c h3).2;rw[this];simp[C.ab,Km];exact h.elim;exact h.elim
end
section
variable{g:ap}{j:World}{D:bI}{P:Program}{d:Ty}{B:lW}{V:ap}{O:ai}{s:S}{a:Act}{W:World}
def OE(X:∀r:RE,r.DK=J->ik (r.ab O)=J)(h:M.DL=J):(M.ab O V).cells.toList=C.ay O V M.cells:=by
 cases M with
 |agg l=>simp[C.ab,C.cells,Value.cells]
 |ah r=>
  have:ik (r.ab O)=true:=X r (by cases r<;>simp_all[C.DL,RE.DK]);simp only[C.ab,C.cells,C.ay];revert this;cases r.ab O<;>simp[ik,Value.cells]
 |fy e R Q=>
  simp only[C.ab,C.cells,C.ay];exact abg (Uk _ _ _)
 |fn f l=>
  simp only[C.ab,C.cells,C.ay];exact abg (Oq _ _)
 |_=>simp[C.ab,C.cells,Value.cells,C.ay,undef]
def aby:∀(M l:am)(R:Nat),C.ay O V (ko l R M)=(C.ay O V M).zipIdx.foldl (λQ x=>Q.set (R+x.2) x.1) (C.ay O V l)
 |[],l,R=>by simp[ko,C.ay]
 |v::M,l,R=>by
  rw[ko,aby M (l.set R v) (R+1)];simp only[C.ay,List.zipIdx_cons,BF,uH,gV];rw[show C.ay O V (l.set R v)=(C.ay O V l).set R (v.ab O V) by simp[nx]];generalize(C.ay O V l).set R (v.ab O V)=X;have:∀(N:eX)(n:Nat)(X:eX),(N.zipIdx n).foldl (λQ x=>Q.set (R+1+x.2) x.1) X=(N.zipIdx (n+1)).foldl (λQ x=>Q.set (R+x.2) x.1) X:=by
   intro N;induction N with
   |nil=>intro n X;rfl
   |cons w N L=>intro n X;simp only[List.zipIdx_cons,BF];rw[L,show R+1+n=R+(n+1) from aa]
  exact this _ 0 X
def abz:∀(l:List (Value×Nat))(R:Nat)(X:kH),(l.foldl (λQ (x:Value×Nat)=>Q.setIfInBounds (R+x.2) x.1) X).toList=l.foldl (λQ x=>Q.set (R+x.2) x.1) X.toList
 |[],_,_=>rfl
 |x::l,R,X=>by simp only[BF];rw[abz l R];simp
def Kq(R:∀r:RE,r.DK=J->ik (r.ab O)=J)(place:Nat->Option (Nat×Nat)):∀(parts:List (Nat×C))(cells l:am),v8 place cells parts=U l->
  Instr.fill place (C.ay O V cells).toArray (parts.map λp=>(p.1,p.2.ab O V))=U (C.ay O V l).toArray
 |[],cells,l,h=>by simp[v8] at h;simp[Instr.fill,h]
 |(i,v)::L,cells,l,h=>by
  simp only[v8] at h;cases X:place i with
  |none=>rw[X] at h;cases h
  |some q=>
   obtain⟨Q,H⟩:=q;rw[X] at h;simp only at h;split at h;cases h;rename_i N;simp only[iD,bne_iff_ne,bZ,f9,not_or,BC,Decidable.not_not,Nat.not_lt] at N;obtain⟨⟨G,y⟩,F⟩:=N;have M:=OE (V:=V) R F;have B:(v.ab O V).cells.size=H:=by rw[<-BA,M];simp[G]
   simp only[ep,Instr.fill,X,B];rw[aJ dG];have A:=Kq R place L _ l h;rw[<-A];congr 1;apply kG;have e:((v.ab O V).cells.zipIdx.foldl (λz (x:Value×Nat)=>z.setIfInBounds (Q+x.2) x.1) (C.ay O V cells).toArray).toList=C.ay O V (ko cells Q v.cells):=by
    rw[<-axo,abz,aby,Array.toList_zipIdx,M]
   simpa using e
def amr(c:CT):(zY c).ab O V=pw c:=by cases c<;>simp[zY,C.ab,pw,K.ab,BE.ab,RE.ab,RE.rv]
def abA(X:TI):C.ay O V (dV X)=X.aj.map pw:=by
 simp only[dV,nx,mT];congr 1;funext c;exact amr c
def GQ(h:eB P X v):∃z,(zeroValue X).run P W=.ok z W/\z.cells=(C.ay O V (dV v)).toArray:=by
 obtain⟨i,R,-,z,Q,N⟩:=h.GK;exact⟨z,by simp[zeroValue,typeInfo,R,Q],by rw[abA,<-N]⟩
def ams(R:ax g j D d V O s a W)(H:ip P d)(hg:et B O){parts:Array (Nat×Operand)}(ho:F.op=.build X parts)(hk:∀p∈parts.toList,(s.ev B p.2).ec=E)
  (h:(bT d B s (.build X parts)).gives O M):(execOp a.eval F).run P W=.ok (.value (M.ab O V)) W:=by
 have b:(parts.map λ(i,x)=>(i,a.eval x)).toList=(parts.toList.map λp=>(p.1,s.ev B p.2)).map λp=>(p.1,p.2.ab O V):=by
  simp only[th,mT];apply jh;intro p hp;simp[cK R hg p.2 (hk p hp)]
 simp only[execOp,ho,cZ];simp only[bT] at h;split at h;rename_i y aj q G;split at h;exact h.elim;rename_i u;have u:∀f∈y,(d f.2).isSome=true:=by
  have:(y.all λf=>(d f.2).isSome)=true:=by simpa only[f9,BC] using u
  exact eO.1 this
 split at h;rename_i l N;cases h;obtain⟨Q,hF,af⟩:=(H _ _ G).desc;obtain⟨z,r,k⟩:=GQ (P:=P) (W:=W) (O:=O) (V:=V) (H _ _ G);have al:∀(L:List Field),(∀f∈L,∃A,d f.type=U A)->(L.mapM (m:=Sem) λf=>do pure (f.offset,<-Go.sizeOf f.type)).run P W=.ok (L.map λf=>(f.offset,((d f.type).map (·.aj.length)).getD 0)) W:=by
  intro L hL;induction L with
  |nil=>rfl
  |cons f L ih=>
   obtain⟨A,w⟩:=hL f au;have:=ih (λf N=>hL f (by simp[N]));simp only[alC,cZ,(H _ _ w).lw,cT,eI,this,ep,w,dQ,nl]
 have ag:∀f∈Q.toList,∃A,d f.type=U A:=by
  intro f N;have:(f.offset,f.type)∈y:=by rw[<-af];exact gL.2 ⟨f,N,rfl⟩
  have:=u _ this;exact jw.1 this
 have hm:=al Q.toList ag;have c:=Kq (V:=V) (tL R) _ _ _ _ N;simp only[Instr.build,cZ,r,cT,eB.gp hF,awZ,Sem.run_map,hm,b,k];have an:(λi=>(Q.toList.map λf=>(f.offset,((d f.type).map (·.aj.length)).getD 0)).toArray[i]?)=TA d y:=by
  funext i;rw[<-af,TA];simp only[aay,dM];cases hi:Q.toList[i]? with
  |none=>simp
  |some f=>
   obtain⟨A,w⟩:=ag f (iU hi);simp[w]
 rw[an,c];simp[C.ab];exact h.elim;rename_i n e aj q G;split at h;rename_i te a0;split at h;rename_i l N;cases h;obtain⟨z,r,k⟩:=GQ (P:=P) (W:=W) (O:=O) (V:=V) (H _ _ G);have hd:P.underlying X=U (.array n e):=(H _ _ G).desc;have c:=Kq (V:=V) (tL R) _ _ _ _ N;simp only[Instr.build,cZ,r,cT,eB.gp hd,(H _ _ a0).lw,b,k,c];simp[C.ab];exact h.elim;exact h.elim;exact h.elim
def amt(R:ax g j D d V O s a W)(z:ip P d)(hg:et B O){p f mx:Option Operand}(ho:F.op=.slice X r p f mx)(hk:(s.ev B r).ec=E)(an:∀y,p=U y->(s.ev B y).ec=E)
  (h:(bT d B s (.slice X r p f mx)).gives O M):(execOp a.eval F).run P W=.ok (.value (M.ab O V)) W:=by
 have he:=cK R hg r hk;simp only[execOp,ho,cZ,he];simp only[bT] at h;split at h;rename_i n e aj q i a0 ht hx;rw[hx];have c:P.underlying X=U (.array n e):=(z _ _ ht).desc;split at h;rename_i te G N w;cases h;have a1:p=none:=by simpa using N
 have ag:f=none:=by simpa using w
 subst a1 ag;simp[C.ab,Instr.sliceAt,eB.gp c,Instr.sureAddr,Instr.sliceBounds,(z _ _ G).lw,tK];rename_i te k l G N w;split at h;rename_i H;cases h;simp only[aw,bZ] at H;have ag:f=none:=by simpa using w
 subst ag;cases p with
 |none=>cases N
 |some y=>
  simp only[dQ,cg] at N;have L:=cK R hg y (an y rfl);rw[N] at L;have a3:l<=n:=aa;have a4:¬n=l.toNat:=aa;simp[C.ab,K.ab,Instr.sliceAt,eB.gp c,Instr.sureAddr,Instr.sliceBounds,Instr.sliceBound,asIntOf,L,H.1,a3,(z _ _ G).lw,tK,a4]
 exact h.elim;exact h.elim;rename_i e aj q Q m ht hx;rw[hx];have c:P.underlying X=U (.slice e):=(z _ _ ht).desc;split at h;rename_i hh qq N w;cases f with
 |none=>cases N
 |some y=>
  simp only[dQ,cg] at N;have L:=cK R hg y (by rw[N];rfl);have u:=cK R hg m (by rw[w];rfl);rw[N] at L;rw[w] at u;split at h;rename_i hn;split at h;rename_i H;cases h;simp only[aw] at H;obtain⟨⟨c1,c2⟩,c3⟩:=H;obtain⟨te,G⟩:=jw.1 c3;rw[K.bD _ _ c1] at L;rw[K.bD _ _ c2] at u;unfold RE.isNil at hn;split at hn;simp[C.ab,RE.ab,RE.rv,K.ab,Instr.sliceAt,eB.gp c,Instr.slice,Instr.sliceBounds,Instr.sliceBound,asIntOf,L,u,(z _ _ G).lw];cases hn;exact h.elim;split at h;rename_i a9;split at h;rename_i H;cases h;simp only[aw] at H;obtain⟨⟨c1,c2⟩,c3⟩:=H;obtain⟨te,G⟩:=jw.1 c3;rw[K.bD _ _ c1] at L;rw[K.bD _ _ c2] at u;have hl:=oF R au a9;obtain⟨rv,af⟩:∃rv,Q.rv O=rv:=⟨_,rfl⟩;rw[af] at hl;cases hl with
  |sl _ A n ba bb g1 g2 g3 _ _ _=>
   have hv:Q.ab O=.slice A n ba:=by unfold RE.ab;rw[af];rfl
   have bc:(K.len Q).ab O=(n:Int):=by simp only[K.ab];rw[af];rfl
   simp only[C.ab,bc] at L u;have hA:(if n=0 then A else A.map (·.add (0*Y te.aj)))=A:=by
    split;rfl;obtain⟨al,bd⟩:∃al,bb[0]?=U al:=⟨_,ce aa⟩;obtain⟨-,b,a0,rfl,-⟩:=g3 0 al bd;simp[tK]
   have bf:(C.fn 3000000 [.ah Q]).ab O V=.slice A n n:=by
    show Ue (Q.rv O).val=_;rw[af];rfl
   rw[bf];simp[C.ab,hv,Instr.sliceAt,eB.gp c,Instr.slice,Instr.sliceBounds,Instr.sliceBound,asIntOf,L,u,(z _ _ G).lw,g2];simpa using hA
  exact h.elim;exact h.elim
 exact h.elim;exact h.elim
def amu(R:ax g j D d V O s a W)(y:ip P d)(p:et B O){c:Call}(m:F.op=.call c)(u:c.callee=.builtin .len)(k:∀x∈c.args.toList,(s.ev B x).ec=E)
  (h:(bT d B s (.call c)).gives O M):(execOp a.eval F).run P W=.ok (.value (M.ab O V)) W:=by
 have f:c.args.map a.eval=((c.args.toList.map (s.ev B)).map (C.ab O V)).toArray:=by
  apply kG;simp only[th,mT];exact jh λx b=>cK R p x (k x b)
 simp only[execOp,m,resolve,u,cZ,eI,cT,invoke,builtin,f];simp only[bT,u] at h;split at h;rename_i t L H;have N:c.argTypes[0]?=U t:=by have:=ji (λl=>l[0]?) L;simpa using this
 rw[H];split at h;rename_i e aj q X;cases h;have Q:P.underlying t=U (.slice e):=(y _ _ X).desc;simp[Builtin.len_,N,C.ab,K.ab,RE.ab,RE.rv,eB.gp Q,goInt];exact h.elim;rename_i t r af L H;have N:c.argTypes[0]?=U t:=by have:=ji (λl=>l[0]?) L;simpa using this
 rw[H];split at h;rename_i e aj q e' X w;cases h;have Q:P.underlying t=U (.slice e):=(y _ _ X).desc;obtain⟨A,l,cc,G⟩:=Ko R w;have z:=G;unfold RE.ab at z;simp[Builtin.len_,N,C.ab,K.ab,G,z,eB.gp Q,lenOf,goInt];rename_i aj q X w;cases h;have Q:P.underlying t=U .string:=(y _ _ X).desc;obtain⟨ag,G⟩:=B5 R w;have z:=G;unfold RE.ab at z;simp[Builtin.len_,N,C.ab,K.ab,G,z,eB.gp Q,lenOf,goInt];exact h.elim;rename_i t i al n an L H;have N:c.argTypes[0]?=U t:=by have:=ji (λl=>l[0]?) L;simpa using this
 rw[H];split at h;rename_i e aj q X;cases h;have Q:P.underlying t=U (.slice e):=(y _ _ X).desc;simp[Builtin.len_,N,C.ab,K.ab,eB.gp Q,goInt];exact h.elim;exact h.elim
def abB(R:ax g j D d V O s a W)(G:et B O){c:Call}(L:F.op=.call c)(X:c.callee=.builtin .min\/c.callee=.builtin .max)(A:∀x∈c.args.toList,(s.ev B x).ec=E)
  (h:(bT d B s (.call c)).gives O M):(execOp a.eval F).run P W=.ok (.value (M.ab O V)) W:=by
 have H:c.args.map a.eval=((c.args.toList.map (s.ev B)).map (C.ab O V)).toArray:=by
  apply kG;simp only[th,mT];exact jh λx z=>cK R G x (A x z)
 rcases X with X|X;simp only[execOp,L,resolve,X,cZ,eI,cT,invoke,builtin,H];simp only[bT,X] at h;split at h;rename_i k x l Q;rw[Q];split at h;rename_i e N;cases h;have:=Uo (P:=P) (W:=W) (O:=O) (V:=V) E k l x e N;simp only[iC,fH] at this;simp only[ep,C.ab,Builtin.min_,<-nx,this,cT];exact h.elim;exact h.elim;simp only[execOp,L,resolve,X,cZ,eI,cT,invoke,builtin,H];simp only[bT,X] at h;split at h;rename_i k x l Q;rw[Q];split at h;rename_i e N;cases h;have:=Uo (P:=P) (W:=W) (O:=O) (V:=V) J k l x e N;simp only[cH] at this;simp only[ep,C.ab,Builtin.max_,<-nx,this,cT];exact h.elim;exact h.elim
end
section
variable{g:ap}{A:World}{D:bI}{P:Program}{f:Ty}{B:lW}{V:ap}{O:ai}{s:S}{a:Act}{W:World}
def Uw{l:aZ}(h:t=E->Y l=1):uZ (gf t l)=l:=by
 cases t;obtain⟨x,rfl⟩:=nj.1 (h rfl);rfl;simp[gf,uZ,Function.comp_def,bF]
def Ux{x y z:K}(h:DO R t M=U (x,y,z)):M.ab O V=gf t ([x.ab O,y.ab O,z.ab O].take R)/\([x.ab O,y.ab O,z.ab O].take R).length=R:=by
 unfold DO at h;split at h;split at h;rename_i X;cases h;simp only[aw,di,f9] at X;obtain⟨rfl,rfl⟩:=X;simp[gf,C.ab];cases h;split at h;rename_i X;cases h;simp only[aw,di] at X;obtain⟨rfl,rfl⟩:=X;simp[gf,C.ab,C.ay];cases h;split at h;rename_i X;cases h;simp only[aw,di] at X;obtain⟨rfl,rfl⟩:=X;simp[gf,C.ab,C.ay];cases h;split at h;rename_i X;cases h;simp only[aw,di] at X;obtain⟨rfl,rfl⟩:=X;simp[gf,C.ab,C.ay];cases h;cases h
def Uy:∀{l:qL}{m:Nat}{e:MapEntry},e∈fK m l->∃p∈l,e.key=p.1
 |[],m,e,h=>by simp[fK] at h
 |x::r,m,e,h=>by
  simp only[fK,dJ] at h;rcases h with rfl|h;exact⟨x,au,rfl⟩;obtain⟨p,X,R⟩:=Uy h;exact⟨p,by simp[X],R⟩
def B6(n:Nat)(X:aC):Prop:=∃l:aZ,Y l=n/\X.take n=l.map λx=>.mk (.int I x) []
def Kr{ag:Bool}(M:ag=E->R=1){X:aC}(h:B6 R X):∃l:aZ,Y l=R/\po ag (X.take R)=gf ag l/\(X.take R).map (λc=>bF c.val)=l:=by
 obtain⟨l,Q,N⟩:=h;refine⟨l,Q, ?_,by rw[N];simp[Function.comp_def,bF]⟩;rw[N];cases ag;obtain⟨x,rfl⟩:=nj.1 (Q.trans (M rfl));rfl;simp[po,gf,Function.comp_def]
def abC{n:Nat}{Q va:Bool}(N:Q=E->n=1){R:aZ}(H:(R.take n).length=n):∀{rows:aq}{m i:Nat},(∀X∈rows,B6 n X)->
  (gD n R rows=Z/\mZ (R.take n) (fK m (rows.map (tI n Q va))) i=Z)\/∃X j,gD n R rows=U X/\X∈rows/\mZ (R.take n) (fK m (rows.map (tI n Q va))) i=U (j,po va (X.drop n))
 |[],m,i,_=>.inl ⟨rfl,rfl⟩
 |X::rows,m,i,h=>by
  obtain⟨l,G,F,B⟩:=Kr (ag:=Q) N (h X au);simp only[gD,Ga,ep,fK,mZ,tI,F];rw[Uw (λe=>G.trans (N e))];have A:jJ n R X=decide (l=R.take n):=by simp only[jJ,B]
  rw[A];by_cases L:l=R.take n;right;simp only[L,decide_true,cH];exact⟨X,i,rfl,au,rfl⟩;simp only[L,decide_false,fH];rcases abC (rows:=rows) (m:=m+1) (i:=i+1) (va:=va) N H (λr z=>h r (by simp[z])) with M|⟨r,j,M,y,x⟩;exact .inl M;exact .inr ⟨r,j,M,by simp[y],x⟩
def abD(O:ai)(V:ap){k e:TypeId}(F:P.underlying X=U (.map k e))(B:rZ P k R t)(A:eB P e v){l:qL}(y:W.heap[Q]?=U (oC l)){L:aZ}(u:Y L=R)
  (q:∀p∈l,∃M:aZ,Y M=R/\p.1=gf t M)(H:Bool):
  ∃z,(zeroValue e).run P W=.ok z W/\(Instr.lookup X (.map (U Q)) (gf t L) H).run P W=.ok (let r:=match mZ L (fK 0 l) 0 with
   |U (_,N)=>(N,J)
   |none=>(z,E);if H then .tuple #[r.1,.bool r.2] else r.1) W:=by
 obtain⟨z,G,af⟩:=GQ (P:=P) (W:=W) (O:=O) (V:=V) A;refine⟨z,G, ?_⟩;have o:∀x∈fK 0 l,∃M:aZ,Y M=R/\x.key=gf t M:=λx m=>by
  obtain⟨p,i,h⟩:=Uy m;obtain⟨M,g,f⟩:=q p i;exact⟨M,g,h.trans f⟩
 obtain⟨d,c⟩:=B.2 L (fK 0 l) W u o;have hg:=MapKept.run_getObj_map (P:=P) (w:=W) y;simp only[Instr.lookup,cZ,eB.gp F,cT,hg,eI,d,c];cases hf:mZ L (fK 0 l) 0 with
 |none=>simp[G]
 |some p=>obtain⟨j,N⟩:=p;simp
structure El(f:Ty)(sh:Sh)(row:aC):Prop where
 len:Y row=(bm f (.mr sh)).length
 int:∀(j:Nat)(c:RV)(k:IntKind),row[j]?=U c->(bm f (.mr sh))[j]?=U (.int k)->∃n,c=.mk (.int k n) []
 bool:∀(j:Nat)(c:RV),row[j]?=U c->(bm f (.mr sh))[j]?=U .bool->∃x,c=.mk (.bool x) []
def amv{R:Sh}(h:bu W f (.mr R) L):∀X∈L.ae,El f R X:=by
 cases h with
 |mr R A H G F z=>
  intro X B;obtain⟨i,Q⟩:=qI B;exact⟨H i X Q,λj c k N M=>G i j X c k Q N M,λj c N M=>F i j X c Q N M⟩
def Em(R:ax g A D f V O s a W){X:Sh}{r:RE}(h:r.nq f s X=J):∀Q∈(r.rv O).ae,El f X Q:=by
 unfold RE.nq at h;rcases alp.1 h with h|h;exact amv (oF R au (uJ h));unfold RE.nil at h;split at h;intro Q N;simp[RE.rv] at N;cases h
def GR{e:TypeId}{va:Bool}(Q:qN f X R t=J)(M:f e=U v):∃N:eG,bm f (.mr ⟨X,e,R,t,va⟩)=N++v.aj/\Y N=R/\∀c∈N,c=.int I:=by
 unfold qN at Q;split at Q;rename_i tk L;simp only[aw,di] at Q;refine⟨tk.aj,by simp[bm,L,M],Q.1.1,λc H=> ?_⟩;have:=eO.1 Q.1.2 c H;unfold TE at this;split at this;rfl;cases this;cases Q
def GS{e:TypeId}{N:Bool}(G:qN f X R t=J)(F:f e=U v){Q:aC}(h:El f ⟨X,e,R,t,N⟩ Q):B6 R Q:=by
 obtain⟨u,M,B,A⟩:=GR (va:=N) G F;have z:=h.len;rw[M,fQ,B] at z;refine⟨(Q.take R).map λc=>bF c.val,dG, ?_⟩;apply jV;intro j;rw[dM,dM,lT];by_cases L:j<R;rw[aE L];have H:j<Y Q:=aa;rw[ce H];have y:(bm f (.mr ⟨X,e,R,t,N⟩))[j]?=U (.int I):=by
  rw[M,dF aa,ce aa];congr 1;exact A _ (pN _)
 obtain⟨x,w⟩:=h.int j _ I (ce H) y;simp only[dQ,w,RV.l9,bF];rw[aJ L];rfl
def Uz{r:RE}{n:Nat}{x y z:K}{R:aC}(L:gD n [x.ab O,y.ab O,z.ab O] (r.rv O).ae=U R):∀{aj:eG}{j:Nat},aj.all lX=J->Y R=j+Y aj->
  (∀(i:Nat)(k:IntKind),aj[i]?=U (.int k)->∃m,R[j+i]?=U (.mk (.int k m) []))->(∀(i:Nat),aj[i]?=U .bool->∃m,R[j+i]?=U (.mk (.bool m) []))->
  C.ay O V (pf r n x y z j aj)=(R.drop j).map RV.val
 |[],j,_,Q,_,_=>by rw[alj (by simp at Q;omega)];rfl
 |.int k::aj,j,N,Q,H,G=>by
  obtain⟨m,X⟩:=H 0 k rfl;have F:=Uz L (aj:=aj) (j:=j+1) (by simpa[lX] using N) (by simp at Q⊢;omega) (λi k h=>by have:=H (i+1) k (by simpa using h);rwa [show j+(i+1)=j+1+i from aa] at this) (λi h=>by have:=G (i+1) (by simpa using h);rwa [show j+(i+1)=j+1+i from aa] at this);have B:R.drop j=.mk (.int k m) []::R.drop (j+1):=by
   rw[uH] at X;have M:=(bJ.1 X).1;rw[Dv M];congr 1;rw[ce M] at X;simpa using X
  rw[uH] at X;simp only[pf,C.ay,C.ab,K.ab,L,F,B,ep,RV.l9,cw,X,nl,bF]
 |.bool::aj,j,N,Q,H,G=>by
  obtain⟨m,X⟩:=G 0 rfl;have F:=Uz L (aj:=aj) (j:=j+1) (by simpa[lX] using N) (by simp at Q⊢;omega) (λi k h=>by have:=H (i+1) k (by simpa using h);rwa [show j+(i+1)=j+1+i from aa] at this) (λi h=>by have:=G (i+1) (by simpa using h);rwa [show j+(i+1)=j+1+i from aa] at this);have B:R.drop j=.mk (.bool m) []::R.drop (j+1):=by
   rw[uH] at X;have M:=(bJ.1 X).1;rw[Dv M];congr 1;rw[ce M] at X;simpa using X
  rw[uH] at X;simp only[pf,C.ay,C.ab,BE.ab,L,F,B,ep,RV.l9,cw,X,nl,iF]
 |.ac _ _::aj,j,N,_,_,_=>by simp[lX] at N
def UA{r:RE}{n:Nat}{x y z:K}(R:gD n [x.ab O,y.ab O,z.ab O] (r.rv O).ae=Z):∀{aj:eG}{j:Nat},aj.all lX=J->C.ay O V (pf r n x y z j aj)=aj.map pw
 |[],j,_=>rfl
 |.int k::aj,j,X=>by
  simp only[pf,C.ay,C.ab,K.ab,R,ep,pw,UA R (aj:=aj) (j:=j+1) (by simpa[lX] using X)]
 |.bool::aj,j,X=>by
  simp only[pf,C.ay,C.ab,BE.ab,R,ep,pw,UA R (aj:=aj) (j:=j+1) (by simpa[lX] using X)]
 |.ac _ _::aj,j,X=>by simp[lX] at X
def OF{r:RE}{n:Nat}{x y z:K}:∀{aj:eG}{j:Nat},(pf r n x y z j aj).length=Y aj
 |[],j=>rfl
 |.int _::aj,j=>by simp[pf,OF (aj:=aj)]
 |.bool::aj,j=>by simp[pf,OF (aj:=aj)]
 |.ac _ _::aj,j=>by simp[pf,OF (aj:=aj)]
def UB(h:eB P X v)(R:(zeroValue X).run P W=.ok b W):b=if v.d.isAgg then .agg (v.aj.map pw).toArray else(v.aj.map pw).headD undef:=by
 obtain⟨i,Q,-,M,N,L⟩:=h.GK;have H:b=M:=by simp[zeroValue,typeInfo,Q,N] at R;exact R.symm
 subst H;have G:=h.abh i b Q N;rw[<-G,<-L];cases b<;>simp[Ow,Value.cells]
def yz(h:eB P X v)(Q:v.d.isAgg=E):Y v.aj=1:=by
 obtain⟨i,N,H,z,M,L⟩:=h.GK;have:=h.abh i z N M;rw[Q] at this;have R:=ji Y L;simp only[o8] at R;rw[<-R];cases z<;>simp[Ow] at this<;>rfl
def GU:∀{R:am}{X:aZ},ph R=U X->At (C.ay O V R)=(X.zip (lj R)).map (λp=>(.int I p.1,p.2.ab O V))/\Y X=(lj R).length
 |[],X,h=>by simp[ph] at h;subst h;exact⟨rfl,rfl⟩
 |[v],X,h=>by unfold ph at h;split at h<;>simp_all
 |u::v::r,X,h=>by
  unfold ph at h;split at h;rename_i Q;cases Q;rename_i k H G Q;cases Q;cases N:ph r with
  |none=>rw[N] at h;cases h
  |some F=>
   rw[N] at h;simp only[dQ,cg] at h;subst h;obtain⟨M,L⟩:=GU N;exact⟨by simp only[C.ay,C.ab,K.ab,At,M,lj,To,ep],by simp[lj,L]⟩
  cases h
def abE{x:Int}:∀{ks:aZ}{vs:am}{m i:Nat},(mZ [x] (fK m ((ks.zip vs).map λp=>(.int I p.1,p.2.ab O V))) i).map (·.2)=(ez x ks vs).map (C.ab O V)
 |[],vs,m,i=>by simp[fK,mZ,ez]
 |_::_,[],m,i=>by simp[fK,mZ,ez]
 |k::ks,v::vs,m,i=>by
  simp only[To,ep,fK,mZ,uZ,uG,and_true,ez];by_cases h:x=k;subst h;simp;rw[aJ (λe=>h e.symm),aJ h];exact abE
def B7{r:RE}{X:Bool}:kO tj (C.dw O V [.ah r,.int I (.c (R:Int)),.bool (.c t),.bool (.c X)])=oC ((r.rv O).ae.map (tI R t X)):=by
 simp[kO,tj,rL,C.dw,C.gc,C.ab,K.ab,BE.ab]
def B8:kO rL (C.dw O V w)=oC (At (C.ay O V w)):=by
 simp only[kO,cH,abe]
def amw(R:ax g A D f V O s a W)(a9:ip P f)(hg:et B O){ix:Operand}(ho:F.op=.lookup X r ix t)(hk:(s.ev B r).ec=E)(b2:(s.ev B ix).ec=E)
  (h:(bT f B s (.lookup X r ix t)).gives O M):(execOp a.eval F).run P W=.ok (.value (M.ab O V)) W:=by
 have he:=cK R hg r hk;have b3:=cK R hg ix b2;simp only[execOp,ho,cZ,he,b3];simp only[bT] at h;split at h;rename_i k e n ag aj q i ht hx;rw[hx];have hd:P.underlying X=U (.map k e):=(a9 _ _ ht).desc;have hK:rZ P k n ag:=(a9 _ _ ht).key k e n ag rfl;unfold NY at h;split at h;rename_i N H xb xc bt cs g1 g2 g3;have af:=a9 _ _ g1;split at h;exact h.elim;rename_i a3;have a3:qN f k n ag=true:=by simpa using a3
 obtain⟨b4,ba⟩:=Ux (O:=O) (V:=V) g2;have an:=R.mem.box i bt cs g3;simp only[C.ab,b4];split at h;rename_i a0;simp only[di] at a0;subst a0;split at h;rename_i Q nk ka va;split at h;rename_i bg;simp only[aw,di] at bg;obtain⟨⟨⟨⟨⟨c1,c2⟩,c3⟩,c4⟩,c5⟩,-⟩:=bg;subst c2 c3 c4;rw[B7] at an;have bk:=Em R c1;have bl:∀G∈(Q.rv O).ae,B6 n G:=λG hr=>GS a3 g1 (bk G hr)
 obtain⟨z,hz,bb⟩:=abD O V hd hK af an ba (λp hp=>by
  obtain⟨G,hr,rfl⟩:=gL.1 hp;obtain⟨l,q1,q2,-⟩:=Kr hK.1 (bl G hr);exact⟨l,q1,q2⟩) t
 rw[bb];simp only[NX,PR.gives] at h;subst h;have a4:N.d.isAgg=E->(pf Q n H xb xc n N.aj).length=1:=λha=>by rw[OF];exact yz af ha
 rcases abC (m:=0) (i:=0) (va:=N.d.isAgg) hK.1 ba bl with⟨f1,f2⟩|⟨G,j,f1,f2,f3⟩;have hv:(qM N.d.isAgg (pf Q n H xb xc n N.aj)).ab O V=z:=by
  rw[Ax a4,UA f1 c5];exact(UB af hz).symm
 simp only[f2];cases t;simp only[iC,fH,hv];rfl;simp only[cH,C.ab,C.ay,hv,BE.ab,f1];rfl;obtain⟨kc,r1,r2,r3⟩:=GR (va:=N.d.isAgg) a3 g1;have bc:=bk G f2;have b5:Y G=n+Y N.aj:=by rw[bc.len,r1,fQ,r2]
 have br:∀(m:Nat)(ct:CT),N.aj[m]?=U ct->(bm f (.mr ⟨k,e,n,_,N.d.isAgg⟩))[n+m]?=U ct:=λm ct hm=>by
  rw[r1,gK aa,r2,show n+m-n=m from aa];exact hm
 have bs:∀(m:Nat)(ct:CT),N.aj[m]?=U ct->∃c,G[n+m]?=U c:=λm ct hm=>by
  have:m<Y N.aj:=(bJ.1 hm).1;exact⟨G[n+m]' aa,ce _⟩
 have b6:=Uz (V:=V) f1 (aj:=N.aj) (j:=n) c5 b5 (λm kk hm=>by
  obtain⟨c,hc⟩:=bs m _ hm;obtain⟨x',bd⟩:=bc.int (n+m) c kk hc (br m _ hm);exact⟨x',by rw[hc,bd]⟩) (λm hm=>by
  obtain⟨c,hc⟩:=bs m _ hm;obtain⟨x',bd⟩:=bc.bool (n+m) c hc (br m _ hm);exact⟨x',by rw[hc,bd]⟩)
 have hv:(qM N.d.isAgg (pf Q n H xb xc n N.aj)).ab O V=po N.d.isAgg (G.drop n):=by
  rw[Ax a4,b6,po];cases b7:N.d.isAgg;have h1:=yz af b7;obtain⟨c,hc⟩:=nj.1 (show(G.drop n).length=1 from dG);rw[hc];rfl;rfl
 simp only[f3];cases t;simp only[iC,fH,hv];rfl;simp only[cH,C.ab,C.ay,hv,BE.ab,f1];rfl;exact h.elim;exact h.elim;split at h;rename_i a0;simp only[di] at a0;subst a0;split at h;rename_i bx;simp only[aw,di,f9] at bx;obtain⟨rfl,rfl⟩:=bx;rw[B8] at an;split at h;rename_i v0 y L;simp only[NX,PR.gives] at h;subst h;unfold aaQ at L;split at L;rename_i ks b8;obtain⟨p1,p2⟩:=GU (O:=O) (V:=V) b8;rw[p1] at an;obtain⟨z,hz,bb⟩:=abD O V hd hK af an ba (λp hp=>by
  obtain⟨u,b,rfl⟩:=gL.1 hp;exact⟨[u.1],rfl,rfl⟩) t
 rw[bb];have al:=abE (O:=O) (V:=V) (x:=H.ab O) (ks:=ks) (vs:=lj cs) (m:=0) (i:=0);have b0:(∀u,ez (H.ab O) ks (lj cs)=U u->v0.ab O V=u.ab O V/\y.ab O=J)/\(ez (H.ab O) ks (lj cs)=Z->v0.ab O V=z/\y.ab O=E):=by
  split at L;rename_i x0;simp only[K.ab] at*;split at L;rename_i u b;cases L;exact⟨λu' a1=>by rw[b] at a1;cases a1;exact⟨rfl,rfl⟩,λhn=>by rw[b] at hn;cases hn⟩;rename_i b;cases L;refine⟨λu' a1=>(by rw[b] at a1;cases a1),λ_=>⟨?_,rfl⟩⟩;rw[Ax (λha=>by simp[dV];exact yz af ha),abA];exact(UB af hz).symm;rename_i cf;split at L;rename_i ca;cases bf:Ac H ks ((lj cs).map C.cells) 0 N.aj with
  |none=>rw[bf] at L;cases L
  |some l=>
   rw[bf] at L;simp only[dQ,cg,BH] at L;obtain⟨rfl,rfl⟩:=L;obtain⟨s0,s1,s2⟩:=Oz (O:=O) (V:=V) bf;rw[Oy] at s1 s2;have a4:N.d.isAgg=E->Y l=1:=λha=>by rw[s0];exact yz af ha
   rw[Ax a4,OA p2];refine⟨λu b=> ?_,λb=> ?_⟩;have b1:=eO.1 ca u (GO b);have cc:Y u.cells=0+Y N.aj:=by
    simp only[xY,aw,di] at b1;omega
   rw[s1 u.cells (by rw[b];rfl) cc,b,OC (tL R) b1];exact⟨rfl,rfl⟩;rw[s2 (by rw[b];rfl),b];exact⟨(UB af hz).symm,rfl⟩
  cases L
 have hL:[H.ab O,xb.ab O,xc.ab O].take 1=[H.ab O]:=rfl;rw[hL] at*;cases hp:ez (H.ab O) ks (lj cs) with
 |some u=>
  rw[hp] at al;obtain⟨q1,q2⟩:=b0.1 u hp;cases hf:mZ [H.ab O] (fK 0 ((ks.zip (lj cs)).map λp=>(.int I p.1,p.2.ab O V))) 0 with
  |none=>rw[hf] at al;cases al
  |some jv=>
   obtain⟨j,w⟩:=jv;rw[hf] at al;simp only[dQ,cg] at al;subst al;cases t;simp only[iC,fH,q1];rfl;simp only[cH,C.ab,C.ay,q1,q2];rfl
 |none=>
  rw[hp] at al;obtain⟨q1,q2⟩:=b0.2 hp;cases hf:mZ [H.ab O] (fK 0 ((ks.zip (lj cs)).map λp=>(.int I p.1,p.2.ab O V))) 0 with
  |some jv=>rw[hf] at al;cases al
  |none=>
   cases t;simp only[iC,fH,q1];rfl;simp only[cH,C.ab,C.ay,q1,q2];rfl
 cases L;exact h.elim;exact h.elim;exact h.elim;exact h.elim;exact h.elim
end
section
variable{j:ap}{u:World}{D:bI}{P:Program}{g:Ty}{B:lW}{V:ap}{O:ai}{s:S}{a:Act}{W:World}
def abF(R:ax j u D g V O s a W)(G:ip P g)(N:et B O)(o:Oper)(X:∀x∈o.op.operands.toList,(s.ev B x).ec=E)
  (h:(bT g B s o.op).gives O M):(execOp a.eval o).run P W=.ok (.value (M.ab O V)) W:=by
 cases Q:o.op with
 |move x=>
  rw[Q] at h X;have H:=cK R N x (X x bS);simp only[bT,PR.gives] at h;simp[execOp,Q,H,h]
 |assign x=>
  rw[Q] at h X;have H:=cK R N x (X x bS);simp only[bT,PR.gives] at h;simp[execOp,Q,H,h]
 |pick c x y=>
  rw[Q] at h X;have A:=cK R N c (X c bS);have L:=cK R N x (X x bS);have hy:=cK R N y (X y bS);simp only[bT] at h;split at h;rename_i a4;cases h;rw[a4] at A;simp[execOp,Q,A,L,C.ab,BE.ab,asBool];rename_i a4;cases h;rw[a4] at A;simp[execOp,Q,A,hy,C.ab,BE.ab,asBool];exact h.elim
 |load t x=>rw[Q] at h X;exact amg R G N Q (X x bS) h
 |fieldAddr t x f=>rw[Q] at h X;exact amh R G N Q (X x bS) h
 |field t x f=>rw[Q] at h X;exact ami R G N Q (X x bS) h
 |indexAddr t x y=>rw[Q] at h X;exact amj R G N Q (X x bS) (X y bS) h
 |index t x y=>rw[Q] at h X;exact amk R G N Q (X x bS) (X y bS) h
 |binOp op t x y t2=>rw[Q] at h X;exact amq R G N Q (X x bS) (X y bS) h
 |unOp op t x=>
  rw[Q] at h X;have H:=cK R N x (X x bS);simp only[bT] at h;split at h;rename_i b L;cases h;simp[execOp,Q,H,L,C.ab,Op.unary,Km];rename_i k e L;cases h;simp[execOp,Q,H,L,C.ab,Op.unary,Op.intArith,GM,bH,K.ab];exact h.elim
 |convert t1 t2 x=>
  rw[Q] at h X;have H:=cK R N x (X x bS);simp only[bT] at h;split at h;rename_i k1 q1 k2 q2 k n h1 h2 L;cases h;obtain⟨d1,an,-,a9,-⟩:=(G _ _ h1).desc;obtain⟨d2,a0,-,ba,-⟩:=(G _ _ h2).desc;rw[a9 _ rfl] at an;rw[ba _ rfl] at a0;simp[execOp,Q,H,L,C.ab,convert,eB.gp an,eB.gp a0,Conv.intToInt,K.ab];rename_i k1 q1 k2 q2 k n hn h1 h2 L;cases h;obtain⟨d1,an,-,a9,-⟩:=(G _ _ h1).desc;obtain⟨d2,a0,-,ba,-⟩:=(G _ _ h2).desc;rw[a9 _ rfl] at an;rw[ba _ rfl] at a0;simp[execOp,Q,H,L,C.ab,convert,eB.gp an,eB.gp a0,Conv.intToInt,K.ab];exact h.elim
 |makeInterface t x=>
  rw[Q] at h X;have H:=cK R N x (X x bS);simp only[bT] at h;split at h;exact h.elim;rename_i ti bf ht;cases h;have hd:=(G _ _ ht).desc;have ag:∀d,P.underlying t=U d->(∀m,d≠ .interface m)->(Instr.makeInterface t (a.eval x)).run P W=.ok (.iface t (a.eval x)) W:=by
   intro d h1 h2;simp only[Instr.makeInterface,cZ,eB.gp h1,cT];cases d<;>first|rfl|exact bp rfl (h2 _)
  have:(Instr.makeInterface t (a.eval x)).run P W=.ok (.iface t (a.eval x)) W:=by
   obtain⟨d,aj,q⟩:=ti;cases d with
   |one=>obtain⟨d,h1,⟨h2,-⟩,-⟩:=hd;exact ag d h1 (λm z=>by rw[z] at h2;exact h2)
   |fT=>exact bp rfl (bf _ _)
   |str=>exact ag _ hd (λm z=>by cases z)
   |slice e=>exact ag _ hd (λm z=>by cases z)
   |arr n e=>exact ag _ hd (λm z=>by cases z)
   |struct fs=>obtain⟨F,h1,-⟩:=hd;exact ag _ h1 (λm z=>by cases z)
   |map k e=>exact ag _ hd (λm z=>by cases z)
  rw[H] at this;simp[execOp,Q,H,this,C.ab];exact h.elim
 |makeFunc fn first al=>
  rw[Q] at h X;simp only[bT] at h;split at h;rename_i f hf;cases af:iW f 1000000;rw[af] at h;exact h.elim;rw[af] at h;cases h;have bb:first= #[]:=by apply kG;simpa using hf
  subst bb;have bc:al.map a.eval=(C.ay O V (al.toList.map (s.ev B))).toArray:=by
   apply kG;simp only[th,nx,mT];exact jh λx L=>cK R N x (X x (by simp[gu];simpa using L))
  simp[execOp,Q,Instr.makeFunc,C.ab,bc,Uf af];rename_i f x hf;cases af:iW f 1000000;rw[af] at h;exact h.elim;rw[af] at h;cases h;have bb:first= #[x]:=by apply kG;simpa using hf
  subst bb;have bc:al.map a.eval=(C.ay O V (al.toList.map (s.ev B))).toArray:=by
   apply kG;simp only[th,nx,mT];exact jh λx L=>cK R N x (X x (by simp[gu];exact .inr (by simpa using L)))
  have L:=cK R N x (X x bS);have hb:iW (f+1000000) 1000000=false:=by
   rw[<-aaD,Nat.blt_eq];omega
  have bg:iW (f+1000000) 2000000=true:=by
   rw[Nat.blt_eq] at af⊢;omega
  simp[execOp,Q,Instr.makeFunc,C.ab,C.ay,bc,L,uY,hb,bg];exact h.elim
 |extract x i=>
  rw[Q] at h X;have H:=cK R N x (X x bS);simp only[bT] at h;split at h;rename_i l L;split at h;rename_i y hy;simp only[PR.gives] at h;subst h;have:(C.ay O V l).toArray[i]?=U (M.ab O V):=by simp[qV,hy]
  simp[execOp,Q,H,L,C.ab,Instr.extract,this,-aay];exact h.elim;exact h.elim
 |nilCheck x=>
  rw[Q] at h X;have H:=cK R N x (X x bS);simp only[bT] at h;split at h;rename_i i bk L;cases h;simp[execOp,Q,H,L,C.ab];rename_i r w i bk L;cases h;simp[execOp,Q,H,L,C.ab];rename_i f al L;cases af:iW f 2000000;rw[af] at h;exact h.elim;rw[af] at h;cases h;obtain⟨a1,a2,a3,e1⟩:=Ug (C.ay O V al) af;simp[execOp,Q,H,L,C.ab,e1];exact h.elim
 |slice t x lo hi mx=>
  rw[Q] at h X;exact amt R G N Q (X x bS) (λy hy=>X y (by subst hy;simp[gu])) h
 |build t parts=>
  rw[Q] at h X;exact ams R G N Q (λp hp=>X p.2 (by simp[gu];exact⟨p.1,by simpa using hp⟩)) h
 |lookup t x ix ok=>
  rw[Q] at h X;exact amw R G N Q (X x bS) (X ix bS) h
 |call c=>
  rw[Q] at h X;have bd:∀x∈c.args.toList,(s.ev B x).ec=false:=λx L=>X x (by simp[gu,xS];exact .inr (by simpa using L))
  cases A:c.callee with
  |builtin b=>
   cases b with
   |len=>exact amu R G N Q A bd h
   |min=>exact abB R N Q (.inl A) bd h
   |max=>exact abB R N Q (.inr A) bd h
   |_=>simp only[bT,A,PR.gives] at h
  |value f=>simp only[bT,A,PR.gives] at h
  |invoke r m=>simp only[bT,A,PR.gives] at h
 |_=>rw[Q] at h;simp only[bT,PR.gives] at h
end
section
variable{p:ap}{q:World}{D:bI}{P:Program}{f:Ty}{B:lW}{V:ap}{O:ai}{s:S}{a:Act}{W:World}
def yA{o:Obj}(h:N.heap[R]?=U o):R<N.heap.size:=(jg.1 h).1
def dR.world{X:rK}{R:yv}{W':World}(h:dR q D X y R N)(Q:∀(b:Nat)(o:Obj),N.heap[b]?=U o->(∀L t H,o≠ .cells L t H)->W'.heap[b]?=U o):dR q D X y R W':=
 ⟨h.len,h.oD,λn l r G F B=>let⟨a,b,c⟩:=h.cV n l r G F B;⟨a,Q _ _ b (λ_ _ _ h=>by cases h),c⟩,h.inj,let⟨A,a,z,b,c⟩:=h.kQ;⟨A,a,z,b,λd M=>⟨Q _ _ (c d M).1 (λ_ _ _ h=>by cases h),(c d M).2⟩⟩⟩
def GV:Obj->Bool
 |.loop _|.deferred _=>J
 |_=>E
def abG{o:Obj}(h:GV o=J):∀X t R,o≠ .cells X t R:=λX t R e=>by subst e;cases h
def abH{o:Obj}(h:GV o=J):∀t l,o≠kO t l:=by
 intro t l e;subst e;unfold kO at h;split at h;cases h;split at h;split at h<;>cases h;split at h;split at h<;>cases h;cases h
def dR.amx{X:rK}{R:yv}{Q:World}(h:dR q D X y R N)(M:∀(b:Nat)(o:Obj),N.heap[b]?=U o->GV o=J->Q.heap[b]?=U o):dR q D X y R Q:=
 ⟨h.len,h.oD,λn l r H G F=>let⟨a,b,c⟩:=h.cV n l r H G F;⟨a,M _ _ b rfl,c⟩,h.inj,let⟨B,a,A,b,c⟩:=h.kQ;⟨B,a,A,b,λd L=>⟨M _ _ (c d L).1 rfl,(c d L).2⟩⟩⟩
def dR.below{X:rK}{R:yv}{Q:World}(h:dR q D X y R N)(L:Below N.heap.size N Q):dR q D X y R Q:=
 h.world λb o M _=>(L.block b (yA M)).trans M
def dR.cells{M:rK}{L:yv}{H:World}(h:dR q D M y L N){G:kH}{F:Nat×Nat}(B:N.heap[R]?=U (.cells G X F))(A:∀b,b≠R->b<N.heap.size->H.heap[b]?=N.heap[b]?):dR q D M y L H:=
 h.world λb o Q z=>(A b (λe=>by subst e;rw[B] at Q;cases Q;exact z _ _ _ rfl) (yA Q)).trans Q
def bu.GX{B:World}(h:bu N f z L)(y:∀b,dL f z L b->B.heap[b]?=N.heap[b]?)(hs:N.heap.size<=B.heap.size):bu B f z L:=by
 induction h with
 |sl e A Q p M x w u g d ho t=>
  refine bu.sl e A Q p M x w (λi H R=> ?_) g d (λi j H c X o R G n=>t i j H c X o R G n (λb r=>y b (dL.deep e _ _ i j H c X o b R G n r)));obtain⟨q1,b,m,rfl,⟨jM,t0,af,q2⟩,q3⟩:=u i H R;have ag:0<Q:=by have:=(bJ.1 R).1;omega
  obtain⟨q,rfl⟩:∃q,Q=q+1:=⟨Q-1,aa⟩;have F:=y b (dL.here e ⟨b,m,Z⟩ q p M);refine⟨q1,b,m,rfl,⟨jM,t0,af,F.trans q2⟩,λj c G=> ?_⟩;have l:=q3 j c G;simp only[mC,F] at l⊢;exact l
 |str s=>exact bu.str s
 |ac v hv=>exact bu.ac v hv
 |own e L h hn t=>exact bu.own e L (t λb r=>y b (dL.own e L b r)) hn
 |ao L h=>exact bu.ao L h
 |mr sh M x w u F=>exact bu.mr sh M x w u F
def bu.lt(h:bu N f z L)(Q:dL f z L R):R<N.heap.size:=by
 induction h generalizing R with
 |sl e A q p M o n G m g d H=>
  cases Q with
  |here e a l c M=>
   have F:0<Y M:=aa;obtain⟨-,R,af,B,⟨_,_,_,y⟩,-⟩:=G 0 _ (ce F);cases B;exact yA y
  |deep e v M i j x c X z R w u t r=>exact H i j x c X z w u t r
 |str s=>cases Q
 |ac v hv=>cases Q
 |own e L h hn H=>cases Q with
  |own e L R Q=>exact H Q
 |ao L h=>cases Q
 |mr sh M=>cases Q
def bu.grow{G:World}(h:bu N f z L)(x:Below N.heap.size N G):bu G f z L:=by
 induction h with
 |sl e A w u X R Q M t r ho H=>
  refine bu.sl e A w u X R Q (λi q p=> ?_) t r H;obtain⟨o,b,n,rfl,⟨jM,m,l,F⟩,g⟩:=M i q p;have B:=x.block b (yA F);refine⟨o,b,n,rfl,⟨jM,m,l,B.trans F⟩,λj c d=> ?_⟩;have y:=g j c d;simp only[mC,B] at y⊢;exact y
 |str s=>exact bu.str s
 |ac v hv=>exact bu.ac v hv
 |own e L h hn H=>exact bu.own e L H hn
 |ao L h=>exact bu.ao L h
 |mr sh X R Q M h4=>exact bu.mr sh X R Q M h4
def i8.lt{Q:aY}(X:i8 p q V O x f Q W)(h:aF x R=J):ad V R<W.heap.size:=by
 unfold aF at h;obtain⟨⟨t,N⟩,M⟩:=jw.1 h;exact(jg.1 (X.box R t N M)).1
def i8.below{Q:aY}(R:i8 p q V O x f Q W)(X:Below W.heap.size W N):i8 p q V O x f Q N:=by
 refine⟨R.base.call X,R.own,R.inj,λi t M h=> ?_,λk e L H G=> ?_⟩;rw[X.block _ (R.lt (by simp[aF,h]))];exact R.box i t M h;obtain⟨F,B⟩:=R.ah k e L H G;exact⟨F.grow X,B⟩
def wt.lt{N:aY}(h:wt p q V O x f N W R X L Q):Q<W.heap.size:=by
 obtain⟨H,G,cJ,-,M,-⟩:=h.mem;exact(jg.1 M).1
def wt.world{N:aY}{W':World}(h:wt p q V O x f N W R X L Q)(M:W'.heap[Q]?=W.heap[Q]?):wt p q V O x f N W' R X L Q:=by
 obtain⟨H,G,cJ,F,B,A⟩:=h.mem;exact⟨h.own,⟨H,G,cJ,F,M.trans B,A⟩,h.box,h.alone,h.inner⟩
def ax.below{Q:World}(R:ax p q D f V O s a W)(X:Below W.heap.size W Q):ax p q D f V O s a Q:=
 ⟨R.mem.below X,R.fM,R.ei,R.eb,R.er,R.cQ.below X,R.size,R.tmps,λk e N b M L H=>let t:=R.fz k e N b M L H;t.world (X.block b t.lt)⟩
def ax.put(R:ax p q D f V O s a W)(X:bX)(v:C):ax p q D f V O (s.put X v) (a.put X (v.ab O V)) W:=by
 cases X with
 |none=>exact R
 |some d=>
  refine⟨R.mem,R.fM,R.ei,R.eb,R.er,R.cQ,by simp[S.put,tw,Act.put,R.size],λt M h=> ?_,R.fz⟩;simp only[S.put,tw,td] at h;simp only[Act.put];split at h;rename_i Q;subst Q;split at h;rename_i L;cases h;right;have:d<a.tmps.size:=by rw[R.size];exact L
  simp[this];cases h;rename_i Q;rcases R.tmps t M h with N|N;exact .inl N;right;rw[aav Q];exact N
def ax.wv(R:ax p q D f V O s a W)(X:s.bd=J):C.dA (Y O.i) (Y O.b) (Y O.r) (aF s.ak) s.tmps=J/\C.pj (Y O.i) (Y O.b) (Y O.r) (aF s.ak) s.ak=true:=by
 simp only[S.bd,aw] at X;rw[R.ei,R.eb,R.er];exact X
structure mI(bx:bn)(O O':ai)(V V':ap):Prop where
 agree:gW O O' (Y O.i) (Y O.b) (Y O.r)
 li:Y O.i<=Y O'.i
 lb:Y O.b<=Y O'.b
 lr:Y O.r<=Y O'.r
 ad:∀k,aF bx k=J->ad V' k=ad V k
def mI.refl(X:bn)(O:ai)(V:ap):mI X O O V V:=⟨gW.refl _ _ _ _,bU _,bU _,bU _,λ_ _=>rfl⟩
def mI.trans{X R:bn}{O Q N:ai}{V M L:ap}(h:mI X O Q V M)(k:mI R Q N M L)(G:∀i,aF X i=J->aF R i=J):mI X O N V L:=
 ⟨h.agree.trans (k.agree.mono h.li h.lb h.lr),pP h.li k.li,pP h.lb k.lb,pP h.lr k.lr,λj H=>(k.ad j (G j H)).trans (h.ad j H)⟩
def amy(O:ai)(x:XV):Y O.i<=(O.add x).i.length/\Y O.b<=(O.add x).b.length/\Y O.r<=(O.add x).r.length:=by cases x<;>simp[ai.add]
def OG:∀(X:aX)(O:ai),Y O.i<=(O.ext X).i.length/\Y O.b<=(O.ext X).b.length/\Y O.r<=(O.ext X).r.length
 |[],O=>by simp[ai.ext]
 |x::X,O=>by
  have R:=amy O x;have Q:=OG X (O.add x);simp only[ai.ext];omega
def Ay(R:bn)(O:ai)(X:aX)(V:ap):mI R O (O.ext X) V V:=by
 have h:=OG X O;exact⟨B4 X O,h.1,h.2.1,h.2.2,λ_ _=>rfl⟩
def mI.ab{X:ai}{R:ap}(h:mI x l X y R)(Q:M.bd (Y l.i) (Y l.b) (Y l.r) (aF x)=J):M.ab X R=M.ab l y:=C.dS h.agree h.ad M Q
def mI.ay{X:ai}{R:ap}(h:mI x l X y R)(Q:C.dA (Y l.i) (Y l.b) (Y l.r) (aF x) w=J):C.ay X R w=C.ay l y w:=C.GJ h.agree h.ad w Q
def mI.dw{X:ai}{R:ap}(h:mI x l X y R)(Q:C.dA (Y l.i) (Y l.b) (Y l.r) (aF x) w=J):C.dw X R w=C.dw l y w:=Kl h.agree h.ad w Q
def et.ext{R:ai}{M:ap}(h:et B l)(Q:mI x l R y M):et B R:=by
 intro X L;obtain⟨N,H⟩:=h X L;exact⟨Tn N Q.lr,by rw[Q.agree.r _ N];exact H⟩
def Az(h:i≠R):ad (y.set R Q) i=ad y i:=by simp[ad,pM (Ne.symm h)]
def AA(h:R<Y y):ad (y.set R Q) R=Q:=by simp[ad,h]
def qY(h:oA x R X=J):fA x R=true:=by simp only[oA,aw] at h;exact h.1
def GY(h:oA x R X=J):ow X=false:=by simp only[oA,aw,f9] at h;exact h.2
def mc(h:fA x R=J):aF x R=E/\R<Y x:=by
 unfold fA at h;split at h;rename_i X;exact⟨by simp[aF,cj,X],(bJ.1 X).1⟩;cases h
def abI(h:fA x R=J)(O:ai)(V:ap)(X:Nat):mI x O O V (V.set R X):=
 ⟨gW.refl _ _ _ _,bU _,bU _,bU _,λk Q=>Az (λe=>by subst e;rw[(mc h).1] at Q;cases Q)⟩
def ww{X:Option (TypeId×am)}(h:Q≠R):bM (x.set R X) Q=bM x Q:=by simp[cj,pM (Ne.symm h)]
def En{X:TypeId×am}(h:R<Y x):bM (x.set R (U X)) R=U X:=by simp[cj,h]
def nX{X:TypeId×am}(h:R<Y x):aF (x.set R (U X)) Q=J<->Q=R\/aF x Q=true:=by
 by_cases N:Q=R;subst N;simp[aF,En h];simp[aF,ww N,N]
def ax.alloc(R:ax p q D f V O s a W){n:Nat}(v:fA s.ak n=J)(t:TypeId)(F:am)(G:s.eD F=J):
  ax p q D f (V.set n W.heap.size) O (s.cU n t F) a (W.alloc (kO t (C.dw O V F))):=by
 simp only[S.eD,aw] at G;obtain⟨B,G⟩:=G;obtain⟨r,o⟩:=R.wv B;rw[<-R.ei,<-R.eb,<-R.er] at G;obtain⟨m,M⟩:=mc v;have y:=abI v O V W.heap.size;have A:Below W.heap.size W (W.alloc (kO t (C.dw O V F))):=(Below.refl _ _).alloc (bU _) _;have H:n<Y V:=by rw[R.fM];exact M
 have L:∀i,aF s.ak i=J->i≠n:=λi Q e=>by subst e;rw[m] at Q;cases Q
 refine⟨⟨R.mem.base.alloc _, ?_, ?_, ?_, ?_⟩,by simp[S.cU,R.fM],R.ei,R.eb,R.er,R.cQ.below A,R.size, ?_,λk e x b X N z=> ?_⟩;intro i Q;rcases(nX M).1 Q with rfl|h;rw[AA H];exact .inl R.mem.base.size;rw[Az (L i h)];exact R.mem.own i h;intro i j Q u h;rcases(nX M).1 Q with rfl|X;rcases(nX M).1 u with rfl|N;rfl;rw[AA H,Az (L j N)] at h;have:=R.mem.lt N;omega;rcases(nX M).1 u with rfl|N;rw[AA H,Az (L i X)] at h;have:=R.mem.lt X;omega;rw[Az (L i X),Az (L j N)] at h;exact R.mem.inj i j X N h;intro i w l h;by_cases X:i=n;subst X;rw[S.cU,En M] at h;simp only[cg,BH] at h;obtain⟨rfl,rfl⟩:=h;rw[AA H,y.dw G];exact NG W _;rw[S.cU,ww X] at h;rw[Az X,A.block _ (R.mem.lt (by simp[aF,h])),y.dw (qX o h)];exact R.mem.box i w l h;intro k e x X N;obtain⟨z,g⟩:=R.mem.ah k e x X N;refine⟨z.grow A,λb B i Q=> ?_⟩;rcases(nX M).1 Q with rfl|h;rw[AA H];have:=z.lt B;omega;rw[Az (L i h)];exact g b B i h;intro w d h;rcases R.tmps w d h with X|X;exact .inl X;right;rw[y.ab (tJ r h)];exact X;have t:=R.fz k e x b X N z;obtain⟨c,af,cJ,q1,q2,q3⟩:=t.mem;refine⟨t.own,⟨c,af,cJ,q1,(A.block b t.lt).trans q2,q3⟩,λi Q=> ?_,t.alone,t.inner⟩;rcases(nX M).1 Q with rfl|h;rw[AA H];have:=t.lt;omega;rw[Az (L i h)];exact t.box i h
def wz(l:eX)(X:Nat):eX->eX
 |[]=>l
 |v::r=>wz (l.set X v) (X+1) r
def UC:∀(R l:eX)(X:Nat),(wz l X R).length=Y l
 |[],l,X=>rfl
 |v::R,l,X=>by rw[wz,UC];simp
def abJ:∀(X l:am)(R:Nat),C.ay O V (ko l R X)=wz (C.ay O V l) R (C.ay O V X)
 |[],l,R=>rfl
 |v::X,l,R=>by
  rw[ko,abJ X,C.ay,wz];congr 1;simp[nx]
def abK(h:ik b=J):b.oneCell'=true:=by cases b<;>simp_all[ik,Value.oneCell']
def UD(b X:Nat)(t:TypeId):∀(Q:eX)(i:Nat)(cJ:kH)(W:World),W.heap[b]?=U (.cells cJ t (0,0))->X+i+Y Q<=cJ.size->(∀v∈Q,ik v=J)->
  ∃R,(storeCells ⟨b,X,Z⟩ Q i).run P W=.ok () R/\R.heap[b]?=U (.cells (wz cJ.toList (X+i) Q).toArray t (0,0))/\(∀k,k≠b->R.heap[k]?=W.heap[k]?)/\R.heap.size=W.heap.size/\R.os=W.os/\R.tape=W.tape/\R.output=W.output
 |[],i,cJ,W,N,_,_=>⟨W,rfl,by simpa[wz] using N,λ_ _=>rfl,rfl,rfl,rfl,rfl⟩
 |v::Q,i,cJ,W,N,H,M=>by
  simp only[pO] at H;have G:X+i<cJ.size:=aa;have F:W.cell? ⟨b,X+i,Z⟩=U cJ[X+i]:=by simp[mC,N,G]
  have B:W.frozen? ⟨b,X+i,Z⟩=false:=by simp[NR,N]
  have A:(store ((⟨b,X,Z⟩:Addr).add i) v).run P W=.ok () (W.setCell ⟨b,X+i,Z⟩ v):=by
   rw[tK,run_store P W _ v _ (abK (M v au)),F];simp[B]
  have z:(W.setCell ⟨b,X+i,Z⟩ v).heap[b]?=U (.cells (cJ.setIfInBounds (X+i) v) t (0,0)):=by
   simp[NQ,JB,N]
  obtain⟨R,y,w,u,r,q,p,o⟩:=UD b X t Q (i+1) (cJ.setIfInBounds (X+i) v) (W.setCell ⟨b,X+i,Z⟩ v) z dG (λx n=>M x (by simp[n]));refine⟨R,by simp only[storeCells,cZ,A,cT,y], ?_,λk L=>(u k L).trans (Below.heap_setCell _ _ _ _ L),r.trans (by simp[NQ]),q,p,o⟩;rw[w,wz];simp[DE]
def abL(R:ax p q D f V O s a W):∀{l:am},BO l=J->∀v∈C.ay O V l,ik v=J
 |[],_,v,X=>by simp[C.ay] at X
 |x::N,h,v,X=>by
  simp only[NU,aw] at h;simp only[C.ay,dJ] at X;rcases X with rfl|X;have Q:=h.1;cases x<;>simp[C.single] at Q<;>try rfl
  rename_i r;exact tL R r (by cases r<;>simp_all[RE.DK]);simp only[C.ab];exact Oq _ _;simp only[C.ab];exact Uk _ _ _;exact abL R h.2 v X
def ax.store(Q:ax p q D f V O s a W){H:TypeId}{z:TI}(d:eB P X z){off:Nat}{v:C}(M:bM s.ak R=U (H,w))(o:ow H=E)(c:Y v.cells=Y z.aj)(ho:off+Y v.cells<=Y w)(hs:BO v.cells=J)(n:(v.ab O V).cells.toList=C.ay O V v.cells):
  ∃G,(Instr.storeAt X (.pointer (U ⟨ad V R,off,Z⟩)) (v.ab O V)).run P W=.ok () G/\ax p q D f V O (s.cU R H (ko w off v.cells)) a G:=by
 have y:=Q.mem.box R H w M;rw[pu o] at y;obtain⟨G,h1,h2,F,h4,h5,h6,h7⟩:=UD (P:=P) (ad V R) off H (C.ay O V v.cells) 0 _ W y dG (abL Q hs);have af:(v.ab O V).cells.size=Y z.aj:=by rw[<-BA,n];simp[c]
 have m:R<Y s.ak:=(bJ.1 (jl.1 M)).1;have B:aF s.ak R=true:=by simp[aF,M]
 have A:∀j,aF (s.ak.set R (U (H,ko w off v.cells))) j=J->aF s.ak j=true:=λj N=>by
  rcases(nX m).1 N with rfl|h;exact B;exact h
 refine⟨G, ?_,⟨⟨?_,λj N=>Q.mem.own j (A j N),λj k N x=>Q.mem.inj j k (A j N) (A k x), ?_, ?_⟩,by simpa[S.cU] using Q.fM,Q.ei,Q.eb,Q.er,Q.cQ.cells y (λb M _=>F b M),Q.size,Q.tmps,λk e u b q1 q2 q3=> ?_⟩⟩;simp only[Instr.storeAt,Instr.sureAddr,storeVar,cZ,eI,cT,d.lw,af,n,ne_eq,not_true_eq_false,fH,h1];refine⟨h5.trans Q.mem.base.os,h6.trans Q.mem.base.tape,h7.trans Q.mem.base.output,by rw[h4];exact Q.mem.base.size,λk x l=> ?_⟩;have ag:k≠ad V R:=by
  rintro rfl;rcases Q.mem.own R B with h|h;omega;exact l h
 rw[F k ag];exact Q.mem.base.block k x l;intro j L al N;by_cases r:j=R;subst r;rw[S.cU,En m] at N;simp only[cg,BH] at N;obtain⟨rfl,rfl⟩:=N;rw[h2,pu o,abJ];simp;rw[S.cU,ww r] at N;rw[F _ (λh=>r (Q.mem.inj j R (by simp[aF,N]) B h))];exact Q.mem.box j L al N;intro k e u an a0;obtain⟨a1,g⟩:=Q.mem.ah k e u an a0;exact⟨a1.GX (λb M=>F b (λh=>g b M R B h.symm)) aa,λb M j N=>g b M j (A j N)⟩;have X:=Q.fz k e u b q1 q2 q3;have L:=X.world (W':=G) (F b (λh=>X.box R B h.symm));exact⟨L.own,L.mem,λj N=>L.box j (A j N),L.alone,L.inner⟩
end
def G0(X:ap):∀(l:aY)(n i:Nat),(iw X n l)[i]?=(l[i]?).map λx=>if X.contains (n+i) then .ao else x
 |[],n,i=>by simp[iw]
 |x::R,n,0=>by simp[iw]
 |x::R,n,i+1=>by
  simp only[iw,qH];rw[G0 X R (n+1) i,show n+1+i=n+(i+1) from aa]
def G1(X:ap):∀(l:aY)(n i:Nat),(jz X n l)[i]?=(l[i]?).map (wc (X.contains (n+i)))
 |[],n,i=>by simp[jz]
 |x::R,n,0=>by simp[jz]
 |x::R,n,i+1=>by
  simp only[jz,qH];rw[G1 X R (n+1) i,show n+1+i=n+(i+1) from aa]
def UE(X:ap):∀(l:aY)(n i:Nat),(Ae X n l)[i]?=(l[i]?).map (JU (X.contains (n+i)))
 |[],n,i=>by simp[Ae]
 |x::R,n,0=>by simp[Ae]
 |x::R,n,i+1=>by
  simp only[Ae,qH];rw[UE X R (n+1) i,show n+1+i=n+(i+1) from aa]
def yB(X:ap):∀(l:aY)(n:Nat),(iw X n l).length=Y l
 |[],n=>rfl
 |x::R,n=>by simp[iw,yB X R (n+1)]
def yC(X:ap):∀(l:aY)(n:Nat),(jz X n l).length=Y l
 |[],n=>rfl
 |x::R,n=>by simp[jz,yC X R (n+1)]
def abM(X:ap):∀(l:aY)(n:Nat),(Ae X n l).length=Y l
 |[],n=>rfl
 |x::R,n=>by simp[Ae,abM X R (n+1)]
def px(e X:RK):Prop:=X=e\/X=.ao\/∃t,e=.own t/\X=.sl t
structure oG(rs rs':aY):Prop where
 len:Y rs'=Y rs
 get:∀(k:Nat)(e':RK),rs'[k]?=U e'->∃e,rs[k]?=U e/\px e e'
def oG.refl(X:aY):oG X X:=⟨rfl,λk e h=>⟨e,h,.inl rfl⟩⟩
def px.trans{b c:RK}(h:px z b)(k:px b c):px z c:=by
 rcases k with rfl|rfl|⟨t,rfl,rfl⟩;exact h;exact .inr (.inl rfl);rcases h with h|h|⟨R,Q,X⟩;exact .inr (.inr ⟨t,h.symm,rfl⟩);cases h;cases X
def oG.trans{a b c:aY}(h:oG a b)(k:oG b c):oG a c:=
 ⟨k.len.trans h.len,λi e X=>let⟨R,Q,N⟩:=k.get i e X;let⟨M,L,H⟩:=h.get i R Q;⟨M,L,H.trans N⟩⟩
def amz(b:Bool)(e:RK):px e (wc b e):=by
 cases e<;>simp only[wc]
 case own t=>cases b;exact .inl rfl;exact .inr (.inr ⟨t,rfl,rfl⟩)
 all_goals exact .inl rfl
def abN(b:Bool)(e:RK):px e (JU b e):=by
 cases e<;>simp only[JU]
 case own t=>cases b;exact .inr (.inl rfl);exact .inr (.inr ⟨t,rfl,rfl⟩)
 all_goals exact .inl rfl
def Ks(Q:ap)(X:aY):oG X (jz Q 0 X):=by
 refine⟨yC _ _ _,λk N h=> ?_⟩;rw[G1] at h;cases R:X[k]? with
 |none=>rw[R] at h;cases h
 |some e=>rw[R] at h;simp only[dQ,cg] at h;exact⟨e,rfl,h▸amz _ e⟩
def abO(Q:ap)(X:aY):oG X (Ae Q 0 X):=by
 refine⟨abM _ _ _,λk N h=> ?_⟩;rw[UE] at h;cases R:X[k]? with
 |none=>rw[R] at h;cases h
 |some e=>rw[R] at h;simp only[dQ,cg] at h;exact⟨e,rfl,h▸abN _ e⟩
def bu.lx{X:RK}(h:bu N n z L)(w:px z X):bu N n X L:=by
 rcases w with rfl|rfl|⟨t,rfl,rfl⟩;exact h;exact bu.ao L (GP h);exact abq h
def dL.lx{X:RK}(w:px z X)(h:dL n X L R):dL n z L R:=by
 rcases w with rfl|rfl|⟨t,rfl,rfl⟩;exact h;cases h;exact dL.own _ _ _ h
def wq.lx{d:Ty}{e R:RK}{Q:RV}{b:Nat}(w:px e R)(h:wq d R Q b):wq d e Q b:=by
 rcases h with h|⟨⟨t,rfl⟩,h⟩;exact .inl (h.lx w);rcases w with rfl|X|⟨N,_,X⟩;exact .inr ⟨⟨t,rfl⟩,h⟩;cases X;cases X
def px.own(w:px z (.own X)):z=.own X:=by
 rcases w with h|h|⟨R,_,h⟩;exact h.symm;cases h;cases h
section
variable{p:ap}{q:World}{D:bI}{P:Program}{d:Ty}{B:lW}{V:ap}{O:ai}{s:S}{a:Act}{W:World}
def i8.lx{X:bn}{Q N:aY}(R:i8 p q V O X d Q W)(h:oG Q N):i8 p q V O X d N W:=
 ⟨R.base,R.own,R.inj,R.box,λk e M B L=>let⟨H,G,F⟩:=h.get k e B;⟨(R.ah k H M G L).1.lx F,λb A i z=>(R.ah k H M G L).2 b (A.lx F) i z⟩⟩
def ax.lx(R:ax p q D d V O s a W){X:aY}(h:oG s.rs X):ax p q D d V O {s with rs:=X} a W:=by
 refine⟨R.mem.lx h,R.fM,R.ei,R.eb,R.er.trans h.len.symm,R.cQ,R.size,R.tmps,λk e N b M L H=> ?_⟩;obtain⟨o,G,F⟩:=h.get k _ M;have:=F.own;subst this;have t:=R.fz k e N b G L H;exact⟨t.own,t.mem,t.box,λQ B A z y x w=>let⟨v,u,r⟩:=h.get Q B y;t.alone Q v A z u x (w.lx r),t.inner⟩
def ax.dK(Q:ax p q D d V O s a W)(g:s.rs[R]?=U (.own X))(hr:O.r[R]?=U L)(B:W.grownBy N L.jY):
  ax p q D d V O {s with rs:=iw [R] 0 s.rs} a N:=by
 have m:∀M G,(iw [R] 0 s.rs)[M]?=U G->(M=R/\G=.ao)\/(M≠R/\s.rs[M]?=U G):=by
  intro M G h;rw[G0] at h;cases f:s.rs[M]? with
  |none=>rw[f] at h;cases h
  |some x=>
   rw[f] at h;simp only[gV,dQ,cg] at h;by_cases F:M=R;subst F;left;simp at h;exact⟨rfl,h.symm⟩;right;simp[F] at h;exact⟨F,by rw[h]⟩
 have y:∀b,L.jY=U b->wt p q V O s.ak d s.rs W R X L b:=λb H=>Q.fz R X L b g hr H
 have ag:ga p q N:=Q.mem.base.grown B (λb H=>((y b H).own).symm);refine⟨⟨ag,Q.mem.own,Q.mem.inj,λi t cs h=> ?_,λM G A l z=> ?_⟩,Q.fM,Q.ei,Q.eb,by simp[yB];exact Q.er, ?_,Q.size,Q.tmps,λM G A b l z w=> ?_⟩;rw[B.block _ (Q.mem.lt (by simp[aF,h])) (λH=>(y _ H.symm).box i (by simp[aF,h]) rfl)];exact Q.mem.box i t cs h;rcases m M G l with⟨rfl,rfl⟩|⟨v,u⟩;refine⟨bu.ao _ ?_,λb H=>by cases H⟩;exact GP (Q.mem.ah M _ A g z).1;obtain⟨w,h4⟩:=Q.mem.ah M G A u z;exact⟨w.GX (λb H=>B.block b (w.lt H) (λF=>(y b F.symm).alone M G A v u z (.inl H))) B.size,h4⟩;cases H:L.jY with
 |none=>exact Q.cQ.world λb o h _=>(B.block b (yA h) (by rw[H];simp)).trans h
 |some b0=>
  obtain⟨c,af,cJ,q1,j,q3⟩:=(y b0 H).mem;exact Q.cQ.cells j (λb v al=>B.block b al (λX=>v (by rw[H] at X;cases X;rfl)))
 rcases m M _ l with⟨-,F⟩|⟨v,u⟩;cases F;have t:=Q.fz M G A b u z w;have hw:N.heap[b]?=W.heap[b]?:=B.block b t.lt (λF=>(y b F.symm).alone M _ A v u z (.inr ⟨⟨G,rfl⟩,w⟩));obtain⟨c,af,cJ,q1,j,q3⟩:=t.mem;refine⟨t.own,⟨c,af,cJ,q1,hw.trans j,q3⟩,t.box,λk2 e2 an g1 g2 g3 n=> ?_,t.inner⟩;rcases m k2 e2 g2 with⟨rfl,rfl⟩|⟨_,a0⟩;rcases n with n|⟨⟨t',a1⟩,_⟩;cases n;cases a1;exact t.alone k2 e2 an g1 a0 g3 n
def ax.grown(R:ax p q D d V O s a W)(X:W.grownBy N Z):ax p q D d V O s a N:=
 R.below ⟨X.os,X.tape,X.output,X.size,λk Q=>X.block k Q au⟩
def pY(X:bn)(O:ai)(x:XV)(V:ap):mI X O (O.add x) V V:=by
 have h:=Ay X O [x] V;exact h
def Eo{v:RV}(h:(O.add (.r L)).r[R]?=U v):(R<Y O.r/\O.r[R]?=U v)\/(R=Y O.r/\v=L):=by
 simp only[ai.add] at h;by_cases X:R<Y O.r;rw[dF X] at h;exact .inl ⟨X,h⟩;have:R=Y O.r:=by have:=(bJ.1 h).1;simp at this;omega
 subst this;simp at h;exact .inr ⟨rfl,h.symm⟩
structure amA(p:ap)(q:World)(V:ap)(O:ai)(bx:bn)(d:Ty)(rs:aY)(W:World)(e:TypeId)(rv:RV)(b:Nat):Prop where
 own:q.heap.size<=b\/b∈p
 mem:∃len cap cJ,rv.val=.slice (U ⟨b,0,Z⟩) len cap/\W.heap[b]?=U (.cells cJ e (0,0))/\len<=cap/\cap<=maxLen/\cJ.size=cap*(bm d (.sl e)).length
 box:∀i,aF bx i=J->ad V i≠b
 alone:∀(k':Nat)(e':RK)(rv':RV),rs[k']?=U e'->O.r[k']?=U rv'->¬wq d e' rv' b
 inner:¬mG d e rv.ae b
def ax.add(R:ax p q D d V O s a W)(n:s.bd=J){N:RK}{rv:RV}(m:bu W d N rv)(l:∀b,dL d N rv b->∀i,aF s.ak i=J->ad V i≠b)
  (j:∀(k:Nat)(e:TypeId)(H:RV)(b:Nat),s.rs[k]?=U (.own e)->O.r[k]?=U H->H.jY=U b->¬wq d N rv b)
  (g:∀e b,N=.own e->rv.jY=U b->amA p q V O s.ak d s.rs W e rv b):ax p q D d V (O.add (.r rv)) {s with rs:=s.rs++[N]} a W:=by
 obtain⟨f,c⟩:=R.wv n;have x:=pY s.ak O (.r rv) V;have F:∀{k:Nat}{e:RK},(s.rs++[N])[k]?=U e->(k<Y O.r/\s.rs[k]?=U e)\/(k=Y O.r/\e=N):=by
  intro k e h;rw[R.er];by_cases G:k<Y s.rs;rw[dF G] at h;exact .inl ⟨G,h⟩;have:k=Y s.rs:=by have:=(bJ.1 h).1;simp at this;omega
  subst this;simp at h;exact .inr ⟨rfl,h.symm⟩
 refine⟨⟨R.mem.base,R.mem.own,R.mem.inj,λi t cs h=> ?_,λk e v X M=> ?_⟩,R.fM,R.ei,R.eb,by simp[ai.add,R.er],R.cQ,R.size,λt sv h=> ?_,λk e v b X M B=> ?_⟩;rw[x.dw (qX c h)];exact R.mem.box i t cs h;rcases F X with⟨G,X⟩|⟨rfl,rfl⟩;rcases Eo M with⟨_,M⟩|⟨rfl,rfl⟩;exact R.mem.ah k e v X M;omega;rcases Eo M with⟨G,_⟩|⟨_,rfl⟩;omega;exact⟨m,l⟩;rcases R.tmps t sv h with X|X;exact .inl X;right;rw[x.ab (tJ f h)];exact X;rcases F X with⟨G,w⟩|⟨rfl,af⟩;rcases Eo M with⟨_,u⟩|⟨rfl,rfl⟩;have t:=R.fz k e v b w u B;refine⟨t.own,t.mem,t.box,λA z H y L Q=> ?_,t.inner⟩;rcases F L with⟨o,L⟩|⟨o,ag⟩;rcases Eo Q with⟨_,Q⟩|⟨rfl,rfl⟩;exact t.alone A z H y L Q;omega;rcases Eo Q with⟨an,_⟩|⟨_,al⟩;omega;rw[ag,al];exact j k e v b w u B;omega;rcases Eo M with⟨G,_⟩|⟨_,rfl⟩;omega;have t:=g e b af.symm B;refine⟨t.own,t.mem,t.box,λA z H y L Q=> ?_,t.inner⟩;rcases F L with⟨o,L⟩|⟨rfl,_⟩;rcases Eo Q with⟨_,Q⟩|⟨rfl,rfl⟩;exact t.alone A z H L Q;omega;exact bp rfl y
end
variable{k:aq}
structure fj(W:World)(o:Ty)(e:TypeId)(rows:aq):Prop where
 len:∀(i:Nat)(row:aC),rows[i]?=U row->Y row=(bm o (.sl e)).length
 int:∀(i j:Nat)(row:aC)(c:RV)(k:IntKind),rows[i]?=U row->row[j]?=U c->(bm o (.sl e))[j]?=U (.int k)->∃n,c.val=.int k n
 bool:∀(i j:Nat)(row:aC)(c:RV),rows[i]?=U row->row[j]?=U c->(bm o (.sl e))[j]?=U .bool->∃x,c.val=.bool x
 ac:∀(i j:Nat)(row:aC)(c:RV)(z:Value)(k:RK),rows[i]?=U row->row[j]?=U c->(bm o (.sl e))[j]?=U (.ac z k)->bu W o k c
def dX(rows:aq):eX:=rows.flatMap λX=>X.map RV.val
def yD{w:Nat}:∀{rows:aq},(∀(i:Nat)(X:aC),rows[i]?=U X->Y X=w)->(dX rows).length=Y rows*w
 |[],_=>by simp[dX]
 |r::Q,h=>by
  have N:=h 0 r rfl;have R:=yD (rows:=Q) (λi X M=>h (i+1) X (by simpa using M));simp only[dX,Tq,fQ,o8,pO,N] at R⊢;rw[R,pe];omega
def Kt{w:Nat}:∀{rows:aq},(∀(i:Nat)(row:aC),rows[i]?=U row->Y row=w)->∀{i j:Nat}{row:aC}{c:RV},rows[i]?=U row->row[j]?=U c->(dX rows)[i*w+j]?=U c.val
 |[],_,i,j,row,c,h,_=>by simp at h
 |r::Q,h,0,j,row,c,X,R=>by
  simp at X;subst X;have L:j<Y r:=(bJ.1 R).1;simp only[dX,Tq,Nat.zero_mul,gV];rw[dF (by simpa using L)];simp[R]
 |r::Q,h,i+1,j,row,c,X,R=>by
  have N:=h 0 r rfl;have M:=Kt (rows:=Q) (λi row H=>h (i+1) row (by simpa using H)) (i:=i) (by simpa using X) R;simp only[dX,Tq] at M⊢;rw[gK (by simp[N,pe];omega)];rw[<-M];congr 1;simp[N,pe];omega
def G2{w:Nat}:∀{rows:aq},(∀(i:Nat)(X:aC),rows[i]?=U X->Y X=w)->∀{q:Nat}{u:Value},(dX rows)[q]?=U u->∃i j X c,rows[i]?=U X/\X[j]?=U c/\q=i*w+j/\u=c.val
 |[],_,q,u,h=>by simp[dX] at h
 |r::N,h,q,u,R=>by
  have A:=h 0 r rfl;simp only[dX,Tq] at R;by_cases M:q<Y r;rw[dF (by simpa using M),dM] at R;cases Q:r[q]? with
  |none=>rw[Q] at R;cases R
  |some c=>rw[Q] at R;simp at R;exact⟨0,q,r,c,rfl,Q,au,R.symm⟩
  rw[gK dG] at R;obtain⟨i,j,X,c,L,H,G,F⟩:=G2 (rows:=N) (λi X B=>h (i+1) X (by simpa using B)) R;refine⟨i+1,j,X,c,by simpa using L,H, ?_,F⟩;simp only[o8] at G;rw[pe];omega
def UF(a b:aq):dX (a++b)=dX a++dX b:=by simp[dX]
section
variable{W W':World}{o:Ty}{e:TypeId}{rows az:aq}
def fj.u0{v:Value}(h:bu W o (.sl e) (.mk v rows)):fj W o e rows:=by
 cases h with
 |sl e A H G rows F B X R Q N=>exact⟨λi M L=>(X i M L).1,R,Q,N⟩
def qZ{A:mU}(h:bu W o (.sl e) (.mk (.slice A R Q) rows)):Y rows=R/\R<=Q:=by
 cases h with
 |sl e A R Q rows X N M L H G=>exact⟨X,N⟩
def Ku{A:mU}(h:bu W o (.sl e) (.mk (.slice A R Q) rows)):∀(q:Nat)(u:Value),(dX rows)[q]?=U u->∃b X,A=U ⟨b,X,Z⟩/\(∃N t M,W.heap[b]?=U (.cells N t M))/\W.cell? ⟨b,X+q,Z⟩=U u:=by
 intro q u L;have H:=fj.u0 h;obtain⟨i,j,G,c,F,B,rfl,rfl⟩:=G2 H.len L;cases h with
 |sl e A R Q rows w v z r p n=>
  obtain⟨-,b,X,rfl,y,x⟩:=z i G F;exact⟨b,X,rfl,y,by rw[<-DE];exact x j c B⟩
def UG(h:fj W o e rows)(M:∃L t H,W.heap[R]?=U (.cells L t H))(G:∀(q:Nat)(u:Value),(dX rows)[q]?=U u->W.cell? ⟨R,Q+q,Z⟩=U u)(F:Y rows<=i):bu W o (.sl e) (.mk (.slice (U ⟨R,Q,Z⟩) (Y rows) i) rows):=
 bu.sl e _ _ _ _ rfl F (λX B N=>⟨h.len X B N,R,Q,rfl,M,λj c A=>by
  have:=G _ _ (Kt h.len N A)
  rwa [<-DE] at this⟩) h.int h.bool h.ac
def AB(A:mU)(Q:Nat):bu W o (.sl e) (.mk (.slice A 0 Q) []):=
 bu.sl e _ _ _ _ rfl (NT _) (λi R X=>by simp at X) (λi j R c k X=>by simp at X) (λi j R c X=>by simp at X) (λi j R c z k X=>by simp at X)
def fj.single(h:fj W o e rows):∀u∈dX rows,ik u=true:=by
 intro u L;obtain⟨q,H⟩:=qI L;obtain⟨i,j,X,c,R,Q,rfl,rfl⟩:=G2 h.len H;have F:j<(bm o (.sl e)).length:=by rw[<-h.len i X R];exact(bJ.1 Q).1
 cases N:(bm o (.sl e))[j]? with
 |none=>rw[zT] at N;omega
 |some G=>
  cases G with
  |int k=>obtain⟨n,M⟩:=h.int i j X c k R Q N;rw[M];rfl
  |bool=>obtain⟨n,M⟩:=h.bool i j X c R Q N;rw[M];rfl
  |ac z k=>exact GP (h.ac i j X c z k R Q N)
def fj.world(h:fj W o e rows)(M:∀b,mG o e rows b->W'.heap[b]?=W.heap[b]?)(L:W.heap.size<=W'.heap.size):fj W' o e rows:=
 ⟨h.len,h.int,h.bool,λi j X c z k R Q N=>(h.ac i j X c z k R Q N).GX (λb H=>M b ⟨i,j,X,c,z,k,R,Q,N,H⟩) L⟩
def fj.lt(h:fj W o e rows){b:Nat}(X:mG o e rows b):b<W.heap.size:=by
 obtain⟨i,j,R,c,z,k,Q,N,M,L⟩:=X;exact(h.ac i j R c z k Q N M).lt L
def fj.nil:fj W o e []:=⟨λi X h=>by simp at h,λi j X c k h=>by simp at h,λi j X c h=>by simp at h,λi j X c z k h=>by simp at h⟩
def Kv{b:aq}{X:aC}(h:(k++b)[R]?=U X):k[R]?=U X\/b[R-Y k]?=U X:=by
 by_cases Q:R<Y k;rw[dF Q] at h;exact .inl h;rw[gK aa] at h;exact .inr h
def fj.jW(h:fj W o e rows)(R:fj W o e az):fj W o e (rows++az):=
 ⟨λi Q X=>(Kv X).elim (h.len _ _) (R.len _ _),λi j Q c k X=>(Kv X).elim (h.int _ _ _ _ _) (R.int _ _ _ _ _),
  λi j Q c X=>(Kv X).elim (h.bool _ _ _ _) (R.bool _ _ _ _),λi j Q c z k X=>(Kv X).elim (h.ac _ _ _ _ _ _) (R.ac _ _ _ _ _ _)⟩
def amB(h:mG o e (rows++az) R):mG o e rows R\/mG o e az R:=by
 obtain⟨i,j,Q,c,z,k,X,N,M,L⟩:=h;exact(Kv X).imp (λX=>⟨_,j,Q,c,z,k,X,N,M,L⟩) (λX=>⟨_,j,Q,c,z,k,X,N,M,L⟩)
def Kw(h:mG o e [] R):False:=by
 obtain⟨i,j,Q,c,z,k,X,-⟩:=h;simp at X
def Kx(h:mG o e rows R):dL o (.sl e) (.mk b rows) R:=by
 obtain⟨i,j,X,c,z,k,Q,N,M,L⟩:=h;exact dL.deep e b rows i j X c z k R Q N M L
def abP(h:dL o (.sl e) (.mk b rows) R):(∃a X Q,b=.slice (U a) (X+1) Q/\R=a.block)\/mG o e rows R:=by
 cases h with
 |here e a X Q rows=>exact .inl ⟨a,X,Q,rfl,rfl⟩
 |deep e b rows i j N c z k R M L H G=>exact .inr ⟨i,j,N,c,z,k,M,L,H,G⟩
end
def amC(h:dL n z (dl z L) R):dL n z L R:=by
 cases z with
 |sl e=>
  simp only[dl] at h;split at h;exact h;cases h with
  |deep e L rows i j N c X z R Q=>simp at Q
 |str=>cases h
 |ac=>cases h
 |own e=>
  simp only[dl] at h;split at h;exact h;cases h with
  |own e H R M=>cases M with
   |deep e L rows i j N c X z R Q=>simp at Q
 |ao=>cases h
 |mr G=>cases h
def abQ(h:dL n z default R):False:=by
 cases h with
 |deep e v rows i j N c X z R Q=>simp at Q
 |own e L R M=>cases M with
  |deep e v rows i j N c X z R Q=>simp at Q
def OH(h:dL n z.rd L R):dL n z L R:=by
 cases z with
 |own t=>exact dL.own _ _ _ h
 |_=>exact h
def amD{i:Int}(L:DN (bm n (.sl X))[R]?=z)(H:z≠ .ac)(h:dL n z (dl z (bz k i R)) Q):mG n X k Q:=by
 have M:=amC h;simp only[bz,cw] at M;cases G:k[i.toNat]? with
 |none=>rw[G] at M;exact(abQ (by simpa using M)).elim
 |some A=>
  rw[G] at M;simp only[nl] at M;cases F:A[R]? with
  |none=>rw[F] at M;exact(abQ (by simpa using M)).elim
  |some c=>
   rw[F] at M;cases B:(bm n (.sl X))[R]? with
   |none=>rw[B] at L;exact bp L.symm H
   |some y=>
    rw[B] at L;subst L;cases y with
    |ac N x=>exact⟨_,R,A,c,N,x,G,F,B,by simpa[DN] using M⟩
    |int _=>exact bp rfl H
    |bool=>exact bp rfl H
def OI{o:Ty}{O:ai}{s:S}{b:Nat}:∀{r:RE}{e:RK},e≠ .ac->r.kind o s=e->dL o e (r.rv O) b->
  ∃R Q,r.root=U R/\s.rs[R]?=U Q/\((r=.v R/\Q.rd=e)\/∃t,Q.rd=.sl t/\mG o t (O.rv R).ae b)
 |.v k,e,X,h,N=>by
  simp only[RE.kind,cw] at h;cases H:s.rs[k]? with
  |none=>rw[H] at h;exact bp (show e=.ac from h.symm) X
  |some q=>rw[H] at h;simp at h;exact⟨k,q,rfl,H,.inl ⟨rfl,h⟩⟩
 |.cell r i j x,e,X,h,N=>by
  simp only[RE.kind] at h;split at h;rename_i G F;split at h;rename_i B;subst h;simp only[RE.rv] at N;have L:=amD B X N;have A:dL o (.sl G) (r.rv O) b:=by
   revert L;generalize r.rv O=v;intro L;obtain⟨v,rows⟩:=v;exact Kx L
  obtain⟨R,Q,z,y,M⟩:=OI (r:=r) (e:=.sl G) au F A;refine⟨R,Q,z,y,.inr ?_⟩;rcases M with⟨rfl,M⟩|M;exact⟨G,M,by simpa[RE.rv] using L⟩;exact M;exact bp h.symm X;exact bp h.symm X
 |.k v,e,X,h,N=>by
  cases v<;>simp only[RE.kind] at h
  case string s=>subst h;cases N
  all_goals exact bp h.symm X
section
variable{p:ap}{d:World}{D:bI}{P:Program}{o:Ty}{B:lW}{V:ap}{O:ai}{s:S}{a:Act}{W:World}
def sa(X:ax p d D o V O s a W)(h:s.rs[R]?=U z):O.r[R]?=U (O.rv R):=by
 have Q:R<Y O.r:=by rw[X.er];exact(bJ.1 h).1
 simp[ai.rv,Q]
def B9(v:RV):RV.mk v.val v.ae=v:=by cases v;rfl
def G3{e0:RK}(h:e0.rd=.sl X)(N:mG o X (O.rv R).ae Q):dL o e0 (O.rv R) Q:=by
 apply OH;rw[h,<-B9 (O.rv R)];exact Kx N
def G4(N:ax p d D o V O s a W)(H:s.rs[R]?=U (.own X))(F:O.r[R]?=U L)(x:L.jY=U Q){t:TypeId}(M:s.rs[i]?=U z)(G:z.rd=.sl t)(B:mG o t (O.rv i).ae Q):False:=by
 have A:=N.fz R X L Q H F x;by_cases y:i=R;subst y;rw[H] at M;cases M;simp only[RK.rd,RK.sl.injEq] at G;subst G;have:=sa N H;rw[F] at this;cases this;exact A.inner B;exact A.alone i z (O.rv i) y M (sa N M) (.inl (G3 G B))
def Ky(N:ax p d D o V O s a W)(F:s.rs[R]?=U (.own X))(B:O.r[R]?=U L)(A:L.jY=U Q){r:RE}(w:z≠ .ac)(h:r.kind o s=z)(y:dL o z (r.rv O) Q):r=.v R:=by
 obtain⟨H,u,m,G,M⟩:=OI w h y;rcases M with⟨rfl,M⟩|⟨t,M,q⟩;by_cases x:H=R;rw[x];have n:=N.fz R X L Q F B A;exact bp (.inl (OH (by rw[M];exact y))) (n.alone H u (O.rv H) x G (sa N G));exact(G4 N F B A G M q).elim
def Ep(X:ax p d D o V O s a W){r:RE}(F:z≠ .ac)(h:r.kind o s=z)(H:dL o z (r.rv O) R):O.oE o s.rs R/\∀i,aF s.ak i=J->ad V i≠R:=by
 obtain⟨N,M,A,L,Q⟩:=OI F h H;have G:dL o M (O.rv N) R:=by
  rcases Q with⟨rfl,Q⟩|⟨t,Q,B⟩;exact OH (by rw[Q];exact H);exact G3 Q B
 exact⟨⟨N,M,L,G⟩,(X.mem.ah N M _ L (sa X L)).2 R G⟩
def abR(R:ax p d D o V O s a W){k:RK}{r:RE}(h:r.fits o s k=J):bu W o k (r.rv O):=by
 unfold RE.fits at h;split at h;rename_i e;simp only[iD,bZ] at h;rcases h with h|h;exact oF R au h;unfold RE.isNil at h;split at h;exact AB Z 0;cases h;simp only[bZ] at h;exact oF R au h;cases h
def UH{r:RE}(h:r.fits o s z=J)(Q:dL o z (r.rv O) R):r.kind o s=z/\z≠ .ac:=by
 unfold RE.fits at h;split at h;rename_i e;simp only[iD,bZ] at h;rcases h with h|h;exact⟨h,au⟩;unfold RE.isNil at h;split at h;simp only[RE.rv] at Q;cases Q with
 |deep e v rows i j M c X z R N=>simp at N
 cases h;simp only[bZ] at h;exact⟨h,au⟩;cases h
def Es:∀{aj:eG}{R:am},lq o s aj R=J->Y R=Y aj/\∀(j:Nat)(X:CT)(v:C),aj[j]?=U X->R[j]?=U v->qO o s X v=J
 |[],[],_=>⟨rfl,λj X v h=>by simp at h⟩
 |[],_::_,h=>by simp[lq] at h
 |_::_,[],h=>by simp[lq] at h
 |c::G,v::F,h=>by
  simp only[lq,aw] at h;obtain⟨M,L⟩:=Es h.2;refine⟨by simp[M],λj X H Q N=> ?_⟩;cases j with
  |zero=>simp at Q N;subst Q N;exact h.1
  |succ j=>exact L j X H (by simpa using Q) (by simpa using N)
def abS{X:CT}(h:qO o s X M=J):M.ab O V=(M.bN O).val:=by
 unfold qO at h;split at h<;>first|rfl|cases h
structure OJ(W:World)(o:Ty)(aj:eG)(row:aC):Prop where
 len:Y row=Y aj
 int:∀(j:Nat)(c:RV)(k:IntKind),row[j]?=U c->aj[j]?=U (.int k)->∃n,c.val=.int k n
 bool:∀(j:Nat)(c:RV),row[j]?=U c->aj[j]?=U .bool->∃x,c.val=.bool x
 ac:∀(j:Nat)(c:RV)(z:Value)(k:RK),row[j]?=U c->aj[j]?=U (.ac z k)->bu W o k c
def fj.of(h:∀(i:Nat)(Q:aC),k[i]?=U Q->OJ W o (bm o (.sl X)) Q):fj W o X k:=
 ⟨λi Q N=>(h i Q N).len,λi j Q c R N=>(h i Q N).int j c R,λi j Q c N=>(h i Q N).bool j c,λi j Q c z R N=>(h i Q N).ac j c z R⟩
def fj.get(h:fj W o X k){N:aC}(M:k[R]?=U N):OJ W o (bm o (.sl X)) N:=
 ⟨h.len R N M,λj c Q=>h.int R j N c Q M,λj c=>h.bool R j N c M,λj c z Q=>h.ac R j N c z Q M⟩
def UI(R:ax p d D o V O s a W){aj:eG}(h:lq o s aj w=J):OJ W o aj (w.map (C.bN O)):=by
 obtain⟨F,B⟩:=Es h;have H:∀(j:Nat)(c:RV)(L:CT),(w.map (C.bN O))[j]?=U c->aj[j]?=U L->∃v,qO o s L v=J/\c=v.bN O:=by
  intro j c L N M;rw[dM] at N;cases G:w[j]? with
  |none=>rw[G] at N;cases N
  |some v=>rw[G] at N;simp at N;exact⟨v,B j L v M G,N.symm⟩
 refine⟨by simpa using F,λj c k N M=> ?_,λj c N M=> ?_,λj c z k N M=> ?_⟩;obtain⟨v,Q,rfl⟩:=H j c _ N M;unfold qO at Q;split at Q;rename_i X;cases X;simp at Q;subst Q;exact⟨_,rfl⟩;rename_i X;cases X;rename_i X;cases X;cases Q;obtain⟨v,Q,rfl⟩:=H j c _ N M;unfold qO at Q;split at Q;rename_i X;cases X;exact⟨_,rfl⟩;rename_i X;cases X;cases Q;obtain⟨v,Q,rfl⟩:=H j c _ N M;unfold qO at Q;split at Q;rename_i X;cases X;rename_i X;cases X;rename_i X;cases X;exact abR R Q;cases Q
def UJ{aj:eG}(h:lq o s aj w=J)(X:(w.map (C.bN O))[R]?=U L)(F:aj[R]?=U (.ac b z))(H:dL o z L Q):
  ∃r:RE,w[R]?=U (.ah r)/\r.kind o s=z/\z≠ .ac/\dL o z (r.rv O) Q:=by
 obtain⟨A,B⟩:=Es h;rw[dM] at X;cases G:w[R]? with
 |none=>rw[G] at X;cases X
 |some v=>
  rw[G] at X;simp at X;subst X;have N:=B R _ v F G;unfold qO at N;split at N;rename_i M;cases M;rename_i M;cases M;rename_i r M;cases M;exact⟨r,rfl,(UH (O:=O) N H).1,(UH (O:=O) N H).2,H⟩;cases N
def Ca:∀{aj:eG}{l:uK},mD o s aj l=J->∀(i:Nat)(X:am),l[i]?=U X->lq o s aj X=J
 |aj,[],_,i,X,h=>by simp at h
 |aj,r::Q,h,0,X,R=>by simp only[mD,aw] at h;simp at R;subst R;exact h.1
 |aj,r::Q,h,i+1,X,R=>by simp only[mD,aw] at h;exact Ca h.2 i X (by simpa using R)
def UK{Q:aY}(h:(jz y 0 Q)[R]?=U (.own X)):Q[R]?=U (.own X)/\R∉y:=by
 rw[G1] at h;cases M:Q[R]? with
 |none=>rw[M] at h;cases h
 |some x=>
  rw[M] at h;simp only[gV,dQ,cg] at h;cases x<;>simp[wc] at h
  case own t=>
   by_cases N:R∈y;simp[N] at h;simp[N] at h;exact⟨by rw[h],N⟩
def abT{Q:aY}(h:(iw y 0 Q)[R]?=U z):(R∈y/\z=.ao)\/(R∉y/\Q[R]?=U z):=by
 rw[G0] at h;cases N:Q[R]? with
 |none=>rw[N] at h;cases h
 |some x=>
  rw[N] at h;simp only[gV,dQ,cg] at h;by_cases X:R∈y;simp[X] at h;exact .inl ⟨X,h.symm⟩;simp[X] at h;exact .inr ⟨X,by rw[h]⟩
structure Cb(W W':World)(e:TypeId)(w:Nat)(old:bX)(rows:aq)(A:mU)(cap:Nat):Prop where
 le:Y rows<=cap
 nil:A=Z->cap=0
 mem:cap=0\/∃b cJ,A=U ⟨b,0,Z⟩/\W'.heap[b]?=U (.cells cJ e (0,0))/\cap<=maxLen/\cJ.size=cap*w/\cJ.toList.take (Y rows*w)=dX rows/\(W.heap.size<=b\/old=U b)
def yE(o:Ty)(V:ap)(O:ai)(s:S)(e:TypeId)(rows:aq)(cM:ap):Prop:=
 ∀b,mG o e rows b->O.oE o s.rs b/\(∀i,aF s.ak i=J->ad V i≠b)/\∀(k:Nat)(t:TypeId)(X:RV),s.rs[k]?=U (.own t)->O.r[k]?=U X->X.jY=U b->k∈cM
def Kz{X:aY}(h:s.bd=J)(R:Y X=Y s.rs):({s with rs:=X}:S).bd=true:=by
 simp only[S.bd,R] at h⊢;exact h
def ax.bind(R:ax p d D o V O s a W)(hb:s.bd=J){e:TypeId}{rows:aq}{kill cM:ap}{old:bX}{W':World}{A:mU}{cap:Nat}
  (hk:(kill=[]/\old=Z)\/∃k t v,kill=[k]/\s.rs[k]?=U (.own t)/\O.r[k]?=U v/\old=v.jY)(ba:∀k∈kill,k∉cM)
  (f:W.grownBy W' old)(al:fj W o e rows)(af:yE o V O s e rows cM)(z:Cb W W' e (bm o (.sl e)).length old rows A cap):
  ax p d D o V (O.add (.r (.mk (.slice A (Y rows) cap) rows))) {s with rs:=jz cM 0 (iw kill 0 s.rs)++[.own e]} a W'/\∀b,dL o (.sl e) (.mk (.slice A (Y rows) cap) rows) b->d.heap.size<=b\/b∈p\/O.oE o s.rs b:=by
 have y:∀b,old=U b->(d.heap.size<=b\/b∈p)/\b<W.heap.size/\(∀i,aF s.ak i=J->ad V i≠b)/\(∀L H M,L∉kill->s.rs[L]?=U H->O.r[L]?=U M->¬wq o H M b)/\¬mG o e rows b:=by
  intro b j;rcases hk with⟨_,m⟩|⟨k,t,v,rfl,X,F,x⟩;rw[m] at j;cases j;rw[x] at j;have tp:=R.fz k t v b X F j;refine⟨tp.own,tp.lt,tp.box,λL H M hn=>tp.alone L H M (by simpa using hn),λG=> ?_⟩;exact ba k au ((af b G).2.2 k t v X F j)
 have R1:ax p d D o V O {s with rs:=iw kill 0 s.rs} a W':=by
  rcases hk with⟨rfl,rfl⟩|⟨k,t,v,rfl,X,F,rfl⟩;have:iw [] 0 s.rs=s.rs:=by
   apply jV;intro i;rw[G0];cases s.rs[i]?<;>simp
  rw[this];exact R.grown f;exact R.dK X F f
 have R2:=R1.lx (Ks cM _);have bb:fj W' o e rows:=al.world (λb G=>f.block b (al.lt G) (λh=>(y b h.symm).2.2.2.2 G)) f.size;have bc:bu W' o (.sl e) (.mk (.slice A (Y rows) cap) rows):=by
  rcases z.mem with m|⟨b,cJ,rfl,X,F,x,h4,Q⟩;have N:=z.le;have:rows=[]:=qG aa;subst this;exact AB A cap;refine UG bb ⟨_,_,_,X⟩ (λq u hq=> ?_) z.le;rw[<-h4,lT] at hq;split at hq;simp only[mC,X,gV];simpa using hq;cases hq
 have an:∀b,wq o (.own e) (.mk (.slice A (Y rows) cap) rows) b->(W.heap.size<=b\/old=U b)\/mG o e rows b:=by
  intro b N;have a4:∀n,A=U n->cap≠0->n.block=b->(W.heap.size<=b\/old=U b):=by
   intro n hA hc ag;rcases z.mem with m|⟨w,cJ,X,_,_,_,_,Q⟩;exact bp m hc;rw[X] at hA;cases hA;simp only at ag;subst ag;exact Q
  rcases N with N|⟨-,N⟩;cases N with
  |own e v b N=>
   rcases abP N with⟨n,bt,bx,X,rfl⟩|X;simp only[Value.slice.injEq] at X;exact .inl (a4 n X.1 (by have:=z.le;omega) rfl);exact .inr X
  simp only[RV.jY,RV.l9] at N;split at N;rename_i n l0 c0 X;cases X;simp at N;exact .inl (a4 n rfl aa N);cases N
 have bf:∀{k:Nat}{H:RK},(jz cM 0 (iw kill 0 s.rs))[k]?=U H->∃e0,(iw kill 0 s.rs)[k]?=U e0/\px e0 H:=λh=>(Ks cM _).get _ _ h
 constructor;refine R2.add (Kz (Kz hb (yB _ _ _)) (yC _ _ _)) (bu.own e _ bc (λl c h=>by cases h;exact z.nil rfl)) (λb N i G=> ?_) (λk t M b X F x N=> ?_) (λt b ht a9=> ?_);rcases an b (.inl N) with(h|h)|h;have:=R.mem.lt G;omega;exact(y b h).2.2.1 i G;exact(af b h).2.1 i G;obtain⟨bg,bk⟩:=UK X;rcases abT bg with⟨_,h⟩|⟨bl,a1⟩;cases h;rcases an b N with(h|h)|h;have:=(R.fz k t M b a1 F x).lt;omega;exact(y b h).2.2.2.1 k _ M bl a1 F (.inr ⟨⟨t,rfl⟩,x⟩);exact bk ((af b h).2.2 k t M a1 F x);cases ht;have br:cap≠0:=by
  intro h;subst h;simp[RV.jY] at a9
 rcases z.mem with m|⟨w,cJ,rfl,X,F,x,h4,Q⟩;exact bp m br;have ag:w=b:=by
  obtain⟨c',rfl⟩:∃c',cap=c'+1:=⟨cap-1,aa⟩;simpa[RV.jY] using a9
 subst ag;have bs:∀(L:Nat)(H:RK)(M:RV),(iw kill 0 s.rs)[L]?=U H->O.r[L]?=U M->¬wq o H M w:=by
  intro L H M g1 g B;rcases abT g1 with⟨_,rfl⟩|⟨hn,a3⟩;rcases B with B|⟨⟨t,ht⟩,_⟩;cases B;cases ht;rcases Q with Q|Q;rcases B with B|⟨⟨t,rfl⟩,B⟩;have:=(R.mem.ah L H M a3 g).1.lt B;omega;have:=(R.fz L t M w a3 g B).lt;omega;exact(y w Q).2.2.2.1 L H M hn a3 g B
 refine⟨?_,⟨Y rows,cap,cJ,rfl,X,z.le,F,x⟩,λi G=> ?_,λL H M g1 g B=> ?_,λG=> ?_⟩;rcases Q with Q|Q;exact .inl (pP R.mem.base.size Q);exact(y w Q).1;rcases Q with Q|Q;have:=R.mem.lt G;omega;exact(y w Q).2.2.1 i G;obtain⟨e0,g4,hw⟩:=bf g1;exact bs L e0 M g4 g (B.lx hw);rcases Q with Q|Q;have:=al.lt G;omega;exact(y w Q).2.2.2.2 G;intro b N;rcases an b (.inl (dL.own _ _ _ N)) with(h|h)|h;exact .inl (pP R.mem.base.size h);exact(y b h).1.imp id .inl;exact .inr (.inr (af b h).1)
end
section
variable{p:ap}{d:World}{D:bI}{P:Program}{o:Ty}{V:ap}{O:ai}{s:S}{a:Act}{W:World}
def kS(A:mU)(X:Nat):bX:=match A,X with
 |U a,_+1=>U a.block
 |_,_=>Z
def G5(A:mU)(n X:Nat)(R:aq):(RV.mk (.slice A n X) R).jY=kS A X:=by
 cases A<;>cases X<;>rfl
structure Et(W:World)(e:TypeId)(w:Nat)(A:mU)(cap:Nat):Prop where
 nil:A=Z->cap=0
 mem:cap=0\/∃b cJ,A=U ⟨b,0,Z⟩/\W.heap[b]?=U (.cells cJ e (0,0))/\cap<=maxLen/\cJ.size=cap*w
def UL{cJ:kH}{t:TypeId}{M:Nat×Nat}(h:bu W o (.sl X) (.mk (.slice (U ⟨R,0,Z⟩) Q i) k))(L:W.heap[R]?=U (.cells cJ t M)):
  cJ.toList.take (Y k*(bm o (.sl X)).length)=dX k:=by
 have B:=yD (fj.u0 h).len;have H:∀(q:Nat)(u:Value),(dX k)[q]?=U u->cJ[q]?=U u:=by
  intro q u N;obtain⟨A,z,G,y,F⟩:=Ku h q u N;cases G;simpa[mC,L] using F
 apply jV;intro q;rw[lT];by_cases N:q<(dX k).length;rw[aE aa,ce N];simpa using H q _ (ce N);rw[aJ aa,jx aa]
def amE{t t2 tyR:TypeId}(bb:eB P X v)(hw:Y v.aj≠0)(al:(bm o (.sl X)).length=Y v.aj)(p:P.underlying t=U (.slice X))(n:P.underlying t2=U (.slice X))
  {H:aq}{F m:mU}{cap2:Nat}(y:bu W o (.sl X) (.mk (.slice F R Q) k)){old:bX}(hr:(Et W X (Y v.aj) F Q/\old=kS F Q)\/(R=Q/\0<i))
  (an:Y H=i)(bc:fj W o X H)(bd:∀(q:Nat)(u:Value),(dX H)[q]?=U u->∃l,m=U l/\W.cell? (l.add q)=U u)
  (ch:R<=536870912)(cl:i<=536870912):
  ∃A bf W',(Builtin.append_ #[t,t2] tyR #[.slice F R Q,.slice m i cap2]).run P W=.ok (.slice A (R+i) bf) W'/\W.grownBy W' old/\Cb W W' X (Y v.aj) old (k++H) A bf:=by
 obtain⟨N,w,r,z,hz,br⟩:=bb.GK;have bs:=bb.bytes N w;have bt:z.cells.size=Y v.aj:=by rw[<-BA,br];simp
 obtain⟨g,cn⟩:=qZ y;have bx:=fj.u0 y;have bg:(dX k).length=R*N.size:=by rw[yD bx.len,g,al,r]
 have a3:(dX H).length=i*N.size:=by rw[yD bc.len,an,al,r]
 have a4:(dX (k++H)).length=(R+i)*Y v.aj:=by rw[UF,fQ,bg,a3,r,pe]
 have f:(k++H).length=R+i:=by simp[g,an]
 have a9:∀G:World,(∀x,G.cell? x=W.cell? x)->(Builtin.firstCells N.size i (.slice m i cap2)).run P G=.ok (dX H).toArray G:=by
  intro G d;cases m with
  |none=>
   have:dX H=[]:=by
    cases hq:dX H with
    |nil=>rfl
    |cons x xs=>obtain⟨l,h,_⟩:=bd 0 x (by rw[hq];rfl);cases h
   rw[run_firstCells_none,this]
  |some a2=>
   refine run_firstCells_some G N.size i a2 i cap2 _ a3 (λj M hj=> ?_);obtain⟨l,h,h'⟩:=bd j M hj;cases h;rw[d];exact h'
 have b0:∀G:World,(∀x,G.cell? x=W.cell? x)->(Builtin.firstCells N.size R (.slice F R Q)).run P G=.ok (dX k).toArray G:=by
  intro G d;cases F with
  |none=>
   have:dX k=[]:=by
    cases hq:dX k with
    |nil=>rfl
    |cons x xs=>obtain⟨b,b1,h,_⟩:=Ku y 0 x (by rw[hq];rfl);cases h
   rw[run_firstCells_none,this]
  |some a1=>
   refine run_firstCells_some G N.size R a1 R Q _ bg (λj M hj=> ?_);obtain⟨b,b1,h,_,h'⟩:=Ku y j M hj;cases h;rw[d,tK];exact h'
 by_cases af:R+i<=Q
 
 obtain⟨b2,rfl⟩:Et W X (Y v.aj) F Q/\old=kS F Q:=hr.resolve_right λq=>by have:=q.1;have:=q.2;omega
 rcases BB Q with h0|h0;have e1:R=0:=aa;have e2:i=0:=aa;subst h0 e1 e2;have r1:k=[]:=qG g;have r2:H=[]:=qG an;subst r1 r2;refine⟨F,0,W, ?_,⟨rfl,rfl,rfl,bU _,λ_ _ _=>rfl⟩,⟨bU _,λ_=>rfl,.inl rfl⟩⟩;have B:=a9 W (λ_=>rfl);have ag:∀a1:Addr,(storeCells a1 [] 0).run P W=.ok () W:=λ_=>rfl
 cases F with
 |none=>simp[Builtin.append_,run_underlying p,run_underlying n,Go.sizeOf,typeInfo,w,Builtin.lenOf,B,dX]
 |some a1=>simp[Builtin.append_,run_underlying p,run_underlying n,Go.sizeOf,typeInfo,w,Builtin.lenOf,B,dX,ag]
 rcases b2.mem with d|⟨b,cJ,rfl,hg,ba,b3⟩;omega;have b4:R*N.size+(dX H).length<=cJ.size:=by rw[a3,b3,<-pe,r];exact Dz _ af
 have B:=a9 W (λ_=>rfl);have ag:=run_storeCells_at P b (R*N.size) X (dX H) 0 cJ W hg (by simpa using b4) (λu hu=>abK (bc.single u hu));simp only[uH] at ag;have bk:kS (U ⟨b,0,Z⟩) Q=U b:=by cases Q with
  |zero=>omega
  |succ c=>rfl
 refine⟨U ⟨b,0,Z⟩,Q,W.setRow b (cJ.toList.take (R*N.size)++dX H++cJ.toList.drop (R*N.size+(dX H).length)).toArray, ?_,⟨rfl,rfl,rfl,by simp[World.setRow],λL _ hk=>setRow_other W b L _ (λh=>hk (by rw[bk,h]))⟩,
  ⟨by rw[f];exact af,au,.inr ⟨b,_,rfl,setRow_heap W b cJ _ X _ hg,ba, ?_, ?_,.inr bk⟩⟩⟩
 simp[Builtin.append_,run_underlying p,run_underlying n,Go.sizeOf,typeInfo,w,Builtin.lenOf,af,B,Addr.add_lit,ag];simp only[DB,fQ,F9,DD,BA];omega;have bl:=UL y hg;rw[g,al,<-r] at bl;rw[f,bl,<-UF,<-a4];exact List.take_left
 
 have b5:R+i<=1073741824:=aa;have b6:(R+i)*N.bytes<=140737488355328:=by
  have:(R+i)*N.bytes<=1073741824*131072:=alD b5 bs;omega
 have co:=growslice_fits (show Q<R+i from aa) b6;have b7:R+i<=maxLen:=by simp only[maxLen];omega
 have b8:=grownCap_ge W (R+i) Q X;have ba:=grownCap_le_maxLen W (R+i) Q X b7;have B:=a9 W.drew (λ_=>au);have ca:=b0 W.drew (λ_=>au);have cc:¬(9223372036854775807<((R:Int)+(i:Int))):=aa;have cf:¬(281474976710656<Builtin.nextslicecap (R+i) Q*N.bytes):=aa;refine⟨U ⟨W.heap.size,0,Z⟩,grownCap W (R+i) Q X,W.drew.alloc (.cells ((dX (k++H)).toArray++Builtin.zeroCells z.cells (grownCap W (R+i) Q X-(R+i))) X), ?_,
  ⟨rfl,rfl,rfl,au,λL hk _=>Below.heap_alloc W.drew _ _ hk⟩,⟨by rw[f];exact b8,au,.inr ⟨W.heap.size,_,rfl,NG W.drew _,ba, ?_, ?_,.inl (bU _)⟩⟩⟩
 simp[Builtin.append_,run_underlying p,run_underlying n,Go.sizeOf,typeInfo,zeroValue,w,hz,Builtin.lenOf,af,cc,cf,Question.forced,B,ca,newRow,grownCap];congr 2;apply kG;simp[BD,UF];simp only[Array.size_append,DB,size_zeroCells,bt,a4,<-pe];congr 1;omega;simp only[Array.toList_append,f,<-a4];exact List.take_left
end
structure bj(s:S)(O:ai)(V:ap)(s':S)(O':ai)(V':ap):Prop where
 ext:mI s.ak O O' V V'
 mono:∀i,aF s.ak i=J->aF s'.ak i=J
 len:Y s.ak<=Y s'.ak
 av:s.av<=s'.av
def bj.refl(s:S)(O:ai)(V:ap):bj s O V s O V:=⟨mI.refl _ _ _,λ_ h=>h,bU _,bU _⟩
def bj.trans{s s' X:S}{O R Q:ai}{V N M:ap}(h:bj s O V s' R N)(k:bj s' R N X Q M):bj s O V X Q M:=
 ⟨h.ext.trans k.ext h.mono,λi L=>k.mono i (h.mono i L),pP h.len k.len,pP h.av k.av⟩
def bj.put{s s':S}{X:ai}{R:ap}(h:bj s l y s' X R)(d:bX)(v:C):bj s l y (s'.put d v) X R:=by
 cases d<;>exact⟨h.ext,h.mono,h.len,h.av⟩
def OR.gives(O:ai)(X:S):OR->Prop
 |.ok x=>X=x
 |.aN b x=>b.ab O=J/\X=x
 |.split b R Q=>X=if b.ab O then R else Q
 |.no _=>False
def pZ(P:Program)(o:Oper)(a:Act)(W:World)(v:Value)(X:World):Prop:=
 (execOp a.eval o).run P W=.ok (.value v) X\/((execOp a.eval o).run P W=.ok .skip X/\v=undef)
def UM{s:S}(h:fA s.ak R=J)(t:TypeId)(X:am)(d:bX)(v:C):bj s l y ((s.cU R t X).put d v) l (y.set R Q):=by
 refine bj.put (s':=s.cU R t X) ⟨abI h l y Q,λi N=>(nX (mc h).2).2 (.inr N),by simp[S.cU],by simp[S.cU]⟩ d v
def abU{s:S}{Q:am}(h:bM s.ak R=U (X,w))(d:bX)(v:C):bj s l y ((s.cU R X Q).put d v) l y:=by
 refine bj.put (s':=s.cU R X Q) ⟨mI.refl _ _ _,λi N=>(nX (bJ.1 (jl.1 h)).1).2 (.inr N),by simp[S.cU],by simp[S.cU]⟩ d v
def bj.lk{s X:S}{R:ai}{Q:ap}(h:bj s l y X R Q)(n:Nat):bj s l y {X with lk:=n} R Q:=⟨h.ext,h.mono,h.len,h.av⟩
section
variable{g:ap}{u:World}{D:bI}{P:Program}{f:bi}{V:ap}{O:ai}{s:S}{a:Act}{W:World}
def ax.lk(R:ax g u D f.ty V O s a W)(n:Nat):ax g u D f.ty V O {s with lk:=n} a W:=⟨R.mem,R.fM,R.ei,R.eb,R.er,R.cQ,R.size,R.tmps,R.fz⟩
def yF{s X:S}{d:bX}{r:PR}(h:(qP s d R r).gives l X):∃v,r.gives l v/\X=s.de d v R:=by
 cases r with
 |ok v=>exact⟨v,rfl,h⟩
 |aN b v=>
  simp only[qP] at h;split at h;exact⟨v,⟨h.1,rfl⟩,h.2⟩;exact h.elim
 |no w=>exact h.elim
def abV(n:Nat)(l:am):(uP n l).length=n*Y l:=by
 induction n with
 |zero=>simp[uP]
 |succ n X=>simp[uP,X,pe];omega
def UN(l:am):∀(n k:Nat),k<n*Y l->(uP n l)[k]?=l[k%Y l]?
 |0,k,h=>by simp at h
 |n+1,k,h=>by
  have Q:0<Y l:=by
   rcases BB (Y l) with X|X;rw[X] at h;simp at h;exact X
  rw[uP];by_cases R:k<Y l;rw[dF R,Nat.mod_eq_of_lt R];rw[gK aa,UN l n (k-Y l) (by rw[pe] at h;omega)];congr 1;have:k=(k-Y l)+Y l:=aa
  conv=>rhs;rw[this,Nat.add_mod_right]
def KC(R:ax g u D f.ty V O s a W)(B:ip P f.ty)(F:et f.gl O)(m:OM){s':S}(h:(fJ f m s).gives O s'):
  ∃v W' V',pZ P m.o a W v W'/\ax g u D f.ty V' O s' (a.put m.o.dst v) W'/\bj s O V s' O V':=by
 unfold fJ at h;split at h;exact h.elim;rename_i Q;have Q:∀x∈m.o.op.operands.toList,(s.ev f.gl x).ec=false:=by
  intro x hx;cases hh:(s.ev f.gl x).ec;rfl;exact bp (jy.2 ⟨x,hx,hh⟩) Q
 split at h
 
 rename_i t X;split at h;rename_i ti r;split at h;rename_i N;simp only[aw] at N;cases h;obtain⟨z,al,an⟩:=GQ (P:=P) (W:=W) (O:=O) (V:=V) (B _ _ r);have G:=R.alloc (qY N.2) t (dV ti) N.1;rw[pu (GY N.2)] at G;have j:=mc (qY N.2);refine⟨.pointer (U ⟨W.heap.size,0,Z⟩),W.alloc (.cells (C.ay O V (dV ti)).toArray t),V.set m.ix W.heap.size,.inl ?_, ?_,UM (qY N.2) _ _ _ _⟩;rw[<-an];simp[execOp,X,Instr.alloc,al,newVar,newRow];have:=G.put m.o.dst (.loc m.ix 0);rw[C.ab,AA (by rw[R.fM];exact j.2)] at this;exact this;exact h.elim;exact h.elim
 
 rename_i t x X;rw[X] at Q;have he:=cK R F x (Q x bS);split at h;rename_i ti r;split at h;rename_i N;simp only[aw] at N;cases h;obtain⟨⟨⟨-,d⟩,h2⟩,H⟩:=N;have a0:=OE (O:=O) (V:=V) (tL R) h2;have G:=R.alloc (qY H) t (s.ev f.gl x).cells d;rw[pu (GY H)] at G;have j:=mc (qY H);refine⟨.pointer (U ⟨W.heap.size,0,Z⟩),W.alloc (.cells (C.ay O V (s.ev f.gl x).cells).toArray t),V.set m.ix W.heap.size,.inl ?_, ?_,UM (qY H) _ _ _ _⟩;rw[<-a0];simp[execOp,X,Instr.box,newVar,newRow,he];have:=G.put m.o.dst (.loc m.ix 0);rw[C.ab,AA (by rw[R.fM];exact j.2)] at this;exact this;exact h.elim;exact h.elim
 
 rename_i t L parts X;rw[X] at Q;have ba:(parts.map λ(i,x)=>(i,a.eval x)).toList=(parts.toList.map λp=>(p.1,s.ev f.gl p.2)).map λp=>(p.1,p.2.ab O V):=by
  simp only[th,mT];apply jh;intro p hp;have:=cK R F p.2 (Q p.2 (by simp[gu];exact⟨p.1,by simpa using hp⟩));simp[this]
 split at h;rename_i e aj q r;split at h;rename_i M a1;split at h;rename_i l hf;split at h;rename_i N;simp only[aw,bZ] at N;cases h;obtain⟨⟨d,h2⟩,H⟩:=N;have hd:P.underlying t=U (.slice e):=(B _ _ r).desc;obtain⟨z,al,an⟩:=GQ (P:=P) (W:=W) (O:=O) (V:=V) (B _ _ a1);have bb:=Kq (V:=V) (tL R) _ _ _ _ hf;have af:(dV M).length=Y M.aj:=by simp[dV]
 have hzero:((aaK (L*Y M.aj)).map ((if L*Y M.aj=0 then #[] else z.cells)[· %(if L*Y M.aj=0 then #[] else z.cells).size]!))=(C.ay O V (uP L (dV M))).toArray:=by
  apply kG;apply jV;intro k;by_cases ag:k<L*Y M.aj;have bf:¬L*Y M.aj=0:=aa;have bg:0<Y M.aj:=by
   rcases BB (Y M.aj) with A|A;rw[A] at ag;simp at ag;exact A
  have bc:k%Y M.aj<(C.ay O V (dV M)).length:=by rw[Ej,af];exact JN _ bg
  simp only[bf,fH,an,th,alq,dM,F8 ag,dQ,qV,UN _ _ _ (by rw[af];exact ag),af];rw[<-qV,ce bc];simp only[DB,Ej,af];rw[getElem!_pos _ _ (by simpa using bc)];simp;rw[jx dG,jx (by simp[abV,af];omega)]
 have G:=R.alloc (qY H) e l d;rw[pu (GY H)] at G;have j:=mc (qY H);refine⟨.slice (U ⟨W.heap.size,0,Z⟩) L L,W.alloc (.cells (C.ay O V l).toArray e),V.set m.ix W.heap.size,.inl ?_, ?_,UM (qY H) _ _ _ _⟩;have bd:¬L*Y M.aj>2^24:=aa;by_cases A:L*Y M.aj=0;simp only[aE A] at hzero;simp only[execOp,X,Instr.buildSlice,cZ,eB.gp hd,cT,(B _ _ a1).lw,bd,fH,eI,aE A,ba];rw[hzero,bb];simp[newRow];simp only[aJ A] at hzero;simp only[execOp,X,Instr.buildSlice,cZ,eB.gp hd,cT,(B _ _ a1).lw,bd,fH,eI,aJ A,ba,al];rw[hzero,bb];simp[newRow];have:=G.put m.o.dst (.ij m.ix 0 L L);rw[C.ab,AA (by rw[R.fM];exact j.2)] at this;exact this;exact h.elim;exact h.elim;exact h.elim;exact h.elim
 
 rename_i t x y X;rw[X] at Q;have a3:=cK R F x (Q x bS);have a4:=cK R F y (Q y bS);split at h;rename_i ti i bl r hx;split at h;rename_i bt cs n;split at h;rename_i N;simp only[aw,di,bZ] at N;cases h;obtain⟨⟨⟨⟨d,h2⟩,H⟩,h4⟩,-⟩:=N;have a0:=OE (O:=O) (V:=V) (tL R) h4;obtain⟨n,bk⟩:=wu n;obtain⟨W',hr,G⟩:=R.store (B _ _ r) n bk d h2 H a0;refine⟨undef,W',V,.inr ⟨?_,rfl⟩,G.put m.o.dst (.bA []),abU n _ _⟩;simp only[execOp,X,a3,a4,hx,C.ab,cZ,hr,cT,eI];exact h.elim;exact h.elim;exact h.elim
 
 rename_i c x y X;rw[X] at Q;have a9:=cK R F c (Q c bS);have a3:=cK R F x (Q x bS);have a4:=cK R F y (Q y bS);split at h;rename_i b n;simp only[OR.gives] at h;rw[n,C.ab] at a9;cases w:b.ab O;simp only[w,iC,fH] at h;subst h;refine⟨_,W,V,.inl ?_,R.put _ _,(bj.refl _ _ _).put _ _⟩;simp[execOp,X,a9,w,asBool,a4];simp only[w,cH] at h;subst h;refine⟨_,W,V,.inl ?_,R.put _ _,(bj.refl _ _ _).put _ _⟩;simp[execOp,X,a9,w,asBool,a3];exact h.elim
 
 rename_i t x X;obtain⟨v,w,rfl⟩:=yF h;exact⟨v.ab O V,W,V,.inl (abF R B F m.o Q (by rw[X];exact w)),(R.lk _).put _ _,((bj.refl _ _ _).lk _).put _ _⟩
 
 obtain⟨v,w,rfl⟩:=yF h;exact⟨v.ab O V,W,V,.inl (abF R B F m.o Q w),(R.lk _).put _ _,((bj.refl _ _ _).lk _).put _ _⟩
def ax.room{g:ap}{u:World}{D:bI}{V:ap}{O:ai}{s:S}{a:Act}{W:World}(R:ax g u D f.ty V O s a W)(n:Nat):
  ax g u D f.ty (V++ew n 0) O (s.room n) a W/\bj s O V (s.room n) O (V++ew n 0):=by
 have X:∀k,ad (V++ew n 0) k=ad V k:=by
  intro k;simp only[ad,cw];by_cases h:k<Y V;rw[dF h];rw[gK aa,jx (l:=V) aa,Dw];split<;>rfl
 have G:∀i,bM (s.ak++ew n Z) i=bM s.ak i:=by
  intro i;simp only[cj];by_cases h:i<Y s.ak;rw[dF h];rw[gK aa,jx (l:=s.ak) aa,Dw];split;rename_i N;split at N<;>cases N;rfl
 have M:∀i,aF (s.ak++ew n Z) i=aF s.ak i:=λi=>by simp[aF,G]
 have B:=gW.refl O (Y O.i) (Y O.b) (Y O.r);have F:∀v,C.ab O (V++ew n 0) v=v.ab O V:=by
  intro v;have:ad (V++ew n 0)=ad V:=funext X;exact Ov this v
 have q:∀l,C.ay O (V++ew n 0) l=C.ay O V l:=λl=>by simp only[nx];exact jh λv _=>F v
 refine⟨⟨⟨R.mem.base,λi Q=> ?_,λi j Q A=> ?_,λi t z h=> ?_,λk e L N H=> ?_⟩,by simp[S.room,R.fM],R.ei,R.eb,R.er,R.cQ,R.size,λt y h=> ?_,λk e L b N H x=> ?_⟩,⟨⟨B,bU _,bU _,bU _,λk _=>X k⟩,λi Q=> ?_,by simp[S.room],bU _⟩⟩;rw[X];exact R.mem.own i (by rw[<-M];exact Q);rw[X,X];exact R.mem.inj i j (by rw[<-M];exact Q) (by rw[<-M];exact A);rw[X,abf (funext X)];exact R.mem.box i t z (by rw[<-G];exact h);refine⟨(R.mem.ah k e L N H).1,λb w i Q=> ?_⟩;rw[X];exact(R.mem.ah k e L N H).2 b w i (by rw[<-M];exact Q);rw[F];exact R.tmps t y h;have t:=R.fz k e L b N H x;exact⟨t.own,t.mem,λi Q=>by rw[X];exact t.box i (by rw[<-M];exact Q),t.alone,t.inner⟩;simp only[S.room];rw[M];exact Q
end
section
variable{p:ap}{g:World}{D:bI}{P:Program}{cf:bi}{V:ap}{O:ai}{s:S}{a:Act}{W:World}
def wA{d:bX}{aN:BE}{x:LE}{cM:ap}{b:BI}(h:jA s d aN X z x y cM=U b):
  s.bd=J/\(∀z∈y,z∉cM)/\b=⟨aN,X,x,({s with rs:=jz cM 0 (iw y 0 s.rs)++[z]}:S).put d (.ah (.v (Y s.rs)))⟩:=by
 unfold jA at h;split at h;rename_i R;cases h;simp only[aw] at R;exact⟨R.1.1.1,λz Q=>by have:=eO.1 R.1.1.2 z Q;simpa using this,rfl⟩;cases h
def Eu{X:S}(Q:ax p g D n V (O.add (.r L)) X a N)(M:Y O.r=R)(d:bX):ax p g D n V (O.add (.r L)) (X.put d (.ah (.v R))) (a.put d L.val) N:=by
 have:=Q.put d (.ah (.v R));have e:C.ab (O.add (.r L)) V (.ah (.v R))=L.val:=by subst M;simp[C.ab,RE.ab,RE.rv,ai.rv,ai.add]
 rwa [e] at this
def Cc{rv:RV}(X:aY)(d:bX)(v:C):bj s O V (({s with rs:=X}:S).put d v) (O.add (.r rv)) V:=
 bj.put (s:=s) (s':={s with rs:=X}) ⟨pY _ _ _ _,λ_ h=>h,bU _,bU _⟩ d v
def KD{n:K}(h:(DV n).ab O=J):n.ab O<=536870912:=by
 unfold DV at h;rw[Aw] at h;simp only[gm,K.ab,Gn] at h;exact uJ h
def G6(P:Program)(p:ap)(g:World)(D:bI)(R:Ty)(V:ap)(O:ai)(s:S)(a:Act)(W:World)(o:Oper)(b:BI):Prop:=
 ∃v Q X,pZ P o a W v Q/\Ek R p g b.e b.x s.rs O X/\ax p g D R V (O.add (.r X)) b.s (a.put o.dst v) Q/\bj s O V b.s (O.add (.r X)) V
def KE(Q:ax p g D cf.ty V O s a W)(h:s.rs[R]?=U (.own X)):∃A n N,O.rv R=.mk (.slice A n N) (O.rv R).ae/\bu W cf.ty (.sl X) (.mk (.slice A n N) (O.rv R).ae)/\Et W X (bm cf.ty (.sl X)).length A N:=by
 have M:=Us Q h;have w:=sa Q h;have G:=λb F=>Q.fz R X _ b h w F
 revert M G;generalize O.rv R=v;intro M G;cases M with
 |own X v M z=>
  cases M with
  |sl X A L N y u t r q F o=>
   refine⟨A,L,N,rfl,bu.sl X A L N y u t r q F o,λm=>z L N (by rw[m];rfl), ?_⟩;rcases BB N with x|x;exact .inl x;right;cases A with
   |none=>have:=z L N rfl;omega
   |some B=>
    have l:(RV.mk (.slice (U B) L N) y).jY=U B.block:=by rw[G5];cases N with
     |zero=>omega
     |succ c=>rfl
    obtain⟨d,c',cJ,H,j,g3,i,f⟩:=(G _ l).mem;simp only[RV.l9,Value.slice.injEq] at H;obtain⟨H,rfl,rfl⟩:=H;exact⟨B.block,cJ,H,j,i,f⟩
def amF(R:ax p g D cf.ty V O s a W){q:LE}{c:BE}(h:tD cf.ty s X t M=U (q,c,y))(hn:c.ab O=J):
  ∃A n L,M.ab O V=.slice A n L/\bu W cf.ty (.sl X) (.mk (.slice A n L) (q.ae O))/\n<=536870912/\
   (∃o,((Et W X (bm cf.ty (.sl X)).length A L/\o=kS A L)\/(n=L/\∃f l,M=.fn f l))/\((y=[]/\o=Z)\/∃k Q F,y=[k]/\s.rs[k]?=U (.own Q)/\O.r[k]?=U F/\o=F.jY))/\∀cM,yE cf.ty V O s X (q.ae O) cM:=by
 unfold tD at h;split at h;rename_i k;split at h;rename_i hc;cases h;have G:=hc.1;obtain⟨A,n,L,B,h2,m⟩:=KE R G;have H:=KD hn;refine⟨A,n,L,by simp only[C.ab,RE.ab,RE.rv];rw[B];rfl,by simpa[LE.ae,RE.rv] using h2, ?_,⟨_,.inl ⟨m,rfl⟩,.inr ⟨k,X,O.rv k,rfl,G,sa R G,by rw[B,G5]⟩⟩,λcM b N=> ?_⟩;simp only[K.ab,RE.rv] at H;rw[B] at H;simp[lenOf] at H;omega;simp only[LE.ae,RE.rv] at N;have z:=G3 (O:=O) (e0:=.own X) rfl N;refine⟨⟨k,_,G,z⟩,(R.mem.ah k _ _ G (sa R G)).2 b z,λk' Q F g1 g2 g3=>(G4 R g1 g2 g3 G rfl N).elim⟩;cases h;rename_i r ag;split at h;rename_i j;cases h;unfold RE.isNil at j;split at j;refine⟨Z,0,0,rfl,AB _ _,aa,⟨_,.inl ⟨⟨λ_=>rfl,.inl rfl⟩,rfl⟩,.inl ⟨rfl,rfl⟩⟩,λcM b N=>(Kw (by simpa[LE.ae] using N)).elim⟩;cases j;cases h;cases h;refine⟨_,0,0,rfl,AB _ _,aa,⟨_,.inl ⟨⟨au,.inl rfl⟩,rfl⟩,.inl ⟨rfl,rfl⟩⟩,λcM b N=>(Kw (by simpa[LE.ae] using N)).elim⟩;rename_i r;split at h;rename_i w;cases h;have i:=oF R au w;have H:=KD hn;simp only[K.ab] at H;have d:∀cM,yE cf.ty V O s X (r.rv O).ae cM:=by
  intro cM b N;have z:dL cf.ty (.sl X) (r.rv O) b:=by rw[<-B9 (r.rv O)];exact Kx N
  obtain⟨q1,q2⟩:=Ep R au w z;refine⟨q1,q2,λk' Q F v k2 k3=> ?_⟩;have:=Ky R v k2 k3 au w z;subst this;simp only[RE.kind,cw,v,nl,RK.rd,RK.sl.injEq] at w;subst w;exact(G4 R v k2 k3 v rfl N).elim
 have hd:(C.fn 3000000 [.ah r]).ab O V=Ue (r.rv O).val:=rfl;rw[hd];simp only[LE.ae];revert i H d;generalize r.rv O=F;intro i H d;cases i with
 |sl X A u L af B h2 m hi N ho=>
  exact⟨A,u,u,rfl,bu.sl X A u u af B (bU _) m hi N ho,by simp[lenOf] at H;omega,⟨Z,.inr ⟨rfl,_,_,rfl⟩,.inl au⟩,d⟩
 cases h;cases h
def OK{w:Nat}:∀{n:Nat}{l:am}{i:Nat}{X:am},(iO w n l)[i]?=U X->X=(l.drop (i*w)).take w/\i<n
 |0,l,i,X,h=>by simp[iO] at h
 |n+1,l,0,X,h=>by simp[iO] at h;subst h;exact⟨au,aa⟩
 |n+1,l,i+1,X,h=>by
  simp only[iO,qH] at h;obtain⟨R,Q⟩:=OK h;refine⟨?_,aa⟩;rw[R,JJ];congr 2;rw[pe];omega
def OL(w:Nat):∀(n:Nat)(l:am),(iO w n l).length=n
 |0,l=>rfl
 |n+1,l=>by simp[iO,OL w n]
def ON:∀{l:am}{r:RE}{k:Nat},C.ah r∈l->r.root=U k->k∈C.nP l
 |[],r,k,h,_=>by simp at h
 |x::R,r,k,h,X=>by
  simp only[C.nP,eC];rcases dJ.1 h with rfl|h;left;simp[C.TK,X];right;exact ON h X
def abW(R:ax p g D cf.ty V O s a W){l:uK}{cM:ap}(B:mD cf.ty s (bm cf.ty (.sl X)) l=J)(A:∀N∈l,∀(r:RE)(k:Nat),C.ah r∈N->r.root=U k->k∈cM):
  yE cf.ty V O s X (l.map λN=>N.map (C.bN O)) cM:=by
 intro b ⟨i,j,N,c,z,k,Q,y,x,w⟩;rw[dM] at Q;cases M:l[i]? with
 |none=>rw[M] at Q;cases Q
 |some L=>
  rw[M] at Q;simp at Q;subst Q;obtain⟨r,v,H,G,F⟩:=UJ (Ca B i L M) y x w;obtain⟨u,q⟩:=Ep R G H F;refine⟨u,q,λh t f o n m=> ?_⟩;have:=Ky R o n m G H F;subst this;exact A L (iU M) _ _ (iU v) rfl
def UO(R:ax p g D cf.ty V O s a W){l:uK}(M:mD cf.ty s (bm cf.ty (.sl X)) l=J):fj W cf.ty X (l.map λN=>N.map (C.bN O)):=by
 refine fj.of (λi N Q=> ?_);rw[dM] at Q;cases h:l[i]? with
 |none=>rw[h] at Q;cases Q
 |some L=>rw[h] at Q;simp at Q;subst Q;exact UI R (Ca M i L h)
def UP(p:(bm cf.ty (.sl X)).length=R)(z:mD cf.ty s (bm cf.ty (.sl X)) (iO R Q w)=J)(y:(∀(N:Nat)(L:aC),((iO R Q w).map λL=>L.map (C.bN O))[N]?=U L->Y L=R))
  (h:(dX ((iO R Q w).map λL=>L.map (C.bN O)))[i]?=U b):(C.ay O V w)[i]?=U b:=by
 obtain⟨N,j,L,c,H,G,rfl,rfl⟩:=G2 y h;rw[dM] at H;cases F:(iO R Q w)[N]? with
 |none=>rw[F] at H;cases H
 |some B=>
  rw[F] at H;simp at H;subst H;rw[dM] at G;cases M:B[j]? with
  |none=>rw[M] at G;cases G
  |some v=>
   rw[M] at G;simp at G;subst G;obtain⟨o,x⟩:=Es (Ca z N B F);have m:j<Y B:=(bJ.1 M).1;obtain⟨A,t⟩:∃A,(bm cf.ty (.sl X))[j]?=U A:=⟨_,ce aa⟩;rw[qV];have r:=(OK F).1;have:w[N*R+j]?=U v:=by
    rw[r,lT] at M;split at M
    rwa [rJ] at M
    cases M
   rw[this];simp only[dQ,cg];exact abS (x j A v t M)
def amG(R:ax p g D cf.ty V O s a W)(al:cf.ty X=U v){G:LE}{n2:BE}(h:pT cf.ty s X v M=U (G,n2,y))(hn:n2.ab O=J):
  ∃A n N,M.ab O V=.slice A n N/\(G.ae O).length=n/\fj W cf.ty X (G.ae O)/\(∀(q:Nat)(u:Value),(dX (G.ae O))[q]?=U u->∃a0,A=U a0/\W.cell? (a0.add q)=U u)/\n<=536870912/\yE cf.ty V O s X (G.ae O) y:=by
 have l:bm cf.ty (.sl X)=v.aj:=by simp[bm,al]
 unfold pT at h;split at h;rename_i r;split at h;rename_i j;cases h;unfold RE.isNil at j;split at j;exact⟨Z,0,0,rfl,rfl,fj.nil,λq u L=>by simp[LE.ae,dX] at L,aa,λb Q=>(Kw (by simpa[LE.ae] using Q)).elim⟩;cases j;split at h;rename_i F;cases h;have z:=oF R au F;have x:=KD hn;simp only[K.ab] at x;have f:yE cf.ty V O s X (r.rv O).ae []:=by
  intro b Q;have hl:dL cf.ty (.sl X) (r.rv O) b:=by rw[<-B9 (r.rv O)];exact Kx Q
  obtain⟨q1,q2⟩:=Ep R au F hl;refine⟨q1,q2,λk' t d w k2 k3=> ?_⟩;have:=Ky R w k2 k3 au F hl;subst this;simp only[RE.kind,cw,w,nl,RK.rd,RK.sl.injEq] at F;subst F;exact(G4 R w k2 k3 w rfl Q).elim
 simp only[C.ab,RE.ab,LE.ae];revert z x f;generalize r.rv O=d;intro z x f;have o:=fj.u0 (v:=d.val) (rows:=d.ae) (by rw[B9];exact z);cases z with
 |sl X A H N an m h2 c hi Q ho=>
  refine⟨A,H,N,rfl,m,o,λq u L=> ?_,by simp[lenOf] at x;omega,f⟩;obtain⟨b,af,g1,g2,g3⟩:=Ku (bu.sl X A H N an m h2 c hi Q ho) q u L;exact⟨_,g1,by rw[tK];exact g3⟩
 cases h;rename_i i af H N;split at h;rename_i bt cs Q;split at h;rename_i hc;cases h;simp only[aw,bZ] at hc;obtain⟨⟨m,h2⟩,c⟩:=hc;have hf:mD cf.ty s (bm cf.ty (.sl X)) (iO (Y v.aj) H (uN cs af (H*Y v.aj)))=true:=by rw[l];exact m
 have o:=UO R hf;refine⟨U ⟨ad V i,af,Z⟩,H,N,rfl,by simp[LE.ae,OL],by simpa[LE.ae] using o,λq u L=> ?_,by simp[Gn] at c;omega, ?_⟩;simp only[LE.ae] at L;have B:=UP (V:=V) (by rw[l]) hf (λi ag hr=>by rw[o.len i ag hr,l]) L;refine⟨_,rfl, ?_⟩;rw[qV,uN,lT] at B;split at B;rw[rJ,<-qV] at B;obtain⟨Q,a1⟩:=wu Q;have:=R.mem.box i bt cs Q;rw[pu a1] at this;rw[tK];simp[mC,this,B];simp at B;refine abW R hf (λag a3 r k hr hk=> ?_);obtain⟨ii,a4⟩:=qI a3;have:=(OK a4).1;subst this;exact ON (zU (Bz hr)) hk;cases h;cases h;cases h
end
section
variable{g:ap}{u:World}{D:bI}{P:Program}{d:bi}{V:ap}{O:ai}{s:S}{a:Act}{W:World}
def yG{x y:BE}(h:(tA x y).ab O=J):x.ab O=J/\y.ab O=true:=by
 rw[Um] at h;simpa using h
def wB{x y:K}(h:(oz .leq x y).ab O=J):x.ab O<=y.ab O:=by
 rw[Aw] at h;simp only[gm] at h;exact uJ h
def amH(R:ax g u D d.ty V O s a W)(H:ip P d.ty)(hg:et d.gl O){c:Call}(i:F.op=.call c)(hc:c.callee=.builtin .append){dr:Bool}{b:BI}(h:eA d F t dr s=U b)(hn:b.aN.ab O=J):
  G6 P g u D d.ty V O s a W F b:=by
 unfold eA at h;simp only[i,hc] at h;split at h;rename_i X t2 x y an G;split at h;rename_i e aj q L bl q2 ht a0;split at h;rename_i te B;split at h;cases h;rename_i af;have he:e=L:=by by_cases Q:e=L;exact Q;exact bp (.inl Q) af
 have a1:Y te.aj≠0:=λQ=>af (.inr Q)
 subst he;split at h;rename_i M n1 br N n2 cM h1 h2;split at h;cases h;rename_i w;obtain⟨a3,a4,rfl⟩:=wA h;obtain⟨a9,ba⟩:=yG hn;obtain⟨A1,m1,c1,e1,v,g3,⟨ag,r,g4⟩,g5⟩:=amF (cf:=d) R h1 a9;obtain⟨A2,m2,c2,L,n,k2,k3,k4,k5⟩:=amG R B h2 ba;have m:(bm d.ty (.sl e)).length=Y te.aj:=by simp[bm,B]
 obtain⟨A,k,W',r1,r2,r3⟩:=amE (P:=P) (tyR:=F.type) (t:=X) (t2:=t2) (cap2:=c2) (H _ _ B) a1 m (H _ _ ht).desc (H _ _ a0).desc v (old:=ag) (by
  rw[<-m];rcases r with r|⟨q1,f,l,rfl⟩;exact .inl r;refine .inr ⟨q1, ?_⟩;simp only[f9,BC] at w;cases N with
  |lit rr=>
   cases rr with
   |nil=>simp[TL] at w
   |cons r0 rr=>rw[<-n];simp[LE.ae]
  |_=>simp[TL] at w) n k2 k3 g3 k4
 have bb:(LE.jW M N).ae O=M.ae O++N.ae O:=rfl;have al:(M.ae O++N.ae O).length=m1+m2:=by rw[fQ,(qZ v).1,n]
 have bc:yE d.ty V O s e (M.ae O++N.ae O) cM:=λb hb=>(amB hb).elim (g5 cM b) (k5 b)
 obtain⟨R',bd⟩:=R.bind a3 (old:=ag) g4 a4 r2 ((fj.u0 v).jW k2) bc (by rw[m];exact r3);refine⟨.slice A (m1+m2) k,W',.mk (.slice A (M.ae O++N.ae O).length k) (M.ae O++N.ae O),.inl ?_,⟨⟨A,_,k,by rw[bb],rfl⟩,bd,λ_ _ _ _ h=>by cases h⟩, ?_,Cc _ _ _⟩;have ha:c.args.toList=[c.args.toList.getD 0 default,c.args.toList.getD 1 default]:=by
  have hl:Y c.args.toList=2:=by have:=ji Y G;simpa using this
  match c.args.toList,hl with
  |[p,q],_=>rfl
 have bf:∀z∈c.args.toList,a.eval z=(s.ev d.gl z).ab O V:=by
  intro z j;refine cK R hg z ?_;have:s.ev d.gl z∈[x,y]:=by rw[<-G];exact List.mem_map_of_mem j
  rcases dJ.1 this with Q|Q;rw[Q];cases x<;>first|rfl|(simp[tD] at h1)
  rw[NI.1 Q];cases y<;>first|rfl|(simp[pT] at h2)
 have bg:c.args.map a.eval= #[x.ab O V,y.ab O V]:=by
  apply kG;rw[th];have:c.args.toList.map a.eval=(c.args.toList.map (s.ev d.gl)).map (C.ab O V):=by
   rw[mT];exact jh λz j=>bf z j
  rw[this,G];rfl
 have bk:c.argTypes= #[X,t2]:=by apply kG;rw[an]
 simp only[execOp,i,resolve,hc,cZ,eI,cT,invoke,builtin,bg,bk,e1,L,r1];have:=Eu R' R.er F.dst;rw[RV.l9,al] at this;rw[al];exact this;cases h;cases h;cases h;cases h
def amI(X:CT):((zY X).bN O).val=pw X:=by cases X<;>rfl
def amJ(R:ax g u D d.ty V O s a W)(af:ip P d.ty)(hg:et d.gl O){xm:Operand}(ho:F.op=.makeSlice X r xm){dr:Bool}{b:BI}(h:eA d F t dr s=U b)(hn:b.aN.ab O=J):
  G6 P g u D d.ty V O s a W F b:=by
 unfold eA at h;simp only[ho] at h;split at h;rename_i e aj q n m ht a4 a9;split at h;rename_i Q x;split at h;rename_i hc;simp only[aw,bne_iff_ne,ne_eq] at hc;obtain⟨⟨bf,bg⟩,bk⟩:=hc;obtain⟨bl,co,rfl⟩:=wA h;obtain⟨ag,al⟩:=yG hn;have ag:=wB ag;have al:=KD al;simp only[K.ab] at ag;obtain⟨N,p⟩:∃N:Nat,n.ab O=(N:Int):=⟨(n.ab O).toNat,aa⟩;rw[p] at al;have br:N<=536870912:=aa;have hw:(bm d.ty (.sl e)).length=Y Q.aj:=by simp[bm,x]
 have l:bm d.ty (.sl e)=Q.aj:=by simp[bm,x]
 have an:=cK R hg r (by rw[a4];rfl);have a1:=cK R hg xm (by rw[a9];rfl);have bs:m=n:=(K.bD _ _ bf).symm;rw[a4,C.ab,p] at an;rw[a9,C.ab,bs,p] at a1;obtain⟨i,hi,bt,z,hz,ba⟩:=(af _ _ x).GK;have bx:=(af _ _ x).bytes i hi;have bb:z.cells.size=Y Q.aj:=by rw[<-BA,ba];simp
 have hf:mD d.ty s (bm d.ty (.sl e)) [dV Q]=true:=by rw[l];exact bg
 have b0:OJ W d.ty (bm d.ty (.sl e)) ((dV Q).map (C.bN O)):=UI R (Ca hf 0 _ rfl);have b1:(LE.tq n (dV Q)).ae O=ew N ((dV Q).map (C.bN O)):=by simp[LE.ae,p]
 have B:fj W d.ty e (ew N ((dV Q).map (C.bN O))):=fj.of (λi f H=>by
  rw[Dw] at H;split at H;cases H;exact b0;cases H)
 have b2:yE d.ty V O s e (ew N ((dV Q).map (C.bN O))) []:=by
  intro b ⟨i,j,f,c,z,k,G,L,M,hl⟩;rw[Dw] at G;split at G;cases G;exfalso;rw[dM,dV,dM] at L;rw[l] at M;rw[M] at L;simp only[dQ,cg,zY,C.bN,RE.rv] at L;subst L;cases hl with
  |deep e v b3 i j f c z k b g1=>simp at g1
  |own e' cp b hl=>
   have a3:=(Es (Ca hf 0 _ rfl)).2 j _ (.ah (.k z)) (by rw[l];exact M) (by simp[dV,M,zY]);simp[qO,RE.fits] at a3
  |here e a0 b4 b5 b3=>
   have a3:=(Es (Ca hf 0 _ rfl)).2 j _ (.ah (.k (.slice (U a0) (b4+1) b5))) (by rw[l];exact M) (by simp[dV,M,zY]);simp[qO,RE.fits,RE.kind,RE.isNil] at a3
  cases G
 have b6:(aaK (N*Y Q.aj)).map (z.cells[· %z.cells.size]!)=(dX (ew N ((dV Q).map (C.bN O)))).toArray:=by
  apply kG;apply jV;intro q;have cs:(dX (ew N ((dV Q).map (C.bN O)))).length=N*Y Q.aj:=by rw[yD B.len,hw];simp
  by_cases hq:q<N*Y Q.aj;have b7:0<Y Q.aj:=aa;have b8:q/Y Q.aj<N:=aln (by rw[NS];exact hq);have hj:q%Y Q.aj<Y Q.aj:=JN _ b7;have bc:Q.aj[q%Y Q.aj]?=U Q.aj[q%Y Q.aj]:=ce hj;have G:(ew N ((dV Q).map (C.bN O)))[q/Y Q.aj]?=U ((dV Q).map (C.bN O)):=by rw[Dw,aE b8]
  have L:((dV Q).map (C.bN O))[q%Y Q.aj]?=U ((zY Q.aj[q%Y Q.aj]).bN O):=by simp[dV,bc]
  have M:=Kt (w:=Y Q.aj) (λi f H=>by rw[B.len i f H,hw]) G L;have ca:q/Y Q.aj*Y Q.aj+q%Y Q.aj=q:=by rw[NS];exact aaF q _
  rw[ca,amI] at M;simp only[th,alq,dM,F8 hq,dQ,bb];rw[M];congr 1;have bd:q%Y Q.aj<z.cells.size:=by rw[bb];exact hj
  rw[getElem!_pos z.cells _ bd];have:z.cells.toList[q%Y Q.aj]?=U (pw Q.aj[q%Y Q.aj]):=by rw[ba,dM,bc];rfl
  rw[Tk,F6 bd] at this;simpa using this;rw[jx dG,jx (by rw[Tm];omega)]
 have cc:IntKind.i64.wrap (N:Int)=N:=IntWalk.i64_in _ aa;have ct:(i.bytes:Int)*N<=2^46:=by
  have:i.bytes*N<=131072*536870912:=alD bx br;have L:((i.bytes*N:Nat):Int)<=((131072*536870912:Nat):Int):=Int.ofNat_le.2 this;simp only[Int.natCast_mul] at L;omega
 obtain⟨R',ch⟩:=R.bind bl (old:=Z) (kill:=[]) (cM:=[]) (A:=U ⟨W.heap.size,0,Z⟩) (cap:=N) (W':=W.alloc (.cells (dX (ew N ((dV Q).map (C.bN O)))).toArray e)) (.inl ⟨rfl,rfl⟩) au (axk W _ Z) B b2
  ⟨au,au,by
   rcases BB N with y|y;exact .inl y;exact .inr ⟨W.heap.size,_,rfl,NG W _,by simp only[maxLen];omega,by
    rw[DB,yD B.len,hw];simp,by
    rw[Tm,F7];rw[yD B.len];exact bU _,.inl (bU _)⟩⟩
 refine⟨.slice (U ⟨W.heap.size,0,Z⟩) N N,W.alloc (.cells (dX (ew N ((dV Q).map (C.bN O)))).toArray e),.mk (.slice (U ⟨W.heap.size,0,Z⟩) (ew N ((dV Q).map (C.bN O))).length N) _,.inl ?_,⟨⟨_,_,_,by rw[b1],rfl⟩,ch,λ_ _ _ _ h=>by cases h⟩, ?_,Cc _ _ _⟩;have hd:P.underlying X=U (.slice e):=(af _ _ ht).desc;rw[<-b6];have c1:¬((N:Int)<0):=aa;have c2:¬((i.bytes:Int)*N>2^48):=aa;by_cases y:N*Y Q.aj=0;have cl:N=0:=by rcases Nat.mul_eq_zero.1 y with hh|hh;exact hh;exact bp hh bk
 subst cl;have cn:IntKind.i64.wrap 0=0:=IntWalk.i64_in 0 aa;simp[execOp,ho,an,a1,Instr.makeSlice,eB.gp hd,asInt,asIntOf,typeInfo,hi,cn,Go.sizeOf,newRow,askRoom];congr 2;apply kG;simp[aaK];simp[execOp,ho,an,a1,Instr.makeSlice,eB.gp hd,asInt,asIntOf,typeInfo,hi,cc,c1,Go.sizeOf,bt,y,zeroValue,hz,newRow];intro hh;omega;have:=Eu R' R.er F.dst;rw[RV.l9] at this;simp only[List.length_replicate] at this⊢;exact this;cases h;cases h;cases h
def amK(Q:ax g u D d.ty V O s a W)(y:ip P d.ty)(hg:et d.gl O){parts:Array (Nat×Operand)}(j:F.op=.buildSlice X R parts){dr:Bool}{b:BI}(h:eA d F t dr s=U b):
  G6 P g u D d.ty V O s a W F b:=by
 unfold eA at h;simp only[j] at h;split at h;cases h;split at h;rename_i e aj q ht;split at h;rename_i N v;split at h;rename_i l hf;split at h;rename_i hc;simp only[aw,bne_iff_ne,ne_eq,di,bZ,f9] at hc;obtain⟨⟨⟨⟨⟨h1,h2⟩,h3⟩,h4⟩,h5⟩,h6⟩:=hc;obtain⟨a3,a4,rfl⟩:=wA h;have H:bm d.ty (.sl e)=N.aj:=by simp[bm,v]
 have f:mD d.ty s (bm d.ty (.sl e)) (iO (Y N.aj) R l)=true:=by rw[H];exact h2
 have c:=UO Q f;have a9:(LE.lit (iO (Y N.aj) R l)).ae O=(iO (Y N.aj) R l).map λM=>M.map (C.bN O):=rfl
 have n:((iO (Y N.aj) R l).map λM=>M.map (C.bN O)).length=R:=by simp[OL]
 have ba:=abW Q f (cM:=C.nP l) (λM bb r k G hk=>by
  obtain⟨ii,bc⟩:=qI bb;have:=(OK bc).1;subst this;exact ON (zU (Bz G)) hk)
 have m:(dX ((iO (Y N.aj) R l).map λM=>M.map (C.bN O))).length=R*Y N.aj:=by rw[yD (w:=Y N.aj) (λi M G=>by rw[c.len i M G,H]),n]
 have bd:dX ((iO (Y N.aj) R l).map λM=>M.map (C.bN O))=C.ay O V l:=by
  apply jV;intro k;by_cases hk:k<R*Y N.aj;have af:k<(dX ((iO (Y N.aj) R l).map λM=>M.map (C.bN O))).length:=by rw[m];exact hk
  have:=UP (V:=V) (by rw[H]) f (λi M G=>by rw[c.len i M G,H]) (ce af);rw[this,ce af];rw[jx (by rw[m];omega),jx (by rw[Ej,h1];omega)]
 have bs:R<=536870912:=by simp only[Gn] at h4;omega
 obtain⟨R',bf⟩:=Q.bind a3 (old:=Z) (kill:=[]) (cM:=C.nP l) (A:=U ⟨W.heap.size,0,Z⟩) (cap:=R) (W':=W.alloc (.cells (dX ((iO (Y N.aj) R l).map λM=>M.map (C.bN O))).toArray e)) (.inl ⟨rfl,rfl⟩) a4 (axk W _ Z) c ba
  ⟨by rw[n];exact bU _,au,by
   rcases BB R with L|L;exact .inl L;exact .inr ⟨W.heap.size,_,rfl,NG W _,by simp only[maxLen];omega,by
    rw[DB,m,H],by
    rw[Tm,F7];rw[m,n,H];exact bU _,.inl (bU _)⟩⟩
 refine⟨.slice (U ⟨W.heap.size,0,Z⟩) R R,W.alloc (.cells (dX ((iO (Y N.aj) R l).map λM=>M.map (C.bN O))).toArray e),.mk (.slice (U ⟨W.heap.size,0,Z⟩) ((iO (Y N.aj) R l).map λM=>M.map (C.bN O)).length R) _,.inl ?_,⟨⟨_,_,_,by rw[a9],rfl⟩,bf,λ_ _ _ _ h=>by cases h⟩, ?_,Cc _ _ _⟩;have hd:P.underlying X=U (.slice e):=(y _ _ ht).desc;have ag:(parts.map λ(i,x)=>(i,a.eval x)).toList=(parts.toList.map λp=>(p.1,s.ev d.gl p.2)).map λp=>(p.1,p.2.ab O V):=by
  simp only[th,mT];apply jh;intro p hp;have:=cK Q hg p.2 (by
   cases hh:(s.ev d.gl p.2).ec;rfl;exact bp (jy.2 ⟨p,hp,hh⟩) (by rw[h6];simp))
  simp[this]
 obtain⟨z,bg,bk⟩:=GQ (P:=P) (W:=W) (O:=O) (V:=V) (y _ _ v);have al:=Kq (V:=V) (tL Q) _ _ _ _ hf;have B:(dV N).length=Y N.aj:=by simp[dV]
 have hzero:((aaK (R*Y N.aj)).map ((if R*Y N.aj=0 then #[] else z.cells)[· %(if R*Y N.aj=0 then #[] else z.cells).size]!))=(C.ay O V (uP R (dV N))).toArray:=by
  apply kG;apply jV;intro k;by_cases an:k<R*Y N.aj;have bl:¬R*Y N.aj=0:=aa;have br:0<Y N.aj:=Nat.pos_of_ne_zero h3;have a0:k%Y N.aj<(C.ay O V (dV N)).length:=by rw[Ej,B];exact JN _ br
  simp only[bl,fH,bk,th,alq,dM,F8 an,dQ,qV,UN _ _ _ (by rw[B];exact an),B];rw[<-qV,ce a0];simp only[DB,Ej,B];rw[getElem!_pos _ _ (by simpa using a0)];simp;rw[jx dG,jx (by simp[abV,B];omega)]
 have a1:¬R*Y N.aj>2^24:=aa;rw[bd];by_cases L:R*Y N.aj=0;simp only[aE L] at hzero;simp only[execOp,j,Instr.buildSlice,cZ,eB.gp hd,cT,(y _ _ v).lw,a1,fH,eI,aE L,ag];rw[hzero,al];simp[newRow];simp only[aJ L] at hzero;simp only[execOp,j,Instr.buildSlice,cZ,eB.gp hd,cT,(y _ _ v).lw,a1,fH,eI,aJ L,ag,bg];rw[hzero,al];simp[newRow];have:=Eu R' Q.er F.dst;rw[RV.l9] at this;rw[n] at this⊢;exact this;cases h;cases h;cases h;cases h
end
section
variable{p:ap}{g:World}{D:bI}{P:Program}{d:bi}{V:ap}{O:ai}{s:S}{a:Act}{W:World}
def KF{h:Nat}{N:aC}(X:((k.take h).drop R)[Q]?=U N):k[R+Q]?=U N/\R+Q<h:=by
 rw[rJ,lT] at X;split at X;exact⟨X,DG⟩;cases X
def amL{h:Nat}(M:mG n X ((k.take h).drop R) Q):mG n X k Q:=by
 obtain⟨i,j,L,c,z,N,H,G,F,B⟩:=M;exact⟨_,j,L,c,z,N,(KF H).1,G,F,B⟩
def amM{A:mU}{h:Nat}(L:bu W n (.sl X) (.mk (.slice A R Q) k))(h1:i<=h)(h2:h<=R):
  bu W n (.sl X) (.mk (.slice (if Q=i then A else A.map (·.add (i*(bm n (.sl X)).length))) (h-i) (Q-i)) ((k.take h).drop i)):=by
 obtain⟨B,hc⟩:=qZ L;have z:((k.take h).drop i).length=h-i:=by simp[B];omega
 have y:=fj.u0 L;have H:fj W n X ((k.take h).drop i):=fj.of (λN M x=>y.get (KF x).1);by_cases w:i=h;have:(k.take h).drop i=[]:=qG aa;rw[this,w,Tv];exact AB _ _;have af:i<h:=aa;have v:Q≠i:=aa;rw[aJ v];obtain⟨M,t⟩:∃M,k[i]?=U M:=⟨_,ce aa⟩;cases L with
 |sl X A ag Q k g1 g2 G hi hb ho=>
  obtain⟨-,b,F,rfl,r,-⟩:=G i M t;rw[<-z];simp only[dQ,tK];refine UG H r (λq u p=> ?_) aa;obtain⟨N,j,o,c,m,g,rfl,rfl⟩:=G2 H.len p;obtain⟨-,b',al,f,-,d⟩:=G (i+N) o (KF m).1;cases f;have:=d j c g;rw[show F+i*(bm n (.sl X)).length+(N*(bm n (.sl X)).length+j)=F+(i+N)*(bm n (.sl X)).length+j by rw[pe];omega];exact this
def UQ(N:ax p g D d.ty V O s a W)(m:s.bd=J){r:RE}(F:r.kind d.ty s=.sl X){A:mU}(j:r.ab O=.slice A R Q){l h:Nat}(f:l<=h)(c:h<=R){B:mU}
  (H:B=if Q=l then A else A.map (·.add (l*(bm d.ty (.sl X)).length)))(hc:i=Q-l):
  ax p g D d.ty V (O.add (.r (.mk (.slice B (h-l) i) (((r.rv O).ae.take h).drop l)))) {s with rs:=jz r.root.toList 0 (iw [] 0 s.rs)++[.sl X]} a W/\
   (((r.rv O).ae.take h).drop l).length=h-l/\∀b,dL d.ty (.sl X) (.mk (.slice B (h-l) i) (((r.rv O).ae.take h).drop l)) b->g.heap.size<=b\/b∈p\/O.oE d.ty s.rs b:=by
 have z:=oF N au F;have v:r.rv O=.mk (.slice A R Q) (r.rv O).ae:=by rw[<-j];exact(B9 _).symm
 rw[v] at z;have af:=amM z f c;have y:∀b,dL d.ty (.sl X) (.mk (.slice B (h-l) i) (((r.rv O).ae.take h).drop l)) b->dL d.ty (.sl X) (r.rv O) b:=by
  intro b G;rw[v];rcases abP G with⟨a0,a9,c0,L,rfl⟩|L;simp only[Value.slice.injEq] at L;obtain⟨L,u,q⟩:=L;obtain⟨x,rfl⟩:∃x,R=x+1:=⟨R-1,aa⟩;rw[L] at H;have ag:Q≠l:=by have:=(qZ z).2;omega
  rw[aJ ag] at H;cases A with
  |none=>simp at H
  |some o=>
   simp only[dQ,cg] at H;have:a0.block=o.block:=by rw[H];unfold Addr.add;split<;>rfl
   rw[this];exact dL.here X o x Q _
  exact Kx (amL L)
 have al:iw [] 0 s.rs=s.rs:=by
  apply jV;intro M;rw[G0];cases s.rs[M]?<;>simp
 rw[al];have R1:=N.lx (Ks r.root.toList s.rs);refine⟨?_,by have:=(qZ z).1;simp;omega,λb G=>.inr (.inr (Ep N au F (y b G)).1)⟩;refine R1.add (Kz m (yC _ _ _)) (by rw[H,hc];exact af) (λb G=>(Ep N au F (y b G)).2) (λk t rv b L u q w=> ?_) (λt b ht=>by cases ht);obtain⟨an,a3⟩:=UK L;rcases w with w|⟨⟨t',a4⟩,_⟩;have:=Ky N an u q au F (y b w);subst this;exact a3 (by simp[RE.root]);cases a4
def KG{n:Int}(h:0<=n):∃N:Nat,n=(N:Int):=⟨n.toNat,aa⟩
def amN(R:ax p g D d.ty V O s a W)(f:ip P d.ty)(hg:et d.gl O){lo hi mx:Option Operand}(ho:F.op=.slice X r lo hi mx){dr:Bool}{b:BI}(h:eA d F t dr s=U b)(hn:b.aN.ab O=J):
  G6 P p g D d.ty V O s a W F b:=by
 unfold eA at h;simp only[ho] at h;split at h;cases h;have a3:∀{y:Option Operand}{v:C},y.map (s.ev d.gl)=U v->v≠ .any->y.map a.eval=U (v.ab O V):=by
  intro y v hy M;cases y with
  |none=>cases hy
  |some z=>
   simp only[dQ,cg] at hy⊢;rw[<-hy];exact cK R hg z (by rw[hy];cases v<;>first|rfl|exact bp rfl M)
 have a4:∀{y:Option Operand},y.map (s.ev d.gl)=Z->y.map a.eval=none:=by
  intro y hy;cases y with
  |none=>rfl
  |some z=>cases hy
 split at h
 
 rename_i e aj q Q k1 k2 ht B ag al an;split at h;rename_i te k;split at h;rename_i hc;obtain⟨a0,bc,rfl⟩:=wA h;have w:=cK R hg r (by rw[B];rfl);rw[B,C.ab] at w;have hd:P.underlying X=U (.slice e):=(f _ _ ht).desc;obtain⟨A,n,N,M⟩:∃A n N,Q.ab O=.slice A n N:=by
  rcases hc with hc|hc;exact Ko R hc;unfold RE.isNil at hc;split at hc;exact⟨Z,0,0,rfl⟩;cases hc
 obtain⟨R',a1⟩:=R.bind a0 (old:=Z) (kill:=[]) (cM:=[]) (rows:=[]) (e:=e) (A:=A) (cap:=0) (W':=W) (.inl ⟨rfl,rfl⟩) au ⟨rfl,rfl,rfl,bU _,λ_ _ _=>rfl⟩ fj.nil (λb hb=>(Kw hb).elim) ⟨au,λ_=>rfl,.inl rfl⟩;refine⟨.slice A 0 0,W,.mk (.slice A 0 0) [],.inl ?_,⟨⟨A,0,0,rfl,rfl⟩,a1,λ_ _ _ _ h=>by cases h⟩,Eu R' R.er F.dst,Cc _ _ _⟩;have e1:=a3 ag au;have j:=a3 al au;have i:=a4 an;simp only[C.ab,K.ab] at e1 j;simp[execOp,ho,w,M,e1,j,i,Instr.sliceAt,eB.gp hd,Instr.slice,Instr.sliceBounds,Instr.sliceBound,asIntOf,(f _ _ k).lw];cases h;cases h
 
 rename_i e aj q Q ih il ht B ag al an;split at h;rename_i te k;split at h;rename_i u;obtain⟨a0,bc,rfl⟩:=wA h;obtain⟨G,bb⟩:=yG hn;obtain⟨bb,m⟩:=yG bb;have G:=wB G;have bb:=wB bb;have m:=wB m;have w:=cK R hg r (by rw[B];rfl);rw[B,C.ab] at w;have hd:P.underlying X=U (.slice e):=(f _ _ ht).desc;obtain⟨A,n,N,M⟩:=Ko R u;have a9:lenOf (Q.rv O).val=n:=by have:=M;unfold RE.ab at this;rw[this];rfl
 simp only[K.ab,a9] at G m;obtain⟨L,hL⟩:=KG G;obtain⟨H,hH⟩:=KG (show 0<=ih.ab O from aa);have bd:n<=N:=by
  have:=oF R au u;rw[<-B9 (Q.rv O),show(Q.rv O).val=.slice A n N from M] at this;exact(qZ this).2
 obtain⟨R',ba,a1⟩:=UQ R a0 u M (l:=L) (h:=H) aa aa rfl rfl;have af:(LE.sub (.ah Q) il ih).ae O=((Q.rv O).ae.take H).drop L:=by simp[LE.ae,hL,hH]
 have hw:(bm d.ty (.sl e)).length=Y te.aj:=by simp[bm,k]
 refine⟨.slice (if N=L then A else A.map (·.add (L*(bm d.ty (.sl e)).length))) (H-L) (N-L),W,_,.inl ?_,⟨⟨_,_,_,by rw[af],by rw[af];exact ba⟩,a1,λ_ _ _ _ h=>by cases h⟩,Eu R' R.er F.dst,Cc _ _ _⟩;have e1:=a4 ag;have j:=a3 al au;have i:=a3 an au;simp only[C.ab,hL,hH] at j i;have c1:(H:Int)<=(N:Int):=aa;have c2:(L:Int)<=(H:Int):=aa;simp[execOp,ho,w,M,e1,j,i,Instr.sliceAt,eB.gp hd,Instr.slice,Instr.sliceBounds,Instr.sliceBound,asIntOf,(f _ _ k).lw,hw];simp[show H<=N from aa,show L<=H from aa];cases h;cases h
 
 rename_i e aj q Q ih ht B ag al an;split at h;rename_i te k;split at h;rename_i u;obtain⟨a0,bc,rfl⟩:=wA h;obtain⟨G,m⟩:=yG hn;have G:=wB G;have m:=wB m;have w:=cK R hg r (by rw[B];rfl);rw[B,C.ab] at w;have hd:P.underlying X=U (.slice e):=(f _ _ ht).desc;obtain⟨A,n,N,M⟩:=Ko R u;have a9:lenOf (Q.rv O).val=n:=by have:=M;unfold RE.ab at this;rw[this];rfl
 simp only[K.ab,a9] at G m;obtain⟨H,hH⟩:=KG G;have bd:n<=N:=by
  have:=oF R au u;rw[<-B9 (Q.rv O),show(Q.rv O).val=.slice A n N from M] at this;exact(qZ this).2
 obtain⟨R',ba,a1⟩:=UQ R a0 u M (l:=0) (h:=H) aa aa rfl rfl;have af:(LE.sub (.ah Q) (.c 0) ih).ae O=((Q.rv O).ae.take H).drop 0:=by simp[LE.ae,hH,K.ab]
 have hw:(bm d.ty (.sl e)).length=Y te.aj:=by simp[bm,k]
 refine⟨.slice (if N=0 then A else A.map (·.add (0*(bm d.ty (.sl e)).length))) (H-0) (N-0),W,_,.inl ?_,⟨⟨_,_,_,by rw[af],by rw[af];exact ba⟩,a1,λ_ _ _ _ h=>by cases h⟩,Eu R' R.er F.dst,Cc _ _ _⟩;have e1:=a4 ag;have j:=a3 al au;have i:=a4 an;simp only[C.ab,hH] at j;simp[execOp,ho,w,M,e1,j,i,Instr.sliceAt,eB.gp hd,Instr.slice,Instr.sliceBounds,Instr.sliceBound,asIntOf,(f _ _ k).lw,hw];intro hh;omega;cases h;cases h
 
 rename_i e aj q Q il ht B ag al an;split at h;rename_i te k;split at h;rename_i u;obtain⟨a0,bc,rfl⟩:=wA h;obtain⟨G,m⟩:=yG hn;have G:=wB G;have m:=wB m;have w:=cK R hg r (by rw[B];rfl);rw[B,C.ab] at w;have hd:P.underlying X=U (.slice e):=(f _ _ ht).desc;obtain⟨A,n,N,M⟩:=Ko R u;have a9:lenOf (Q.rv O).val=n:=by have:=M;unfold RE.ab at this;rw[this];rfl
 simp only[K.ab,a9] at G m;obtain⟨L,hL⟩:=KG G;have bd:n<=N:=by
  have:=oF R au u;rw[<-B9 (Q.rv O),show(Q.rv O).val=.slice A n N from M] at this;exact(qZ this).2
 obtain⟨R',ba,a1⟩:=UQ R a0 u M (l:=L) (h:=n) aa aa rfl rfl;have af:(LE.sub (.ah Q) il (.len Q)).ae O=((Q.rv O).ae.take n).drop L:=by simp[LE.ae,hL,K.ab,a9]
 have hw:(bm d.ty (.sl e)).length=Y te.aj:=by simp[bm,k]
 refine⟨.slice (if N=L then A else A.map (·.add (L*(bm d.ty (.sl e)).length))) (n-L) (N-L),W,_,.inl ?_,⟨⟨_,_,_,by rw[af],by rw[af];exact ba⟩,a1,λ_ _ _ _ h=>by cases h⟩,Eu R' R.er F.dst,Cc _ _ _⟩;have e1:=a4 ag;have j:=a4 al;have i:=a3 an au;simp only[C.ab,hL] at i;simp[execOp,ho,w,M,e1,j,i,Instr.sliceAt,eB.gp hd,Instr.slice,Instr.sliceBounds,Instr.sliceBound,asIntOf,(f _ _ k).lw,hw];intro hh;omega;cases h;cases h;cases h
mutual
def UR{k n:Nat}(h:(O.rv n).val=(O.rv k).val):∀(v:C),(v.gC k n).ab O V=v.ab O V
 |.int _ _|.bool _|.loc _ _|.ij _ _ _ _|.yl _|.any=>rfl
 |.ah (.v j)=>by
  simp only[C.gC];split;rename_i X;simp at X;subst X;simp only[C.ab,RE.ab,RE.rv,h];rfl
 |.ah (.cell _ _ _ _)=>rfl
 |.ah (.k _)=>rfl
 |.el (.v j) w i o=>by
  simp only[C.gC];split;rename_i X;simp at X;subst X;simp only[C.ab,RE.ab,RE.rv,h];rfl
 |.el (.cell _ _ _ _) _ _ _=>rfl
 |.el (.k _) _ _ _=>rfl
 |.agg l=>by simp only[C.gC,C.ab,G7 h l]
 |.bA l=>by simp only[C.gC,C.ab,G7 h l]
 |.fn f l=>by simp only[C.gC,C.ab,G7 h l]
 |.fT t x=>by simp only[C.gC,C.ab,UR h x]
 |.mp _=>rfl
 |.fy e Q R=>by simp only[C.gC,C.ab,G7 h R]
def G7{k n:Nat}(h:(O.rv n).val=(O.rv k).val):∀(l:am),C.ay O V (C.nQ k n l)=C.ay O V l
 |[]=>rfl
 |x::X=>by simp only[C.nQ,C.ay,UR h x,G7 h X]
end
def amO(v:C):v.gC R Q=.any<->v=.any:=by
 cases v with
 |ah r=>cases r<;>simp[C.gC]<;>split<;>simp
 |el r w i o=>cases r<;>simp[C.gC]<;>split<;>simp
 |_=>simp[C.gC]
def abX{k n:Nat}:∀(l:am)(i:Nat),(C.nQ k n l)[i]?=(l[i]?).map (C.gC k n)
 |[],i=>by simp[C.nQ]
 |x::X,0=>by simp[C.nQ]
 |x::X,i+1=>by simp[C.nQ,abX X i]
def abY{k n:Nat}:∀(l:am),(C.nQ k n l).length=Y l
 |[]=>rfl
 |x::X=>by simp[C.nQ,abY X]
def KH{k n:Nat}:∀(l:bn),(rN k n l).length=Y l
 |[]=>rfl
 |Z::X=>by simp[rN,KH X]
 |U (t,R)::X=>by simp[rN,KH X]
def US(k n:Nat)(x:TypeId×am):TypeId×am:=(x.1,if ow x.1 then x.2 else C.nQ k n x.2)
def OO{k n:Nat}:∀(l:bn)(i:Nat),bM (rN k n l) i=(bM l i).map (US k n)
 |[],i=>by simp[rN,cj]
 |Z::X,0=>by simp[rN,cj]
 |U (t,R)::X,0=>by simp[rN,cj,US]
 |Z::X,i+1=>by have:=OO X i (k:=k) (n:=n);simpa[rN,cj] using this
 |U (t,R)::X,i+1=>by have:=OO X i (k:=k) (n:=n);simpa[rN,cj] using this
def Ew{k n:Nat}(l:bn)(i:Nat):aF (rN k n l) i=aF l i:=by simp[aF,OO]
def ax.gC{A:Ty}(R:ax p g D A V O s a W){k n:Nat}(h:(O.rv n).val=(O.rv k).val):ax p g D A V O (s.gC k n) a W:=by
 have y:(s.gC k n).ak=rN k n s.ak:=rfl;refine⟨⟨R.mem.base,λi N=>R.mem.own i (by rw[<-Ew (k:=k) (n:=n)];exact N),λi j N w=>R.mem.inj i j (by rw[<-Ew (k:=k) (n:=n)];exact N) (by rw[<-Ew (k:=k) (n:=n)];exact w),λi t r X=> ?_,λH e G Q F=> ?_⟩,
  by simp[S.gC,KH,R.fM],R.ei,R.eb,R.er,R.cQ,by simp[S.gC,abY,R.size],λt q L=> ?_,λH e G b Q F v=> ?_⟩
 rw[y,OO] at X;cases M:bM s.ak i with
 |none=>rw[M] at X;cases X
 |some x=>
  obtain⟨z,jM⟩:=x;rw[M] at X;simp only[dQ,US,cg,BH] at X;obtain⟨rfl,rfl⟩:=X;have B:=R.mem.box i z jM M;cases u:ow z;simp only[iC,fH];rw[pu u] at B⊢;rw[G7 h];exact B;simp only[cH];exact B
 exact⟨(R.mem.ah H e G Q F).1,λb X i N=>(R.mem.ah H e G Q F).2 b X i (by rw[<-Ew (k:=k) (n:=n)];exact N)⟩;simp only[S.gC,abX] at L;cases M:s.tmps[t]? with
 |none=>rw[M] at L;cases L
 |some x=>
  rw[M] at L;simp only[dQ,cg] at L;subst L;rcases R.tmps t x M with Q|Q;exact .inl ((amO x).2 Q);right;rw[UR h];exact Q
 have t:=R.fz H e G b Q F v;exact⟨t.own,t.mem,λi N=>t.box i (by rw[<-Ew (k:=k) (n:=n)];exact N),t.alone,t.inner⟩

def abZ:∀(Q X:aC)(R:Nat),(gE X R Q).length=Y X
 |[],X,R=>rfl
 |v::Q,X,R=>by rw[gE,abZ];simp
def OP:∀(R Q:aC)(X j:Nat),X+Y R<=Y Q->(gE Q X R)[j]?=if X<=j/\j<X+Y R then R[j-X]? else Q[j]?
 |[],Q,X,j,_=>by simp[gE];intro M N;omega
 |v::R,Q,X,j,h=>by
  simp only[pO] at h;rw[gE,OP R _ (X+1) j dG];by_cases M:j=X;subst M;rw[aJ aa,aE au,Dy aa];simp;by_cases N:X+1<=j/\j<X+1+Y R;rw[aE N,aE dG,show j-X=(j-(X+1))+1 from aa];simp;rw[aJ N,aJ dG,pM aa]
def ab0:∀(R l:eX)(X j:Nat),X+Y R<=Y l->(wz l X R)[j]?=if X<=j/\j<X+Y R then R[j-X]? else l[j]?
 |[],l,X,j,_=>by simp[wz];intro N Q;omega
 |v::R,l,X,j,h=>by
  simp only[pO] at h;rw[wz,ab0 R _ (X+1) j dG];by_cases N:j=X;subst N;rw[aJ aa,aE au,Dy aa];simp;by_cases Q:X+1<=j/\j<X+1+Y R;rw[aE Q,aE dG,show j-X=(j-(X+1))+1 from aa];simp;rw[aJ Q,aJ dG,pM aa]
def G8{f:aC->aC}{N:aC}(h:(k.modify R f)[Q]?=U N):(Q=R/\∃X,k[R]?=U X/\N=f X)\/(Q≠R/\k[Q]?=U N):=by
 rw[alo] at h;by_cases M:R=Q;subst M;simp only[cH] at h;cases L:k[R]? with
 |none=>rw[L] at h;cases h
 |some X=>rw[L] at h;simp at h;exact .inl ⟨rfl,X,rfl,h.symm⟩
 simp only[M,fH] at h;exact .inr ⟨λH=>M H.symm,by simpa using h⟩
def amP{w:Nat}{l:eX}(R:∀(i:Nat)(X:aC),k[i]?=U X->Y X=w)(N:Y l=Y k*w)(h:∀(i j:Nat)(X:aC)(c:RV),k[i]?=U X->X[j]?=U c->l[i*w+j]?=U c.val):l=dX k:=by
 apply jV;intro q;by_cases M:q<(dX k).length;have Q:=ce M;obtain⟨i,j,X,c,L,H,G,F⟩:=G2 R Q;rw[Q,F];subst G;exact h i j X c L H;rw[jx (l:=dX k) aa,jx];rw[N,<-yD R];omega
def amQ(R:ax p g D d.ty V O s a W)(co:ip P d.ty)(hg:et d.gl O){y:Operand}(ho:F.op=.store X r y){dr:Bool}{b:BI}(h:eA d F t dr s=U b)(hn:b.aN.ab O=J):
  G6 P p g D d.ty V O s a W F b:=by
 unfold eA at h;simp only[ho] at h;split at h;cases h;split at h;rename_i G k w i M cp hx;split at h;rename_i e hk;split at h;rename_i te cv;split at h;rename_i hc;simp only[aw,di,bZ] at hc;obtain⟨⟨⟨⟨cx,a9⟩,cy⟩,al⟩,cA⟩:=hc;cases hb:jA s Z (tB i (.len (.v k))) e (.own e) (.set (.ah (.v k)) i M (s.ev d.gl y).cells) [k] (C.nP (s.ev d.gl y).cells) with
 |none=>rw[hb] at h;cases h
 |some b0=>
  rw[hb] at h;simp only[dQ,cg] at h;obtain⟨cB,cC,rfl⟩:=wA hb;subst h;have b1:bm d.ty (.sl e)=te.aj:=by simp[bm,cv]
  have hw:(bm d.ty (.sl e)).length=w:=by rw[b1];exact cx
  obtain⟨A,n,f,g1,g2,g3⟩:=KE R hk;have bd:=sa R hk;simp only[tB] at hn;obtain⟨ba,an⟩:=yG hn;have ba:=wB ba;rw[Aw] at an;simp only[gm,K.ab,RE.rv] at ba an;have an:=uJ an;rw[g1] at an;simp only[RV.l9,lenOf] at an;obtain⟨Q,hI⟩:=KG ba;have df:Q<n:=aa;obtain⟨b2,b3⟩:=qZ g2;have a4:=fj.u0 g2;obtain⟨bk,cJ,hA,b4,cD,bb⟩:∃b cJ,A=U ⟨b,0,Z⟩/\W.heap[b]?=U (.cells cJ e (0,0))/\f<=maxLen/\cJ.size=f*(bm d.ty (.sl e)).length:=by
   rcases g3.mem with h0|h0;omega;exact h0
  subst hA;have cI:kS (U ⟨bk,0,Z⟩) f=U bk:=by cases f with
   |zero=>omega
   |succ c=>rfl
  have cO:s.ev d.gl y≠ .any:=by
   intro hy;rw[hy] at al a9;simp only[C.cells,NE] at a9;rw[<-a9] at al;cases hd:(te.aj.drop M).take 1 with
   |nil=>rw[hd] at al;simp[lq,C.cells] at al
   |cons c cs=>rw[hd] at al;simp[lq,C.cells,qO] at al
  have cR:=cK R hg y (by cases hh:s.ev d.gl y<;>first|rfl|exact bp hh cO);have cW:=cK R hg r (by rw[hx];rfl);have c0:=OE (O:=O) (V:=V) (tL R) cA;obtain⟨f1,f2⟩:=Es al;have bc:(s.ev d.gl y).cells.length=Y G.aj:=a9;have dk:((te.aj.drop M).take (Y G.aj)).length=Y G.aj:=dG;have b5:∀(j:Nat),j<Y G.aj->((te.aj.drop M).take (Y G.aj))[j]?=(bm d.ty (.sl e))[M+j]?:=by
   intro j hj;rw[lT,aE hj,rJ,b1]
  have b6:C.ay O V (s.ev d.gl y).cells=((s.ev d.gl y).cells.map (C.bN O)).map RV.val:=by
   apply jV;intro j;rw[qV,dM,dM];cases hv:(s.ev d.gl y).cells[j]? with
   |none=>rfl
   |some v=>
    have hj:j<Y G.aj:=by rw[<-bc];exact(bJ.1 hv).1
    obtain⟨ct,c1⟩:∃ct,((te.aj.drop M).take (Y G.aj))[j]?=U ct:=⟨_,ce aa⟩;simp only[dQ];rw[abS (f2 j ct v c1 hv)]
  have a0:=UI R al;have b7:(LE.set (.ah (.v k)) i M (s.ev d.gl y).cells).ae O=(O.rv k).ae.modify Q λL=>gE L M ((s.ev d.gl y).cells.map (C.bN O)):=by simp[LE.ae,RE.rv,hI]
  have bf:((s.ev d.gl y).cells.map (C.bN O)).length=Y G.aj:=by simp[bc]
  generalize c2:(s.ev d.gl y).cells.map (C.bN O)=vv at*;have bg:∀H:aC,Y H=(bm d.ty (.sl e)).length->M+Y vv<=Y H:=λH h0=>by rw[h0,hw,bf];exact cy
  have bl:fj W d.ty e ((O.rv k).ae.modify Q λL=>gE L M vv):=by
   refine fj.of (λB L hr=> ?_);rcases G8 hr with⟨rfl,H,l,rfl⟩|⟨br,l⟩
   ·have q:=a4.get l;have c3:=bg H q.len;refine⟨by rw[abZ];exact q.len,λj c kk af ag=> ?_,λj c af ag=> ?_,λj c z kk af ag=> ?_⟩
    all_goals
     rw[OP _ _ _ _ c3] at af;split at af;rename_i hj;have bs:j-M<Y G.aj:=aa;have a1:=b5 _ bs;rw[show M+(j-M)=j from aa,ag] at a1
     first
      |exact a0.int (j-M) c _ af a1
      |exact a0.bool (j-M) c af a1
      |exact a0.ac (j-M) c _ _ af a1
     first
      |exact q.int j c _ af ag
      |exact q.bool j c af ag
      |exact q.ac j c _ _ af ag
   exact a4.get l
  have c4:yE d.ty V O s e ((O.rv k).ae.modify Q λL=>gE L M vv) (C.nP (s.ev d.gl y).cells):=by
   intro b ⟨B,j,L,c,z,kk,h1,m,h3,hl⟩;have elder:∀H,(O.rv k).ae[B]?=U H->H[j]?=U c->O.oE d.ty s.rs b/\(∀i,aF s.ak i=J->ad V i≠b)/\∀(k':Nat)(X:TypeId)(rv:RV),s.rs[k']?=U (.own X)->O.r[k']?=U rv->rv.jY=U b->k'∈C.nP (s.ev d.gl y).cells:=by
    intro H q1 q2;have hi:mG d.ty e (O.rv k).ae b:=⟨B,j,H,c,z,kk,q1,q2,h3,hl⟩;have b8:=G3 (O:=O) (e0:=.own e) rfl hi;exact⟨⟨k,_,hk,b8⟩,(R.mem.ah k _ _ hk bd).2 b b8,λk' X rv q3 q4 q5=>(G4 R q3 q4 q5 hk rfl hi).elim⟩
   rcases G8 h1 with⟨rfl,H,l,rfl⟩|⟨br,l⟩;rw[OP _ _ _ _ (bg H (a4.len _ _ l))] at m;split at m;rename_i hj;have bs:j-M<Y G.aj:=aa;have a1:((te.aj.drop M).take (Y G.aj))[j-M]?=U (.ac z kk):=(b5 _ bs).trans (by rw[show M+(j-M)=j from aa];exact h3);rw[<-c2] at m;obtain⟨N,q1,q2,q3,q4⟩:=UJ al m a1 hl;obtain⟨p1,p2⟩:=Ep R q3 q2 q4;refine⟨p1,p2,λk' X rv k1 k2 k3=> ?_⟩;have:=Ky R k1 k2 k3 q3 q2 q4;subst this;exact ON (iU q1) rfl;exact elder H l m;exact elder L l m
  have bt:(C.ay O V (s.ev d.gl y).cells).length=Y G.aj:=by simp[bc]
  have c5:Q*w+M+Y G.aj<=f*w:=by
   have:(Q+1)*w<=f*w:=Dz _ aa;rw[pe] at this;omega
  obtain⟨W',r1,r2,r3,r4,r5,r6,r7⟩:=UD (P:=P) bk (Q*w+M) e (C.ay O V (s.ev d.gl y).cells) 0 cJ W b4 (by rw[bt,bb,hw];omega) (λu hu=>by
   rw[b6] at hu;obtain⟨c,c6,rfl⟩:=gL.1 hu;obtain⟨j,hj⟩:=qI c6;have dn:j<Y G.aj:=by rw[<-bf];exact(bJ.1 hj).1
   obtain⟨ct,ag⟩:∃ct,((te.aj.drop M).take (Y G.aj))[j]?=U ct:=⟨_,ce aa⟩;cases ct with
   |int kk=>obtain⟨n',bx⟩:=a0.int j c kk hj ag;rw[bx];rfl
   |bool=>obtain⟨n',bx⟩:=a0.bool j c hj ag;rw[bx];rfl
   |ac z kk=>exact GP (a0.ac j c z kk hj ag))
  have a3:((O.rv k).ae.modify Q λL=>gE L M vv).length=n:=by simp[b2]
  have ca:=UL g2 b4;rw[b2,hw] at ca;obtain⟨R',c7⟩:=R.bind cB (old:=U bk) (kill:=[k]) (cM:=C.nP (s.ev d.gl y).cells) (A:=U ⟨bk,0,Z⟩) (cap:=f) (W':=W') (.inr ⟨k,e,_,rfl,hk,bd,by rw[g1,G5,cI]⟩) cC
   ⟨r5,r6,r7,aa,λq _ hq=>r3 q (λh=>hq (by rw[h]))⟩ bl c4
   ⟨by rw[a3];exact b3,au,.inr ⟨bk,_,rfl,r2,cD,by rw[hw,DB,UC,BA,bb,hw],by
    rw[a3,hw];refine amP (w:=w) (λB L hr=>by rw[bl.len B L hr,hw]) ?_ (λB j L c h1 m=> ?_);rw[a3,F9,Tm,UC,BA,bb,hw];exact Gb (Dz _ b3);have ds:B<n:=by rw[<-a3];exact(bJ.1 h1).1
    have dx:j<w:=by rw[<-hw,<-bl.len B L h1];exact(bJ.1 m).1
    have cc:B*w+j<n*w:=by
     have:(B+1)*w<=n*w:=Dz _ aa;rw[pe] at this;omega
    rw[lT,aE cc,Tm,uH,ab0 _ _ _ _ (by rw[bt,BA,bb,hw];exact c5),bt];have ch:∀H:aC,(O.rv k).ae[B]?=U H->H[j]?=U c->cJ.toList[B*w+j]?=U c.val:=by
     intro H q1 q2;have:=Kt (w:=w) (λi L hr=>by rw[a4.len i L hr,hw]) q1 q2;rw[<-ca,lT,aE cc] at this;exact this
    rcases G8 h1 with⟨rfl,H,l,rfl⟩|⟨br,l⟩;rw[OP _ _ _ _ (bg H (a4.len _ _ l)),bf] at m;by_cases hj:M<=j/\j<M+Y G.aj;rw[aE hj] at m;rw[aE aa,b6,show B*w+j-(B*w+M)=j-M from aa,dM,m];rfl;rw[aJ hj] at m;rw[aJ aa];exact ch H l m;have c8:¬(Q*w+M<=B*w+j/\B*w+j<Q*w+M+Y G.aj):=by
     rintro⟨q1,q2⟩;rcases axp br with dy|dz;have:(B+1)*w<=Q*w:=Dz _ aa;rw[pe] at this;omega;have:(Q+1)*w<=B*w:=Dz _ aa;rw[pe] at this;omega
    rw[aJ c8];exact ch L l m,.inr rfl⟩⟩
  have c9:k<Y O.r:=(bJ.1 bd).1;have R2:=R'.gC (k:=k) (n:=Y s.rs) (by
   rw[<-R.er];have e1:(O.add (.r (.mk (.slice (U ⟨bk,0,Z⟩) ((O.rv k).ae.modify Q λL=>gE L M vv).length f) ((O.rv k).ae.modify Q λL=>gE L M vv)))).rv (Y O.r)=.mk (.slice (U ⟨bk,0,Z⟩) ((O.rv k).ae.modify Q λL=>gE L M vv).length f) ((O.rv k).ae.modify Q λL=>gE L M vv):=by simp[ai.rv,ai.add]
   have e2:(O.add (.r (.mk (.slice (U ⟨bk,0,Z⟩) ((O.rv k).ae.modify Q λL=>gE L M vv).length f) ((O.rv k).ae.modify Q λL=>gE L M vv)))).rv k=O.rv k:=by simp[ai.rv,ai.add,dF,c9]
   rw[e1,e2,RV.l9,a3];have:=ji RV.val g1;exact this.symm)
  refine⟨undef,W',_,.inr ⟨?_,rfl⟩,⟨⟨_,_,_,by rw[b7],by rw[b7]⟩,c7,λk' _ _ _ hx=>by
   cases hx;rw[RV.l9,a3];exact(ji RV.val g1).symm⟩,R2.put F.dst (.bA []), ?_⟩
  have dc:(O.rv k).val=.slice (U ⟨bk,0,Z⟩) n f:=by rw[g1];rfl
  have cl:((s.ev d.gl y).ab O V).cells.toList=C.ay O V (s.ev d.gl y).cells:=c0;have dd:((s.ev d.gl y).ab O V).cells.size=Y G.aj:=by rw[<-BA,cl];simp[bc]
  simp only[execOp,ho,cW,cR,hx,C.ab,RE.ab,RE.rv,dc,mX,hI,DC,gV,Instr.storeAt,Instr.sureAddr,storeVar,cZ,eI,cT,(co _ _ cp).lw,dd,cl,ne_eq,not_true_eq_false,fH,r1];have cn:bj s O V ({s with rs:=jz (C.nP (s.ev d.gl y).cells) 0 (iw [k] 0 s.rs)++[.own e]}:S) _ V:=Cc (rv:=.mk (.slice (U ⟨bk,0,Z⟩) ((O.rv k).ae.modify Q λL=>gE L M vv).length f) ((O.rv k).ae.modify Q λL=>gE L M vv)) _ Z (.bA []);refine bj.put (s:=s) (s':=(({s with rs:=jz (C.nP (s.ev d.gl y).cells) 0 (iw [k] 0 s.rs)++[.own e]}:S).put Z (.ah (.v (Y s.rs)))).gC k (Y s.rs)) ⟨cn.ext,λq hq=> ?_,by simp[S.put,S.gC,KH],cn.av⟩ _ _;simp only[S.put,S.gC,Ew];exact hq
 cases h;cases h;cases h;cases h
def UT(R:ax p g D d.ty V O s a W)(N:ip P d.ty)(M:et d.gl O){G:Bool}{b:BI}(h:eA d F t G s=U b)(L:b.aN.ab O=J):G6 P p g D d.ty V O s a W F b:=by
 cases Q:F.op with
 |call c=>
  cases H:c.callee with
  |builtin B=>cases B with
   |append=>exact amH R N M Q H h L
   |_=>simp[eA,Q,H] at h
  |_=>simp[eA,Q,H] at h
 |makeSlice X n m=>exact amJ R N M Q h L
 |buildSlice X A parts=>exact amK R N M Q h
 |slice X x z w v=>exact amN R N M Q h L
 |store X x y=>exact amQ R N M Q h L
 |_=>simp[eA,Q] at h
end
