/- Part 1 of the proof; the last part says what is shown. -/
import GoSem.Step
import Derived.Below
import Derived.Laws.AppendOwn
import Derived.Deep.Draws
import Derived.RangeFuncRecord
import Derived.CallsIn
import Derived.OrdersIn
import Derived.Sort.LoopGhostIn
import Derived.RangeFuncCalls
import Derived.Laws.Cells
import Derived.MapKept
import Derived.IntWalk
set_option linter.all false
set_option maxRecDepth 100000
set_option maxHeartbeats 100000000
open Bool renaming and_eq_true->az,not_eq_true'->gO,false_eq_true->iW,or_eq_true->jd,eq_iff_iff->tG,not_eq_false->Fh,rec->Ib,or_eq_true_iff->aqp,and_assoc->aqD,true_or->aqK,true->J,false->E
open List renaming getElem?_eq_some_iff->bZ,getElem?_eq_getElem->cK,getD_eq_getElem?_getD->dB,getElem?_append_left->dU,getElem?_map->dN,getElem?_append_right->iC,mem_cons->dP,mem_append->eP,all_eq_true->fp,length_append->gD,replicate->eI,map_cons->eE,mem_of_getElem?->jm,getElem?_eq_none->jK,map_congr_left->kb,ext_getElem?->ke,mem_map->hJ,range->fU,eq_nil_of_length_eq_zero->rZ,length_eq_one_iff->oa,getElem?_take->mB,any_eq_true->kS,getElem?_cons_succ->sa,getElem?_of_mem->qW,getElem?_set_ne->qX,length_cons->oK,getElem_mem->pA,getElem?_drop->tF,getElem?_eq_none_iff->Be,length_map->qY,map_map->oc,getElem?_set->uL,drop_eq_getElem_cons->E8,mem_of_mem_drop->Bf,getElem?_replicate->E9,mem_cons_of_mem->Da,mem_of_mem_take->Db,take_of_length_le->Fb,getElem?_set_self->Fc,getElem?_range->Dd,length_take->De,length_drop->Df,range'->wl,size_toArray->Fi,mem_of_find?_eq_some->P1,foldl_cons->Dg,append_assoc->H7,range_eq_range'->P5,find?_cons->H8,getElem?_modify->P7,mem_singleton->P9,length_singleton->Wc,rec->xO,drop_drop->LS,toList_toArray->Wg,all_cons->LU,find?_some->Qc,zip_cons_cons->Wj,flatMap_cons->Wl,getElem?_toArray->aeR,range'_succ->Wm,drop_eq_nil_of_le->aql,drop_zero->aqE,mapM_cons->aqF,length->Y
open Go.Result renaming andThen_ok->dl
open Nat renaming le_refl->cd,lor->bY,zero_add->iJ,shiftLeft->lS,beq->iO,le_trans->oL,eq_zero_or_pos->zt,add_mul->qf,gcd->kE,mul_le_mul_right->Fe,add_zero->xN,testBit_or->Dh,min_eq_left->Fj,add_assoc->Fk,testBit_add_one->P8,lt_of_lt_of_le->Wi,mod_lt->Fo,mul_comm->Qg,mul_le_mul->Wr,zero_le->Ww,rec->Fp,testBit_shiftLeft->aqm,div_lt_of_lt_mul->aqo,div_add_mod->aeZ,sub_self->Wv,one_shiftLeft->aqu,testBit_zero->aqy,eq_of_beq_eq_true->aDl,beq_eq->ae6,testBit_two_pow->aDs,lt_or_gt_of_ne->aDx
open Option renaming map_some->dV,isSome_iff_exists->kD,getD_some->oJ,bind_some->Wn,getD_none->aeW,some->U,none->Z
open Go.Sem renaming run_bind->dq,run_pure->eX
open Array renaming getElem?_eq_some_iff->n9,ext'->mC,toList_map->wh,length_toList->Dc,getElem?_modify->P4,getElem?_setIfInBounds_ne->aeM,getElem?_toList->We,getElem?_eq_getElem->aqj,toList_range->aqs,mapM_eq_mapM_toList->aDc,getElem?_eq_none->aDi,range->ae4,foldl_toList->aDw
open Go.Op renaming operands->io,equalIn->Bj,equal->Dj
open Go.World renaming putObj_heap_other->tE,cell?->nF,alloc_heap_new->P6,putObj->Fm,setCell->Ws,frozen?->Wt,grownBy_alloc->aDt
open Go.Region renaming binds->aqL
open List.cons renaming injEq->wi
open Int renaming toNat_natCast->zu
open Go.Call renaming operands->zw
open Prod.mk renaming injEq->Bh
open Go.IntKind renaming i64->I
namespace Go.Proofs.YtpmkfikkemaopaaGreatDoor.Y
variable{R Q i:Nat}
def ae{p:Prop}(h:p:=by omega):p:=h
def ay{p:Prop}(h:p:=by simp):p:=h
def uM{p:Prop}(h:p:=by assumption):p:=h
def eY{p:Prop}(h:p:=by decide):p:=h
def dF{p:Prop}(h:p:=by simp;omega):p:=h
def cL{p:Prop}(h:p:=by simp[io]):p:=h
def od{p:Prop}(h:p:=by dsimp only;decide):p:=h
def cF:= @decide_eq_true_eq
def dv:= @beq_iff_eq
def aI:= @if_pos
def aK:= @if_neg
def cS:= @if_true
def ga:= @if_false
def aY:= @absurd
def jW:= @congrArg
def tH:= @of_decide_eq_true
def cG:= @Option.some.injEq
def lT:= @Option.some.inj
structure Sh where
 kt:TypeId
 vt:TypeId
 nk:Nat
 ka:Bool
 va:Bool
 deriving DecidableEq
abbrev aw:=List Nat
abbrev cw:=Option Nat
abbrev bq:=List Int
abbrev jC:=List TypeId
abbrev qZ:=Option (List TypeId)
abbrev dI:=Array Oper
abbrev oM:=List Oper
abbrev mD:=List (Nat×Nat×Nat)
abbrev mU:=List ResultVar
abbrev Bk:=List (Nat×Nat)
abbrev gc:=List Value
abbrev lW:=Array Value
abbrev lA:=List Bool
abbrev nG:=Option Addr
abbrev sd:=List (Value×Value)
inductive RK where
 |sl (e:TypeId)
 |str
 |ai
 |own (e:TypeId)
 |ap
 |mr (sh:Sh)
 deriving DecidableEq
abbrev bp:=List RK
def RK.rd:RK->RK
 |.own e=>.sl e
 |k=>k
inductive CT where
 |int (k:IntKind)
 |bool
 |ai (z:Value) (k:RK)
abbrev eQ:=List CT
inductive TD where
 |one
 |gJ
 |str
 |slice (e:TypeId)
 |arr (n:Nat) (e:TypeId)
 |struct (fs:List (Nat×TypeId))
 |map (k e:TypeId) (n:Nat) (ag:Bool)
structure TI where
 d:TD
 ao:eQ
 eq:Bool:=E
abbrev Dl:=Option TI
mutual
inductive K where
 |c (n:Int)
 |v (k:Nat)
 |bin (op:BinOp) (k:IntKind) (a b:K)
 |conv(k:IntKind) (a:K)
 |len (r:RE)
 |mm (mx:Bool) (a b:K)
 |dg (b:BE) (x y:K)
 |cell (r:RE) (i:K) (j:Nat)
 |mV (r:RE) (i:K)
 |look (r:RE) (n:Nat) (a b c:K) (j:Nat)
inductive BE where
 |c (b:Bool)
 |v (k:Nat)
 |cmp (op:BinOp) (a b:K)
 |not (a:BE)
 |and (a b:BE)
 |beq (a b:BE)
 |dg (b x y:BE)
 |cell (r:RE) (i:K) (j:Nat)
 |seq (a b:RE)
 |look (r:RE) (n:Nat) (a b c:K) (j:Nat)
 |has (r:RE) (n:Nat) (a b c:K)
inductive RE where
 |v (k:Nat)
 |cell (r:RE) (i:K) (j:Nat) (k:RK)
 |k (v:Value)
end
inductive C where
 |int (k:IntKind) (e:K)
 |bool (b:BE)
 |am (r:RE)
 |loc (i off:Nat)
 |el (r:RE) (w:Nat) (i:K) (off:Nat)
 |iP (i off len cap:Nat)
 |agg (l:List C)
 |bP (l:List C)
 |fn (f:FuncId) (caps:List C)
 |gJ (t:TypeId) (x:C)
 |yl (n:Nat)
 |any
 |mp (i:Nat)
 |fW (e:K) (ks:List Int) (vs:List C)
abbrev av:=List C
abbrev wm:=List (List C)
abbrev Fq:=Option (List C)
inductive PX where
 |ret
 |exit (id:Nat)
 deriving DecidableEq
inductive Fs where
 |ready
 |busy
 |done (e:PX)
 deriving DecidableEq
abbrev uN:=List Fs
abbrev bE:=List (Option (TypeId×av))
structure S where
 tmps:av
 au:bE
 ni:Nat
 nb:Nat
 rs:bp
 aA:Nat
 lk:Nat
 pd:uN
noncomputable def cg(l:bE)(i:Nat):Option (TypeId×av):=xO (motive:=λ_=>Nat->Option (TypeId×av)) (λ_=>Z) (λx _ X t=>Fp (motive:=λ_=>Option (TypeId×av)) x (λm _=>X m) t) l i
def cH:∀(l:bE)(i:Nat),cg l i=(match l[i]? with
  |U (U b)=>U b
  |_=>Z)
 |[],_=>rfl
 |Z::_,0=>rfl
 |U _::_,0=>rfl
 |_::l,i+1=>by rw[sa];exact cH l i
noncomputable section
def tI:TypeId:=1099511627776
def uO:TypeId:=1099511627777
def wn:TypeId:=1099511627778
def qg(t:TypeId):Bool:=decide (tI<=t)
def lB(l:bE)(i:Nat):Option (TypeId×av):=match cg l i with
 |U (t,X)=>if qg t then Z else U (t,X)
 |none=>Z
inductive LK where
 |int (k:IntKind)
 |bool
 |am (k:RK)
 deriving DecidableEq
abbrev aQ:=List LK
inductive XE where
 |normal
 |ret
 |exit (id:Nat)
 |bI (v:C)
inductive LE where
 |am (r:RE)
 |lit (l:List (List C))
 |mW (a b:LE)
 |uP (n:K) (row:List C)
 |set (a:LE) (i:K) (off:Nat) (cs:List C)
 |sub (a:LE) (lo hi:K)
 |ins (a:LE) (n:Nat) (cs:List C)
inductive bm where
 |lex (cs:List Nat) (desc:Bool)
 |ratio (n d:Nat)
 |dh (k:Nat) (o:bm) (as:List K)
abbrev zy:=List (FuncId×FuncId×TypeId×bm×Bool)
inductive T where
 |out (e:XE) (s:S)
 |ret (v:C) (bx:bE) (rs:List RK)
 |bI (v:C)
 |aW (b:BE) (t f:T)
 |bz (b:BE) (t:T)
 |call (f:FuncId) (args:List C) (bx:bE) (rs:List RK) (ks:List LK) (jf:C) (t:T)
 |loop (aA:Nat) (ks:List LK) (x0:List C) (t:T)
 |back (aA:Nat) (x:List C)
 |new (e:TypeId) (x:LE) (rs rsn:List RK) (t:T)
 |aj (k:RK) (x:LE) (rs:List RK) (t:T)
 |gE (g h:BE) (t f:T)
 |pick (n:K) (g h:BE) (t f:T)
 |dO (f g:FuncId) (e:TypeId) (sp:bm) (st:Bool) (r:RE) (rs:List RK) (t:T)
 |stuck (msg:String)
def Ic:Value->C
 |.int k n=>.int k (.c n)
 |.bool b=>.bool (.c b)
 |v=>.am (.k v)
def LY:Value->C
 |.int k n=>.int k (.c n)
 |.bool b=>.bool (.c b)
 |.agg X=>.agg (X.toList.map Ic)
 |v=>.am (.k v)
def Wz(l:av)(t:Nat):C:=xO (motive:=λ_=>Nat->C) (λ_=>.any) (λx _ X t=>Fp (motive:=λ_=>C) x (λm _=>X m) t) l t
def ae8(l:av)(d:Nat)(v:C):av:=xO (motive:=λ_=>Nat->av) (λ_=>[]) (λx X W d=>Fp (motive:=λ_=>av) (v::X) (λm _=>x::W m) d) l d
@[simp] def wq:∀(l:av)(t:Nat),Wz l t=l.getD t .any
 |[],_=>rfl
 |_::_,0=>rfl
 |_::X,t+1=>wq X t
@[simp] def uQ:∀(l:av)(d:Nat)(v:C),ae8 l d v=l.set d v
 |[],_,_=>rfl
 |_::_,0,_=>rfl
 |x::X,d+1,v=>jW (x::·) (uQ X d v)
def S.ev(X:mD)(s:S):Operand->C
 |.tmp t=>Wz s.tmps t
 |.const v=>LY v
 |.global g=>match X.find? (λx=>x.1==g) with
  |U (_,k,w)=>.el (.v k) w (.c 0) 0
  |none=>.any
 |.func f=>.fn f []
def S.put(s:S)(X:cw)(v:C):S:=
 match X with
 |U d=>{s with tmps:=ae8 s.tmps d v}
 |none=>s
def Dm(r:RE)(i:K)(j:Nat):CT->C
 |.int k=>.int k (.cell r i j)
 |.bool=>.bool (.cell r i j)
 |.ai _ k=>.am (.cell r i j k)
def Bl:CT->C
 |.int k=>.int k (.c 0)
 |.bool=>.bool (.c E)
 |.ai z _=>.am (.k z)
def TD.isAgg:TD->Bool
 |.arr _ _|.struct _=>J
 |_=>E
def C.cells:C->av
 |.agg l=>l
 |v=>[v]
def iX:Value->Bool
 |.agg _|.tuple _=>E
 |_=>J
def RE.Ft:RE->Bool
 |.k w=>iX w
 |_=>J
def C.Fu:C->Bool
 |.am (.k w)=>iX w
 |_=>J
def C.single:C->Bool
 |.am (.k w)=>iX w
 |.agg _|.bP _|.any=>E
 |_=>J
noncomputable def Dn(l:av):Bool:=xO (motive:=λ_=>Bool) J (λx _ X=>Ib (motive:=λ_=>Bool) E X x.single) l
def Qi:(Dn []=J)/\(∀x X,Dn (x::X)=(x.single&&Dn X)):=⟨rfl,λx X=>by
 show Ib (motive:=λ_=>Bool) E (Dn X) x.single=_;cases x.single<;>rfl⟩
def wt(l:av)(X n:Nat):av:=(l.drop X).take n
def wu(X:TI)(l:av)(W:Nat):Option C:=
 if X.d.isAgg then(if W+Y X.ao<=Y l then U (.agg (wt l W (Y X.ao))) else Z) else l[W]?
def kU(l:av)(X:Nat):av->av
 |[]=>l
 |v::r=>kU (l.set X v) (X+1) r
def xP(place:Nat->Option (Nat×Nat))(cells:av):List (Nat×C)->Fq
 |[]=>U cells
 |(i,v)::V=>
  match place i with
  |none=>Z
  |U (X,W)=>if Y v.cells !=W||decide (Y cells<X+W)|| !v.Fu then Z else xP place (kU cells X v.cells) V
def dZ(X:TI):av:=X.ao.map Bl
def wv(n:Nat)(l:av):av:=match n with
 |0=>[]
 |n+1=>l++wv n l
def Qj:BinOp->Bool
 |.eql|.neq|.lss|.leq|.gtr|.geq=>J
 |_=>E
def gX:BinOp->Int->Int->Bool
 |.eql,x,y=>x==y
 |.neq,x,y=>x !=y
 |.lss,x,y=>decide (x<y)
 |.leq,x,y=>decide (x<=y)
 |.gtr,x,y=>decide (x>y)
 |.geq,x,y=>decide (x>=y)
 |_,_,_=>E
def aU:BinOp->IntKind->Int->Int->Int
 |.add,k,x,y=>k.wrap (x+y)
 |.sub,k,x,y=>k.wrap (x-y)
 |.mul,k,x,y=>k.wrap (x*y)
 |.quo,k,x,y=>k.wrap (x.tdiv y)
 |.rem,_,x,y=>x.tmod y
 |.shr,k,x,y=>x.fdiv (2^min y.toNat k.bits)
 |_,_,_,_=>0
def WA:BinOp->Bool
 |.add|.sub|.mul=>J
 |_=>E
def WB:BinOp->Bool
 |.quo|.rem=>J
 |_=>E
def ae9:BinOp->Bool
 |.shr=>J
 |_=>E
inductive PR where
 |ok (v:C)
 |bz (b:BE) (v:C)
 |no (why:String)
def Fv(X:BinOp)(k:IntKind):K->K->K
 |.c x,.c y=>.c (aU X k x y)
 |a,b=>.bin X k a b
def pC(X:BinOp):K->K->BE
 |.c x,.c y=>.c (gX X x y)
 |a,b=>.cmp X a b
def Do:BE->BE
 |.c b=>.c (!b)
 |b=>.not b
def uR:BE->BE->BE
 |.c J,b=>b
 |.c E,_=>.c E
 |a,.c J=>a
 |a,b=>.and a b
def LZ:BE->BE->BE
 |.c a,.c b=>.c (a==b)
 |.c J,b=>b
 |.c E,b=>Do b
 |a,.c J=>a
 |a,.c E=>Do a
 |a,b=>.beq a b
def uS(i:K)(n:K):BE:=uR (pC .leq (.c 0) i) (pC .lss i n)
def Qk(X:Bool):K->K->K
 |.c x,.c y=>.c (if X then max x y else min x y)
 |a,b=>.mm X a b
def Fw(X:Bool)(k:IntKind):K->av->Option K
 |e,[]=>U e
 |e,.int W x::r=>if k=W then Fw X k (Qk X e x) r else Z
 |_,_=>Z
abbrev Ty:=TypeId->Dl
def bD(W:Ty):RK->eQ
 |.sl e=>match W e with
  |U X=>X.ao
  |none=>[]
 |.mr V=>(match W V.kt with
  |U X=>X.ao
  |none=>[])++(match W V.vt with
  |U X=>X.ao
  |none=>[])
 |_=>[]
def Fy:Option CT->RK
 |U (.ai _ k)=>k
 |_=>.ai
def RE.kind(X:Ty)(s:S):RE->RK
 |.v n=>(s.rs.getD n .ai).rd
 |.cell r _ j W=>match RE.kind X s r with
  |.sl e=>if Fy (bD X (.sl e))[j]?=W then W else .ai
  |_=>.ai
 |.k (.string _)=>.str
 |.k _=>.ai
def Ie(X:Ty)(s:S):CT->C->C->Option BE
 |.int k,.int W a,.int V b=>if W=k/\V=k then U (pC .eql a b) else Z
 |.bool,.bool a,.bool b=>U (LZ a b)
 |.ai _ .str,.am a,.am b=>if a.kind X s=.str/\b.kind X s=.str then U (.seq a b) else Z
 |_,_,_=>Z
def rf(X:Ty)(s:S):eQ->av->av->Option BE
 |[],[],[]=>U (.c J)
 |c::W,x::V,y::R=>match Ie X s c x y,rf X s W V R with
  |U a,U b=>U (uR a b)
  |_,_=>Z
 |_,_,_=>Z
def If(X:Ty)(s:S)(W:Dl)(a b:av):Option BE:=match W with
 |U ⟨_,ao,J⟩=>rf X s ao a b
 |_=>Z
def WC(X:Ty)(W:List (Nat×TypeId))(i:Nat):Option (Nat×Nat):=match W[i]? with
 |U (o,V)=>(X V).map λf=>(o,Y f.ao)
 |none=>Z
def RE.nil:RE->Bool
 |.k (.slice Z 0 0)=>J
 |_=>E
def RE.qh(X:Ty)(s:S)(W:Sh)(r:RE):Bool:=decide (r.kind X s=.mr W)||r.nil
def Fz(n:Nat)(X:Bool):C->Option (K×K×K)
 |.int I a=>if n==1&& !X then U (a,.c 0,.c 0) else Z
 |.agg [.int I a]=>if n==1&&X then U (a,.c 0,.c 0) else Z
 |.agg [.int I a,.int I b]=>if n==2&&X then U (a,b,.c 0) else Z
 |.agg [.int I a,.int I b,.int I c]=>if n==3&&X then U (a,b,c) else Z
 |_=>Z
def mE:CT->Bool
 |.ai _ _=>E
 |_=>J
def qi(r:RE)(n:Nat)(a b c:K):Nat->eQ->av
 |_,[]=>[]
 |j,.int k::X=>.int k (.look r n a b c j)::qi r n a b c (j+1) X
 |j,.bool::X=>.bool (.look r n a b c j)::qi r n a b c (j+1) X
 |j,.ai z _::X=>.am (.k z)::qi r n a b c (j+1) X
def se(X:Bool)(l:av):C:=if X then .agg l else l.getD 0 .any
def qj:av->Option bq
 |[]=>U []
 |.int I (.c k)::_::r=>(qj r).map (k::·)
 |_=>Z
def lX:av->av
 |_::v::r=>v::lX r
 |_=>[]
def zA(e:K):bq->av->Option K
 |k::X,.int _ x::W=>(zA e X W).map λy=>.dg (.cmp .eql e (.c k)) x y
 |[],[]=>U (.c 0)
 |_,_=>Z
def Bm(e:K):bq->av->Option BE
 |k::X,.bool x::W=>(Bm e X W).map λy=>.dg (.cmp .eql e (.c k)) x y
 |[],[]=>U (.c E)
 |_,_=>Z
def Ig:C->Bool
 |.fn _ _=>J
 |.am (.k .nilFunc)=>J
 |_=>E
def L6:Dl->Bool
 |U ⟨.one,[.ai .nilFunc _],_⟩=>J
 |_=>E
def Bn(e:K):bq->av->BE
 |k::X,.fn _ _::W=>.dg (.cmp .eql e (.c k)) (.c E) (Bn e X W)
 |k::X,_::W=>.dg (.cmp .eql e (.c k)) (.c J) (Bn e X W)
 |_,_=>.c J
def WD(e:K)(W:bq)(X:av):CT->Option C
 |.int k=>if X.all λv=>match v with|.int V _=>decide (k=V)|_=>E then(zA e W X).map (.int k) else Z
 |.bool=>(Bm e W X).map .bool
 |.ai .nilFunc _=>if X.all Ig&&Y W==Y X then U (.fW e W X) else Z
 |_=>Z
def Bo(e:K)(X:bq)(W:wm):Nat->eQ->Fq
 |_,[]=>U []
 |j,c::V=>match WD e X (W.map λr=>r.getD j .any) c,Bo e X W (j+1) V with
  |U v,U r=>U (v::r)
  |_,_=>Z
def FA(e:K):bq->BE
 |[]=>.c E
 |k::X=>.dg (.cmp .eql e (.c k)) (.c J) (FA e X)
def eG{X:Type}(x:Int):bq->List X->Option X
 |k::W,v::V=>if x=k then U v else eG x W V
 |_,_=>Z
def zB(X:TI)(v:C):Bool:=Y v.cells==Y X.ao&&v.Fu&&(match v with
 |.agg _=>X.d.isAgg
 |_=> !X.d.isAgg)
def afa(X:TI)(e:K)(W:av):Option (C×BE):=match qj W with
 |U V=>match e with
  |.c x=>match eG x V (lX W) with
   |U v=>U (v,.c J)
   |none=>U (se X.d.isAgg (dZ X),.c E)
  |e=>if(lX W).all (zB X) then(Bo e V ((lX W).map C.cells) 0 X.ao).map λl=>(se X.d.isAgg l,FA e V) else Z
 |none=>Z
def WE:CT->Bool
 |.int I=>J
 |_=>E
def sf(X:Ty)(k:TypeId)(n:Nat)(W:Bool):Bool:=match X k with
 |U tk=>Y tk.ao==n&&tk.ao.all WE&&tk.d.isAgg==W
 |none=>E
def Ql(X:Bool)(v:C)(b:BE):PR:=.ok (if X then .bP [v,.bool b] else v)
def Qm(V:Ty)(s:S)(k e:TypeId)(n:Nat)(W R:Bool)(i:Nat)(O:C):PR:=match V e,Fz n W O,cg s.au i with
 |U X,U (a,b,c),U (Q,P)=>if !sf V k n W then .no "" else
  if Q==uO then(match P with
   |[.am r,.int I (.c N),.bool (.c M),.bool (.c L)]=>if r.qh V s ⟨k,e,n,W,X.d.isAgg⟩&&N==(n:Int)&&M==W&&L==X.d.isAgg&&X.ao.all mE&&Y X.ao !=0 then Ql R (se X.d.isAgg (qi r n a b c n X.ao)) (.has r n a b c) else .no ""
   |_=>.no "")
  else if Q==tI then(if n==1&& !W then(match afa X a P with
   |U (v,x)=>Ql R v x
   |none=>.no "") else .no "")
  else .no ""
 |_,_,_=>.no ""
def Bp(n:Nat):bq:=(fU n).map λ(i:Nat)=>(i:Int)
def Qn(X:TI)(e:K)(V:bq)(W:av):Option C:=if W.all (zB X) then(Bo e V (W.map C.cells) 0 X.ao).map (se X.d.isAgg) else Z
def xQ(X:av):cw:=match X with
 |.loc i _::_=>if X.all λv=>match v with
  |.loc j _=>i==j
  |_=>E then U i else Z
 |_=>Z
def Dp{X:Type}:List (Option X)->Option (List X)
 |[]=>U []
 |U x::r=>(Dp r).map (x::·)
 |Z::_=>Z
def WF(X:TI)(W:av):C->Option C
 |.loc _ V=>wu X W V
 |_=>Z
def ck(X:Ty)(W:mD)(s:S):Op->PR
 |.move x|.assign x=>.ok (s.ev W x)
 |.pick c a b=>match s.ev W c with
  |.bool (.c J)=>.ok (s.ev W a)
  |.bool (.c E)=>.ok (s.ev W b)
  |_=>.no ""
 |.load t a=>match X t,s.ev W a with
  |U P,.loc i V=>match lB s.au i with
   |U (_,H)=>match wu P H V with
    |U v=>.ok v
    |none=>.no ""
   |none=>.no ""
  |U P,.el r w i V=>match r.kind X s with
   |.sl e=>
    if(bD X (.sl e)).length !=w then .no "" else
    match wu P ((fU w).map λj=>Dm r i j ((bD X (.sl e)).getD j .bool)) V with
    |U v=>.bz (uS i (.len r)) v
    |none=>.no ""
   |_=>.no ""
  |U P,.fW e M N=>match(xQ N).bind λi=>lB s.au i with
   |U (_,H)=>match(Dp (N.map (WF P H))).bind (Qn P e M) with
    |U v=>if Y M==Y N then .bz (FA e M) v else .no ""
    |none=>.no ""
   |none=>.no ""
  |_,_=>.no ""
 |.fieldAddr G x f=>match X G,s.ev W x with
  |U ⟨.struct O,_,_⟩,.loc i V=>match O[f]? with
   |U (o,t)=>match X t with
    |U P=>if Y P.ao==0 then .no "" else .ok (.loc i (V+o))
    |none=>.no ""
   |none=>.no ""
  |U ⟨.struct O,_,_⟩,.el r w i V=>match O[f]? with
   |U (o,t)=>match X t with
    |U P=>if Y P.ao==0 then .no "" else .ok (.el r w i (V+o))
    |none=>.no ""
   |none=>.no ""
  |_,_=>.no ""
 |.field G x f=>match X G,s.ev W x with
  |U ⟨.struct O,_,_⟩,.agg l=>match O[f]? with
   |U (o,t)=>match X t with
    |U P=>match wu P l o with
     |U v=>.ok v
     |none=>.no ""
    |none=>.no ""
   |none=>.no ""
  |_,_=>.no ""
 |.indexAddr t x L=>match X t,s.ev W x,s.ev W L with
  |U ⟨.arr n e,_,_⟩,.loc i V,.int _ (.c m)=>match X e with
   |U R=>if decide (0<=m)&&decide (m<(n:Int)) then .ok (.loc i (V+m.toNat*Y R.ao)) else .no ""
   |none=>.no ""
  |U ⟨.arr n e,_,_⟩,.el r w (.c i) V,.int _ m=>match X e with
   |U R=>if Y R.ao==w&&i==0&&V==0&&Y R.ao !=0 then .bz (uS m (.c n)) (.el r w m 0) else
    match m with
    |.c m=>if decide (0<=m)&&decide (m<(n:Int)) then .ok (.el r w (.c i) (V+m.toNat*Y R.ao)) else .no ""
    |_=>.no ""
   |none=>.no ""
  |U ⟨.arr n e,_,_⟩,.el r w i V,.int _ (.c m)=>match X e with
   |U R=>if decide (0<=m)&&decide (m<(n:Int)) then .ok (.el r w i (V+m.toNat*Y R.ao)) else .no ""
   |none=>.no ""
  |U ⟨.slice e,_,_⟩,.am r,.int _ m=>match X e,r.kind X s with
   |U R,.sl _=>.bz (uS m (.len r)) (.el r (Y R.ao) m 0)
   |_,_=>.no ""
  |U ⟨.slice e,_,_⟩,.iP i V D _,.int _ (.c m)=>match X e with
   |U R=>if decide (0<=m)&&decide (m<(D:Int)) then .ok (.loc i (V+m.toNat*Y R.ao)) else .no ""
   |none=>.no ""
  |U ⟨.arr n e,_,_⟩,.loc i V,.int _ m=>match X e with
   |U R=>.bz (uS m (.c n)) (.fW m (Bp n) ((fU n).map λj=>.loc i (V+j*Y R.ao)))
   |none=>.no ""
  |_,_,_=>.no ""
 |.index t x L=>match X t,s.ev W x,s.ev W L with
  |U ⟨.arr n e,_,_⟩,.agg l,.int _ (.c m)=>match X e with
   |U R=>if decide (0<=m)&&decide (m<(n:Int)) then(match wu R l (m.toNat*Y R.ao) with
    |U v=>.ok v
    |none=>.no "") else .no ""
   |none=>.no ""
  |U ⟨.arr n e,_,_⟩,.agg l,.int _ m=>match X e with
   |U R=>match(Dp ((fU n).map λj=>wu R l (j*Y R.ao))).bind (Qn R m (Bp n)) with
    |U v=>.bz (uS m (.c n)) v
    |none=>.no ""
   |none=>.no ""
  |U ⟨.str,_,_⟩,.am r,.int _ m=>match r.kind X s with
   |.str=>.bz (uS m (.len r)) (.int .u8 (.mV r m))
   |_=>.no ""
  |_,_,_=>.no ""
 |.binOp Q t x y _=>match s.ev W x,s.ev W y with
  |.int k a,.int B b=>
   if ae9 Q then(match b with
    |.c n=>if decide (0<=n) then .ok (.int k (Fv Q k a (.c n))) else .no ""
    |_=>.no "") else
   if k≠B then .no "" else
   if Qj Q then .ok (.bool (pC Q a b)) else
   if WA Q then .ok (.int k (Fv Q k a b)) else
   if WB Q then(match b with
    |.c n=>if n==0 then .no "" else .ok (.int k (Fv Q k a b))
    |_=>.bz (pC .neq b (.c 0)) (.int k (Fv Q k a b))) else .no ""
  |.bool a,.bool b=>match X t,Q with
   |U ⟨.one,[.bool],_⟩,.eql=>.ok (.bool (LZ a b))
   |U ⟨.one,[.bool],_⟩,.neq=>.ok (.bool (Do (LZ a b)))
   |_,_=>.no ""
  |.am (.k .nilFunc),.am (.k .nilFunc)=>if !L6 (X t) then .no "" else match Q with
   |.eql=>.ok (.bool (.c J))
   |.neq=>.ok (.bool (.c E))
   |_=>.no ""
  |.am a,.am b=>match a.kind X s,b.kind X s,Q with
   |.str,.str,.eql=>.ok (.bool (.seq a b))
   |.str,.str,.neq=>.ok (.bool (.not (.seq a b)))
   |_,_,_=>.no ""
  |.fn _ _,.am (.k .nilFunc)=>if !L6 (X t) then .no "" else match Q with
   |.eql=>.ok (.bool (.c E))
   |.neq=>.ok (.bool (.c J))
   |_=>.no ""
  |.fW e M N,.am (.k .nilFunc)=>if N.all Ig&&Y M==Y N&&L6 (X t) then(match Q with
   |.eql=>.ok (.bool (Bn e M N))
   |.neq=>.ok (.bool (Do (Bn e M N)))
   |_=>.no "") else .no ""
  |.agg a,.agg b=>match Q,If X s (X t) a b with
   |.eql,U e=>.ok (.bool e)
   |.neq,U e=>.ok (.bool (Do e))
   |_,_=>.no ""
  |_,_=>.no ""
 |.unOp Q _ x=>match Q,s.ev W x with
  |.not,.bool b=>.ok (.bool (Do b))
  |.neg,.int k e=>.ok (.int k (Fv .sub k (.c 0) e))
  |_,_=>.no ""
 |.convert A z x=>match X A,X z,s.ev W x with
  |U ⟨.one,[.int _],_⟩,U ⟨.one,[.int k],_⟩,.int _ (.c n)=>.ok (.int k (.c (k.wrap n)))
  |U ⟨.one,[.int _],_⟩,U ⟨.one,[.int k],_⟩,.int _ e=>.ok (.int k (.conv k e))
  |_,_,_=>.no ""
 |.makeInterface t x=>match X t with
  |U ⟨.gJ,_,_⟩=>.no ""
  |U _=>.ok (.gJ t (s.ev W x))
  |none=>.no ""
 |.makeFunc u first F=>match u,first.toList with
  |.func f,[]=>.ok (.fn f (F.toList.map (s.ev W)))
  |_,_=>.no ""
 |.extract x i=>match s.ev W x with
  |.bP l=>match l[i]? with
   |U v=>.ok v
   |none=>.no ""
  |_=>.no ""
 |.nilCheck x=>match s.ev W x with
  |.loc i V=>.ok (.loc i V)
  |.el r w i V=>.ok (.el r w i V)
  |.fn f F=>.ok (.fn f F)
  |_=>.no ""
 |.slice t x h g d=>match X t,s.ev W x,d with
  |U ⟨.arr n e,_,_⟩,.loc i V,Z=>match X e,h.map (s.ev W),g.map (s.ev W) with
   |U _,Z,Z=>.ok (.iP i V n n)
   |U R,U (.int _ (.c l)),Z=>if decide (0<=l)&&decide (l<(n:Int)) then .ok (.iP i (V+l.toNat*Y R.ao) (n-l.toNat) (n-l.toNat)) else .no ""
   |_,_,_=>.no ""
  |_,_,_=>.no ""
 |.build t parts=>match X t with
  |U ⟨.struct O,ao,q⟩=>if !(O.all λf=>(X f.2).isSome) then .no "" else match xP (WC X O) (dZ ⟨.struct O,ao,q⟩) (parts.toList.map λp=>(p.1,s.ev W p.2)) with
   |U l=>.ok (.agg l)
   |none=>.no ""
  |U ⟨.arr n e,ao,q⟩=>match X e with
   |U R=>match xP (λi=>U (i*Y R.ao,Y R.ao)) (dZ ⟨.arr n e,ao,q⟩) (parts.toList.map λp=>(p.1,s.ev W p.2)) with
    |U l=>.ok (.agg l)
    |none=>.no ""
   |none=>.no ""
  |_=>.no ""
 |.call c=>match c.callee with
  |.builtin .len=>match c.argTypes.toList,c.args.toList.map (s.ev W) with
   |[t],[.am (.k (.slice Z 0 0))]=>match X t with
    |U ⟨.slice _,_,_⟩=>.ok (.int I (.c 0))
    |_=>.no ""
   |[t],[.am r]=>match X t,r.kind X s with
    |U ⟨.slice _,_,_⟩,.sl _=>.ok (.int I (.len r))
    |U ⟨.str,_,_⟩,.str=>.ok (.int I (.len r))
    |_,_=>.no ""
   |[t],[.iP _ _ n _]=>match X t with
    |U ⟨.slice _,_,_⟩=>.ok (.int I (.c n))
    |_=>.no ""
   |_,_=>.no ""
  |.builtin .min=>match c.args.toList.map (s.ev W) with
   |.int k x::r=>match Fw E k x r with
    |U e=>.ok (.int k e)
    |none=>.no ""
   |_=>.no ""
  |.builtin .max=>match c.args.toList.map (s.ev W) with
   |.int k x::r=>match Fw J k x r with
    |U e=>.ok (.int k e)
    |none=>.no ""
   |_=>.no ""
  |_=>.no ""
 |.lookup t x L ok=>match X t,s.ev W x with
  |U ⟨.map k e n ag,_,_⟩,.mp i=>Qm X s k e n ag ok i (s.ev W L)
  |_,_=>.no ""
 |_=>.no ""
def zC(X:mD)(s:S):Op->cw
 |.load _ x=>match s.ev X x with
  |.loc i _=>U i
  |.fW _ _ W=>xQ W
  |_=>Z
 |.lookup _ x _ _=>match s.ev X x with
  |.mp i=>U i
  |_=>Z
 |_=>Z
def FB:Value->Value->Bool
 |.string a,.string b=>a.data.toList==b.data.toList
 |.slice Z a b,.slice Z c d=>a==c&&b==d
 |.pointer Z,.pointer Z=>J
 |.nilFunc,.nilFunc=>J
 |.nilIface,.nilIface=>J
 |.map Z,.map Z=>J
 |_,_=>E
def zD(a b:BinOp):Bool:=decide (a=b)
noncomputable def K.aM(e:K):K->Bool:=K.rec (motive_1:=λ_=>K->Bool) (motive_2:=λ_=>BE->Bool) (motive_3:=λ_=>RE->Bool) (λn e=>match e with|K.c N=>n==N|_=>E) (λk e=>match e with|K.v O=>k==O|_=>E) (λo k _ _ X W e=>match e with|K.bin D O V R=>zD o D&&decide (k=O)&&X V&&W R|_=>E) (λk _ X e=>match e with|K.conv O V=>decide (k=O)&&X V|_=>E) (λ_ Q e=>match e with|K.len P=>Q P|_=>E) (λm _ _ X W e=>match e with|K.mm x V R=>m==x&&X V&&W R|_=>E) (λ_ _ _ W B A e=>match e with|K.dg R z y=>W R&&B z&&A y|_=>E) (λ_ _ j Q L e=>match e with|K.cell P H M=>Q P&&L H&&j==M|_=>E) (λ_ _ Q L e=>match e with|K.mV P H=>Q P&&L H|_=>E) (λ_ n _ _ _ j Q X W G e=>match e with|K.look P N V R F M=>Q P&&n==N&&X V&&W R&&G F&&j==M|_=>E) (λn e=>match e with|BE.c N=>n==N|_=>E) (λk e=>match e with|BE.v O=>k==O|_=>E) (λo _ _ X W e=>match e with|BE.cmp D V R=>zD o D&&X V&&W R|_=>E) (λ_ X e=>match e with|BE.not V=>X V|_=>E) (λ_ _ X W e=>match e with|BE.and V R=>X V&&W R|_=>E) (λ_ _ X W e=>match e with|BE.beq V R=>X V&&W R|_=>E) (λ_ _ _ W B A e=>match e with|BE.dg R z y=>W R&&B z&&A y|_=>E) (λ_ _ j Q L e=>match e with|BE.cell P H M=>Q P&&L H&&j==M|_=>E) (λ_ _ X W e=>match e with|BE.seq V R=>X V&&W R|_=>E) (λ_ n _ _ _ j Q X W G e=>match e with|BE.look P N V R F M=>Q P&&n==N&&X V&&W R&&G F&&j==M|_=>E) (λ_ n _ _ _ Q X W G e=>match e with|BE.has P N V R F=>Q P&&n==N&&X V&&W R&&G F|_=>E) (λk e=>match e with|RE.v O=>k==O|_=>E) (λ_ _ j k Q L e=>match e with|RE.cell P H M O=>Q P&&L H&&j==M&&decide (k=O)|_=>E) (λv e=>match e with|RE.k w=>FB v w|_=>E) e
noncomputable def BE.aM(e:BE):BE->Bool:=BE.rec (motive_1:=λ_=>K->Bool) (motive_2:=λ_=>BE->Bool) (motive_3:=λ_=>RE->Bool) (λn e=>match e with|K.c N=>n==N|_=>E) (λk e=>match e with|K.v O=>k==O|_=>E) (λo k _ _ X W e=>match e with|K.bin D O V R=>zD o D&&decide (k=O)&&X V&&W R|_=>E) (λk _ X e=>match e with|K.conv O V=>decide (k=O)&&X V|_=>E) (λ_ Q e=>match e with|K.len P=>Q P|_=>E) (λm _ _ X W e=>match e with|K.mm x V R=>m==x&&X V&&W R|_=>E) (λ_ _ _ W B A e=>match e with|K.dg R z y=>W R&&B z&&A y|_=>E) (λ_ _ j Q L e=>match e with|K.cell P H M=>Q P&&L H&&j==M|_=>E) (λ_ _ Q L e=>match e with|K.mV P H=>Q P&&L H|_=>E) (λ_ n _ _ _ j Q X W G e=>match e with|K.look P N V R F M=>Q P&&n==N&&X V&&W R&&G F&&j==M|_=>E) (λn e=>match e with|BE.c N=>n==N|_=>E) (λk e=>match e with|BE.v O=>k==O|_=>E) (λo _ _ X W e=>match e with|BE.cmp D V R=>zD o D&&X V&&W R|_=>E) (λ_ X e=>match e with|BE.not V=>X V|_=>E) (λ_ _ X W e=>match e with|BE.and V R=>X V&&W R|_=>E) (λ_ _ X W e=>match e with|BE.beq V R=>X V&&W R|_=>E) (λ_ _ _ W B A e=>match e with|BE.dg R z y=>W R&&B z&&A y|_=>E) (λ_ _ j Q L e=>match e with|BE.cell P H M=>Q P&&L H&&j==M|_=>E) (λ_ _ X W e=>match e with|BE.seq V R=>X V&&W R|_=>E) (λ_ n _ _ _ j Q X W G e=>match e with|BE.look P N V R F M=>Q P&&n==N&&X V&&W R&&G F&&j==M|_=>E) (λ_ n _ _ _ Q X W G e=>match e with|BE.has P N V R F=>Q P&&n==N&&X V&&W R&&G F|_=>E) (λk e=>match e with|RE.v O=>k==O|_=>E) (λ_ _ j k Q L e=>match e with|RE.cell P H M O=>Q P&&L H&&j==M&&decide (k=O)|_=>E) (λv e=>match e with|RE.k w=>FB v w|_=>E) e
noncomputable def RE.aM(e:RE):RE->Bool:=RE.rec (motive_1:=λ_=>K->Bool) (motive_2:=λ_=>BE->Bool) (motive_3:=λ_=>RE->Bool) (λn e=>match e with|K.c N=>n==N|_=>E) (λk e=>match e with|K.v O=>k==O|_=>E) (λo k _ _ X W e=>match e with|K.bin D O V R=>zD o D&&decide (k=O)&&X V&&W R|_=>E) (λk _ X e=>match e with|K.conv O V=>decide (k=O)&&X V|_=>E) (λ_ Q e=>match e with|K.len P=>Q P|_=>E) (λm _ _ X W e=>match e with|K.mm x V R=>m==x&&X V&&W R|_=>E) (λ_ _ _ W B A e=>match e with|K.dg R z y=>W R&&B z&&A y|_=>E) (λ_ _ j Q L e=>match e with|K.cell P H M=>Q P&&L H&&j==M|_=>E) (λ_ _ Q L e=>match e with|K.mV P H=>Q P&&L H|_=>E) (λ_ n _ _ _ j Q X W G e=>match e with|K.look P N V R F M=>Q P&&n==N&&X V&&W R&&G F&&j==M|_=>E) (λn e=>match e with|BE.c N=>n==N|_=>E) (λk e=>match e with|BE.v O=>k==O|_=>E) (λo _ _ X W e=>match e with|BE.cmp D V R=>zD o D&&X V&&W R|_=>E) (λ_ X e=>match e with|BE.not V=>X V|_=>E) (λ_ _ X W e=>match e with|BE.and V R=>X V&&W R|_=>E) (λ_ _ X W e=>match e with|BE.beq V R=>X V&&W R|_=>E) (λ_ _ _ W B A e=>match e with|BE.dg R z y=>W R&&B z&&A y|_=>E) (λ_ _ j Q L e=>match e with|BE.cell P H M=>Q P&&L H&&j==M|_=>E) (λ_ _ X W e=>match e with|BE.seq V R=>X V&&W R|_=>E) (λ_ n _ _ _ j Q X W G e=>match e with|BE.look P N V R F M=>Q P&&n==N&&X V&&W R&&G F&&j==M|_=>E) (λ_ n _ _ _ Q X W G e=>match e with|BE.has P N V R F=>Q P&&n==N&&X V&&W R&&G F|_=>E) (λk e=>match e with|RE.v O=>k==O|_=>E) (λ_ _ j k Q L e=>match e with|RE.cell P H M O=>Q P&&L H&&j==M&&decide (k=O)|_=>E) (λv e=>match e with|RE.k w=>FB v w|_=>E) e
def K.gY:(∀n e,K.aM (.c n) e=match e with|K.c Q=>n==Q|_=>E)/\(∀k e,K.aM (.v k) e=match e with|K.v R=>k==R|_=>E)/\(∀o k a b e,K.aM (.bin o k a b) e=match e with|K.bin N R X W=>zD o N&&decide (k=R)&&K.aM a X&&K.aM b W|_=>E)/\(∀k a e,K.aM (.conv k a) e=match e with|K.conv R X=>decide (k=R)&&K.aM a X|_=>E)/\(∀r e,K.aM (.len r) e=match e with|K.len V=>RE.aM r V|_=>E)/\(∀m a b e,K.aM (.mm m a b) e=match e with|K.mm M X W=>m==M&&K.aM a X&&K.aM b W|_=>E)/\(∀b x y e,K.aM (.dg b x y) e=match e with|K.dg W L H=>BE.aM b W&&K.aM x L&&K.aM y H|_=>E)/\(∀r i j e,K.aM (.cell r i j) e=match e with|K.cell V P O=>RE.aM r V&&K.aM i P&&j==O|_=>E)/\(∀r i e,K.aM (.mV r i) e=match e with|K.mV V P=>RE.aM r V&&K.aM i P|_=>E)/\(∀r n a b c j e,K.aM (.look r n a b c j) e=match e with|K.look V Q X W G O=>RE.aM r V&&n==Q&&K.aM a X&&K.aM b W&&K.aM c G&&j==O|_=>E):=⟨λ_ _=>rfl,λ_ _=>rfl,λ_ _ _ _ _=>rfl,λ_ _ _=>rfl,λ_ _=>rfl,λ_ _ _ _=>rfl,λ_ _ _ _=>rfl,λ_ _ _ _=>rfl,λ_ _ _=>rfl,λ_ _ _ _ _ _ _=>rfl⟩
def BE.gY:(∀n e,BE.aM (.c n) e=match e with|BE.c V=>n==V|_=>E)/\(∀k e,BE.aM (.v k) e=match e with|BE.v O=>k==O|_=>E)/\(∀o a b e,BE.aM (.cmp o a b) e=match e with|BE.cmp N X W=>zD o N&&K.aM a X&&K.aM b W|_=>E)/\(∀a e,BE.aM (.not a) e=match e with|BE.not X=>BE.aM a X|_=>E)/\(∀a b e,BE.aM (.and a b) e=match e with|BE.and X W=>BE.aM a X&&BE.aM b W|_=>E)/\(∀a b e,BE.aM (.beq a b) e=match e with|BE.beq X W=>BE.aM a X&&BE.aM b W|_=>E)/\(∀b x y e,BE.aM (.dg b x y) e=match e with|BE.dg W M L=>BE.aM b W&&BE.aM x M&&BE.aM y L|_=>E)/\(∀r i j e,BE.aM (.cell r i j) e=match e with|BE.cell R H Q=>RE.aM r R&&K.aM i H&&j==Q|_=>E)/\(∀a b e,BE.aM (.seq a b) e=match e with|BE.seq X W=>RE.aM a X&&RE.aM b W|_=>E)/\(∀r n a b c j e,BE.aM (.look r n a b c j) e=match e with|BE.look R V X W P Q=>RE.aM r R&&n==V&&K.aM a X&&K.aM b W&&K.aM c P&&j==Q|_=>E)/\(∀r n a b c e,BE.aM (.has r n a b c) e=match e with|BE.has R V X W P=>RE.aM r R&&n==V&&K.aM a X&&K.aM b W&&K.aM c P|_=>E):=⟨λ_ _=>rfl,λ_ _=>rfl,λ_ _ _ _=>rfl,λ_ _=>rfl,λ_ _ _=>rfl,λ_ _ _=>rfl,λ_ _ _ _=>rfl,λ_ _ _ _=>rfl,λ_ _ _=>rfl,λ_ _ _ _ _ _ _=>rfl,λ_ _ _ _ _ _=>rfl⟩
def RE.gY:(∀k e,RE.aM (.v k) e=match e with|RE.v X=>k==X|_=>E)/\(∀r i j k e,RE.aM (.cell r i j k) e=match e with|RE.cell W V R X=>RE.aM r W&&K.aM i V&&j==R&&decide (k=X)|_=>E)/\(∀v e,RE.aM (.k v) e=match e with|RE.k Q=>FB v Q|_=>E):=⟨λ_ _=>rfl,λ_ _ _ _ _=>rfl,λ_ _=>rfl⟩
noncomputable def C.aM(v:C):C->Bool:=C.rec (motive_1:=λ_=>C->Bool) (motive_2:=λ_=>av->Bool) (λk e v=>match v with|C.int O V=>decide (k=O)&&e.aM V|_=>E) (λb v=>match v with|C.bool R=>b.aM R|_=>E) (λr v=>match v with|C.am Q=>r.aM Q|_=>E) (λi o v=>match v with|C.loc X P=>i==X&&o==P|_=>E) (λr w i o v=>match v with|C.el Q N X P=>r.aM Q&&w==N&&i.aM X&&o==P|_=>E) (λa b c d v=>match v with|C.iP M R L H=>a==M&&b==R&&c==L&&d==H|_=>E) (λ_ h v=>match v with|C.agg W=>h W|_=>E) (λ_ h v=>match v with|C.bP W=>h W|_=>E) (λf _ h v=>match v with|C.fn G W=>f==G&&h W|_=>E) (λt _ h v=>match v with|C.gJ F D=>t==F&&h D|_=>E) (λn v=>match v with|C.yl B=>n==B|_=>E) (λv=>match v with|C.any=>J|_=>E) (λi v=>match v with|C.mp X=>i==X|_=>E) (λe A _ h v=>match v with|C.fW V z x=>e.aM V&&A==z&&h x|_=>E) (λl=>match l with|[]=>J|_=>E) (λ_ _ h u l=>match l with|y::s=>h y&&u s|_=>E) v
noncomputable def C.ql(l:av):av->Bool:=C.rec_1 (motive_1:=λ_=>C->Bool) (motive_2:=λ_=>av->Bool) (λk e v=>match v with|C.int O V=>decide (k=O)&&e.aM V|_=>E) (λb v=>match v with|C.bool R=>b.aM R|_=>E) (λr v=>match v with|C.am Q=>r.aM Q|_=>E) (λi o v=>match v with|C.loc X P=>i==X&&o==P|_=>E) (λr w i o v=>match v with|C.el Q N X P=>r.aM Q&&w==N&&i.aM X&&o==P|_=>E) (λa b c d v=>match v with|C.iP M R L H=>a==M&&b==R&&c==L&&d==H|_=>E) (λ_ h v=>match v with|C.agg W=>h W|_=>E) (λ_ h v=>match v with|C.bP W=>h W|_=>E) (λf _ h v=>match v with|C.fn G W=>f==G&&h W|_=>E) (λt _ h v=>match v with|C.gJ F D=>t==F&&h D|_=>E) (λn v=>match v with|C.yl B=>n==B|_=>E) (λv=>match v with|C.any=>J|_=>E) (λi v=>match v with|C.mp X=>i==X|_=>E) (λe A _ h v=>match v with|C.fW V z x=>e.aM V&&A==z&&h x|_=>E) (λl=>match l with|[]=>J|_=>E) (λ_ _ h u l=>match l with|y::s=>h y&&u s|_=>E) l
def C.gY:(∀k e v,C.aM (.int k e) v=match v with|C.int M V=>decide (k=M)&&e.aM V|_=>E)/\(∀b v,C.aM (.bool b) v=match v with|C.bool R=>b.aM R|_=>E)/\(∀r v,C.aM (.am r) v=match v with|C.am Q=>r.aM Q|_=>E)/\(∀i o v,C.aM (.loc i o) v=match v with|C.loc X P=>i==X&&o==P|_=>E)/\(∀r w i o v,C.aM (.el r w i o) v=match v with|C.el Q L X P=>r.aM Q&&w==L&&i.aM X&&o==P|_=>E)/\(∀a b c d v,C.aM (.iP a b c d) v=match v with|C.iP H R G F=>a==H&&b==R&&c==G&&d==F|_=>E)/\(∀l v,C.aM (.agg l) v=match v with|C.agg W=>C.ql l W|_=>E)/\(∀l v,C.aM (.bP l) v=match v with|C.bP W=>C.ql l W|_=>E)/\(∀f l v,C.aM (.fn f l) v=match v with|C.fn D W=>f==D&&C.ql l W|_=>E)/\(∀t x v,C.aM (.gJ t x) v=match v with|C.gJ B A=>t==B&&C.aM x A|_=>E)/\(∀n v,C.aM (.yl n) v=match v with|C.yl z=>n==z|_=>E)/\(∀v,C.aM (.any) v=match v with|C.any=>J|_=>E)/\(∀i v,C.aM (.mp i) v=match v with|C.mp X=>i==X|_=>E)/\(∀e O N v,C.aM (.fW e O N) v=match v with|C.fW V y u=>e.aM V&&O==y&&C.ql N u|_=>E):=⟨λ_ _ _=>rfl,λ_ _=>rfl,λ_ _=>rfl,λ_ _ _=>rfl,λ_ _ _ _ _=>rfl,λ_ _ _ _ _=>rfl,λ_ _=>rfl,λ_ _=>rfl,λ_ _ _=>rfl,λ_ _ _=>rfl,λ_ _=>rfl,λ_=>rfl,λ_ _=>rfl,λ_ _ _ _=>rfl⟩
def C.afb:(∀l,C.ql [] l=match l with|[]=>J|_=>E)/\(∀x X l,C.ql (x::X) l=match l with|y::W=>C.aM x y&&C.ql X W|_=>E):=⟨λ_=>rfl,λ_ _ _=>rfl⟩
def afc:∀n:Nat,∃q,8^n=7*q+1
 |0=>⟨0,rfl⟩
 |n+1=>by
  obtain⟨q,h⟩:=afc n;exact⟨8*q+1,by rw[Nat.pow_succ,h];omega⟩
def A3(n:Nat):Nat:=Nat.div (Nat.sub (Nat.pow 8 n) 1) 7
def afd(n:Nat):8^n=7*A3 n+1:=by
 obtain⟨q,h⟩:=afc n;have:A3 n=q:=by
  show(8^n-1)/7=q;rw[h];omega
 rw[this];exact h
def Qo(n:Nat):A3 (n+1)=8*A3 n+1:=by
 have X:=afd n;have W:=afd (n+1);rw[Nat.pow_succ,X] at W;omega
def afe:∀(n j:Nat),(A3 n).testBit j=(decide (j%3=0)&&decide (j/3<n))
 |0,j=>by simp[show A3 0=0 from rfl]
 |n+1,0=>by rw[Qo,aqy];simp;omega
 |n+1,1=>by rw[Qo,P8,show(8*A3 n+1)/2=4*A3 n from ae,aqy];simp;omega
 |n+1,2=>by rw[Qo,P8,P8,show(8*A3 n+1)/2/2=2*A3 n from ae,aqy];simp
 |n+1,j+3=>by
  rw[Qo,P8,P8,P8,show(8*A3 n+1)/2/2/2=A3 n from ae,afe n j,Nat.add_mod_right,Nat.add_div_right _ ae];simp
def lY(X W V:Nat):Nat:=bY (A3 X) (bY (lS (A3 W) 1) (lS (A3 V) 2))
def WG(X W V j:Nat):(lY X W V).testBit j=if j%3=0 then decide (j/3<X) else if j%3=1 then decide (j/3<W) else decide (j/3<V):=by
 change(A3 X|||(A3 W<<<1|||A3 V<<<2)).testBit j=_;simp only[Dh,aqm,afe];rw[tG];simp only[jd,az,cF];split;simp only[cF];omega;split;simp only[cF];omega;simp only[cF];omega
def L7:iO (bY R Q) Q=J<->∀j,R.testBit j=J->Q.testBit j=true:=by
 rw[ae6];constructor;intro h j X;have:(R|||Q).testBit j=Q.testBit j:=jW (λx=>Nat.testBit x j) h;rw[<-this,Dh,X,aqK];intro h;refine Nat.eq_of_testBit_eq λj=> ?_
 change(R|||Q).testBit j=_;rw[Dh];cases W:R.testBit j with
 |true=>rw[h j W];rfl
 |false=>simp
def kV(a b A:Nat):iO (bY (bY a b) A) A=(iO (bY a A) A&&iO (bY b A) A):=by
 rw[tG,az,L7,L7,L7];change(∀j,(a|||b).testBit j=J->_)<->_;simp only[Dh,jd];exact⟨λh=>⟨λj k=>h j (.inl k),λj k=>h j (.inr k)⟩,λh j k=>k.elim (h.1 j) (h.2 j)⟩
def WH(k A:Nat):iO (bY (lS 1 k) A) A=A.testBit k:=by
 rw[tG,L7];change(∀j,(1<<<k).testBit j=J->_)<->_;simp only[aqu,aDs,cF];exact⟨λh=>h k rfl,λh j e=>e▸h⟩
def FC(A:Nat):iO (bY 0 A) A=true:=L7.2 λj h=>by simp at h
noncomputable def K.lZ(e:K):Nat:=K.rec (motive_1:=λ_=>Nat) (motive_2:=λ_=>Nat) (motive_3:=λ_=>Nat) (λ_=>0) (λk=>lS 1 (3*k)) (λ_ _ _ _ a b=>bY a b) (λ_ _ a=>a) (λ_ r=>r) (λ_ _ _ a b=>bY a b) (λ_ _ _ b x y=>bY (bY b x) y) (λ_ _ _ r i=>bY r i) (λ_ _ r i=>bY r i) (λ_ _ _ _ _ _ r a b c=>bY (bY (bY r a) b) c) (λ_=>0) (λk=>lS 1 (3*k+1)) (λ_ _ _ a b=>bY a b) (λ_ a=>a) (λ_ _ a b=>bY a b) (λ_ _ a b=>bY a b) (λ_ _ _ b x y=>bY (bY b x) y) (λ_ _ _ r i=>bY r i) (λ_ _ a b=>bY a b) (λ_ _ _ _ _ _ r a b c=>bY (bY (bY r a) b) c) (λ_ _ _ _ _ r a b c=>bY (bY (bY r a) b) c) (λk=>lS 1 (3*k+2)) (λ_ _ _ _ r i=>bY r i) (λ_=>0) e
noncomputable def BE.lZ(e:BE):Nat:=BE.rec (motive_1:=λ_=>Nat) (motive_2:=λ_=>Nat) (motive_3:=λ_=>Nat) (λ_=>0) (λk=>lS 1 (3*k)) (λ_ _ _ _ a b=>bY a b) (λ_ _ a=>a) (λ_ r=>r) (λ_ _ _ a b=>bY a b) (λ_ _ _ b x y=>bY (bY b x) y) (λ_ _ _ r i=>bY r i) (λ_ _ r i=>bY r i) (λ_ _ _ _ _ _ r a b c=>bY (bY (bY r a) b) c) (λ_=>0) (λk=>lS 1 (3*k+1)) (λ_ _ _ a b=>bY a b) (λ_ a=>a) (λ_ _ a b=>bY a b) (λ_ _ a b=>bY a b) (λ_ _ _ b x y=>bY (bY b x) y) (λ_ _ _ r i=>bY r i) (λ_ _ a b=>bY a b) (λ_ _ _ _ _ _ r a b c=>bY (bY (bY r a) b) c) (λ_ _ _ _ _ r a b c=>bY (bY (bY r a) b) c) (λk=>lS 1 (3*k+2)) (λ_ _ _ _ r i=>bY r i) (λ_=>0) e
noncomputable def RE.lZ(e:RE):Nat:=RE.rec (motive_1:=λ_=>Nat) (motive_2:=λ_=>Nat) (motive_3:=λ_=>Nat) (λ_=>0) (λk=>lS 1 (3*k)) (λ_ _ _ _ a b=>bY a b) (λ_ _ a=>a) (λ_ r=>r) (λ_ _ _ a b=>bY a b) (λ_ _ _ b x y=>bY (bY b x) y) (λ_ _ _ r i=>bY r i) (λ_ _ r i=>bY r i) (λ_ _ _ _ _ _ r a b c=>bY (bY (bY r a) b) c) (λ_=>0) (λk=>lS 1 (3*k+1)) (λ_ _ _ a b=>bY a b) (λ_ a=>a) (λ_ _ a b=>bY a b) (λ_ _ a b=>bY a b) (λ_ _ _ b x y=>bY (bY b x) y) (λ_ _ _ r i=>bY r i) (λ_ _ a b=>bY a b) (λ_ _ _ _ _ _ r a b c=>bY (bY (bY r a) b) c) (λ_ _ _ _ _ r a b c=>bY (bY (bY r a) b) c) (λk=>lS 1 (3*k+2)) (λ_ _ _ _ r i=>bY r i) (λ_=>0) e
noncomputable def K.bd(X W V:Nat)(e:K):Bool:=iO (bY e.lZ (lY X W V)) (lY X W V)
noncomputable def BE.bd(X W V:Nat)(e:BE):Bool:=iO (bY e.lZ (lY X W V)) (lY X W V)
noncomputable def RE.bd(X W V:Nat)(e:RE):Bool:=iO (bY e.lZ (lY X W V)) (lY X W V)
def aqP(X W V k:Nat):(lY X W V).testBit (3*k)=decide (k<X):=by
 rw[WG,aI ae,show 3*k/3=k from ae]
def aqQ(W X V k:Nat):(lY W X V).testBit (3*k+1)=decide (k<X):=by
 rw[WG,aK ae,aI ae,show(3*k+1)/3=k from ae]
def aqR(W V X k:Nat):(lY W V X).testBit (3*k+2)=decide (k<X):=by
 rw[WG,aK ae,aK ae,show(3*k+2)/3=k from ae]
def K.aZ:(∀n,K.bd R Q i (.c n)=J)/\(∀k,K.bd R Q i (.v k)=decide (k<R))/\(∀o k a b,K.bd R Q i (.bin o k a b)=(K.bd R Q i a&&K.bd R Q i b))/\(∀k a,K.bd R Q i (.conv k a)=(K.bd R Q i a))/\(∀r,K.bd R Q i (.len r)=(RE.bd R Q i r))/\(∀m a b,K.bd R Q i (.mm m a b)=(K.bd R Q i a&&K.bd R Q i b))/\(∀b x y,K.bd R Q i (.dg b x y)=(BE.bd R Q i b&&K.bd R Q i x&&K.bd R Q i y))/\(∀r X j,K.bd R Q i (.cell r X j)=(RE.bd R Q i r&&K.bd R Q i X))/\(∀r X,K.bd R Q i (.mV r X)=(RE.bd R Q i r&&K.bd R Q i X))/\(∀r n a b c j,K.bd R Q i (.look r n a b c j)=(RE.bd R Q i r&&K.bd R Q i a&&K.bd R Q i b&&K.bd R Q i c)):=⟨λ_=>FC _,λ_=>(WH _ _).trans (aqP _ _ _ _),λ_ _ _ _=>kV _ _ _,λ_ _=>rfl,λ_=>rfl,λ_ _ _=>kV _ _ _,λ_ _ _=>(kV _ _ _).trans (jW (· &&_) (kV _ _ _)),λ_ _ _=>kV _ _ _,λ_ _=>kV _ _ _,λ_ _ _ _ _ _=>(kV _ _ _).trans (jW (· &&_) ((kV _ _ _).trans (jW (· &&_) (kV _ _ _))))⟩
def BE.aZ:(∀n,BE.bd R Q i (.c n)=J)/\(∀k,BE.bd R Q i (.v k)=decide (k<Q))/\(∀o a b,BE.bd R Q i (.cmp o a b)=(K.bd R Q i a&&K.bd R Q i b))/\(∀a,BE.bd R Q i (.not a)=(BE.bd R Q i a))/\(∀a b,BE.bd R Q i (.and a b)=(BE.bd R Q i a&&BE.bd R Q i b))/\(∀a b,BE.bd R Q i (.beq a b)=(BE.bd R Q i a&&BE.bd R Q i b))/\(∀b x y,BE.bd R Q i (.dg b x y)=(BE.bd R Q i b&&BE.bd R Q i x&&BE.bd R Q i y))/\(∀r X j,BE.bd R Q i (.cell r X j)=(RE.bd R Q i r&&K.bd R Q i X))/\(∀a b,BE.bd R Q i (.seq a b)=(RE.bd R Q i a&&RE.bd R Q i b))/\(∀r n a b c j,BE.bd R Q i (.look r n a b c j)=(RE.bd R Q i r&&K.bd R Q i a&&K.bd R Q i b&&K.bd R Q i c))/\(∀r n a b c,BE.bd R Q i (.has r n a b c)=(RE.bd R Q i r&&K.bd R Q i a&&K.bd R Q i b&&K.bd R Q i c)):=⟨λ_=>FC _,λ_=>(WH _ _).trans (aqQ _ _ _ _),λ_ _ _=>kV _ _ _,λ_=>rfl,λ_ _=>kV _ _ _,λ_ _=>kV _ _ _,λ_ _ _=>(kV _ _ _).trans (jW (· &&_) (kV _ _ _)),λ_ _ _=>kV _ _ _,λ_ _=>kV _ _ _,λ_ _ _ _ _ _=>(kV _ _ _).trans (jW (· &&_) ((kV _ _ _).trans (jW (· &&_) (kV _ _ _)))),λ_ _ _ _ _=>(kV _ _ _).trans (jW (· &&_) ((kV _ _ _).trans (jW (· &&_) (kV _ _ _))))⟩
def RE.aZ:(∀k,RE.bd R Q i (.v k)=decide (k<i))/\(∀r X j k,RE.bd R Q i (.cell r X j k)=(RE.bd R Q i r&&K.bd R Q i X))/\(∀v,RE.bd R Q i (.k v)=J):=⟨λ_=>(WH _ _).trans (aqR _ _ _ _),λ_ _ _ _=>kV _ _ _,λ_=>FC _⟩
noncomputable def C.lZ(v:C):Nat:=C.rec (motive_1:=λ_=>Nat) (motive_2:=λ_=>Nat) (λ_ e=>e.lZ) (λb=>b.lZ) (λr=>r.lZ) (λ_ _=>0) (λr _ i _=>bY r.lZ i.lZ) (λ_ _ _ _=>0) (λ_ l=>l) (λ_ l=>l) (λ_ _ l=>l) (λ_ _ x=>x) (λ_=>0) 0 (λ_=>0) (λe _ _ l=>bY e.lZ l) 0 (λ_ _ a b=>bY a b) v
noncomputable def C.Ih(l:av):Nat:=C.rec_1 (motive_1:=λ_=>Nat) (motive_2:=λ_=>Nat) (λ_ e=>e.lZ) (λb=>b.lZ) (λr=>r.lZ) (λ_ _=>0) (λr _ i _=>bY r.lZ i.lZ) (λ_ _ _ _=>0) (λ_ l=>l) (λ_ l=>l) (λ_ _ l=>l) (λ_ _ x=>x) (λ_=>0) 0 (λ_=>0) (λe _ _ l=>bY e.lZ l) 0 (λ_ _ a b=>bY a b) l
noncomputable def C.zE(v:C):Nat:=C.rec (motive_1:=λ_=>Nat) (motive_2:=λ_=>Nat) (λ_ _=>0) (λ_=>0) (λ_=>0) (λi _=>lS 1 i) (λ_ _ _ _=>0) (λi _ _ _=>lS 1 i) (λ_ l=>l) (λ_ l=>l) (λ_ _ l=>l) (λ_ _ x=>x) (λ_=>0) 0 (λi=>lS 1 i) (λ_ _ _ l=>l) 0 (λ_ _ a b=>bY a b) v
noncomputable def C.FD(l:av):Nat:=C.rec_1 (motive_1:=λ_=>Nat) (motive_2:=λ_=>Nat) (λ_ _=>0) (λ_=>0) (λ_=>0) (λi _=>lS 1 i) (λ_ _ _ _=>0) (λi _ _ _=>lS 1 i) (λ_ l=>l) (λ_ l=>l) (λ_ _ l=>l) (λ_ _ x=>x) (λ_=>0) 0 (λi=>lS 1 i) (λ_ _ _ l=>l) 0 (λ_ _ a b=>bY a b) l
noncomputable def C.Ii(X:Nat->Bool)(v:C):Bool:=C.rec (motive_1:=λ_=>Bool) (motive_2:=λ_=>Bool) (λ_ _=>J) (λ_=>J) (λ_=>J) (λi _=>X i) (λ_ _ _ _=>J) (λi _ _ _=>X i) (λ_ l=>l) (λ_ l=>l) (λ_ _ l=>l) (λ_ _ x=>x) (λ_=>J) J (λi=>X i) (λ_ _ _ l=>l) J (λ_ _ a b=>a&&b) v
noncomputable def C.Ij(X:Nat->Bool)(l:av):Bool:=C.rec_1 (motive_1:=λ_=>Bool) (motive_2:=λ_=>Bool) (λ_ _=>J) (λ_=>J) (λ_=>J) (λi _=>X i) (λ_ _ _ _=>J) (λi _ _ _=>X i) (λ_ l=>l) (λ_ l=>l) (λ_ _ l=>l) (λ_ _ x=>x) (λ_=>J) J (λi=>X i) (λ_ _ _ l=>l) J (λ_ _ a b=>a&&b) l
noncomputable def C.bd(X W V:Nat)(R:Nat->Bool)(v:C):Bool:=Ib (motive:=λ_=>Bool) E (Ib (motive:=λ_=>Bool) (v.Ii R) J (iO v.zE 0)) (iO (bY v.lZ (lY X W V)) (lY X W V))
def C.aff(X W V:Nat)(R:Nat->Bool)(v:C):C.bd X W V R v=(iO (bY v.lZ (lY X W V)) (lY X W V)&&(iO v.zE 0||v.Ii R)):=by
 unfold C.bd;cases iO (bY v.lZ (lY X W V)) (lY X W V)<;>cases iO v.zE 0<;>rfl
noncomputable def C.dQ(X W V:Nat)(R:Nat->Bool)(l:av):Bool:=xO (motive:=λ_=>Bool) J (λx _ Q=>Ib (motive:=λ_=>Bool) E Q (C.bd X W V R x)) l
def C.iD{X:Nat->Bool}:(C.dQ R Q i X []=J)/\(∀x W,C.dQ R Q i X (x::W)=(C.bd R Q i X x&&C.dQ R Q i X W)):=⟨rfl,λx W=>by
 show Ib (motive:=λ_=>Bool) E (C.dQ R Q i X W) (C.bd R Q i X x)=_;cases C.bd R Q i X x<;>rfl⟩
def afg:iO (bY R Q) 0=(iO R 0&&iO Q 0):=by
 rw[tG,az,ae6,ae6,ae6];exact Nat.or_eq_zero_iff
def Qp(i:Nat):iO (lS 1 i) 0=false:=by
 have:lS 1 i≠0:=by
  change 1<<<i≠0;rw[aqu];exact Nat.ne_of_gt (Nat.two_pow_pos i)
 cases h:iO (lS 1 i) 0 with
 |false=>rfl
 |true=>exact aY (aDl h) this
mutual
def WI(X:Nat->Bool):∀v:C,iO v.zE 0=J->v.Ii X=J
 |.int _ _,_=>rfl
 |.bool _,_=>rfl
 |.am _,_=>rfl
 |.loc i _,h=>by rw[show(C.loc i _).zE=lS 1 i from rfl,Qp] at h;cases h
 |.el _ _ _ _,_=>rfl
 |.iP i _ _ _,h=>by rw[show(C.iP i _ _ _).zE=lS 1 i from rfl,Qp] at h;cases h
 |.agg l,h=>Ik X l h
 |.bP l,h=>Ik X l h
 |.fn _ l,h=>Ik X l h
 |.gJ _ x,h=>WI X x h
 |.yl _,_=>rfl
 |.any,_=>rfl
 |.mp i,h=>by rw[show(C.mp i).zE=lS 1 i from rfl,Qp] at h;cases h
 |.fW _ _ l,h=>Ik X l h
def Ik(X:Nat->Bool):∀l:av,iO (C.FD l) 0=J->C.Ij X l=J
 |[],_=>rfl
 |x::W,h=>by
  rw[show C.FD (x::W)=bY x.zE (C.FD W) from rfl,afg,az] at h;show(x.Ii X&&C.Ij X W)=J;rw[WI X x h.1,Ik X W h.2];rfl
end
def L8(V R Q:Nat)(W:Nat->Bool):∀l:av,(iO (bY (C.Ih l) (lY V R Q)) (lY V R Q)&&(iO (C.FD l) 0||C.Ij W l))=C.dQ V R Q W l
 |[]=>by rw[show C.Ih []=0 from rfl,FC];rfl
 |x::X=>by
  rw[C.iD.2,<-L8 V R Q W X,C.aff,show C.Ih (x::X)=bY x.lZ (C.Ih X) from rfl,show C.FD (x::X)=bY x.zE (C.FD X) from rfl,kV,afg,show C.Ij W (x::X)=(x.Ii W&&C.Ij W X) from rfl];have P:=WI W x;have O:=Ik W X;cases N:iO x.zE 0<;>cases M:iO (C.FD X) 0<;>cases L:x.Ii W<;>cases H:C.Ij W X<;>cases iO (bY x.lZ (lY V R Q)) (lY V R Q)<;>cases iO (bY (C.Ih X) (lY V R Q)) (lY V R Q)<;>simp_all
def C.aZ{W:Nat->Bool}:(∀k e,C.bd R Q i W (.int k e)=e.bd R Q i)/\(∀b,C.bd R Q i W (.bool b)=b.bd R Q i)/\(∀r,C.bd R Q i W (.am r)=r.bd R Q i)/\(∀X o,C.bd R Q i W (.loc X o)=W X)/\(∀X a b c,C.bd R Q i W (.iP X a b c)=W X)/\(∀r w X o,C.bd R Q i W (.el r w X o)=(r.bd R Q i&&X.bd R Q i))/\(∀l,C.bd R Q i W (.agg l)=C.dQ R Q i W l)/\(∀l,C.bd R Q i W (.bP l)=C.dQ R Q i W l)/\(∀f l,C.bd R Q i W (.fn f l)=C.dQ R Q i W l)/\(∀t x,C.bd R Q i W (.gJ t x)=C.bd R Q i W x)/\(∀n,C.bd R Q i W (.yl n)=J)/\(C.bd R Q i W .any=J)/\(∀X,C.bd R Q i W (.mp X)=W X)/\(∀e N O,C.bd R Q i W (.fW e N O)=(e.bd R Q i&&C.dQ R Q i W O)):=by
 have V:∀b:Bool,(b&&(iO 0 0||J))=b:=λb=>by cases b<;>rfl
 have P:∀X,(iO (bY 0 (lY R Q i)) (lY R Q i)&&(iO (lS 1 X) 0||W X))=W X:=λX=>by rw[FC,Qp];rfl
 simp only[C.aff];refine⟨λ_ _=>V _,λ_=>V _,λ_=>V _,λ_ _=>P _,λ_ _ _ _=>P _,λr _ X _=> ?_,λl=>L8 _ _ _ _ l,λl=>L8 _ _ _ _ l,λ_ l=>L8 _ _ _ _ l,λ_ _=>rfl,λ_=>(V _).trans (FC _),(V _).trans (FC _),λ_=>P _,λe _ l=> ?_⟩;exact(V _).trans (kV _ _ _);rw[<-L8];show(iO (bY (bY e.lZ (C.Ih l)) _) _&&_)=_;rw[kV,aqD];rfl
def C.qm(X W V:Nat)(R:Nat->Bool):bE->Bool
 |[]=>J
 |U x::Q=>C.dQ X W V R x.2&&C.qm X W V R Q
 |Z::Q=>C.qm X W V R Q
def aL(l:bE)(i:Nat):Bool:=(cg l i).isSome
def S.bd(s:S):Bool:=C.dQ s.ni s.nb (Y s.rs) (aL s.au) s.tmps&&C.qm s.ni s.nb (Y s.rs) (aL s.au) s.au
def S.eV(s:S)(l:av):Bool:=s.bd&&C.dQ s.ni s.nb (Y s.rs) (aL s.au) l
structure fo where
 tm:List (Nat×LK)
 cl:List (Nat×Nat×LK)
inductive aqS where
 |aqT
 |inv (a:fo)
inductive FK where
 |box
 |slot (t:Nat) (vs:List Int)
 |cell (b j:Nat) (vs:bq)
structure bF where
 ty:Ty
 gl:mD
 inl:FuncId->Option (Code×Nat×mU)
 sig:FuncId->qZ
 loop:FuncId->Nat->aqS
 afh:TypeId:=3
 xR:FuncId->FuncId->Option (TypeId×bm×Bool):=λ_ _=>Z
 kW:Bool:=E
 L9:FuncId->Nat->Bool:=λ_ _=>E
 frk:FuncId->Nat->Option FK:=λ_ _=>Z
def S.fresh(s:S):LK->C×S
 |.int k=>(.int k (.v s.ni),{s with ni:=s.ni+1})
 |.bool=>(.bool (.v s.nb),{s with nb:=s.nb+1})
 |.am e=>(.am (.v (Y s.rs)),{s with rs:=s.rs++[e]})
def tJ:CT->LK
 |.int k=>.int k
 |.bool=>.bool
 |.ai _ k=>.am k
def S.cz(s:S):aQ->av×S
 |[]=>([],s)
 |k::X=>let r:=s.fresh k;let q:=r.2.cz X;(r.1::q.1,q.2)
def zF(W:Ty):jC->av->Fq
 |[],_=>U []
 |t::V,l=>match W t with
  |U X=>match zF W V (l.drop (Y X.ao)) with
   |U r=>U ((if X.d.isAgg then .agg (l.take (Y X.ao)) else l.getD 0 .any)::r)
   |none=>Z
  |none=>Z
def ip(X:Ty):jC->Option aQ
 |[]=>U []
 |t::W=>match X t,ip X W with
  |U V,U r=>U (V.ao.map tJ++r)
  |_,_=>Z
def one(l:av):C:=match l with
 |[v]=>v
 |l=>.bP l
def Code.oe:Code->aw
 |.region _ X _=>X.toList.filterMap (·.dst)
 |.seq a b=>Code.oe a++Code.oe b
 |.cond _ a b=>Code.oe a++Code.oe b
 |.block _ c=>Code.oe c
 |.loop c=>Code.oe c
 |.scope c=>Code.oe c
 |.rangeFunc _ W a b=>W.toList++Code.oe a++Code.oe b
 |_=>[]
def Code.first:Code->cw
 |.region id _ _=>U id
 |.seq a b=>match Code.first a with
  |U i=>U i
  |none=>Code.first b
 |.cond _ a b=>match Code.first a with
  |U i=>U i
  |none=>Code.first b
 |.block _ c=>Code.first c
 |.loop c=>Code.first c
 |.scope c=>Code.first c
 |_=>Z
mutual
def C.FE:C->aw
 |.loc i _=>[i]
 |.iP i _ _ _=>[i]
 |.agg l=>C.oN l
 |.bP l=>C.oN l
 |.fn _ l=>C.oN l
 |.gJ _ x=>C.FE x
 |.mp i=>[i]
 |.fW _ _ X=>C.oN X
 |_=>[]
def C.oN:av->aw
 |[]=>[]
 |x::X=>C.FE x++C.oN X
end
def rg(X:aw):Nat->bE->bE
 |_,[]=>[]
 |n,x::W=>(if X.contains n then x else Z)::rg X (n+1) W
def uT:bE->bE
 |[]=>[]
 |x::X=>match x,uT X with
  |Z,[]=>[]
  |x,r=>x::r
def C.eJ:C->Bool
 |.any=>J
 |_=>E
inductive FF where
 |fn (g:FuncId)
 |yl (n:Nat)
abbrev pD:=FF->av->S->(C->S->T)->(C->S->T)->T
abbrev YH:=Nat->av->S->(C->S->T)->(C->S->T)->T
def iK:YH:=λ_ _ _ _ _=>.stuck ""
structure OM where
 o:Oper
 ix:Nat
 bR:Bool
 j:Nat
 dr:Bool
 so:Bool
abbrev cN:=List OM
inductive OR where
 |ok (s:S)
 |bz (b:BE) (s:S)
 |split(b:BE) (s1 s2:S)
 |no (why:String)
def RE.isNil:RE->Bool
 |.k (.slice Z 0 0)=>J
 |_=>E
def RE.fits(X:Ty)(s:S)(k:RK)(r:RE):Bool:=match k with
 |.sl e=>decide (r.kind X s=.sl e)||r.isNil
 |.str=>decide (r.kind X s=.str)
 |_=>E
def si(X:Ty)(s:S):CT->C->Bool
 |.int k,.int W _=>decide (k=W)
 |.bool,.bool _=>J
 |.ai _ k,.am r=>r.fits X s k
 |_,_=>E
def l8(X:Ty)(s:S):eQ->av->Bool
 |[],[]=>J
 |c::W,v::V=>si X s c v&&l8 X s W V
 |_,_=>E
def mX(X:Ty)(s:S)(ao:eQ):wm->Bool
 |[]=>J
 |r::W=>l8 X s ao r&&mX X s ao W
def jo(w:Nat):Nat->av->wm
 |0,_=>[]
 |n+1,l=>l.take w::jo w n (l.drop w)
def LE.bd(X W V:Nat):LE->Bool
 |.am r=>r.bd X W V
 |.lit l=>l.all (C.dQ X W V λ_=>E)
 |.mW a b=>LE.bd X W V a&&LE.bd X W V b
 |.uP n Q=>n.bd X W V&&C.dQ X W V (λ_=>E) Q
 |.set a i _ R=>LE.bd X W V a&&i.bd X W V&&C.dQ X W V (λ_=>E) R
 |.sub a P O=>LE.bd X W V a&&P.bd X W V&&O.bd X W V
 |.ins a _ R=>LE.bd X W V a&&C.dQ X W V (λ_=>E) R
def RE.root:RE->cw
 |.v n=>U n
 |.cell r _ _ _=>r.root
 |.k _=>Z
mutual
def C.WJ:C->aw
 |.am r=>r.root.toList
 |.el r _ _ _=>r.root.toList
 |.agg l=>C.oO l
 |.bP l=>C.oO l
 |.fn _ l=>C.oO l
 |.gJ _ x=>C.WJ x
 |.fW _ _ X=>C.oO X
 |_=>[]
def C.oO:av->aw
 |[]=>[]
 |x::X=>C.WJ x++C.oO X
end
def xS(b:Bool):RK->RK
 |.own e=>if b then .sl e else .own e
 |x=>x
def Ma(b:Bool):RK->RK
 |.own e=>if b then .sl e else .ap
 |x=>x
def jX(X:aw):Nat->bp->bp
 |_,[]=>[]
 |n,x::W=>xS (X.contains n) x::jX X (n+1) W
def iY(X:aw):Nat->bp->bp
 |_,[]=>[]
 |n,x::W=>(if X.contains n then .ap else x)::iY X (n+1) W
def Bq(X:aw):Nat->bp->bp
 |_,[]=>[]
 |n,x::W=>Ma (X.contains n) x::Bq X (n+1) W
mutual
def C.hM(k n:Nat):C->C
 |.am (.v j)=>if j==k then .am (.v n) else .am (.v j)
 |.el (.v j) w i o=>if j==k then .el (.v n) w i o else .el (.v j) w i o
 |.agg l=>.agg (C.oP k n l)
 |.bP l=>.bP (C.oP k n l)
 |.fn f l=>.fn f (C.oP k n l)
 |.gJ t x=>.gJ t (C.hM k n x)
 |.fW e X W=>.fW e X (C.oP k n W)
 |v=>v
def C.oP(k n:Nat):av->av
 |[]=>[]
 |x::X=>C.hM k n x::C.oP k n X
end
def tK(k n:Nat):bE->bE
 |[]=>[]
 |Z::X=>Z::tK k n X
 |U (t,W)::X=>U (t,if qg t then W else C.oP k n W)::tK k n X
def S.hM(s:S)(k n:Nat):S:={s with tmps:=C.oP k n s.tmps,au:=tK k n s.au}
structure BI where
 bz:BE
 e:TypeId
 x:LE
 s:S
def Il:Int:=536870912
def Im(n:K):BE:=pC .leq n (.c Il)
def rh(Q:Ty)(s:S)(e:TypeId)(X:TI):C->Option (LE×BE×aw)
 |.am r=>if r.isNil then U (.lit [],.c J,[]) else if r.kind Q s=.sl e then U (.am r,Im (.len r),[]) else Z
 |.iP i V W _=>match lB s.au i with
  |U (_,R)=>if mX Q s X.ao (jo (Y X.ao) W (wt R V (W*Y X.ao)))&&decide (V+W*Y X.ao<=Y R)&&decide ((W:Int)<=Il) then U (.lit (jo (Y X.ao) W (wt R V (W*Y X.ao))),.c J,C.oO (wt R V (W*Y X.ao))) else Z
  |none=>Z
 |_=>Z
def ww(s:S)(e:TypeId)(bR:Bool):C->Option (LE×BE×aw)
 |.am (.v k)=>if s.rs[k]?=U (.own e)/\ !(bR&&s.lk.testBit (2*k+1)) then U (.am (.v k),Im (.len (.v k)),[k]) else Z
 |.am r=>if r.isNil then U (.lit [],.c J,[]) else Z
 |.iP _ _ 0 0=>U (.lit [],.c J,[])
 |_=>Z
def jY(s:S)(d:cw)(bz:BE)(e:TypeId)(k:RK)(x:LE)(X cY:aw):Option BI:=
 if s.bd&&X.all (λk=> !cY.contains k)&&LE.bd s.ni s.nb (Y s.rs) x&&bz.bd s.ni s.nb (Y s.rs) then U ⟨bz,e,x,{s with rs:=jX cY 0 (iY X 0 s.rs)++[k]}.put d (.am (.v (Y s.rs)))⟩ else Z
def eH(X:bF)(o:Oper)(bR R:Bool)(s:S):Option BI:=match o.op with
 |.call c=>match c.callee with
  |.builtin .append=>match c.argTypes.toList,c.args.toList.map (s.ev X.gl) with
   |[t,O],[x,y]=>match X.ty t,X.ty O with
    |U ⟨.slice e,_,_⟩,U ⟨.slice N,_,_⟩=>match X.ty e with
     |U W=>if e≠N\/Y W.ao=0 then Z else match ww s e bR x,rh X.ty s e W y with
      |U (a,M,L),U (b,H,cY)=>jY s o.dst (uR M H) e (.own e) (.mW a b) L cY
      |_,_=>Z
     |none=>Z
    |_,_=>Z
   |_,_=>Z
  |_=>Z
 |.makeSlice t n m=>match X.ty t,s.ev X.gl n,s.ev X.gl m with
  |U ⟨.slice e,_,_⟩,.int I n,.int I m=>match X.ty e with
   |U W=>if n.aM m&&mX X.ty s W.ao [dZ W]&&Y W.ao !=0 then jY s o.dst (uR (pC .leq (.c 0) n) (Im n)) e (.own e) (.uP n (dZ W)) [] [] else Z
   |none=>Z
  |_,_,_=>Z
 |.buildSlice t V parts=>if R|| !X.kW then Z else match X.ty t with
  |U ⟨.slice e,_,_⟩=>match X.ty e with
   |U W=>match xP (λi=>U (i*Y W.ao,Y W.ao)) (wv V (dZ W)) (parts.toList.map λp=>(p.1,s.ev X.gl p.2)) with
    |U l=>if(Y l==V*Y W.ao&&mX X.ty s W.ao (jo (Y W.ao) V l)&&Y W.ao !=0&&decide ((V:Int)<=Il)&&decide (V*Y W.ao<=16777216)&& !(parts.toList.any λp=>(s.ev X.gl p.2).eJ)) then jY s o.dst (.c J) e (.own e) (.lit (jo (Y W.ao) V l)) [] (C.oO l) else Z
    |none=>Z
   |none=>Z
  |_=>Z
 |.slice t x G F D=>if R then Z else match X.ty t,s.ev X.gl x,D.map (s.ev X.gl),F.map (s.ev X.gl),G.map (s.ev X.gl) with
  |U ⟨.slice e,_,_⟩,.am r,U (.int _ (.c 0)),U (.int _ (.c 0)),Z=>match X.ty e with
   |U _=>if r.kind X.ty s=.sl e\/r.isNil then jY s o.dst (.c J) e (.own e) (.lit []) [] [] else Z
   |none=>Z
  |U ⟨.slice e,_,_⟩,.am r,Z,U (.int I h),U (.int I l)=>match X.ty e with
   |U _=>if r.kind X.ty s=.sl e then jY s o.dst (uR (pC .leq (.c 0) l) (uR (pC .leq l h) (pC .leq h (.len r)))) e (.sl e) (.sub (.am r) l h) [] r.root.toList else Z
   |none=>Z
  |U ⟨.slice e,_,_⟩,.am r,Z,U (.int I h),Z=>match X.ty e with
   |U _=>if r.kind X.ty s=.sl e then jY s o.dst (uR (pC .leq (.c 0) h) (pC .leq h (.len r))) e (.sl e) (.sub (.am r) (.c 0) h) [] r.root.toList else Z
   |none=>Z
  |U ⟨.slice e,_,_⟩,.am r,Z,Z,U (.int I l)=>match X.ty e with
   |U _=>if r.kind X.ty s=.sl e then jY s o.dst (uR (pC .leq (.c 0) l) (pC .leq l (.len r))) e (.sl e) (.sub (.am r) l (.len r)) [] r.root.toList else Z
   |none=>Z
  |_,_,_,_,_=>Z
 |.store t a x=>if R then Z else match X.ty t,s.ev X.gl a with
  |U Q,.el (.v k) w i P=>match s.rs[k]? with
   |U (.own e)=>match X.ty e with
    |U W=>if(Y W.ao==w&&(s.ev X.gl x).cells.length==Y Q.ao&&decide (P+Y Q.ao<=w)&&l8 X.ty s ((W.ao.drop P).take (Y Q.ao)) (s.ev X.gl x).cells&&(s.ev X.gl x).Fu) then
      (jY s Z (uS i (.len (.v k))) e (.own e) (.set (.am (.v k)) i P (s.ev X.gl x).cells) [k] (C.oO (s.ev X.gl x).cells)).map λb=>{b with s:=(b.s.hM k (Y s.rs)).put o.dst (.bP [])} else Z
    |none=>Z
   |_=>Z
  |_,_=>Z
 |_=>Z
def S.cZ(s:S)(n:Nat)(t:TypeId)(X:av):S:={s with au:=s.au.set n (U (t,X))}
def Mb(bR:Bool):C->Nat
 |.loc i _=>if bR then 1<<<(2*i) else 0
 |.el r _ _ _=>if bR then(match r.root with
  |U k=>1<<<(2*k+1)
  |none=>0) else 0
 |.fW _ _ X=>if bR then(match xQ X with
  |U i=>1<<<(2*i)
  |none=>0) else 0
 |_=>0
def S.dw(s:S)(d:cw)(v:C)(l:Nat):S:={s with lk:=s.lk|||l}.put d v
def sj(s:S)(d:cw)(l:Nat):PR->OR
 |.ok v=>.ok (s.dw d v l)
 |.bz b v=>if b.bd s.ni s.nb (Y s.rs) then .bz b (s.dw d v l) else .no ""
 |.no w=>.no w
def gf(l:bE)(n:Nat):Bool:=match l[n]? with
 |U Z=>J
 |_=>E
def pE(l:bE)(n:Nat)(t:TypeId):Bool:=gf l n&& !qg t
def gt(X:bF)(m:OM)(s:S):OR:=
 if m.o.op.operands.toList.any λx=>(s.ev X.gl x).eJ then .no (""++toString m.j++ ""++toString m.o.dst) else
 match m.o.op with
 |.alloc t=>match X.ty t with
  |U W=>if s.eV (dZ W)&&pE s.au m.ix t then .ok ((s.cZ m.ix t (dZ W)).put m.o.dst (.loc m.ix 0)) else .no ""
  |none=>.no ""
 |.box t x=>match X.ty t with
  |U W=>if(s.ev X.gl x).cells.length==Y W.ao&&s.eV (s.ev X.gl x).cells&&(s.ev X.gl x).Fu&&pE s.au m.ix t then .ok ((s.cZ m.ix t (s.ev X.gl x).cells).put m.o.dst (.loc m.ix 0)) else .no ""
  |none=>.no ""
 |.buildSlice t V parts=>match X.ty t with
  |U ⟨.slice e,_,_⟩=>match X.ty e with
   |U R=>match xP (λi=>U (i*Y R.ao,Y R.ao)) (wv V (dZ R)) (parts.toList.map λp=>(p.1,s.ev X.gl p.2)) with
    |U l=>if s.eV l&&decide (V*Y R.ao<=16777216)&&pE s.au m.ix e then .ok ((s.cZ m.ix e l).put m.o.dst (.iP m.ix 0 V V)) else .no ""
    |none=>.no ""
   |none=>.no ""
  |_=>.no ""
 |.store t a x=>match X.ty t,s.ev X.gl a with
  |U W,.loc i Q=>match lB s.au i with
   |U (O,P)=>if(s.ev X.gl x).cells.length==Y W.ao&&decide (Q+(s.ev X.gl x).cells.length<=Y P)&&Dn (s.ev X.gl x).cells&&(s.ev X.gl x).Fu&& !(m.bR&&s.lk.testBit (2*i)) then .ok ((s.cZ i O (kU P Q (s.ev X.gl x).cells)).put m.o.dst (.bP [])) else .no ""
   |none=>.no ""
  |_,_=>.no ""
 |.pick c x y=>match s.ev X.gl c with
  |.bool b=>.split b (s.put m.o.dst (s.ev X.gl x)) (s.put m.o.dst (s.ev X.gl y))
  |_=>.no ""
 |.load t a=>sj s m.o.dst (Mb m.bR (s.ev X.gl a)) (ck X.ty X.gl s (.load t a))
 |op=>sj s m.o.dst 0 (ck X.ty X.gl s op)
inductive MR where
 |ok (s:S)
 |aj (k:RK) (x:LE) (s:S)
def FG(X:TI)(n:Nat)(W:Bool):TypeId×av:=if X.ao.all mE&&Y X.ao !=0 then(uO,[.am (.k (.slice Z 0 0)),.int I (.c n),.bool (.c W),.bool (.c X.d.isAgg)]) else(tI,[])
def S.xT(s:S)(b:TypeId×av):S:={s with au:=s.au++[U b]}
def FH(V:bF)(s:S)(k e:TypeId)(n:Nat)(W:Bool)(X:TI):av->Option RE
 |[.am r,.int I (.c R),.bool (.c Q),.bool (.c P)]=>if r.qh V.ty s ⟨k,e,n,W,X.d.isAgg⟩&&R==(n:Int)&&Q==W&&P==X.d.isAgg&&X.ao.all mE then U r else Z
 |_=>Z
def Qq(V:bF)(d:cw)(s:S)(t:TypeId)(O R v:C):Option MR:=match V.ty t,O with
 |U ⟨.map k e n X,_,_⟩,.mp i=>match V.ty e,Fz n X R,cg s.au i with
  |U W,U (N,_,_),U (P,Q)=>if !sf V.ty k n X|| !s.eV [R,v]|| !zB W v then Z else
   if P==uO then(match FH V s k e n X W Q with
    |U r=>if l8 V.ty s W.ao v.cells then
      U (.aj (RK.mr ⟨k,e,n,X,W.d.isAgg⟩) (.ins (.am r) n (R.cells++v.cells)) (S.put {s with rs:=s.rs++[RK.mr ⟨k,e,n,X,W.d.isAgg⟩],au:=s.au.set i (U (uO,[.am (.v (Y s.rs)),.int I (.c n),.bool (.c X),.bool (.c W.d.isAgg)]))} d (.bP []))) else Z
    |none=>Z)
   else if P==tI&&n==1&& !X then(match N,qj Q with
    |.c x,U M=>if M.contains x then Z else U (.ok ((s.cZ i tI (Q++[.int I (.c x),v])).put d (.bP [])))
    |_,_=>Z)
   else Z
  |_,_,_=>Z
 |_,_=>Z
def Qr(X:bF)(d:cw)(s:S)(t:TypeId):Option S:=match X.ty t with
 |U ⟨.map k e n W,_,_⟩=>match X.ty e with
  |U V=>if s.bd&&sf X.ty k n W then U ((s.xT (FG V n W)).put d (.mp (Y s.au))) else Z
  |none=>Z
 |_=>Z
def wz(X:bF):Sh:=⟨X.afh,wn,1,E,E⟩
def FI(X:bF):Bool:=sf X.ty X.afh 1 E&&(X.ty wn).isNone
def WK(R:bF)(s:S)(k e:TypeId)(n:Nat)(X:Bool)(Q:TI)(i:Nat):Option K:=match cg s.au i with
 |U (W,V)=>if W==uO then(FH R s k e n X Q V).map .len
  else if W==tI&&n==1&& !X then(qj V).map λP=>.c (Y P) else Z
 |none=>Z
def Qs(X:bF)(d:cw)(s:S)(t:TypeId)(W:C):Option S:=match X.ty t,W with
 |U ⟨.map k e n V,_,_⟩,.mp i=>match X.ty e with
  |U R=>match WK X s k e n V R i with
   |U c=>if s.bd&&c.bd s.ni s.nb (Y s.rs)&&aL s.au i then U ((s.xT (wn,[.mp i,.int I (.c t),.int I c,.am (.k (.slice Z 0 0))])).put d (.loc (Y s.au) 0)) else Z
   |none=>Z
  |none=>Z
 |_,_=>Z
def tL(r:RE)(i:K):Nat->eQ->av
 |_,[]=>[]
 |j,c::X=>Dm r i j c::tL r i (j+1) X
def In(r:RE)(i:K)(n:Nat)(X:Bool):C:=se X ((fU n).map λj=>.int I (.cell r i j))
def WL(X:bF)(d:cw)(s:S)(q W:Nat)(i t:Nat)(c:K)(V v:C):S:=
 S.put {s with ni:=W,rs:=s.rs++[RK.mr (wz X)],au:=s.au.set q (U (wn,[.mp i,.int I (.c t),.int I c,.am (.v (Y s.rs))]))} d (.bP [.bool (.c J),V,v])
def Qt(X:RE)(j:K):BE:=.not (.has X 1 j (.c 0) (.c 0))
def Qu(X:TI)(e:K)(W:bq)(V:av):Option (C×C):=if V.all (zB X) then(match zA e (Bp (Y W)) (W.map λk=>.int I (.c k)),Bo e (Bp (Y W)) (V.map C.cells) 0 X.ao with
 |U a,U l=>U (.int I a,se X.d.isAgg l)
 |_,_=>Z) else Z
def Qv(W:bF)(s:S)(c:K)(X:RE)(t V:T):T:=
 .pick c (Qt X (.v s.ni)) (.cmp .leq c (.len X)) (.aj (.mr (wz W)) (.ins (.am X) 1 [.int I (.v s.ni)]) s.rs t) V
def WM(X:bF)(d:cw)(s:S)(L:C)(P O:S->T):Option T:=match L with
 |.loc q 0=>match cg s.au q with
  |U (H,[.mp i,.int I (.c t),.int I c,.am R])=>if !(H==wn&&FI X&&R.qh X.ty s (wz X)&&s.bd&&({s with ni:=s.ni+1}:S).bd&&decide (0<=t)) then Z else match X.ty t.toNat,cg s.au i with
   |U ⟨.map k e n V,_,_⟩,U (N,Q)=>match X.ty e with
    |U W=>if !sf X.ty k n V then Z else
     if N==uO then(match FH X s k e n V W Q with
      |U r=>if c.aM (.len r)&&Y W.ao !=0 then U (Qv X s c R (P (WL X d s q (s.ni+1) i t.toNat c (In r (.v s.ni) n V) (se W.d.isAgg (tL r (.v s.ni) n W.ao)))) (O (s.put d (.bP [.bool (.c E)])))) else Z
      |none=>Z)
     else if N==tI&&n==1&& !V then(match qj Q with
      |U M=>if c.aM (.c (Y M)) then(match Qu W (.v s.ni) M (lX Q) with
       |U (G,v)=>U (Qv X s c R (P (WL X d s q (s.ni+1) i t.toNat c G v)) (O (s.put d (.bP [.bool (.c E)]))))
       |none=>Z) else Z
      |none=>Z)
     else Z
    |none=>Z
   |_,_=>Z
  |_=>Z
 |_=>Z
def uU(X:RE):K:=.cell X (.bin .sub I (.len X) (.c 1)) 0
def WN(c:K)(X:RE):BE:=uR (uR (pC .leq (.c 1) (.len X)) (Im (.len X))) (uS (uU X) c)
def WO(X:bF)(d:cw)(s:S)(M:C)(P:S->T):Option T:=match M with
 |.loc q 0=>match cg s.au q with
  |U (L,[.mp i,.int I (.c t),.int I c,.am W])=>if !(L==wn&&FI X&&W.qh X.ty s (wz X)&&s.bd&&decide (0<=t)) then Z else match X.ty t.toNat,cg s.au i with
   |U ⟨.map k e n V,_,_⟩,U (O,Q)=>match X.ty e with
    |U R=>if !sf X.ty k n V then Z else
     if O==uO then(match FH X s k e n V R Q with
      |U r=>if c.aM (.len r) then U (.bz (WN c W) (P (s.put d (.bP [In r (uU W) n V,se R.d.isAgg (tL r (uU W) n R.ao)])))) else Z
      |none=>Z)
     else if O==tI&&n==1&& !V then(match qj Q with
      |U N=>if c.aM (.c (Y N)) then(match Qu R (uU W) N (lX Q) with
       |U (H,v)=>U (.bz (WN c W) (P (s.put d (.bP [H,v]))))
       |none=>Z) else Z
      |none=>Z)
     else Z
    |none=>Z
   |_,_=>Z
  |_=>Z
 |_=>Z
def Qw(X:bF)(d:cw)(s:S)(t:TypeId)(W:Bool)(x y:C)(V:S->T):Option T:=match X.ty t,x,y with
 |U ⟨.slice e,_,_⟩,.am r,.am (.k (.slice Z 0 0))=>if r.kind X.ty s=.sl e then U (.gE (.c J) (.cmp .leq (.len r) (.c 0)) (V (s.put d (.bool (.c W)))) (V (s.put d (.bool (.c (!W)))))) else Z
 |_,_,_=>Z
abbrev Fx:=List (BE×Bool)
def Mc(X:Fx):BE->Option Bool
 |.c v=>U v
 |b=>(X.find? λx=>x.1.aM b).map (·.2)
def Br(s:S)(X:Fx)(b:BE)(t f:Fx->T):T:=match Mc X b with
 |U J=>t X
 |U E=>f X
 |none=>if b.bd s.ni s.nb (Y s.rs) then .aW b (t ((b,J)::X)) (f ((b,E)::X)) else .stuck ""
inductive CK where
 |call (g:FF) (args:List C)
 |bI (v:C)
 |op
 |no
def ec(X:bF)(s:S)(o:Oper):CK:=
 match o.op with
 |.panic x=>match s.ev X.gl x with
  |.gJ t y=>.bI (.gJ t y)
  |_=>.no
 |.call c=>match c.callee with
  |.value f=>match s.ev X.gl f with
   |.fn g W=>if c.args.toList.any λx=>(s.ev X.gl x).eJ then .no else .call (.fn g) (c.args.toList.map (s.ev X.gl)++W)
   |.yl n=>if c.args.toList.any λx=>(s.ev X.gl x).eJ then .no else .call (.yl n) (c.args.toList.map (s.ev X.gl))
   |_=>.no
  |.invoke _ _=>.no
  |.builtin .panic=>match c.args.toList with
   |[x]=>match s.ev X.gl x with
    |.gJ t y=>.bI (.gJ t y)
    |_=>.no
   |_=>.no
  |.builtin _=>.op
 |_=>.op
def oQ(s:S)(X:Fx):Fx:=X.filter λx=>x.1.bd s.ni s.nb (Y s.rs)
def WP(b:BE):C->C->Option C
 |.int k x,.int X y=>if k=X then U (.int k (.dg b x y)) else Z
 |.bool x,.bool y=>U (.bool (.dg b x y))
 |_,_=>Z
def Me(b:BE):av->Nat->av->Fq
 |[],_,X=>U X
 |x::V,W,X=>match X[W]? with
  |U R=>match WP b x R with
   |U c=>Me b V (W+1) (X.set W c)
   |none=>Z
  |none=>Z
def FJ(e:K)(W:av):bq->av->av->Fq
 |[],[],X=>U X
 |k::V,.loc _ R::Q,X=>match Me (.cmp .eql e (.c k)) W R X with
  |U P=>FJ e W V Q P
  |none=>Z
 |_,_,_=>Z
def Qx:bq->Bool
 |[]=>J
 |x::X=> !X.contains x&&Qx X
def Mf:C->Bool
 |.int _ _|.bool _=>J
 |_=>E
def Io:av->Bool
 |[]=>E
 |[x]=>Mf x
 |x::X=>Mf x&&Io X
def WQ(d:cw)(s:S)(R:TI)(e:K)(X:bq)(W:av)(V:C)(k:S->T):Option T:=match xQ W with
 |U i=>match lB s.au i with
  |U (Q,P)=>match FJ e V.cells X W P with
   |U O=>if Y R.ao==Y V.cells&&Y X==Y W&&Qx X&&Io V.cells then U (.bz (FA e X) (k ((s.cZ i Q O).put d (.bP [])))) else Z
   |none=>Z
  |none=>Z
 |none=>Z
def zG(X:bF)(m:OM)(s:S)(V:S->Fx->T)(R:Fx):Option T:=if m.dr||m.o.op.operands.toList.any λx=>(s.ev X.gl x).eJ then Z else match m.o.op with
 |.makeMap t Z=>(Qr X m.o.dst s t).map λW=>V W R
 |.mapUpdate t x y z=>match Qq X m.o.dst s t (s.ev X.gl x) (s.ev X.gl y) (s.ev X.gl z) with
  |U (.ok W)=>U (V W R)
  |U (.aj k x W)=>U (.aj k x s.rs (V W (oQ s R)))
  |none=>Z
 |.insert t x y z=>match Qq X m.o.dst s t (s.ev X.gl x) (s.ev X.gl y) (s.ev X.gl z) with
  |U (.ok W)=>U (V W R)
  |U (.aj k x W)=>U (.aj k x s.rs (V W (oQ s R)))
  |none=>Z
 |.range t x=>(Qs X m.o.dst s t (s.ev X.gl x)).map λW=>V W R
 |.next Q E=>WM X m.o.dst s (s.ev X.gl Q) (λW=>V W (oQ s R)) (λW=>V W R)
 |.entry Q=>WO X m.o.dst s (s.ev X.gl Q) λW=>V W R
 |.store t a x=>match X.ty t,s.ev X.gl a with
  |U P,.fW e O N=>WQ m.o.dst s P e O N (s.ev X.gl x) λW=>V W R
  |_,_=>Z
 |.binOp M t x y _=>match M with
  |.eql=>Qw X m.o.dst s t E (s.ev X.gl x) (s.ev X.gl y) λW=>V W R
  |.neq=>Qw X m.o.dst s t J (s.ev X.gl x) (s.ev X.gl y) λW=>V W R
  |_=>Z
 |_=>Z
def zH(X:bF)(m:OM)(s:S):Option (K×bq×av×av):=if m.dr then Z else match m.o.op with
 |.call c=>match c.callee with
  |.value f=>match s.ev X.gl f with
   |.fW e W V=>if(c.args.toList.any λx=>(s.ev X.gl x).eJ)|| !e.bd s.ni s.nb (Y s.rs) then Z else U (e,W,V,c.args.toList.map (s.ev X.gl))
   |_=>Z
  |_=>Z
 |_=>Z
def Dq(e:K)(X:FuncId->av->T):bq->av->T
 |k::W,.fn g R::V=>.aW (.cmp .eql e (.c k)) (X g R) (Dq e X W V)
 |k::W,.am (.k .nilFunc)::V=>.aW (.cmp .eql e (.c k)) (.stuck "") (Dq e X W V)
 |_,_=>.stuck ""
structure zI where
 f:FuncId
 g:FuncId
 e:TypeId
 sp:bm
 st:Bool
 r:RE
 s:S
def Mg:av->Option (List K×FuncId)
 |[.fn g []]=>U ([],g)
 |.int I e::r=>match Mg r with
  |U x=>U (e::x.1,x.2)
  |none=>Z
 |_=>Z
def bm.fill:bm->List K->Option bm
 |.dh k o _,X=>U (.dh k o X)
 |W,[]=>U W
 |_,_::_=>Z
def WR(V:bF)(f:FuncId)(R:av)(s:S)(d:cw):Option zI:=match R with
 |.am r::Q=>match Mg Q with
  |U (P,g)=>match(if f==g then Z else V.xR f g) with
   |U (e,O,X)=>match O.fill P with
    |U W=>match r with
     |.v k=>if s.rs[k]?=U (.own e) then U ⟨f,g,e,W,X,.v k,(({s with rs:=jX [] 0 (iY [k] 0 s.rs)++[.own e]}:S).hM k (Y s.rs)).put d (.bP [])⟩ else Z
     |.k (.slice Z 0 0)=>U ⟨f,g,e,W,X,.k (.slice Z 0 0),({s with rs:=jX [] 0 (iY [] 0 s.rs)++[.own e]}:S).put d (.bP [])⟩
     |_=>Z
    |none=>Z
   |none=>Z
  |none=>Z
 |_=>Z
def FL(V:bF)(f:FuncId)(R:av)(s:S)(d:cw):Option zI:=match R with
 |[.int I i,.loc X 0,.loc W 0]=>match V.xR f f with
  |U (e,.dh 0 o _,J)=>match cg s.au X,cg s.au W with
   |U (Q,[.am (.v k)]),U (P,[.fn O [.loc N 0,.loc M 0]])=>if i.bd s.ni s.nb (Y s.rs)&&O==f&&N==X&&M==W&& !qg Q&& !qg P&&decide (s.rs[k]?=U (.own e)) then U ⟨f,f,e,.dh 0 o [i],J,.v k,(({s with rs:=jX [] 0 (iY [k] 0 s.rs)++[.own e]}:S).hM k (Y s.rs)).put d (.int I (.cell (.v (Y s.rs)) i 0))⟩ else Z
   |_,_=>Z
  |_=>Z
 |_=>Z
def Bs(X:bF)(m:OM)(s:S):Option zI:=if m.dr|| !s.bd then Z else match ec X s m.o with
 |.call (.fn f) W=>match WR X f W s m.o.dst with
  |U u=>U u
  |none=>FL X f W s m.o.dst
 |_=>Z
def FM(X:bF)(o:Oper)(s:S):Option zI:=if !s.bd then Z else match ec X s o with
 |.call (.fn f) W=>FL X f W s o.dst
 |_=>Z
def zJ(R:bF)(O:pD)(m:OM)(s:S)(X:S->Fx->T)(P:C->S->T)(W:Fx):T:=
 match zH R m s with
 |U (e,N,M,Q)=>Dq e (λg L=>O (.fn g) (Q++L) s (λv V=>X (V.put m.o.dst v) (oQ s W)) P) N M
 |none=>
 match Bs R m s with
 |U u=>.dO u.f u.g u.e u.sp u.st u.r s.rs (X u.s (oQ s W))
 |none=>
 match ec R s m.o with
 |.call (.fn g) Q=>O (.fn g) Q s (λv V=>X (V.put m.o.dst v) (oQ s W)) P
 |.call (.yl n) Q=>if m.so then O (.yl n) Q s (λv V=>X (V.put m.o.dst v) (oQ s W)) P else .stuck ""
 |.bI v=>P v s
 |.no=>.stuck ""
 |.op=>match zG R m s X W with
  |U t=>t
  |none=>match eH R m.o m.bR m.dr s with
  |U b=>.bz b.bz (.new b.e b.x s.rs b.s.rs (X b.s (oQ s W)))
  |none=>match gt R m s with
  |.ok V=>X V W
  |.bz b V=>.bz b (X V W)
  |.split b H G=>Br s W b (X H) (X G)
  |.no F=>.stuck F
def Qy(R:dI)(m:OM)(s:S)(X:Fx)(W V:Fx->T):T:=
 match m.o.guard with
 |none=>W X
 |U (j,Q)=>match(R[j]?).bind (·.dst) with
  |U d=>match s.tmps[d]? with
   |U (.bool b)=>if Q then Br s X b W V else Br s X b V W
   |U (.bP [])=>V X
   |_=>.stuck ""
  |none=>.stuck ""
def nH(X:bF)(W:pD)(V:dI)(k:S->T)(R:C->S->T):cN->S->Fx->T
 |[],s,_=>k s
 |m::Q,s,P=>Qy V m s P (zJ X W m s (nH X W V k R Q) R) (nH X W V k R Q (s.put m.o.dst (.bP [])))
def gF:Op->Bool
 |.alloc _|.box _ _|.buildSlice _ _ _=>J
 |_=>E
def lC(l:oM):Nat:=(l.filter λo=>gF o.op).length
def gG(bR:Nat->Bool)(X W:Bool):Nat->Nat->oM->cN
 |_,_,[]=>[]
 |j,n,o::r=>⟨o,n,bR j,j,W,X⟩::gG bR X W (j+1) (if gF o.op then n+1 else n) r
def S.room(s:S)(n:Nat):S:={s with au:=s.au++eI n Z,lk:=0}
def tM(X:bF)(s:S):mU->Fq
 |[]=>U []
 |.tmp t::W=>match tM X s W with
  |U l=>if(s.tmps.getD t .any).eJ then Z else U (s.tmps.getD t .any::l)
  |none=>Z
 |.cell a t::W=>match tM X s W,s.tmps.getD a .any,X.ty t with
  |U l,.loc i V,U R=>match lB s.au i with
   |U (_,Q)=>match wu R Q V with
    |U v=>U (v::l)
    |none=>Z
   |none=>Z
  |_,_,_=>Z
def uV(n:Nat):List (Nat×LK)->av->Option C
 |(t,_)::r,v::X=>if t==n then U v else uV n r X
 |_,_=>Z
def zK(b n:Nat):List (Nat×Nat×LK)->av->Option C
 |(X,W,_)::r,v::V=>if X==b&&W==n then U v else zK b n r V
 |_,_=>Z
def afj(l:bE)(x:Nat×Nat×LK):C:=match cg l x.1 with
 |U (_,X)=>X.getD x.2.1 .any
 |none=>.any
def fo.ks(a:fo):aQ:=a.tm.map (·.2)++a.cl.map (·.2.2)
def kf(a:fo)(s:S):av:=a.tm.map (λx=>s.tmps.getD x.1 .any)++a.cl.map (afj s.au)
def Qz:LK->C->aw
 |.am (.own _),.am (.v k)=>[k]
 |_,_=>[]
def Bt:aQ->av->aw
 |k::X,v::W=>Qz k v++Bt X W
 |_,_=>[]
def FN(a:fo)(s:S):aw:=Bt a.ks (kf a s)
def iZ(a:fo)(s:S):bp:=iY (FN a s) 0 s.rs
def xU:bp->bp->Bool
 |[],_=>J
 |x::X,y::W=>(decide (x=.ap)||decide (x=y))&&xU X W
 |_::_,[]=>E
def mF:aw->Bool
 |[]=>J
 |x::X=> !X.contains x&&mF X
def FO(X:bp)(l:aw):Bool:=mF l&&l.all λk=>decide (Y X<=k)||decide (X[k]?=U .ap)
def zL(a:fo)(X:aw)(W:av):Nat->av->av
 |_,[]=>[]
 |n,x::V=>(uV n a.tm W).getD (if X.contains n then .any else x)::zL a X W (n+1) V
def FP(a:fo)(X:av)(b:Nat):Nat->av->av
 |_,[]=>[]
 |n,x::W=>(zK b n a.cl X).getD x::FP a X b (n+1) W
def tN(a:fo)(X:av):Nat->bE->bE
 |_,[]=>[]
 |n,Z::W=>Z::tN a X (n+1) W
 |n,U (t,V)::W=>U (t,FP a X n 0 V)::tN a X (n+1) W
def qn(a:fo)(X:aw)(s:S):S:=
 let r:av×S:=S.cz {s with aA:=s.aA+1,rs:=iZ a s} a.ks
 {r.2 with tmps:=zL a X r.1 0 s.tmps,au:=tN a (r.1.drop (Y a.tm)) 0 s.au}
def xV(a:fo)(X:aw):Nat->av->av->Bool
 |_,[],[]=>J
 |n,x::W,y::V=>(a.tm.any (·.1==n)||X.contains n||C.aM x y)&&xV a X (n+1) W V
 |_,_,_=>E
def FQ(a:fo)(b:Nat):Nat->av->av->Bool
 |_,[],[]=>J
 |n,x::X,y::W=>(a.cl.any (λc=>c.1==b&&c.2.1==n)||C.aM x y)&&FQ a b (n+1) X W
 |_,_,_=>E
def sn(a:fo):Nat->bE->bE->Bool
 |_,[],_=>J
 |n,Z::X,_::W=>sn a (n+1) X W
 |n,U x::X,U y::W=>x.1==y.1&&FQ a n 0 x.2 y.2&&sn a (n+1) X W
 |_,_,_=>E
def Bu(s:S):LK->C->Bool
 |.int k,.int X _=>decide (k=X)
 |.bool,.bool _=>J
 |.am e,.am (.v k)=>s.rs[k]?==U e
 |.am (.sl _),.am (.k (.slice Z 0 0))=>J
 |.am (.own _),.am (.k (.slice Z 0 0))=>J
 |.am (.mr _),.am (.k (.slice Z 0 0))=>J
 |_,_=>E
def sq(s:S):aQ->av->Bool
 |[],[]=>J
 |k::X,v::W=>Bu s k v&&sq s X W
 |_,_=>E
def FR:LK->Bool
 |.am (.own _)=>E
 |_=>J
def pF:aQ->Bool
 |[]=>J
 |k::X=>FR k&&pF X
def Mh:aQ->Bool
 |[]=>E
 |.am _::_=>J
 |_::X=>Mh X
def Mi(X:av)(n:Nat):aw:=if(C.oN X).isEmpty then C.oO X else fU n
def Mj(W:av)(X:bp):bp:=Bq (Mi W (Y X)) 0 X
def Bv(W:av)(V:aQ)(X:bp):bp:=if Mh V then jX (Mi W (Y X)) 0 X else X
def S.cut(s:S)(X:av)(W:aQ):S:={s with rs:=Bv X W s.rs}
def xW(V:bF)(f:FuncId)(X:av)(s:S)(k:C->S->T):T:=
 match V.sig f with
 |U R=>match ip V.ty R with
  |U W=>match zF V.ty R ((s.cut X W).cz W).1 with
   |U l=>if s.eV X&&pF W then .call f X (uT (rg (C.oN X) 0 s.au)) (Mj X s.rs) W (one l) (k (one l) ((s.cut X W).cz W).2) else .stuck ""
   |none=>.stuck ""
  |none=>.stuck ""
 |none=>.stuck (""++toString f)
def kX(o:Oper):aw:=(o.after.toList.filter λe=>aqL .any e).map (·.on)
def oR(X:oM):aw:=X.foldl (λacc o=>acc++[(kX o).foldl (λl e=>l|||(1<<<e)|||acc.getD e 0) 0]) []
def zM:Op->Bool
 |.load _ _=>J
 |_=>E
def xX:Op->Bool
 |.store _ _ _=>J
 |_=>E
def mY:Op->Bool
 |.call c=>match c.callee with
  |.builtin .len|.builtin .min|.builtin .max=>J
  |_=>E
 |.move _|.assign _|.pick _ _ _|.load _ _|.fieldAddr _ _ _|.field _ _ _|.indexAddr _ _ _|.index _ _ _|.binOp _ _ _ _ _|.unOp _ _ _|.convert _ _ _|.makeInterface _ _|.makeFunc _ _ _|.extract _ _|.nilCheck _|.slice _ _ _ _ _|.build _ _|.lookup _ _ _ _=>J
 |_=>E
def jM(X:dI)(o:Oper):aw:=o.op.operands.toList.filterMap (λx=>match x with
  |.tmp t=>U t
  |_=>Z)++(match o.guard with
  |U (j,_)=>((X[j]?).bind (·.dst)).toList
  |none=>[])
def Ip:Op->Bool
 |.panic _=>J
 |.call c=>match c.callee with
  |.builtin .panic=>J
  |_=>E
 |_=>E
def Bw:Op->Bool
 |.call c=>match c.callee with
  |.builtin .append=>J
  |_=>E
 |_=>E
def tO:Op->Bool
 |.call c=>match c.callee with
  |.builtin .append=>J
  |_=>E
 |.makeSlice _ _ _=>J
 |_=>E
def looks:Op->Bool
 |.call _|.load _ _|.indexAddr _ _ _|.index _ _ _|.lookup _ _ _ _=>J
 |.binOp X _ _ _ _=>Qj X
 |_=>E
def QA(X:dI)(x y:OM):Bool:=
 x.dr&&y.dr&&mY x.o.op&& !Ip y.o.op&&(match x.o.dst with
  |U d=> !(jM X y.o).contains d&&y.o.dst !=U d&& !(jM X x.o).contains d
  |none=>E)&&(match y.o.dst with
  |U d=> !(jM X x.o).contains d
  |none=>J)&&(!(xX y.o.op)|| !(zM x.o.op)||(x.bR&&y.bR))&&(!(Bw y.o.op)|| !(looks x.o.op)||(zM x.o.op&&x.bR&&y.bR))
def wA:Operand->Bool
 |.global _=>E
 |_=>J
def xY:Op->Bool
 |.call c=>match c.callee with
  |.value _=>J
  |_=>E
 |_=>E
def FT:Op->Bool
 |.alloc _=>J
 |_=>E
def QB(X:dI)(x y:OM):Bool:=(match x.o.dst with
  |U d=> !(jM X y.o).contains d&&y.o.dst !=U d
  |none=>J)&&(match y.o.dst with
  |U d=> !(jM X x.o).contains d
  |none=>J)
def Iq:Op->Bool
 |.call c=>match c.callee with
  |.value (.func _)=>c.args.toList.isEmpty
  |_=>E
 |_=>E
def QC(X:dI):Bool:=(fU X.size).all λi=>(fU X.size).all λj=>match X[i]?,X[j]? with
 |U x,U y=> !(xY x.op)|| !(gF y.op||tO y.op)||((oR X.toList).getD i 0).testBit j||((oR X.toList).getD j 0).testBit i||(Iq x.op&&FT y.op)
 |_,_=>J
def Ir(X:dI)(x y:OM):Bool:=
 x.dr&&y.dr&&FT y.o.op&&y.o.guard.isNone&&(gF x.o.op||tO x.o.op||xY x.o.op)&&(!gF x.o.op||x.ix !=y.ix)&&x.o.op.operands.toList.all wA&&QB X x y&&(!xY x.o.op|| !QC X||Iq x.o.op)
def Dr:Op->Bool
 |.move _|.assign _|.fieldAddr _ _ _=>J
 |_=>E
def Ml(X:dI)(x y:OM):Bool:=
 x.dr&&y.dr&&gF x.o.op&& !FT x.o.op&&x.o.guard.isNone&&x.o.op.operands.toList.all wA&&y.o.op.operands.toList.all wA&&(gF y.o.op||tO y.o.op||xY y.o.op||Dr y.o.op||xX y.o.op)&&(!gF y.o.op||x.ix !=y.ix)&&QB X x y&&(!xY y.o.op|| !QC X)
def tP(X:dI)(x y:OM):Bool:= !x.so&& !y.so&&(QA X x y||Ir X x y||Ml X x y)
def Mm(X:oM):Nat->aw->aw
 |0,acc=>acc
 |n+1,acc=>
  let W:=(fU (Y X)).filter λi=> !acc.contains i&&(match X[i]? with
   |U o=>(kX o).all acc.contains
   |none=>E)
  match W.find? λi=>match X[i]? with
   |U o=>mY o.op
   |none=>E with
  |U i=>Mm X n (acc++[i])
  |none=>match(W.find? λi=>match X[i]? with
   |U o=>gF o.op&& !FT o.op
   |none=>E).or (W.find? λi=>match X[i]? with
   |U o=> !FT o.op
   |none=>E) with
   |U i=>Mm X n (acc++[i])
   |none=>match W with
   |i::_=>Mm X n (acc++[i])
   |[]=>acc
def Ds(X:dI)(W:aw):cN->Bool
 |[]=>J
 |x::r=>(r.all λy=>(W.getD y.j 0).testBit x.j||tP X x y)&&Ds X W r
def Dt(X:dI):aw->cN->Bool
 |_,[]=>J
 |done,x::r=>(match X[x.j]? with
  |U o=>(kX o).all done.contains
  |none=>E)&&Dt X (x.j::done) r
def QD(X:oM)(W:aw):Bool:=(fU (Y X)).all λj=>match X[j]? with
 |U o=>(kX o).all (λe=>decide (e<j))&&(fU (Y X)).all λi=> !(W.getD j 0).testBit i||(kX o).contains i||(kX o).any λe=>(W.getD e 0).testBit i
 |none=>E
def Mn(X:oM)(W:aw)(j:Nat):Bool:=match X[j]? with
 |U o=>(zM o.op&&(fU (Y X)).any λi=>(match X[i]? with
   |U q=>xX q.op||Bw q.op
   |none=>E)&& !(W.getD i 0).testBit j&& !(W.getD j 0).testBit i)||
  ((xX o.op||Bw o.op)&&(fU (Y X)).any λi=>(match X[i]? with
   |U q=>zM q.op
   |none=>E)&& !(W.getD i 0).testBit j&& !(W.getD j 0).testBit i)
 |none=>E
def zN(X:aw):cN->Bool
 |[]=>J
 |x::r=>(r.all λy=>(X.getD y.j 0).testBit x.j)&&zN X r
def aqU:Op->Bool
 |.call c=>match c.callee with
  |.value (.tmp _)=>J
  |_=>E
 |_=>E
def tQ(X:aw):cN->cN->cN
 |_,[]=>[]
 |W,m::r=>{m with so:=aqU m.o.op&&zN X (m::r)&&W.all (λx=>(X.getD m.j 0).testBit x.j)}::tQ X (W++[m]) r
def ss(X:aw):Nat->av->av
 |_,[]=>[]
 |n,x::W=>(if X.contains n then .any else x)::ss X (n+1) W
def S.plus(s:S)(X:bE):S:={s with au:=s.au++X}
abbrev wB:=FuncId->av->S->Option (C×bE)
def xZ(W:bF)(V:wB)(R:YH):pD
 |.fn f,X,s,k,_=>match V f X s with
  |U (v,Q)=>if s.bd then k v (s.plus Q) else .stuck ""
  |none=>xW W f X s k
 |.yl n,X,s,k,P=>R n X s k P
def Is(l:cN)(X:aw):cN:=X.filterMap λi=>l[i]?
def Du(l:oM):aw:=l.filterMap (·.dst)
def It(X:dI)(n:Nat):Option cN:=
 let V:=oR X.toList;let W:=tQ V [] (Is (gG (Mn X.toList V) E J 0 n X.toList) (Mm X.toList X.size []))
 if QD X.toList V&&Dt X [] W&&Ds X V W&&mF (W.filterMap (·.o.dst))&&mF (W.map (·.j))&&mF ((W.filter λm=>gF m.o.op).map (·.ix))&&Y W==X.size&&(fU X.size).all (λi=>W.any λm=>m.j==i) then U W else Z
def FU(X:bF)(t:TypeId):Bool:=(X.ty t).isSome&& !qg t
def Iu(X:bF):oM->Bool
 |[]=>J
 |o::r=>(match o.op with
  |.alloc t=>FU X t
  |_=>J)&&Iu X r
def afk(s:S)(X:aw):aw:=X.filter λd=>match s.tmps[d]? with
 |U w=> !(w.bd s.ni s.nb (Y s.rs) (aL s.au))
 |none=>J
def S.zO(s:S)(X:dI)(W:cN):S:={s.room (lC X.toList) with tmps:=ss (afk s (Du (W.dropLast.map (·.o)))) 0 s.tmps}
def QE(X:S->T)(k:XE->S->T):XE->S->T
 |.normal,s=>X s
 |e,s=>k e s
def WS(id:Nat)(k:XE->S->T):XE->S->T
 |.exit j,s=>if j==id then k .normal s else k (.exit j) s
 |e,s=>k e s
def Iv(W:bF)(s:S)(V:mU)(k R:C->S->T):XE->S->T
 |.normal,X=>match tM W X V with
  |U l=>k (one l) {X with tmps:=s.tmps}
  |none=>.stuck ""
 |.ret,X=>match tM W X V with
  |U l=>k (one l) {X with tmps:=s.tmps}
  |none=>.stuck ""
 |.bI v,X=>R v {X with tmps:=s.tmps}
 |.exit _,_=>.stuck ""
def jZ(W:bF)(R:FuncId->Code->S->(XE->S->T)->T)(Q:YH):pD
 |.fn f,X,s,k,V=>match W.inl f with
  |U (c,P,O)=>if s.eV X then R f c {s with tmps:=X++eI (P-Y X) (.bP [])} (Iv W s O k V) else .stuck ""
  |none=>xW W f X s k
 |.yl n,X,s,k,V=>Q n X s k V
def WT(b:Bool)(R:bF)(V:pD):pD
 |.fn f,X,s,k,W=>if b then xW R f X s k else V (.fn f) X s k W
 |.yl n,X,s,k,W=>V (.yl n) X s k W
def aqV:T:=.gE (.c E) (.c E) (.stuck "") (.stuck "")
def WU:T->Bool
 |.gE (.c E) (.c E) _ _=>J
 |_=>E
mutual
def C.zP:C->Bool
 |.agg l=>C.wC l
 |.bP l=>C.wC l
 |.fn _ l=>C.wC l
 |.gJ _ x=>C.zP x
 |.yl _=>E
 |.fW _ _ X=>C.wC X
 |_=>J
def C.wC:av->Bool
 |[]=>J
 |x::X=>C.zP x&&C.wC X
end
def Dv:bE->Bool
 |[]=>J
 |Z::X=>Dv X
 |U x::X=>C.wC x.2&&Dv X
def mG:bE->bE->Bool
 |[],[]=>J
 |Z::X,Z::W=>mG X W
 |U x::X,U y::W=>x.1==y.1&&C.ql x.2 y.2&&mG X W
 |_,_=>E
def nJ(W:av)(X:bE):bE:=if W.isEmpty then X.map (λ_=>Z) else X
def tR(X:av)(s:S):S:=⟨[],nJ X s.au,s.ni,s.nb,s.rs.map RK.rd,0,0,[]⟩
def afl(W V X:S):Bool:=mG X.au V.au&&X.ni==W.ni&&X.nb==W.nb&&decide (X.rs=W.rs)
def Iw(V:bF)(R:FuncId->Code->S->(XE->S->T)->T)(g:FuncId)(W:av)(s:S):Option (C×bE):=
 match jZ V R iK (.fn g) W (tR W s) (λv X=>.out .normal {X with tmps:=[v]}) (λ_ _=>.stuck "") with
 |.out .normal X=>match X.tmps with
  |[v]=>if C.wC W&&Dv (nJ W s.au)&&v.zP&&Dv X.au&&mG (X.au.take (Y s.au)) (nJ W s.au)&&v.bd s.ni s.nb (Y s.rs) (aL X.au)&&C.qm s.ni s.nb (Y s.rs) (aL X.au) X.au&&WU (jZ V R iK (.fn g) W (tR W s) (λQ P=>if Q.aM v&&afl (tR W s) X P then aqV else .stuck "") (λ_ _=>.stuck "")) then U (v,X.au.drop (Y s.au)) else Z
  |_=>Z
 |_=>Z
def Dw(X:bF)(W:dI)(V:FuncId->Code->S->(XE->S->T)->T):wB:=λg R s=>if QC W&&(X.inl g).isSome then Iw X V g R s else Z
def WV:Op->Bool
 |.pick _ _ _=>J
 |_=>E
def afm:Op->Bool
 |.buildSlice _ _ _=>J
 |_=>E
def Mo:Op->Bool
 |.buildSlice _ _ _|.alloc _|.box _ _|.store _ _ _=>J
 |_=>E
def zQ(X:bF)(s:S)(o:Oper):Option (BE×C):=
 if(o.op.operands.toList.any λx=>(s.ev X.gl x).eJ)||WV o.op then Z else match ck X.ty X.gl s o.op with
 |.ok v=>U (.c J,v)
 |.bz b v=>if b.bd s.ni s.nb (Y s.rs) then U (b,v) else Z
 |.no _=>Z
def BE.WW:BE->Bool
 |.c b=>b
 |_=>E
def Dx(X:bF):cN->S->Option (S×List BE)
 |[],s=>U (s,[])
 |q::r,s=>match zQ X s q.o with
  |U (b,v)=>(Dx X r (s.put q.o.dst v)).map λx=>(x.1,if b.WW then x.2 else b::x.2)
  |none=>Z
def WX(X:bF)(l9:List BE)(s:S)(W:cN):Bool:=W.all λq=>match q.o.dst,zQ X s q.o with
 |U d,U (b,v)=>(match s.tmps[d]? with
  |U w=>v.aM w&&(b.WW||l9.any λx=>x.aM b)
  |none=>E)
 |_,_=>E
def QF:List BE->T->T
 |[],t=>t
 |b::r,t=>.bz b (QF r t)
def S.bW(s:S)(X:aw):S:={s with tmps:=ss X 0 s.tmps}
def Ix{X:Type}:List X->List (X×List X)
 |[]=>[]
 |x::r=>(x,r)::(Ix r).map λy=>(y.1,x::y.2)
def WY(X:aw)(x:OM×cN):Bool:=x.2.all λy=> !(X.getD x.1.j 0).testBit y.j
def Iy:wm->wm->Bool
 |[],[]=>J
 |x::X,y::W=>C.ql x y&&Iy X W
 |_,_=>E
def LE.aM:LE->LE->Bool
 |.am r,.am Q=>r.aM Q
 |.lit l,.lit P=>Iy l P
 |.mW a b,.mW X O=>LE.aM a X&&LE.aM b O
 |.uP n N,.uP W M=>n.aM W&&C.ql N M
 |.set a i L V,.set X H G R=>LE.aM a X&&i.aM H&&L==G&&C.ql V R
 |.sub a F D,.sub X B A=>LE.aM a X&&F.aM B&&D.aM A
 |.ins a n V,.ins X W R=>LE.aM a X&&n==W&&C.ql V R
 |_,_=>E
def S.aM(s X:S):Bool:=C.ql s.tmps X.tmps&&mG s.au X.au&&s.ni==X.ni&&s.nb==X.nb&&decide (s.rs=X.rs)&&s.aA==X.aA&&s.lk==X.lk&&decide (s.pd=X.pd)
def T.aM:T->T->Bool
 |.ret v P W,.ret O N V=>v.aM O&&mG P N&&decide (W=V)
 |.bI v,.bI O=>v.aM O
 |.aW b t f,.aW M X R=>b.aM M&&T.aM t X&&T.aM f R
 |.bz b t,.bz M X=>b.aM M&&T.aM t X
 |.call f B P W L jf t,.call R A N V H z X=>f==R&&C.ql B A&&mG P N&&decide (W=V)&&decide (L=H)&&jf.aM z&&T.aM t X
 |.loop aA L y t,.loop G H w X=>aA==G&&decide (L=H)&&C.ql y w&&T.aM t X
 |.back aA x,.back G Q=>aA==G&&C.ql x Q
 |.new e x W u t,.new r Q V q X=>e==r&&LE.aM x Q&&decide (W=V)&&decide (u=q)&&T.aM t X
 |.aj k x W t,.aj p Q V X=>decide (k=p)&&LE.aM x Q&&decide (W=V)&&T.aM t X
 |.gE g h t f,.gE F D X R=>g.aM F&&h.aM D&&T.aM t X&&T.aM f R
 |.pick n g h t f,.pick o F D X R=>n.aM o&&g.aM F&&h.aM D&&T.aM t X&&T.aM f R
 |.out .normal s,.out .normal m=>S.aM s m
 |_,_=>E
def FV:List T->List T
 |[]=>[]
 |t::X=>if X.any (T.aM t) then FV X else t::FV X
def By:List T->T
 |[]=>.stuck ""
 |[t]=>t
 |t::X=>.gE (.c J) (.c J) t (By X)
def Iz:Op->Bool
 |.call c=>match c.callee with
  |.builtin .append=>J
  |_=>E
 |.makeSlice _ _ _|.buildSlice _ _ _|.slice _ _ _ _ _|.store _ _ _=>J
 |_=>E
def Dy(V:bF)(P:pD)(R:aw)(O:C->S->T)(m:OM)(W:S->T)(s:S):T:=match FM V m.o s with
 |U u=>.dO u.f u.g u.e u.sp u.st u.r s.rs (W u.s)
 |none=>match ec V s m.o with
  |.call (.fn g) Q=>P (.fn g) Q s (λv X=>W (X.put m.o.dst v)) (λv X=>O v (X.bW R))
  |.call (.yl n) Q=>P (.yl n) Q (s.bW R) (λv X=>W (X.put m.o.dst v)) (λv X=>O v (X.bW R))
  |.op=>match(if Iz m.o.op then eH V m.o m.bR E s else Z) with
   |U b=>.bz b.bz (.new b.e b.x s.rs b.s.rs (W b.s))
   |none=>if mY m.o.op then(match zQ V s m.o with
    |U (b,v)=>.bz b (W (s.put m.o.dst v))
    |none=>.stuck "") else
   if Mo m.o.op then(match gt V m s with
    |.ok X=>W X
    |_=>.stuck "") else .stuck ""
  |_=>.stuck ""
def IA(X:aw)(m:OM)(W:cN):cN:=W.filter λq=> !(X.getD m.j 0).testBit q.j
def oS(X:bF)(R:pD)(W:aw)(l9:List BE)(V:cN)(Q:aw)(k:S->T)(P:C->S->T):Nat->cN->S->T
 |_,[],s=>if WX X l9 s V then k s else .stuck ""
 |0,_::_,_=>.stuck ""
 |n+1,m::r,s=>if !WX X l9 s V then .stuck "" else By (FV (((Ix (m::r)).filter (WY W)).map λx=>Dy X R Q P x.1 (λO=>oS X R W l9 (IA W x.1 V) Q k P n x.2 O) s))
def T.nK(k:S->T)(X:C->S->T):T->T
 |.out .normal s=>k s
 |.out (.bI v) s=>X v s
 |.aW b t f=>.aW b (t.nK k X) (f.nK k X)
 |.bz b t=>.bz b (t.nK k X)
 |.call f a V W R jf t=>.call f a V W R jf (t.nK k X)
 |.new e x W Q t=>.new e x W Q (t.nK k X)
 |.dO f g e P O r W t=>.dO f g e P O r W (t.nK k X)
 |.gE g h t f=>.gE g h (t.nK k X) (f.nK k X)
 |t=>t
def Mp(X:bF):pD
 |.fn g,W,s,k,_=>if(X.inl g).isNone then xW X g W s k else .stuck ""
 |_,_,_,_,_=>.stuck ""
def aqW:Op->Bool
 |.slice _ _ _ _ _=>J
 |_=>E
def aqX:Op->Bool
 |.indexAddr .. =>J
 |_=>E
def aqY:Op->Bool
 |.store _ _ _=>J
 |_=>E
def QG(W:Bool)(X:dI):aw:=(fU X.size).foldl (λacc i=>match X[i]? with
 |U o=>if mY o.op&&(W|| !aqW o.op)&& !(aqX o.op&&(fU i).any λj=>match X[j]? with
   |U x=>aqY x.op
   |none=>E)&&((fU X.size).all λj=>match(X[j]?).bind (·.dst) with
   |U d=> !(jM X o).contains d||acc.contains j
   |none=>J) then acc++[i] else acc
 |none=>acc) []
structure Mq where
 qs:cN
 ch:cN
 s:S
 l9:List BE
def WZ(X:bF)(s:S)(W:oM):Bool:=W.any λo=>match o.op with
 |.call c=>(match c.callee with
  |.value (.func g)=>(X.inl g).isSome
  |.value (.tmp t)=>(Du W).contains t||(match s.tmps[t]? with
   |U (.fn g _)=>(X.inl g).isSome
   |_=>E)
  |_=>E)
 |_=>E
def W0(X:dI)(Q:aw)(W V R:cN):Bool:=
 QD X.toList Q&&W.all (λm=>m.o.guard.isNone&& !m.bR)&&mF (W.filterMap (·.o.dst))&&
 W.all (λm=>W.all λx=>match x.o.dst with
  |U d=> !(jM X m.o).contains d||(Q.getD m.j 0).testBit x.j
  |none=>J)&&V.all (λq=>mY q.o.op&&q.o.dst.isSome)&&(fU X.size).all (λi=>(V++R).any λm=>m.j==i)&&(V++R).length==X.size&&mF ((V++R).map (·.j))&&
 R.all (λm=>mY m.o.op||Mo m.o.op||Iz m.o.op||(match m.o.op with
  |.call _=>J
  |_=>E))
def Bz(W:Bool)(X:dI)(n:Nat):cN:=(gG (λ_=>E) E J 0 n X.toList).filter λm=>(QG W X).contains m.j
def BA(W:Bool)(X:dI)(n:Nat):cN:=(gG (λ_=>E) E J 0 n X.toList).filter λm=> !(QG W X).contains m.j
def IB(W:Bool)(X:dI)(n:Nat):Bool:=W0 X (oR X.toList) (gG (λ_=>E) E J 0 n X.toList) (Bz W X n) (BA W X n)
def aqZ:CK->Bool
 |.call (.yl _) _=>J
 |_=>E
def W5(W:bF)(V X:cN)(x:S×List BE):Option Mq:=if X.any λm=>aqZ (ec W x.1 m.o) then Z else U ⟨V,X,x.1,x.2⟩
def IC(V:bF)(W:Bool)(X:dI)(s:S):Option Mq:=
 if(!W||(WZ V s X.toList||(V.kW&&X.toList.any λo=>afm o.op))&&zN (oR X.toList) (BA W X (Y s.au)))&&IB W X (Y s.au) then(Dx V (Bz W X (Y s.au)) (s.room (lC X.toList))).bind (W5 V (Bz W X (Y s.au)) (BA W X (Y s.au))) else Z
def afn(X:fo)(s W:S):String:= ""
def QH(W:fo)(V:aw)(s:S)(k:XE->S->T):XE->S->T
 |.normal,X=>if xV W V 0 s.tmps X.tmps&&sn W 0 s.au X.au&&sq X W.ks (kf W X)&&xU (iZ W s) X.rs&&FO (iZ W s) (FN W X)&&decide (X.pd=s.pd) then .back s.aA (kf W X) else .stuck (afn W s X)
 |e,X=>k e X
mutual
def C.wD(n:Nat):C->Bool
 |.agg l=>C.oT n l
 |.bP l=>C.oT n l
 |.fn _ l=>C.oT n l
 |.gJ _ x=>C.wD n x
 |.yl m=>decide (n<=m)
 |.fW _ _ X=>C.oT n X
 |_=>E
def C.oT(n:Nat):av->Bool
 |[]=>E
 |x::X=>C.wD n x||C.oT n X
end
def wE(n:Nat):bE->Bool
 |[]=>E
 |Z::X=>wE n X
 |U x::X=>C.oT n x.2||wE n X
def S.wD(s:S)(n:Nat):Bool:=C.oT n s.tmps||wE n s.au
def FW:aw->av->av->av
 |p::X,v::W,l=>FW X W (l.set p v)
 |_,_,l=>l
def mZ(n:Nat):Nat->bE->bE
 |_,[]=>[]
 |k+1,x::X=>x::mZ n k X
 |0,Z::X=>Z::mZ n 0 X
 |0,U x::X=>(if C.oT n x.2 then Z else U x)::mZ n 0 X
def S.tS(s X:S):S:={X with tmps:=s.tmps,au:=mZ (Y s.pd) (Y s.au) X.au,pd:=X.pd.take (Y s.pd)}
def FX(s:S)(k:XE->S->T):XE->S->T
 |.bI v,X=>if v.wD (Y s.pd)||wE (Y s.pd) (s.tS X).au then .stuck "" else k (.bI v) (s.tS X)
 |.exit _,_=>.stuck ""
 |_,X=>if wE (Y s.pd) (s.tS X).au then .stuck "" else match X.pd[Y s.pd]? with
  |U .ready=>k .normal (s.tS X)
  |U (.done .ret)=>k .ret (s.tS X)
  |U (.done (.exit id))=>k (.exit id) (s.tS X)
  |_=>.stuck ""
def jN:Code->Bool
 |.seq a b=>jN a||jN b
 |.cond _ a b=>jN a||jN b
 |.block _ c=>jN c
 |.loop c=>jN c
 |.scope c=>jN c
 |.rangeFunc _ _ _ _=>J
 |_=>E
def QI(n:Nat)(W:S)(k V:C->S->T):XE->S->T
 |.normal,X=>k (.bool (.c J)) {X with tmps:=W.tmps,pd:=X.pd.set n .ready}
 |.ret,X=>k (.bool (.c E)) {X with tmps:=W.tmps,pd:=X.pd.set n (.done .ret)}
 |.exit id,X=>k (.bool (.c E)) {X with tmps:=W.tmps,pd:=X.pd.set n (.done (.exit id))}
 |.bI v,X=>V v {X with tmps:=W.tmps}
def Mr(n:Nat)(k:S->T):XE->S->T
 |.normal,X=>if decide (X.pd[n]?=U .ready) then k X else .stuck ""
 |_,_=>.stuck ""
def ID(s:S)(W:Nat)(X:av):S:={s with tmps:=(.yl (Y s.pd)::X)++eI (W-(C.yl (Y s.pd)::X).length) (.bP []),pd:=s.pd++[.ready]}
def Ms(n V:Nat)(R:av->S->(C->S->T)->(C->S->T)->T):YH:=λm X W Q P=>
 if m==n&&decide (W.pd[n]?=U .ready)&&Y X==V&&W.eV X then R X W Q P else .stuck ""
def BB(X s:S)(W:aw)(V:av):S:={X with tmps:=FW W V s.tmps}
def S.BC(s:S)(n:Nat)(x:Fs):S:={s with pd:=s.pd.set n x}
def afo(X:fo)(W:aw)(s:S):String:= ""
def fo.at(a:fo)(s:S):fo:=⟨a.tm,a.cl.filterMap λx=>match cg s.au (x.1%1000) with
 |U (t,X)=>(match X[x.2.1]? with
  |U v=>if Bu s x.2.2 v&&(!qg t||(match x.2.2 with
   |.am _=>J
   |_=>E))&&(x.1/1000==0||decide (Y s.au<=x.1/1000)) then U (x.1%1000,x.2) else Z
  |none=>Z)
 |none=>Z⟩
def afp:av->Option (K×bq)
 |[]=>Z
 |.fW e X _::_=>U (e,X)
 |_::r=>afp r
def QJ:bE->Option (K×bq)
 |[]=>Z
 |U x::r=>match afp x.2 with
  |U y=>U y
  |none=>QJ r
 |Z::r=>QJ r
def FY(k:Int):bq->av->Option C
 |X::W,.fn f l::V=>if k=X then U (.fn f l) else FY k W V
 |X::W,.am (.k .nilFunc)::V=>if k=X then U (.am (.k .nilFunc)) else FY k W V
 |_,_=>Z
def Mt(e:K)(k:Int):Nat->BE->BE
 |0,b=>b
 |n+1,.dg (.cmp .eql X (.c W)) x y=>if K.aM e X then(if k=W then Mt e k n x else Mt e k n y) else .dg (.cmp .eql X (.c W)) x y
 |_,b=>b
def Mu(e:K)(k:Int):Nat->K->K
 |0,b=>b
 |n+1,.dg (.cmp .eql X (.c W)) x y=>if K.aM e X then(if k=W then Mu e k n x else Mu e k n y) else .dg (.cmp .eql X (.c W)) x y
 |_,b=>b
def W6(e:K)(k:Int):C->C
 |.bool b=>.bool (Mt e k 20 b)
 |.int t b=>.int t (Mu e k 20 b)
 |.fW X W V=>if K.aM e X then(match FY k W V with
  |U v=>v
  |none=>.fW X W V) else .fW X W V
 |v=>v
def QK(e:K)(V:bq):C->C
 |.fW X W R=>if K.aM e X&&W.all V.contains then .am (.k .nilFunc) else .fW X W R
 |v=>v
def FZ(f:C->C)(l:bE):bE:=l.map λx=>match x with
 |U y=>U (y.1,y.2.map f)
 |none=>Z
def S.fix(f:C->C)(s:S):S:={s with au:=FZ f s.au}
def IF(e:K)(gE:Int->S)(ai:T)(g:S->T):bq->T
 |[]=>ai
 |k::X=>.aW (.cmp .eql e (.c k)) (g (gE k)) (IF e gE ai g X)
def W7(e:K)(v:Int):C->C
 |.int k x=>if K.aM e x then .int k (.c v) else .int k x
 |y=>y
def QL(V:bF)(R id:Nat)(s:S):Option (K×bq×(Int->S)×Option S):=match V.frk R id with
 |U .box=>match QJ s.au with
  |U (e,X)=>U (e,X,λk=>s.fix (W6 e k),match QJ (FZ (QK e X) s.au) with
   |none=>U (s.fix (QK e X))
   |U _=>Z)
  |none=>Z
 |U (.slot t W)=>match Wz s.tmps t with
  |.int _ (.c _)=>Z
  |.int k e=>U (e,W,λv=>{s with tmps:=s.tmps.set t (.int k (.c v))},Z)
  |_=>Z
 |U (.cell b j W)=>match cg s.au b with
  |U (_,Q)=>match Q.getD j .any with
   |.int _ (.c _)=>Z
   |.int _ e=>U (e,W,λv=>s.fix (W7 e v),Z)
   |_=>Z
  |none=>Z
 |none=>Z
def W8(g:S->T):Option S->T
 |U s=>g s
 |none=>.stuck ""
def Mv(W:bF)(V:pD)(X:dI)(k:XE->S->T)(c:Mq):T:=QF c.l9 (if zN (oR X.toList) c.ch||WZ W c.s X.toList then oS W V (oR X.toList) c.l9 c.qs (Du X.toList) (k .normal) (λv=>k (.bI v)) (Y c.ch) c.ch c.s
 else(oS W (Mp W) (oR X.toList) c.l9 c.qs (Du X.toList) (.out .normal) (λv=>.out (.bI v)) (Y c.ch) c.ch c.s).nK (k .normal) λv=>k (.bI v))
def W9(X:fo)(s:S):aw:=(X.tm.filterMap λx=>match x.2,s.tmps[x.1]? with
 |.am (.sl e),U (.am (.v k))=>if s.rs[k]?=U (.own e) then U k else Z
 |_,_=>Z)++X.cl.filterMap λx=>match x.2.2,cg s.au (x.1%1000) with
 |.am (.sl e),U (_,W)=>(match W[x.2.1]? with
  |U (.am (.v k))=>if s.rs[k]?=U (.own e) then U k else Z
  |_=>Z)
 |_,_=>Z
def S.cY(X:fo)(s:S):S:={s with rs:=jX (W9 X s) 0 s.rs}
def fH(X:bF):Nat->FuncId->Code->S->YH->(XE->S->T)->T
 |0,_,_,_,_,_=>.stuck ""
 |n+1,V,c,s,W,k=>
  match c with
  |.skip=>k .normal s
  |.label _=>k .normal s
  |.ret=>k .ret s
  |.exit id=>k (.exit id) s
  |.seq a b=>fH X n V a s W (QE (λP=>fH X n V b P W k) k)
  |.block id a=>fH X n V a s W (WS id k)
  |.scope a=>fH X n V a s W k
  |.cond c a b=>match s.ev X.gl c with
   |.bool (.c J)=>fH X n V a s W k
   |.bool (.c E)=>fH X n V b s W k
   |.bool x=>match c with
    |.tmp t=>.aW x (fH X n V a {s with tmps:=s.tmps.set t (.bool (.c J))} W k) (fH X n V b {s with tmps:=s.tmps.set t (.bool (.c E))} W k)
    |_=>.stuck ""
   |_=>.stuck ""
  |.region id R O=>match QL X V id s with
   |U (e,G,gE,ai)=>IF e gE (W8 (λP=>fH X n V (.region id R O) P W k) ai) (λP=>fH X n V (.region id R O) P W k) G
   |none=>if O then
    match IC X (!X.L9 V id) R s with
    |U c=>Mv X (jZ X (λf c s k=>fH X n f c s W k) W) R k c
    |none=>match It R (Y s.au) with
    |U M=>if !Iu X R.toList then .stuck "" else nH X (xZ X (Dw X R λf c s k=>fH X n f c s iK k) W) R (k .normal) (λv=>k (.bI v)) M (s.zO R M) []
    |none=>match IC X E R s with
     |U c=>Mv X (jZ X (λf c s k=>fH X n f c s W k) W) R k c
     |none=>.stuck ""
   else
   nH X (WT (X.L9 V (id+1000000)) X (jZ X (λf c s k=>fH X n f c s W k) W)) R (k .normal) (λv=>k (.bI v)) (gG (λ_=>E) J E 0 (Y s.au) R.toList) (s.room (lC R.toList)) []
  |.loop a=>match(Code.first a).map (X.loop V) with
   |U (.inv Q)=>
    if !(W9 Q s).isEmpty then fH X n V (.loop a) (s.cY Q) W k else
    if !s.bd|| !sq s (Q.at s).ks (kf (Q.at s) s)|| !xV (Q.at s) (Code.oe a) 0 s.tmps s.tmps|| !sn (Q.at s) 0 s.au s.au|| !xU (iZ (Q.at s) s) s.rs|| !FO (iZ (Q.at s) s) (FN (Q.at s) s) then .stuck (afo (Q.at s) (Code.oe a) s) else
    .loop s.aA (Q.at s).ks (kf (Q.at s) s) (fH X n V a (qn (Q.at s) (Code.oe a) s) W (QH (Q.at s) (Code.oe a) s k))
   |_=>fH X n V a s W (QE (λP=>fH X n V (.loop a) P W k) k)
  |.rangeFunc f L assign body=>match s.ev X.gl f with
   |.fn g N=>match X.inl g with
    |U (c,F,[])=>
     if !s.eV N||s.wD (Y s.pd)||C.oT (Y s.pd) N||jN assign||jN body then .stuck "" else
     fH X n g c (ID s F N)
      (Ms (Y s.pd) L.size λD H B A=>
       fH X n V assign (BB H s L.toList D) iK (Mr (Y s.pd) λz=>
        fH X n V body (z.BC (Y s.pd) .busy) W (QI (Y s.pd) H B A))) (FX s k)
    |_=>.stuck ""
   |_=>.stuck ""
  |_=>.stuck ""
def IG{X:Type}(f:C->bp->(C->bp->X)->X):av->bp->(av->bp->X)->X
 |[],W,k=>k [] W
 |x::V,W,k=>f x W λR Q=>IG f V Q λP O=>k (R::P) O
def S.fy(X:bp):S:=⟨[],[],0,0,X,0,0,[]⟩
def II(R:bF)(P:bE):Nat->C->bp->(C->bp->T)->T
 |0,_,_,_=>.stuck ""
 |n+1,.iP i N Q M,X,k=>match lB P i with
  |U (e,L)=>match R.ty e with
   |U V=>IG (II R P n) L X λO W=>if mX R.ty (.fy W) V.ao (jo (Y V.ao) Q O)&&Y O==Q*Y V.ao&&N==0&&decide (Q<=M)&&Y V.ao !=0 then .new e (.lit (jo (Y V.ao) Q O)) W (W++[.sl e]) (k (.am (.v (Y W))) (W++[.sl e])) else .stuck ""
   |none=>.stuck ""
  |none=>.stuck ""
 |n+1,.agg l,X,k=>IG (II R P n) l X λH W=>k (.agg H) W
 |_+1,.int q e,X,k=>k (.int q e) X
 |_+1,.bool e,X,k=>k (.bool e) X
 |_+1,.am r,X,k=>k (.am r) X
 |_+1,_,_,_=>.stuck ""
mutual
def C.aq0:C->Bool
 |.iP _ _ _ _=>J
 |.agg l=>C.Xa l
 |_=>E
def C.Xa:av->Bool
 |[]=>E
 |x::X=>C.aq0 x||C.Xa X
end
def Mw(V:bF)(W:Nat)(l:av)(X:S):T:=if W==0&&C.Xa l&&X.bd&&C.dQ X.ni X.nb (Y X.rs) (aL X.au) l then IG (II V X.au 9) l (X.rs.map RK.rd) λR Q=>.ret (one R) [] Q else .ret (one l) (uT (X.au.take W)) (X.rs.map RK.rd)
def QM(W:bF)(V:Nat)(R:mU):XE->S->T
 |.normal,X=>match tM W X R with
  |U l=>Mw W V l X
  |none=>.stuck ""
 |.ret,X=>match tM W X R with
  |U l=>Mw W V l X
  |none=>.stuck ""
 |.bI v,_=>.bI v
 |.exit _,_=>.stuck ""
def Mx(X:bF)(n:Nat)(V:FuncId)(c:Code)(R:Nat)(Q:mU)(W:av)(s:S):T:=
 fH X n V c {s with tmps:=W++eI (R-Y W) (.bP [])} iK (QM X (Y s.au) Q)
structure DI where
 su:dI
 rest:Code
 g:FuncId
 te:Nat
 tf:Nat
def afq(su:dI)(Q:Code):oM->Option DI
 |[X,W]=>match X.op,X.dst,X.guard,W.op,W.guard,W.dst with
  |.makeFunc (.func g) first P,U V,Z,.defer R,Z,Z=>match first.toList,P.toList,R.callee,R.args.toList with
   |[],[.tmp O],.value (.tmp N),[]=>if V==N then U ⟨su,Q,g,O,V⟩ else Z
   |_,_,_,_=>Z
  |_,_,_,_,_,_=>Z
 |_=>Z
def ya:Code->Option DI
 |.seq (.region _ su E) (.seq (.region _ X E) W)=>afq su W X.toList
 |_=>Z
def sx(W:bF)(V:Nat)(R:mU)(X:S):T:=match tM W X R with
 |U l=>.ret (one l) (uT (X.au.take V)) (X.rs.map RK.rd)
 |none=>.stuck ""
def Xb(W:bF)(V:Nat)(R:TypeId)(P:Nat)(Q:mU):XE->S->T
 |.normal,X=>sx W V Q X
 |.ret,X=>sx W V Q X
 |.bI v,X=>match v with
  |.gJ t (.int I x)=>match cg X.au P with
   |U (O,[.int I _])=>if t==R&&O==R then sx W V Q {X with au:=X.au.set P (U (R,[.int I x]))} else .stuck ""
   |_=>.stuck ""
  |_=>.stuck ""
 |.exit _,_=>.stuck ""
def Xc(W:bF)(n:Nat)(R:FuncId)(d:DI)(V:TypeId)(Q:Nat)(P:mU)(X:S):T:=match X.tmps[d.te]? with
 |U (.loc i 0)=>if !qg V&&aL X.au i&&decide (d.tf<Y X.tmps) then fH W n R d.rest (X.put (U d.tf) (.fn d.g [.loc i 0])) iK (Xb W Q V i P) else .stuck ""
 |_=>.stuck ""
def My(X:bF)(n:Nat)(V:FuncId)(c:Code)(R:Nat)(Q:mU)(P:TypeId)(W:av)(s:S):T:=match ya c with
 |U d=>nH X (jZ X (λf c s k=>fH X n f c s iK k) iK) d.su (Xc X n V d P (Y s.au) Q) (λ_ _=>.stuck "") (gG (λ_=>E) J E 0 (Y s.au) d.su.toList) (({s with tmps:=W++eI (R-Y W) (C.bP [])}:S).room (lC d.su.toList)) []
 |none=>.stuck ""
end
end Go.Proofs.YtpmkfikkemaopaaGreatDoor.Y
namespace Go.Proofs.YtpmkfikkemaopaaGreatDoor
open Go.RowKit
structure ij(S:List Nat)(w w':World):Prop where
 os:w'.os=w.os
 tape:w'.tape=w.tape
 output:w'.output=w.output
 size:w.heap.size<=w'.heap.size
 block:∀k,k<w.heap.size->k∉S->w'.heap[k]?=w.heap[k]?
def ij.refl(S:List Nat)(w:World):ij S w w:=⟨rfl,rfl,rfl,cd _,λ_ _ _=>rfl⟩
def ij.trans{S:List Nat}{a b c:World}(h:ij S a b)(k:ij S b c):ij S a c:=
 ⟨k.os.trans h.os,k.tape.trans h.tape,k.output.trans h.output,oL h.size k.size,λi X W=>(k.block i (Wi X h.size) W).trans (h.block i X W)⟩
def ij.mono{S X:List Nat}{a b:World}(h:ij S a b)(W:∀x,x∈S->x∈X):ij X a b:=
 ⟨h.os,h.tape,h.output,h.size,λi V R=>h.block i V (λm=>R (W i m))⟩
def ij.alloc{S:List Nat}{a w:World}(h:ij S a w)(o:Obj):ij S a (w.alloc o):=
 h.trans ⟨rfl,rfl,rfl,by simp,λk X _=>Below.heap_alloc _ _ _ X⟩
def ij.drew{S:List Nat}{a w:World}(h:ij S a w):ij S a w.drew:=⟨h.os,h.tape,h.output,h.size,h.block⟩
def ij.setCell{S:List Nat}{a w:World}(h:ij S a w){p:Addr}(X:p.block∈S)(u:Value):ij S a (w.setCell p u):=
 h.trans ⟨rfl,rfl,rfl,by simp[Ws],λk _ W=>Below.heap_setCell _ _ _ _ (λe=>W (e▸X))⟩
def ij.putObj{S:List Nat}{a w:World}(h:ij S a w){r:Nat}(X:r∈S)(o:Obj):ij S a (w.putObj r o):=
 h.trans ⟨rfl,rfl,rfl,by simp[Fm],λk _ W=>tE (λe=>W (e▸X))⟩
def ij.aq1{S:List Nat}{w X:World}(h:Below w.heap.size w X):ij S w X:=⟨h.os,h.tape,h.output,h.size,λk W _=>h.block k W⟩
def ij.call{S:List Nat}{a w X:World}(h:ij S a w)(k:Below w.heap.size w X):ij S a X:=h.trans (ij.aq1 k)
def ij.grown{S:List Nat}{a w W:World}{V:Option Nat}(h:ij S a w)(X:w.grownBy W V)(O:∀k,V=U k->k∈S\/a.heap.size<=k):ij S a W:=
 ⟨X.os.trans h.os,X.tape.trans h.tape,X.output.trans h.output,oL h.size X.size,λk R Q=>(X.block k (Wi R h.size) (λe=>by rcases O k e.symm with P|P;exact Q P;omega)).trans (h.block k R Q)⟩
def ij.heap{S:List Nat}{w V:World}(h:ij S w V){b:Nat}{o:Obj}(X:w.heap[b]?=U o)(R:b∉S):V.heap[b]?=U o:=by
 have W:b<w.heap.size:=by
  by_cases W:b<w.heap.size;exact W;rw[aDi (by omega)] at X;cases X
 exact(h.block b W R).trans X
end Go.Proofs.YtpmkfikkemaopaaGreatDoor
namespace Go.Proofs.YtpmkfikkemaopaaGreatDoor.Y
open Go.RowKit
noncomputable section
variable{t:Bool}{R Q i:Nat}{X:TypeId}{c:Value}{N:World}{F:Oper}{r:Operand}
inductive RV where
 |mk (val:Value) (rows:List (List RV))
abbrev ax:=List (List RV)
abbrev aH:=List RV
abbrev BD:=Option (List (List RV))
abbrev BF:=List Deferred
def RV.val:RV->Value
 |.mk v _=>v
def RV.aj:RV->ax
 |.mk _ r=>r
@[simp] def RV.mH (v:Value) (r:ax):(RV.mk v r).val=v:=rfl
@[simp] def RV.jD (v:Value) (r:ax):(RV.mk v r).aj=r:=rfl
instance:Inhabited RV:=⟨.mk (.pointer Z) []⟩
structure ak where
 i:bq
 b:lA
 r:aH
 y:aw
def ak.at(O:ak)(y:aw):ak:={O with y:=y}
def ak.rv(O:ak)(k:Nat):RV:=O.r.getD k default
def bS:Value->Int
 |.int _ n=>n
 |_=>0
def jp:Value->Bool
 |.bool b=>b
 |_=>E
def lenOf:Value->Int
 |.slice _ n _=>n
 |.string s=>s.size
 |_=>0
def kg(v:Value)(i:Int):Int:=match v with
 |.string s=>match s[i.toNat]? with
  |U b=>b.toNat
  |none=>0
 |_=>0
def sy:Value->Value->Bool
 |.string a,.string b=>a.toList==b.toList
 |_,_=>E
def kY(n:Nat)(X:bq)(W:aH):Bool:=decide ((W.take n).map (λc=>bS c.val)=X.take n)
def iE(n:Nat)(X:bq)(W:ax):Option aH:=W.find? (kY n X)
def iF(n:Nat)(X:aH):ax->ax
 |[]=>[X]
 |r::W=>if kY n ((X.take n).map λc=>bS c.val) r then X::W else r::iF n X W
def kh(x:Int):bq->gc->Value
 |k::X,v::W=>if x=k then(if iX v then v else .nilFunc) else kh x X W
 |_,_=>.nilFunc
def bQ(X:ax)(i:Int)(j:Nat):RV:=(X.getD i.toNat []).getD j default
def ee:RK->RV->RV
 |.sl _,v|.own _,v=>match v.val with
  |.slice _ _ _=>v
  |_=>.mk (.slice Z 0 0) []
 |.str,v=>match v.val with
  |.string s=>.mk (.string s) []
  |_=>.mk (.string ⟨#[]⟩) []
 |.ai,v=>if iX v.val then .mk v.val [] else .mk (.pointer Z) []
 |.ap,v=>if iX v.val then v else .mk (.pointer Z) []
 |.mr _,v=>match v.val with
  |.slice _ _ _=>v
  |_=>.mk (.slice Z 0 0) []
mutual
def K.ah(O:ak):K->Int
 |.c n=>n
 |.v k=>O.i.getD k 0
 |.bin X k a b=>aU X k (a.ah O) (b.ah O)
 |.conv k a=>k.wrap (a.ah O)
 |.len r=>lenOf (r.rv O).val
 |.mm W a b=>if W then max (a.ah O) (b.ah O) else min (a.ah O) (b.ah O)
 |.dg b x y=>if b.ah O then x.ah O else y.ah O
 |.cell r i j=>bS (bQ (r.rv O).aj (i.ah O) j).val
 |.mV r i=>kg (r.rv O).val (i.ah O)
 |.look r n a b c j=>match iE n [a.ah O,b.ah O,c.ah O] (r.rv O).aj with
  |U V=>bS (V.getD j default).val
  |none=>0
def BE.ah(O:ak):BE->Bool
 |.c b=>b
 |.v k=>O.b.getD k E
 |.cmp X a b=>gX X (a.ah O) (b.ah O)
 |.not a=> !(a.ah O)
 |.and a b=>a.ah O&&b.ah O
 |.beq a b=>a.ah O==b.ah O
 |.dg b x y=>if b.ah O then x.ah O else y.ah O
 |.cell r i j=>jp (bQ (r.rv O).aj (i.ah O) j).val
 |.seq a b=>sy (a.rv O).val (b.rv O).val
 |.look r n a b c j=>match iE n [a.ah O,b.ah O,c.ah O] (r.rv O).aj with
  |U W=>jp (W.getD j default).val
  |none=>E
 |.has r n a b c=>(iE n [a.ah O,b.ah O,c.ah O] (r.rv O).aj).isSome
def RE.rv(O:ak):RE->RV
 |.v k=>O.rv k
 |.cell r i j k=>ee k (bQ (r.rv O).aj (i.ah O) j)
 |.k v=>.mk v []
end
def RE.ah(O:ak)(r:RE):Value:=(r.rv O).val
def C.cj(O:ak):C->RV
 |.int k e=>.mk (.int k (e.ah O)) []
 |.bool b=>.mk (.bool (b.ah O)) []
 |.am r=>r.rv O
 |_=>default
def fJ(X:aH)(W:Nat):aH->aH
 |[]=>X
 |v::r=>fJ (X.set W v) (W+1) r
def LE.aj(O:ak):LE->ax
 |.am r=>(r.rv O).aj
 |.lit l=>l.map λX=>X.map (C.cj O)
 |.mW a b=>a.aj O++b.aj O
 |.uP n X=>eI (n.ah O).toNat (X.map (C.cj O))
 |.set a i V W=>(a.aj O).modify (i.ah O).toNat λX=>fJ X V (W.map (C.cj O))
 |.sub a R Q=>((a.aj O).take (Q.ah O).toNat).drop (R.ah O).toNat
 |.ins a n W=>iF n (W.map (C.cj O)) (a.aj O)
def iq(x:LE)(O:ak):RV:=.mk (.slice Z (x.aj O).length (x.aj O).length) (x.aj O)
def aN(c:Nat)(X:aH):Int:=bS (X.getD c default).val
def jq(X:Bool):aw->aH->aH->Bool
 |[],_,_=>E
 |c::W,x,y=>if aN c x=aN c y then jq X W x y else if X then decide (aN c y<aN c x) else decide (aN c x<aN c y)
def bm.lt:bm->aH->aH->Bool
 |.lex X d,x,y=>jq d X x y
 |.ratio n d,x,y=>decide (aN n x*aN d y<aN n y*aN d x)
 |.dh _ _ _,_,_=>E
def fY(n d:Int):Bool:=decide (1<=d)&&decide (d<=1073741824)&&decide (-1073741824<=n)&&decide (n<=1073741824)&&kE n.natAbs d.toNat==1
def bm.ok:bm->aH->Bool
 |.lex _ _,_=>J
 |.ratio n d,x=>fY (aN n x) (aN d x)
 |.dh _ _ _,_=>E
def ef(lt:aH->aH->Bool)(x:aH):ax->ax
 |[]=>[x]
 |y::r=>if lt x y then x::y::r else y::ef lt x r
def bT(lt:aH->aH->Bool)(l:ax):ax:=l.foldl (λacc x=>ef lt x acc) []
def wF(lt:aH->aH->Bool):ax->Bool
 |[]=>J
 |x::r=>r.all (λy=>lt x y||lt y x)&&wF lt r
def iQ:bm->Bool->ax->BD
 |.dh _ _ _,_,_=>Z
 |W,V,X=>if decide (Y X<=1099511627776)&&(X.all W.ok&&(V||wF W.lt X)) then U (bT W.lt X) else Z
def lD(X:ax):Bool:=(fU (Y X)).all λk=>decide (0<=aN 0 (X.getD k []))&&decide (aN 0 (X.getD k [])<=k)
def qo:Nat->Int->ax->ax
 |0,_,X=>X
 |n+1,i,X=>if aN 0 (X.getD i.toNat [])=i then X else(qo n (aN 0 (X.getD i.toNat [])) X).set i.toNat ((qo n (aN 0 (X.getD i.toNat [])) X).getD (aN 0 (X.getD i.toNat [])).toNat [])
def uW(i:Int)(X:ax):BD:=if decide (Y X<=1099511627776)&&decide (0<=i)&&decide (i<Y X)&&lD X then U (qo (Y X) i X) else Z
def bc(X:ax)(a b:Nat):ax:=(X.drop a).take (b-a)
def wG(lt:aH->aH->Bool):ax->Bool
 |[]=>J
 |x::r=>r.all (λy=> !lt y x)&&wG lt r
def mI(k:Nat)(o:bm)(W:bq)(X:ax):BD:=match k,W with
 |0,[a,b,n]=>if decide (0<=a)&&decide (0<=n)&&decide (a+n<=b)&&decide (b+n<=Y X) then U (X.take a.toNat++(bc X b.toNat (b+n).toNat++(bc X (a+n).toNat b.toNat++(bc X a.toNat (a+n).toNat++X.drop (b+n).toNat)))) else Z
 |1,[a,m,b]=>if decide (0<=a)&&decide (a<m)&&decide (m<b)&&decide (b<=Y X) then U (X.take a.toNat++(bc X m.toNat b.toNat++(bc X a.toNat m.toNat++X.drop b.toNat))) else Z
 |2,[a,b]=>if decide (0<=a)&&decide (a<=b)&&decide (b<=Y X)&&X.all o.ok then U (X.take a.toNat++(bT o.lt (bc X a.toNat b.toNat)++X.drop b.toNat)) else Z
 |n+3,[a,m,b]=>if decide (0<=a)&&decide (a<m)&&decide (m<b)&&decide (b<=Y X)&&decide (b-a<n)&&X.all o.ok&&wG o.lt (bc X a.toNat m.toNat)&&wG o.lt (bc X m.toNat b.toNat) then U (X.take a.toNat++(bT o.lt (bc X a.toNat b.toNat)++X.drop b.toNat)) else Z
 |_,_=>Z
def ad(V:aw)(i:Nat):Nat:=V.getD i 0
def nL(v:Value)(n:Nat):Addr:=match v with
 |.slice (U a) _ _=>⟨a.block,a.off+n,Z⟩
 |_=>⟨0,n,Z⟩
mutual
def C.ah(O:ak)(V:aw):C->Value
 |.int k e=>.int k (e.ah O)
 |.bool b=>.bool (b.ah O)
 |.am r=>r.ah O
 |.loc i X=>.pointer (U ⟨ad V i,X,Z⟩)
 |.el r w i X=>.pointer (U (nL (r.ah O) ((i.ah O).toNat*w+X)))
 |.iP i X W R=>.slice (U ⟨ad V i,X,Z⟩) W R
 |.agg l=>.agg (C.aF O V l).toArray
 |.bP l=>.tuple (C.aF O V l).toArray
 |.fn f l=>.func (.func f) #[] (C.aF O V l).toArray
 |.gJ t x=>.iface t (C.ah O V x)
 |.yl n=>.func (.yield (O.y.getD n 0)) #[] #[]
 |.any=>undef
 |.mp i=>.map (U (ad V i))
 |.fW e Q P=>kh (e.ah O) Q (C.aF O V P)
def C.aF(O:ak)(V:aw):av->gc
 |[]=>[]
 |x::X=>C.ah O V x::C.aF O V X
end
def oU(O:ak)(V:aw):∀l,C.aF O V l=l.map (C.ah O V)
 |[]=>rfl
 |x::X=>by rw[C.aF,oU O V X];rfl
@[simp] def F0 (O:ak) (V:aw) (l:av):(C.aF O V l).length=Y l:=by rw[oU];simp
def sC(O:ak)(V:aw)(l:av)(i:Nat):(C.aF O V l)[i]?=(l[i]?).map (C.ah O V):=by rw[oU];simp
def QN(O:ak)(V:aw)(l m:av):C.aF O V (l++m)=C.aF O V l++C.aF O V m:=by simp[oU]
inductive bJ(W:World)(ty:Ty):RK->RV->Prop where
 |sl (e:TypeId) (A:Option Addr) (len cap:Nat) (rows:List (List RV)) (h1:Y rows=len) (h2:len<=cap)
   (h3:∀(i:Nat)(row:List RV),rows[i]?=U row->Y row=(bD ty (.sl e)).length/\∃b off,A=U ⟨b,off,Z⟩/\(∃cs t fr,W.heap[b]?=U (.cells cs t fr))/\
    ∀(j:Nat)(c:RV),row[j]?=U c->W.cell? ⟨b,off+i*(bD ty (.sl e)).length+j,Z⟩=U c.val)
   (hi:∀(i j:Nat)(row:List RV)(c:RV)(k:IntKind),rows[i]?=U row->row[j]?=U c->(bD ty (.sl e))[j]?=U (.int k)->∃n,c.val=.int k n)
   (hb:∀(i j:Nat)(row:List RV)(c:RV),rows[i]?=U row->row[j]?=U c->(bD ty (.sl e))[j]?=U .bool->∃x,c.val=.bool x)
   (ho:∀(i j:Nat)(row:List RV)(c:RV)(z:Value)(k:RK),rows[i]?=U row->row[j]?=U c->(bD ty (.sl e))[j]?=U (.ai z k)->bJ W ty k c):
   bJ W ty (.sl e) (.mk (.slice A len cap) rows)
 |str (s:ByteArray):bJ W ty .str (.mk (.string s) [])
 |ai (v:Value) (h:iX v=J):bJ W ty .ai (.mk v [])
 |own (e:TypeId) (rv:RV) (h:bJ W ty (.sl e) rv) (hn:∀l c,rv.val=.slice Z l c->c=0):bJ W ty (.own e) rv
 |ap (rv:RV) (h:iX rv.val=J):bJ W ty .ap rv
 |mr (sh:Sh) (rows:List (List RV)) (h1:∀(i:Nat)(row:List RV),rows[i]?=U row->Y row=(bD ty (.mr sh)).length)
   (hi:∀(i j:Nat)(row:List RV)(c:RV)(k:IntKind),rows[i]?=U row->row[j]?=U c->(bD ty (.mr sh))[j]?=U (.int k)->∃n,c=.mk (.int k n) [])
   (hb:∀(i j:Nat)(row:List RV)(c:RV),rows[i]?=U row->row[j]?=U c->(bD ty (.mr sh))[j]?=U .bool->∃x,c=.mk (.bool x) [])
   (ho:∀(i j:Nat)(row:List RV)(c:RV)(z:Value)(k:RK),rows[i]?=U row->row[j]?=U c->(bD ty (.mr sh))[j]?≠U (.ai z k)):
   bJ W ty (.mr sh) (.mk (.slice Z (Y rows) (Y rows)) rows)
inductive dR(ty:Ty):RK->RV->Nat->Prop where
 |here (e:TypeId) (a:Addr) (len cap:Nat) (rows:List (List RV)):dR ty (.sl e) (.mk (.slice (U a) (len+1) cap) rows) a.block
 |deep (e:TypeId) (v:Value) (rows:List (List RV)) (i j:Nat) (row:List RV) (c:RV) (z:Value) (k:RK) (b:Nat):rows[i]?=U row->row[j]?=U c->(bD ty (.sl e))[j]?=U (.ai z k)->dR ty k c b->dR ty (.sl e) (.mk v rows) b
 |own (e:TypeId) (rv:RV) (b:Nat):dR ty (.sl e) rv b->dR ty (.own e) rv b
def RV.kF(X:RV):cw:=match X.val with
 |.slice (U a) _ (_+1)=>U a.block
 |_=>Z
def yb(W:Ty)(e:RK)(X:RV)(b:Nat):Prop:=dR W e X b\/(∃t,e=.own t)/\X.kF=U b
def nc(X:Ty)(e:TypeId)(V:ax)(b:Nat):Prop:=∃(i j:Nat)(W:aH)(c:RV)(z:Value)(k:RK),V[i]?=U W/\W[j]?=U c/\(bD X (.sl e))[j]?=U (.ai z k)/\dR X k c b
structure yc(S0:aw)(w0:World)(V:aw)(O:ak)(bx:bE)(ty:Ty)(rs:bp)(W:World)(k:Nat)(e:TypeId)(rv:RV)(b:Nat):Prop where
 own:w0.heap.size<=b\/b∈S0
 mem:∃len cap cur,rv.val=.slice (U ⟨b,0,Z⟩) len cap/\W.heap[b]?=U (.cells cur e (0,0))/\len<=cap/\cap<=maxLen/\cur.size=cap*(bD ty (.sl e)).length
 box:∀i,aL bx i=J->ad V i≠b
 alone:∀(k':Nat)(e':RK)(rv':RV),k'≠k->rs[k']?=U e'->O.r[k']?=U rv'->¬yb ty e' rv' b
 inner:¬nc ty e rv.aj b
def C.gK(O:ak)(V:aw)(v:C):RV:=match v with
 |.am r=>r.rv O
 |v=>.mk (v.ah O V) []
def C.dJ(O:ak)(V:aw)(l:av):aH:=l.map (C.gK O V)
def gu:Nat->sd->List MapEntry
 |_,[]=>[]
 |n,x::r=>⟨x.1,x.2,n⟩::gu (n+1) r
def pG(l:sd):Obj:=.map (gu 0 l).toArray (Y l)
def BG:gc->sd
 |k::v::r=>(k,v)::BG r
 |_=>[]
def qp(a:Bool)(l:aH):Value:=if a then .agg (l.map RV.val).toArray else(l.headD default).val
def uX(n:Nat)(W V:Bool)(X:aH):Value×Value:=(qp W (X.take n),qp V (X.drop n))
def afr:Value->cw
 |.map a=>a
 |_=>Z
def oV(X:aH):Nat:=(bS (X.headD default).val).toNat
def lE(t:TypeId)(l:aH):Obj:=
 if t=tI then pG (BG (l.map RV.val)) else
 if t=uO then(match l with
  |[X,.mk (.int _ n) _,.mk (.bool W) _,.mk (.bool V) _]=>pG (X.aj.map (uX n.toNat W V))
  |_=>pG []) else
 if t=wn then(match l with
  |[R,_,.mk (.int _ n) _,Q]=>.mapIter (afr R.val) n.toNat (Q.aj.map oV).toArray n.toNat
  |_=>pG []) else
 .cells (l.map RV.val).toArray t (0,0)
structure jE(S0:aw)(w0:World)(V:aw)(O:ak)(bx:bE)(ty:Ty)(rs:bp)(W:World):Prop where
 base:ij S0 w0 W
 own:∀i,aL bx i=J->w0.heap.size<=ad V i\/ad V i∈S0
 inj:∀i j,aL bx i=J->aL bx j=J->ad V i=ad V j->i=j
 box:∀(i:Nat)(t:TypeId)(cs:av),cg bx i=U (t,cs)->W.heap[ad V i]?=U (lE t (C.dJ O V cs))
 am:∀(k:Nat)(e:RK)(rv:RV),rs[k]?=U e->O.r[k]?=U rv->bJ W ty e rv/\∀b,dR ty e rv b->∀i,aL bx i=J->ad V i≠b
structure b9 where
 out:aw
 dt:List (Nat×Loop)
 rd:Bool
 base:BF
def b9.none:b9:=⟨[],[],E,[]⟩
def lF(r:Nat):Deferred:={target:=.collected r,args:= #[]}
def PX.code:PX->Code
 |.ret=>.ret
 |.exit id=>.exit id
def ri(r:Loop):Fs->Loop
 |.ready=>{r with state:=.ready,pending:=Z}
 |.busy=>{r with state:=.busy,pending:=Z}
 |.done e=>{r with state:=.done,pending:=U e.code}
structure eF(w0:World)(D:b9)(pd:uN)(y:aw)(dfr:BF)(W:World):Prop where
 len:Y D.dt=Y pd
 qr:Y y=Y pd
 dt:∀(n l:Nat)(r:Loop)(st:Fs),D.dt[n]?=U (l,r)->pd[n]?=U st->y[n]?=U l/\W.heap[l]?=U (.loop (ri r st))/\w0.heap.size<=l
 inj:∀(n n' l:Nat)(r r':Loop),D.dt[n]?=U (l,r)->D.dt[n']?=U (l,r')->n=n'
 ma:∃ms:aw,dfr=ms.map lF++D.base/\(D.rd=J->ms=[])/\(ms++D.out).Nodup/\∀d∈ms++D.out,W.heap[d]?=U (.deferred (U []))/\w0.heap.size<=d
structure aC(S0:aw)(w0:World)(D:b9)(ty:Ty)(V:aw)(O:ak)(s:S)(a:Act)(W:World):Prop where
 mem:jE S0 w0 V O s.au ty s.rs W
 gv:Y V=Y s.au
 ei:Y O.i=s.ni
 eb:Y O.b=s.nb
 er:Y O.r=Y s.rs
 cU:eF w0 D s.pd O.y a.defers W
 size:a.tmps.size=Y s.tmps
 tmps:∀(t:Nat)(sv:C),s.tmps[t]?=U sv->sv=.any\/a.tmps[t]?=U (sv.ah O V)
 fZ:∀(k:Nat)(e:TypeId)(rv:RV)(b:Nat),s.rs[k]?=U (.own e)->O.r[k]?=U rv->rv.kF=U b->yc S0 w0 V O s.au ty s.rs W k e rv b
def ak.pH(X:Ty)(O:ak)(W:bp)(b:Nat):Prop:=∃(k:Nat)(e:RK),W[k]?=U e/\dR X e (O.rv k) b
inductive XV where
 |i (n:Int)
 |b (x:Bool)
 |r (v:RV)
abbrev bn:=List XV
def ak.add(O:ak):XV->ak
 |.i n=>{O with i:=O.i++[n]}
 |.b x=>{O with b:=O.b++[x]}
 |.r v=>{O with r:=O.r++[v]}
def ak.ext(O:ak):bn->ak
 |[]=>O
 |x::X=>(O.add x).ext X
def C.xv(O:ak):C->XV
 |.int _ e=>.i (e.ah O)
 |.bool b=>.b (b.ah O)
 |.am r=>.r (r.rv O)
 |_=>.i 0
def rj:LK->XV->Prop
 |.int _,.i _=>True
 |.bool,.b _=>True
 |.am _,.r _=>True
 |_,_=>False
def ez:aQ->bn->Prop
 |[],[]=>True
 |k::X,x::W=>rj k x/\ez X W
 |_,_=>False
def aq2(X:Ty)(W:World)(B:Nat)(R:Nat->Prop):LK->XV->Prop
 |.am e,.r V=>bJ W X e V/\∀b,dR X e V b->B<=b\/R b
 |_,_=>True
def IJ(X:Ty)(W:World)(B:Nat)(V:Nat->Prop):aQ->bn->Prop
 |k::R,x::Q=>aq2 X W B V k x/\IJ X W B V R Q
 |_,_=>True
structure F6(ty:Ty)(S0:aw)(w0:World)(e:TypeId)(x:LE)(rs:bp)(O:ak)(rv:RV):Prop where
 val:∃A n c,rv=.mk (.slice A n c) (x.aj O)/\(x.aj O).length=n
 pH:∀b,dR ty (.sl e) rv b->w0.heap.size<=b\/b∈S0\/O.pH ty rs b
 Xd:∀(k:Nat)(i:K)(off:Nat)(cs:av),x=.set (.am (.v k)) i off cs->rv.val=(O.rv k).val
structure LC where
 aA:Nat
 I:bn->Prop
 μ:bn->Nat
 m:Nat
abbrev dm:=List LC
def nM(aA:Nat):dm->Option LC
 |[]=>Z
 |x::X=>if x.aA=aA then U x else nM aA X
def XE.to(O:ak)(V:aw):XE->Exit
 |.normal=>.normal
 |.ret=>.ret
 |.exit id=>.exit id
 |.bI v=>.panic [{v:=v.ah O V,recovered:=E}]
structure Sp where
 P:Program
 ty:Ty
 S0:aw
 w0:World
 D:b9
 R:Ending->World->Prop
 Q:Exit->Act->World->Prop
def oW(k:Nat)(o:bm)(W:bq)(X:ax):BD:=if Y X<=1099511627776 then mI k o W X else Z
def ki(O:ak):bm->Bool->ax->BD
 |.dh k o W,E,X=>oW k o (W.map (K.ah O)) X
 |.dh _ _ [i],J,X=>uW (i.ah O) X
 |.dh _ _ _,J,_=>Z
 |V,R,X=>iQ V R X
def nf(O:ak):bm->Bool->ax->BD
 |.dh _ _ _,E,_=>Z
 |.dh _ _ [i],J,X=>uW (i.ah O) X
 |.dh _ _ _,J,_=>Z
 |W,V,X=>iQ W V X
def afs{O:ak}{X:bm}{W r:ax}(h:nf O X t W=U r):ki O X t W=U r:=by
 cases X with
 |lex R d=>exact h
 |ratio n d=>exact h
 |dh k o V=>
  cases t with
  |false=>simp[nf] at h
  |true=>
   cases V with
   |nil=>simp[nf] at h
   |cons i l=>
    cases l with
    |nil=>exact h
    |cons j l=>simp[nf] at h
def T.aP(p:Sp):T->ak->dm->Prop
 |.out e s,O,_=>∀y V a W,aC p.S0 p.w0 p.D p.ty V (O.at y) s a W->p.Q (e.to (O.at y) V) a W
 |.ret v F M,O,_=>∀y V W,jE p.S0 p.w0 V (O.at y) F p.ty M W->p.R (.returned (v.ah (O.at y) V)) W
 |.bI v,O,_=>∀y V W,ij p.S0 p.w0 W->p.R (.panicked [{v:=v.ah (O.at y) V,recovered:=E}]) W
 |.aW b t f,O,L=>(b.ah O=J->t.aP p O L)/\(b.ah O=E->f.aP p O L)
 |.bz b t,O,L=>b.ah O=J/\t.aP p O L
 |.call f w F M G jf t,O,L=>∀y V W,jE p.S0 p.w0 V (O.at y) F p.ty M W->Calls p.P f (C.aF (O.at y) V w).toArray W λ
   |.returned v,H=>∃N,ez G N/\v=jf.ah ((O.ext N).at y) V/\Below W.heap.size W H/\IJ p.ty H W.heap.size (O.pH p.ty M) G N/\t.aP p (O.ext N) L
   |.panicked u,H=>Below W.heap.size W H/\p.R (.panicked u) H
   |.outgrown,_=>False
 |.loop aA G q t,O,L=>∃X B,X (q.map (C.xv O))/\∀N,ez G N->X N->t.aP p (O.ext N) (⟨aA,X,B,B N⟩::L)
 |.back aA x,O,L=>match nM aA L with
   |U c=>c.I (x.map (C.xv O))/\c.μ (x.map (C.xv O))<c.m
   |none=>False
 |.new e x M _ t,O,L=>∀A,F6 p.ty p.S0 p.w0 e x M O A->t.aP p (O.add (.r A)) L
 |.aj _ x _ t,O,L=>t.aP p (O.add (.r (iq x O))) L
 |.gE g h t f,O,L=>(g.ah O=J->t.aP p O L)/\(h.ah O=J->f.aP p O L)
 |.pick n g h t f,O,L=>(∀j:Int,0<=j->j<n.ah O->g.ah (O.add (.i j))=J->t.aP p (O.add (.i j)) L)/\(h.ah O=J->f.aP p O L)
 |.dO _ _ _ o l r _ t,O,L=>∃z,ki O o l (r.rv O).aj=U z/\t.aP p (O.add (.r (.mk (r.rv O).val z))) L
 |.stuck _,_,_=>False
variable{l:ak}{x:bE}{w:av}{y:aw}
def afu:∀(a b:Value),FB a b=J->a=b:=by
 intro a b h;unfold FB at h;split at h;rename_i a b;have X:a.data.toList=b.data.toList:=by simpa using h
 have W:a.data=b.data:=by simpa using X
 cases a;cases b;simp_all;simp at h;rw[h.1,h.2]
 all_goals first|rfl|cases h
mutual
def K.bU:∀(a b:K),K.aM a b=J->a=b
 |.c a,b,h=>by cases b<;>simp[K.gY] at h;rw[h]
 |.v a,b,h=>by cases b<;>simp[K.gY] at h;rw[h]
 |.bin o k a b,x,h=>by
  cases x<;>simp[K.gY,zD] at h;obtain⟨⟨⟨rfl,rfl⟩,X⟩,W⟩:=h;rw[K.bU _ _ X,K.bU _ _ W]
 |.conv k a,x,h=>by
  cases x<;>simp[K.gY] at h;obtain⟨rfl,X⟩:=h;rw[K.bU _ _ X]
 |.len r,x,h=>by
  cases x<;>simp[K.gY] at h;rw[RE.bU _ _ h]
 |.mm m a b,x,h=>by
  cases x<;>simp[K.gY] at h;obtain⟨⟨rfl,X⟩,W⟩:=h;rw[K.bU _ _ X,K.bU _ _ W]
 |.dg b a c,x,h=>by
  cases x<;>simp[K.gY] at h;obtain⟨⟨V,X⟩,W⟩:=h;rw[BE.bU _ _ V,K.bU _ _ X,K.bU _ _ W]
 |.cell r i j,x,h=>by
  cases x<;>simp[K.gY] at h;obtain⟨⟨V,X⟩,rfl⟩:=h;rw[RE.bU _ _ V,K.bU _ _ X]
 |.mV r i,x,h=>by
  cases x<;>simp[K.gY] at h;obtain⟨V,X⟩:=h;rw[RE.bU _ _ V,K.bU _ _ X]
 |.look r n a b c j,x,h=>by
  cases x<;>simp[K.gY] at h;obtain⟨⟨⟨⟨⟨V,rfl⟩,X⟩,W⟩,R⟩,rfl⟩:=h;rw[RE.bU _ _ V,K.bU _ _ X,K.bU _ _ W,K.bU _ _ R]
def BE.bU:∀(a b:BE),BE.aM a b=J->a=b
 |.c a,b,h=>by cases b<;>simp[BE.gY] at h;rw[h]
 |.v a,b,h=>by cases b<;>simp[BE.gY] at h;rw[h]
 |.cmp o a b,x,h=>by
  cases x<;>simp[BE.gY,zD] at h;obtain⟨⟨rfl,X⟩,W⟩:=h;rw[K.bU _ _ X,K.bU _ _ W]
 |.not a,x,h=>by
  cases x<;>simp[BE.gY] at h;rw[BE.bU _ _ h]
 |.and a b,x,h=>by
  cases x<;>simp[BE.gY] at h;rw[BE.bU _ _ h.1,BE.bU _ _ h.2]
 |.beq a b,x,h=>by
  cases x<;>simp[BE.gY] at h;rw[BE.bU _ _ h.1,BE.bU _ _ h.2]
 |.dg b a c,x,h=>by
  cases x<;>simp[BE.gY] at h;obtain⟨⟨V,X⟩,W⟩:=h;rw[BE.bU _ _ V,BE.bU _ _ X,BE.bU _ _ W]
 |.cell r i j,x,h=>by
  cases x<;>simp[BE.gY] at h;obtain⟨⟨V,X⟩,rfl⟩:=h;rw[RE.bU _ _ V,K.bU _ _ X]
 |.seq a b,x,h=>by
  cases x<;>simp[BE.gY] at h;rw[RE.bU _ _ h.1,RE.bU _ _ h.2]
 |.look r n a b c j,x,h=>by
  cases x<;>simp[BE.gY] at h;obtain⟨⟨⟨⟨⟨V,rfl⟩,X⟩,W⟩,R⟩,rfl⟩:=h;rw[RE.bU _ _ V,K.bU _ _ X,K.bU _ _ W,K.bU _ _ R]
 |.has r n a b c,x,h=>by
  cases x<;>simp[BE.gY] at h;obtain⟨⟨⟨⟨V,rfl⟩,X⟩,W⟩,R⟩:=h;rw[RE.bU _ _ V,K.bU _ _ X,K.bU _ _ W,K.bU _ _ R]
def RE.bU:∀(a b:RE),RE.aM a b=J->a=b
 |.v a,b,h=>by cases b<;>simp[RE.gY] at h;rw[h]
 |.cell r i j k,x,h=>by
  cases x<;>simp[RE.gY] at h;obtain⟨⟨⟨X,W⟩,rfl⟩,rfl⟩:=h;rw[RE.bU _ _ X,K.bU _ _ W]
 |.k a,b,h=>by cases b<;>simp[RE.gY] at h;rw[afu _ _ h]
end
mutual
def C.bU:∀(a b:C),C.aM a b=J->a=b
 |.int k e,x,h=>by cases x<;>simp[C.gY] at h;rw[h.1,K.bU _ _ h.2]
 |.bool b,x,h=>by cases x<;>simp[C.gY] at h;rw[BE.bU _ _ h]
 |.am r,x,h=>by cases x<;>simp[C.gY] at h;rw[RE.bU _ _ h]
 |.loc i o,x,h=>by cases x<;>simp[C.gY] at h;rw[h.1,h.2]
 |.el r w i o,x,h=>by
  cases x<;>simp[C.gY] at h;obtain⟨⟨⟨X,rfl⟩,W⟩,rfl⟩:=h;rw[RE.bU _ _ X,K.bU _ _ W]
 |.iP a b c d,x,h=>by
  cases x<;>simp[C.gY] at h;obtain⟨⟨⟨rfl,rfl⟩,rfl⟩,rfl⟩:=h;rfl
 |.agg l,x,h=>by cases x<;>simp[C.gY] at h;rw[C.sD _ _ h]
 |.bP l,x,h=>by cases x<;>simp[C.gY] at h;rw[C.sD _ _ h]
 |.fn f l,x,h=>by cases x<;>simp[C.gY] at h;rw[h.1,C.sD _ _ h.2]
 |.gJ t y,x,h=>by cases x<;>simp[C.gY] at h;rw[h.1,C.bU _ _ h.2]
 |.yl n,x,h=>by cases x<;>simp[C.gY] at h;rw[h]
 |.any,x,h=>by cases x<;>simp[C.gY] at h;rfl
 |.mp i,x,h=>by cases x<;>simp[C.gY] at h;rw[h]
 |.fW e V R,x,h=>by cases x<;>simp[C.gY] at h;rw[K.bU _ _ h.1.1,h.1.2,C.sD _ _ h.2]
def C.sD:∀(a b:av),C.ql a b=J->a=b
 |[],b,h=>by cases b<;>simp[C.afb] at h;rfl
 |x::X,b,h=>by cases b<;>simp[C.afb] at h;rw[C.bU _ _ h.1,C.sD _ _ h.2]
end
structure iL(O O':ak)(ni nb nr:Nat):Prop where
 i:∀k,k<ni->O'.i.getD k 0=O.i.getD k 0
 b:∀k,k<nb->O'.b.getD k E=O.b.getD k E
 r:∀k,k<nr->O'.rv k=O.rv k
 y:O'.y=O.y
mutual
def K.dW{O W:ak}{V R Q:Nat}(X:iL O W V R Q):∀(e:K),e.bd V R Q=J->e.ah W=e.ah O
 |.c n,_=>by simp[K.ah]
 |.v k,h=>by simp[K.aZ] at h;simp only[K.ah];exact X.i k h
 |.bin o k a b,h=>by simp[K.aZ] at h;simp only[K.ah,K.dW X a h.1,K.dW X b h.2]
 |.conv k a,h=>by simp[K.aZ] at h;simp only[K.ah,K.dW X a h]
 |.len r,h=>by simp[K.aZ] at h;simp only[K.ah,RE.rk X r h]
 |.mm m a b,h=>by simp[K.aZ] at h;simp only[K.ah,K.dW X a h.1,K.dW X b h.2]
 |.dg b x y,h=>by simp[K.aZ] at h;simp only[K.ah,BE.dW X b h.1.1,K.dW X x h.1.2,K.dW X y h.2]
 |.cell r i j,h=>by simp[K.aZ] at h;simp only[K.ah,K.dW X i h.2,RE.rk X r h.1]
 |.mV r i,h=>by simp[K.aZ] at h;simp only[K.ah,RE.rk X r h.1,K.dW X i h.2]
 |.look r n a b c j,h=>by simp[K.aZ] at h;simp only[K.ah,RE.rk X r h.1.1.1,K.dW X a h.1.1.2,K.dW X b h.1.2,K.dW X c h.2]
def BE.dW{O W:ak}{V R Q:Nat}(X:iL O W V R Q):∀(e:BE),e.bd V R Q=J->e.ah W=e.ah O
 |.c n,_=>by simp[BE.ah]
 |.v k,h=>by simp[BE.aZ] at h;simp only[BE.ah];exact X.b k h
 |.cmp o a b,h=>by simp[BE.aZ] at h;simp only[BE.ah,K.dW X a h.1,K.dW X b h.2]
 |.not a,h=>by simp[BE.aZ] at h;simp only[BE.ah,BE.dW X a h]
 |.and a b,h=>by simp[BE.aZ] at h;simp only[BE.ah,BE.dW X a h.1,BE.dW X b h.2]
 |.beq a b,h=>by simp[BE.aZ] at h;simp only[BE.ah,BE.dW X a h.1,BE.dW X b h.2]
 |.dg b x y,h=>by simp[BE.aZ] at h;simp only[BE.ah,BE.dW X b h.1.1,BE.dW X x h.1.2,BE.dW X y h.2]
 |.cell r i j,h=>by simp[BE.aZ] at h;simp only[BE.ah,K.dW X i h.2,RE.rk X r h.1]
 |.seq a b,h=>by simp[BE.aZ] at h;simp only[BE.ah,RE.rk X a h.1,RE.rk X b h.2]
 |.look r n a b c j,h=>by simp[BE.aZ] at h;simp only[BE.ah,RE.rk X r h.1.1.1,K.dW X a h.1.1.2,K.dW X b h.1.2,K.dW X c h.2]
 |.has r n a b c,h=>by simp[BE.aZ] at h;simp only[BE.ah,RE.rk X r h.1.1.1,K.dW X a h.1.1.2,K.dW X b h.1.2,K.dW X c h.2]
def RE.rk{O W:ak}{V R Q:Nat}(X:iL O W V R Q):∀(e:RE),e.bd V R Q=J->e.rv W=e.rv O
 |.v k,h=>by simp[RE.aZ] at h;simp only[RE.rv,X.r k h]
 |.cell r i j k,h=>by simp[RE.aZ] at h;simp only[RE.rv,K.dW X i h.2,RE.rk X r h.1]
 |.k v,_=>by simp[RE.rv]
end
def RE.dW{X:ak}(W:iL l X R Q i)(e:RE)(h:e.bd R Q i=J):e.ah X=e.ah l:=by simp only[RE.ah,RE.rk W e h]
mutual
def C.dW{O R:ak}{V Q:aw}{P N M:Nat}{L:Nat->Bool}(X:iL O R P N M)(W:∀k,L k=J->ad Q k=ad V k):∀(v:C),v.bd P N M L=J->v.ah R Q=v.ah O V
 |.int k e,h=>by simp[C.aZ] at h;simp only[C.ah,K.dW X e h]
 |.bool e,h=>by simp[C.aZ] at h;simp only[C.ah,BE.dW X e h]
 |.am e,h=>by simp[C.aZ] at h;simp only[C.ah,RE.dW X e h]
 |.loc i o,h=>by simp[C.aZ] at h;simp only[C.ah,W i h]
 |.el r w i o,h=>by simp[C.aZ] at h;simp only[C.ah,RE.dW X r h.1,K.dW X i h.2]
 |.iP i o l c,h=>by simp[C.aZ] at h;simp only[C.ah,W i h]
 |.agg l,h=>by simp[C.aZ] at h;simp only[C.ah,C.IK X W l h]
 |.bP l,h=>by simp[C.aZ] at h;simp only[C.ah,C.IK X W l h]
 |.fn f l,h=>by simp[C.aZ] at h;simp only[C.ah,C.IK X W l h]
 |.gJ t x,h=>by simp[C.aZ] at h;simp only[C.ah,C.dW X W x h]
 |.yl n,_=>by simp only[C.ah,X.y]
 |.any,_=>by simp[C.ah]
 |.mp i,h=>by simp[C.aZ] at h;simp only[C.ah,W i h]
 |.fW e G H,h=>by simp[C.aZ] at h;simp only[C.ah,K.dW X e h.1,C.IK X W H h.2]
def C.IK{O X:ak}{V W:aw}{R Q P:Nat}{N:Nat->Bool}(M:iL O X R Q P)(L:∀k,N k=J->ad W k=ad V k):∀(l:av),C.dQ R Q P N l=J->C.aF X W l=C.aF O V l
 |[],_=>rfl
 |x::H,h=>by simp[C.iD] at h;simp only[C.aF,C.dW M L x h.1,C.IK M L H h.2]
end
def uY{W V R:Nat}{Q:Nat->Bool}:∀{l:av}{i:Nat}{v:C},C.dQ W V R Q l=J->l[i]?=U v->v.bd W V R Q=J
 |[],i,v,_,h=>by simp at h
 |x::P,0,v,X,h=>by simp[C.iD] at X;simp at h;exact h▸X.1
 |x::P,i+1,v,X,h=>by simp[C.iD] at X;simp at h;exact uY X.2 h
def jO{b:TypeId×av}:cg x R=U b<->x[R]?=U (U b):=by
 simp only[cH];cases h:x[R]? with
 |none=>simp
 |some X=>cases X<;>simp
def sF{V R Q:Nat}{P:Nat->Bool}:∀{l:bE}{i:Nat}{v:TypeId×av},C.qm V R Q P l=J->cg l i=U v->C.dQ V R Q P v.2=J
 |[],i,v,_,h=>by simp[cH] at h
 |U x::W,0,v,X,h=>by simp[C.qm] at X;simp[cH] at h;exact h▸X.1
 |Z::W,0,v,X,h=>by simp[cH] at h
 |U x::W,i+1,v,X,h=>by simp[C.qm] at X;exact sF X.2 (by simpa[cH] using h)
 |Z::W,i+1,v,X,h=>by simp[C.qm] at X;exact sF X (by simpa[cH] using h)
def iL.refl(O:ak)(X W V:Nat):iL O O X W V:=⟨λ_ _=>rfl,λ_ _=>rfl,λ_ _=>rfl,rfl⟩
def iL.trans{a b c:ak}{W V R:Nat}(h:iL a b W V R)(k:iL b c W V R):iL a c W V R:=
 ⟨λj X=>(k.i j X).trans (h.i j X),λj X=>(k.b j X).trans (h.b j X),λj X=>(k.r j X).trans (h.r j X),k.y.trans h.y⟩
def iL.mono{b:ak}{X W V:Nat}(h:iL l b R Q i)(O:X<=R)(N:W<=Q)(M:V<=i):iL l b X W V:=
 ⟨λj P=>h.i j ae,λj P=>h.b j ae,λj P=>h.r j ae,h.y⟩
def QO(O:ak)(x:XV):iL O (O.add x) (Y O.i) (Y O.b) (Y O.r):=by
 cases x<;>refine⟨λk X=> ?_,λk X=> ?_,λk X=> ?_,rfl⟩<;>simp[ak.add,ak.rv,dU,X]
def Dz:∀(X:bn)(O:ak),iL O (O.ext X) (Y O.i) (Y O.b) (Y O.r)
 |[],O=>iL.refl _ _ _ _
 |x::X,O=>by
  have W:=QO O x;have V:=Dz X (O.add x);exact W.trans (V.mono (by cases x<;>simp[ak.add]) (by cases x<;>simp[ak.add]) (by cases x<;>simp[ak.add]))
mutual
def QP{O:ak}{V X:aw}(h:ad X=ad V):∀(v:C),v.ah O X=v.ah O V
 |.int k e=>by simp only[C.ah]
 |.bool e=>by simp only[C.ah]
 |.am e=>by simp only[C.ah]
 |.loc i o=>by simp only[C.ah,h]
 |.el r w i o=>by simp only[C.ah]
 |.iP i o l c=>by simp only[C.ah,h]
 |.agg l=>by simp only[C.ah,Mz h l]
 |.bP l=>by simp only[C.ah,Mz h l]
 |.fn f l=>by simp only[C.ah,Mz h l]
 |.gJ t x=>by simp only[C.ah,QP h x]
 |.yl n=>by simp only[C.ah]
 |.any=>by simp only[C.ah]
 |.mp i=>by simp only[C.ah,h]
 |.fW e R W=>by simp only[C.ah,Mz h W]
def Mz{O:ak}{V X:aw}(h:ad X=ad V):∀(l:av),C.aF O X l=C.aF O V l
 |[]=>rfl
 |x::W=>by simp only[C.aF,QP h x,Mz h W]
end
def aq3(O:ak)(V:aw)(v:C):(v.gK O V).val=v.ah O V:=by
 cases v<;>simp[C.gK,C.ah,RE.ah]
def afv(O:ak)(V:aw)(l:av):(C.dJ O V l).map RV.val=C.aF O V l:=by
 rw[oU,C.dJ,oc];exact kb λv _=>aq3 O V v
def sG(h:qg X=E)(O:ak)(V:aw)(l:av):lE X (C.dJ O V l)=.cells (C.aF O V l).toArray X (0,0):=by
 have W:=of_decide_eq_false h;unfold lE;rw[aK (λe=>W (by rw[e];exact cd _)),aK (λe=>W (by rw[e];decide)),aK (λe=>W (by rw[e];decide)),afv]
def ye(h:lB x R=U (X,w)):cg x R=U (X,w)/\qg X=false:=by
 unfold lB at h;split at h;rename_i Q P W;split at h;cases h;rename_i V;cases h;exact⟨W,by simpa using V⟩;cases h
def MA{X:bE}(h:cg X Q=cg x R):lB X Q=lB x R:=by simp[lB,h]
def Xe{X:ak}{W:aw}{P:Nat->Bool}(N:iL l X R Q i)(M:∀k,P k=J->ad W k=ad y k)(v:C)(h:v.bd R Q i P=J):v.gK X W=v.gK l y:=by
 have L:=C.dW N M v h;cases v<;>simp only[C.gK]<;>try rw[L]
 simp only[C.aZ] at h;exact RE.rk N _ h
def MB{O X:ak}{V W:aw}{R Q P:Nat}{N:Nat->Bool}(M:iL O X R Q P)(L:∀k,N k=J->ad W k=ad V k):∀(l:av),C.dQ R Q P N l=J->C.dJ X W l=C.dJ O V l
 |[],_=>rfl
 |x::H,h=>by
  simp only[C.iD,az] at h;have:=MB M L H h.2;simp only[C.dJ,eE] at this⊢;rw[Xe M L x h.1,this]
def afw{W:aw}(h:ad W=ad y)(X:av):C.dJ l W X=C.dJ l y X:=by
 refine kb λv _=> ?_
 have R:=QP (O:=l) h v;cases v<;>simp only[C.gK]<;>rw[R]
def Xf(x:Int):∀(X:bq)(W:gc),iX (kh x X W)=J
 |[],_=>by simp[kh,iX]
 |_::_,[]=>by simp[kh,iX]
 |k::X,v::W=>by
  simp only[kh];split;split;rename_i h;exact h;rfl;exact Xf x X W
def aq4(h:iX c=J):c.cells.toList=[c]:=by
 cases c<;>simp[iX] at h<;>rfl
variable{v:TI}{M:C}
def qu(c:CT):Value:=match c with
 |.int k=>.int k 0
 |.bool=>.bool E
 |.ai z _=>z
def TD.Ok(P:Program)(t:TypeId)(ao:eQ):TD->Prop
 |.struct X=>∃F:Array Field,P.underlying t=U (.struct F)/\F.toList.map (λf=>(f.offset,f.type))=X
 |.arr n e=>P.underlying t=U (.array n e)
 |.slice e=>P.underlying t=U (.slice e)
 |.str=>P.underlying t=U .string
 |.one=>∃d,P.underlying t=U d/\((match d with|.struct _|.array _ _|.slice _|.string|.interface _=>False|_=>True)/\∀k,ao=[.ai .nilFunc k]->∃a b c,d=.func a b c)/\(∀k,ao=[.int k]->d=.int k)/\(ao=[.bool]->d=.bool)
 |.gJ=>∃m,P.underlying t=U (.interface m)
 |.map k e _ _=>P.underlying t=U (.map k e)
def BH:Value->Value->Option Bool
 |.int k a,.int X b=>if k=X then U (a==b) else Z
 |.bool a,.bool b=>U (a==b)
 |.string a,.string b=>U (a.toList==b.toList)
 |_,_=>Z
def BJ:CT->Value->Prop
 |.int k,.int X _=>k=X
 |.bool,.bool _=>True
 |.ai _ .str,.string _=>True
 |_,_=>False
def kG:eQ->gc->Prop
 |[],[]=>True
 |c::X,v::R=>BJ c v/\kG X R
 |_,_=>False
def jP:gc->gc->Option Bool
 |[],[]=>U J
 |x::X,y::R=>match BH x y,jP X R with
  |U a,U b=>U (a&&b)
  |_,_=>Z
 |_,_=>Z
def gL(X:Bool)(l:bq):Value:=if X then .agg (l.map (Value.int I)).toArray else .int I (l.headD 0)
def wH:Value->bq
 |.int _ x=>[x]
 |.agg X=>X.toList.map bS
 |_=>[]
def nN(l:bq):List MapEntry->Nat->Option (Nat×Value)
 |[],_=>Z
 |e::X,i=>if wH e.key=l then U (i,e.val) else nN l X (i+1)
def tT(P:Program)(k:TypeId)(n:Nat)(X:Bool):Prop:=(X=E->n=1)/\∀(l:bq)(R:List MapEntry)(W:World),Y l=n->(∀e∈R,∃Q:bq,Y Q=n/\e.key=gL X Q)->
 (∀b,(Instr.checkKey b 10000 k (gL X l)).run P W=.ok () W)/\(Instr.findKey k (gL X l) R).run P W=.ok (nN l R 0) W
def QQ:Value->Bool
 |.agg _=>J
 |_=>E
structure eU(P:Program)(t:TypeId)(ti:TI):Prop where
 IL:∃i,P.info? t=U i/\i.size=Y ti.ao/\∃z,i.zero=U z/\z.cells.toList=ti.ao.map qu
 desc:ti.d.Ok P t ti.ao
 bytes:∀i,P.info? t=U i->i.bytes<=131072
 eq:ti.eq=J->∀(xs ys:gc)(r:Bool)(x y:Operand)(w:World),kG ti.ao xs->kG ti.ao ys->jP xs ys=U r->
  (do eqGuard .eql t x y (.agg xs.toArray) (.agg ys.toArray);binOp .eql t (.agg xs.toArray) (.agg ys.toArray)).run P w=.ok (.bool r) w/\
  (do eqGuard .neq t x y (.agg xs.toArray) (.agg ys.toArray);binOp .neq t (.agg xs.toArray) (.agg ys.toArray)).run P w=.ok (.bool !r) w
 key:∀k e n ag,ti.d=.map k e n ag->tT P k n ag
 afx:∀i z,P.info? t=U i->i.zero=U z->QQ z=ti.d.isAgg
def i7(P:Program)(o:Ty):Prop:=∀t X,o t=U X->eU P t X
def eL(gl:mD)(O:ak):Prop:=∀x∈gl,x.2.1<Y O.r/\∃X R,(O.rv x.2.1).val=.slice (U ⟨x.1,0,Z⟩) X R
section
variable{P:Program}{o:Ty}{gl:mD}{W:World}
def eU.ik{d:TypeDesc}(h:P.underlying X=U d):(underlying X).run P W=.ok d W:=by simp[underlying,h]
def eU.ng(h:eU P X v):(Go.sizeOf X).run P W=.ok (Y v.ao) W:=by
 obtain⟨i,R,Q,_⟩:=h.IL;simp[Go.sizeOf,typeInfo,R,Q]
def eU.afy(h:eU P X v):(isAgg X).run P W=.ok v.d.isAgg W:=by
 have Q:=h.desc;revert Q;cases v.d<;>simp only[TD.Ok,TD.isAgg];rintro⟨d,R,⟨N,-⟩,-,-⟩;cases d<;>simp[isAgg,underlying,R]<;>simp at N;rintro⟨m,R⟩;simp[isAgg,underlying,R];intro R;simp[isAgg,underlying,R];intro R;simp[isAgg,underlying,R];intro R;simp[isAgg,underlying,R];rintro⟨F,R,-⟩;simp[isAgg,underlying,R];intro R;simp[isAgg,underlying,R]
def wI(b X n:Nat):(⟨b,X,Z⟩:Addr).add n=⟨b,X+n,Z⟩:=by
 unfold Addr.add;split;rename_i h;subst h;rfl;rfl
def Xg(h:eU P X v)(Q:wu v w R=U M):
  (part X (C.aF l y w).toArray R).run P W=.ok (M.ah l y) W:=by
 unfold wu at Q;simp only[part,dq,h.afy,dl];by_cases N:v.d.isAgg=J;simp only[N,cS] at Q⊢;split at Q;rename_i H;cases Q;simp only[C.ah,wt,dq,h.ng,dl,eX];congr 2;apply mC;simp only[oU,List.map_take,List.map_drop,Array.toList_extract,List.extract_eq_take_drop];simp;cases Q;have L:v.d.isAgg=false:=by simpa using N
 simp only[L,iW,ga] at Q⊢;have:(C.aF l y w).toArray[R]?=U (M.ah l y):=by simp[sC,Q]
 rw[this];rfl
def QR(h:eU P X v){O:ak}{V:aw}{b base:Nat}(Q:wu v w R=U M)
  (H:∀j x,w[j]?=U x->W.cell? ⟨b,base+j,Z⟩=U (x.ah O V)):
  (Instr.loadAt X (.pointer (U ⟨b,base+R,Z⟩))).run P W=.ok (M.ah O V) W:=by
 unfold wu at Q;simp only[Instr.loadAt,Instr.sureAddr,loadVar,dq,eX,dl,h.afy];by_cases G:v.d.isAgg=J;simp only[G,cS] at Q⊢;split at Q;rename_i A;cases Q;simp only[dq,h.ng,dl,C.ah];have F:(C.aF O V (wt w R (Y v.ao))).length=Y v.ao:=by simp[wt];omega
 have:=run_loadCells_list (P:=P) W ⟨b,base+R,Z⟩ (C.aF O V (wt w R (Y v.ao))) (λj M N=>by
  rw[sC] at N;cases L:(wt w R (Y v.ao))[j]? with
  |none=>rw[L] at N;cases N
  |some x=>
   rw[L] at N;simp at N;simp only[wt,mB,tF] at L;split at L;rw[wI,<-N,Fk];exact H _ _ L;cases L)
 rw[F] at this;rw[this];simp;cases Q;have B:v.d.isAgg=false:=by simpa using G
 simp only[B,iW,ga] at Q⊢;have:=H R M Q;simp[this]
end
section
variable{p:aw}{q:World}{D:b9}{P:Program}{o:Ty}{gl:mD}{V:aw}{O:ak}{s:S}{a:Act}{W:World}
def aq5(v:Value):(Ic v).ah O V=v:=by unfold Ic;split<;>simp[C.ah,K.ah,BE.ah,RE.ah,RE.rv]
def aq6(v:Value):(LY v).ah O V=v:=by
 unfold LY;split;simp[C.ah,K.ah];simp[C.ah,BE.ah];rename_i X;simp only[C.ah,oU,oc];congr 1;have:(C.ah O V∘Ic)=id:=by funext v;simp[aq5]
 rw[this];simp;simp[C.ah,RE.ah,RE.rv]
def du(R:aC p q D o V O s a W)(L:eL gl O)(x:Operand)(h:(s.ev gl x).eJ=E):a.eval x=(s.ev gl x).ah O V:=by
 cases x with
 |tmp t=>
  simp only[S.ev,wq,dB] at h⊢;cases X:s.tmps[t]? with
  |none=>rw[X] at h;simp[C.eJ] at h
  |some H=>
   rw[X] at h;simp only[oJ] at h⊢;rcases R.tmps t H X with rfl|Q;simp[C.eJ] at h;simp[Act.eval,Q]
 |const v=>simp only[S.ev,Act.eval,aq6]
 |global g=>
  simp only[S.ev] at h⊢;split at h;rename_i k w N;obtain⟨Q,F,B,G⟩:=L _ (P1 N);have M:=Qc N;simp only[dv] at M;simp only[C.ah,RE.ah,RE.rv,Act.eval,nL,G,K.ah,M];simp;simp[C.eJ] at h
 |func f=>simp[S.ev,Act.eval,C.ah,C.aF]
def MC(X:BinOp)(k:IntKind)(x y:K):(Fv X k x y).ah O=aU X k (x.ah O) (y.ah O):=by unfold Fv;split<;>simp[K.ah]
def BK(X:BinOp)(x y:K):(pC X x y).ah O=gX X (x.ah O) (y.ah O):=by unfold pC;split<;>simp[K.ah,BE.ah]
def MD(x:BE):(Do x).ah O= !(x.ah O):=by unfold Do;split<;>simp[BE.ah]
def Xh(x y:BE):(uR x y).ah O=(x.ah O&&y.ah O):=by unfold uR;split<;>simp[BE.ah]
def Xi(x y:BE):(LZ x y).ah O=(x.ah O==y.ah O):=by unfold LZ;split<;>simp[BE.ah,MD]<;>cases BE.ah O _<;>simp
def aq7(m:Bool)(x y:K):(Qk m x y).ah O=if m then max (x.ah O) (y.ah O) else min (x.ah O) (y.ah O):=by unfold Qk;split<;>simp[K.ah]
def IM(i n:K):(uS i n).ah O=J<->0<=i.ah O/\i.ah O<n.ah O:=by
 rw[uS,Xh,BK,BK,az];exact and_congr decide_eq_true_iff decide_eq_true_iff
def Xj(X:Bool)(k:IntKind):∀(l:av)(e r:K),Fw X k e l=U r->
  ((C.aF O V l).foldlM (if X then Builtin.max2 else Builtin.min2) (.int k (e.ah O)):Sem Value).run P W=.ok (.int k (r.ah O)) W
 |[],e,r,h=>by simp[Fw] at h;subst h;simp[C.aF]
 |.int Q x::l,e,r,h=>by
  simp only[Fw] at h;split at h;have R:=Xj X k l (Qk X e x) r h;rw[aq7] at R;simp only[C.aF,C.ah,List.foldlM_cons,dq];cases X;simp only[iW,ga] at R⊢;simp only[Builtin.min2,eX,dl];rw[show(if x.ah O<e.ah O then x.ah O else e.ah O)=min (e.ah O) (x.ah O) from ae];exact R;simp only[cS] at R⊢;simp only[Builtin.max2,eX,dl];rw[show(if x.ah O>e.ah O then x.ah O else e.ah O)=max (e.ah O) (x.ah O) from ae];exact R;cases h
 |.bool _::_,_,_,h|.am _::_,_,_,h|.loc _ _::_,_,_,h|.el _ _ _ _::_,_,_,h|.iP _ _ _ _::_,_,_,h|.agg _::_,_,_,h|.bP _::_,_,_,h|.fn _ _::_,_,_,h|.gJ _ _::_,_,_,h|.any::_,_,_,h=>by simp[Fw] at h
end
section
variable{V:aw}{O:ak}
def QS{R Q:Type}{x:Int}{f:R->Q}:∀{W:bq}{X:List R},eG x W (X.map f)=(eG x W X).map f
 |[],X=>by simp[eG]
 |_::_,[]=>by simp[eG]
 |k::W,v::X=>by
  simp only[eE,eG];split;rfl;exact QS
def IN{W:Type}{x:Int}:∀{R:bq}{X:List W}{v:W},eG x R X=U v->v∈X
 |[],X,v,h=>by simp[eG] at h
 |_::_,[],v,h=>by simp[eG] at h
 |k::R,u::X,v,h=>by
  simp only[eG] at h;split at h;cases h;simp;exact Da _ (IN h)
def Xk{e:K}:∀{R:bq}{Q:av}{y:K},zA e R Q=U y->∃w,y.ah O=w/\(∀v,eG (e.ah O) R Q=U v->∃k z,v=.int k z/\w=z.ah O)/\(eG (e.ah O) R Q=Z->w=0)
 |[],[],y,h=>by simp[zA] at h;subst h;exact⟨0,rfl,λv h=>by simp[eG] at h,λ_=>rfl⟩
 |k::R,v::Q,y,h=>by
  cases v<;>simp only[zA] at h<;>try cases h
  rename_i N x;cases P:zA e R Q with
  |none=>rw[P] at h;cases h
  |some G=>
   rw[P] at h;simp only[dV,cG] at h;subst h;obtain⟨w,M,L,H⟩:=Xk P;simp only[K.ah,BE.ah,gX,eG];by_cases W:e.ah O=k;refine⟨x.ah O,by simp[W],λv X=> ?_,λX=> ?_⟩;rw[aI W] at X;cases X;exact⟨N,x,rfl,rfl⟩;rw[aI W] at X;cases X;refine⟨w,by simp[W,M],λv X=> ?_,λX=> ?_⟩;rw[aK W] at X;exact L v X;rw[aK W] at X;exact H X
 |[],_::_,y,h=>by simp[zA] at h
 |_::_,[],y,h=>by simp[zA] at h
def afz{e:K}:∀{R:bq}{Q:av}{y:BE},Bm e R Q=U y->∃w,y.ah O=w/\(∀v,eG (e.ah O) R Q=U v->∃z,v=.bool z/\w=z.ah O)/\(eG (e.ah O) R Q=Z->w=E)
 |[],[],y,h=>by simp[Bm] at h;subst h;exact⟨E,rfl,λv h=>by simp[eG] at h,λ_=>rfl⟩
 |k::R,v::Q,y,h=>by
  cases v<;>simp only[Bm] at h<;>try cases h
  rename_i x;cases P:Bm e R Q with
  |none=>rw[P] at h;cases h
  |some H=>
   rw[P] at h;simp only[dV,cG] at h;subst h;obtain⟨w,N,M,L⟩:=afz P;simp only[BE.ah,K.ah,gX,eG];by_cases W:e.ah O=k;refine⟨x.ah O,by simp[W],λv X=> ?_,λX=> ?_⟩;rw[aI W] at X;cases X;exact⟨x,rfl,rfl⟩;rw[aI W] at X;cases X;refine⟨w,by simp[W,N],λv X=> ?_,λX=> ?_⟩;rw[aK W] at X;exact M v X;rw[aK W] at X;exact L X
 |[],_::_,y,h=>by simp[Bm] at h
 |_::_,[],y,h=>by simp[Bm] at h
def afA{x:Int}:∀{ks:bq}{X:av},X.all Ig=J->(∀v,eG x ks X=U v->kh x ks (C.aF O V X)=v.ah O V)/\(eG x ks X=Z->kh x ks (C.aF O V X)=.nilFunc)
 |[],X,_=>⟨λv h=>by simp[eG] at h,λ_=>by simp[kh]⟩
 |_::_,[],_=>⟨λv h=>by simp[eG] at h,λ_=>by simp[kh,C.aF]⟩
 |k::ks,u::X,W=>by
  simp only[LU,az] at W;obtain⟨P,N⟩:=afA (ks:=ks) W.2;simp only[eG,C.aF,kh];by_cases Q:x=k;simp only[Q,cS];refine⟨λv R=> ?_,λR=>by cases R⟩;cases R;have M:iX (u.ah O V)=true:=by
   have:=W.1;unfold Ig at this;split at this;rfl;rfl;cases this
  rw[aI M];simp only[Q,ga];exact⟨P,N⟩
def aq8{e:K}{Q:bq}{H:CT}(h:WD e Q w H=U M):(∀v,eG (e.ah O) Q w=U v->M.ah O V=v.ah O V)/\(eG (e.ah O) Q w=Z->M.ah O V=qu H):=by
 unfold WD at h;split at h;rename_i k;split at h;rename_i N;cases W:zA e Q w with
 |none=>rw[W] at h;cases h
 |some y=>
  rw[W] at h;simp only[dV,cG] at h;subst h;obtain⟨x,R,P,L⟩:=Xk (O:=O) W;refine⟨λv X=> ?_,λX=>by simp only[C.ah,R,L X,qu]⟩;obtain⟨G,z,rfl,rfl⟩:=P v X;have:=fp.1 N _ (IN X);simp at this;subst this;simp only[C.ah,R]
 cases h;cases W:Bm e Q w with
 |none=>rw[W] at h;cases h
 |some y=>
  rw[W] at h;simp only[dV,cG] at h;subst h;obtain⟨x,R,P,L⟩:=afz (O:=O) W;refine⟨λv X=> ?_,λX=>by simp only[C.ah,R,L X,qu]⟩;obtain⟨z,rfl,rfl⟩:=P v X;simp only[C.ah,R]
 split at h;rename_i N;simp only[az] at N;cases h;obtain⟨R,P⟩:=afA (O:=O) (V:=V) (x:=e.ah O) (ks:=Q) N.1;exact⟨λv X=>by simp only[C.ah];exact R v X,λX=>by simp only[C.ah,qu];exact P X⟩;cases h;cases h
def QT{e:K}{Q:bq}{P:wm}:∀{ao:eQ}{j:Nat}{l:av},Bo e Q P j ao=U l->
  Y l=Y ao/\(∀X,eG (e.ah O) Q P=U X->Y X=j+Y ao->C.aF O V l=C.aF O V (X.drop j))/\(eG (e.ah O) Q P=Z->C.aF O V l=ao.map qu)
 |[],j,l,h=>by
  simp[Bo] at h;subst h;exact⟨rfl,λX _ R=>by rw[aql (by simp at R;omega)],λ_=>rfl⟩
 |c::ao,j,l,h=>by
  simp only[Bo] at h;split at h;rename_i v r H G;cases h;obtain⟨F,D,B⟩:=QT G;obtain⟨N,M⟩:=aq8 (O:=O) (V:=V) H;rw[QS] at N M;refine⟨by simp[F],λX W R=> ?_,λW=> ?_⟩;have L:j<Y X:=by simp at R;omega
  rw[E8 L];simp only[C.aF];rw[D X W (by simp at R⊢;omega),N _ (by rw[W];rfl)];simp[dB,L];simp only[C.aF,eE];rw[B W,M (by rw[W];rfl)];cases h
def QU{e:K}:∀{X:bq}{W:Type}{R:List W},Y X=Y R->(FA e X).ah O=(eG (e.ah O) X R).isSome
 |[],W,R,h=>by simp[FA,BE.ah,eG]
 |k::X,W,[],h=>by simp at h
 |k::X,W,v::R,h=>by
  simp only[FA,BE.ah,K.ah,gX,eG];by_cases Q:e.ah O=k;simp[Q];simp only[Q,ga,dv];exact QU (by simpa using h)
def QW(W:∀r:RE,r.Ft=J->iX (r.ah O)=J)(h:zB v M=J):M.ah O V=if v.d.isAgg then .agg (C.aF O V M.cells).toArray else(C.aF O V M.cells).headD undef:=by
 simp only[zB,az] at h;obtain⟨⟨-,R⟩,X⟩:=h;cases M<;>simp only[gO] at X<;>rw[X]<;>rfl
def BL(h:t=E->Y w=1):(se t w).ah O V=if t then .agg (C.aF O V w).toArray else(C.aF O V w).headD undef:=by
 cases t;obtain⟨x,rfl⟩:=oa.1 (h rfl);rfl;rfl
def QX{x:Int}:∀{W:bq}{X:av}{v:C},eG x W X=U v->iX (v.ah O V)=J->kh x W (C.aF O V X)=v.ah O V
 |[],X,v,h,_=>by simp[eG] at h
 |_::_,[],v,h,_=>by simp[eG] at h
 |k::W,u::X,v,h,Q=>by
  simp only[eG] at h;simp only[C.aF,kh];split at h;rename_i R;cases h;rw[aI R,aI Q];rename_i R;rw[aK R];exact QX h Q
def aq9(h:zB v M=J):(v.d.isAgg=E->Y v.ao=1)/\Y M.cells=Y v.ao:=by
 simp only[zB,az,dv] at h;obtain⟨⟨X,Q⟩,W⟩:=h;refine⟨λR=> ?_,X⟩;cases M<;>simp only[C.cells,Wc] at X<;>first|exact X.symm|(rw[R] at W;cases W)
def afB(N:∀r:RE,r.Ft=J->iX (r.ah O)=J){e:K}{X:bq}{p:C}(h:Qn v e X w=U M)(R:eG (e.ah O) X w=U p):M.ah O V=p.ah O V:=by
 unfold Qn at h;split at h;rename_i L;cases W:Bo e X (w.map C.cells) 0 v.ao with
 |none=>rw[W] at h;cases h
 |some l=>
  rw[W] at h;cases h;obtain⟨H,G,-⟩:=QT (O:=O) (V:=V) W;have F:=IN R;have Q:=fp.1 L p F;obtain⟨D,B⟩:=aq9 Q;have P:=G p.cells (by rw[QS,R];rfl) (by rw[B,iJ]);rw[aqE] at P;rw[BL (λA=>by rw[H];exact D A),QW N Q,P]
 cases h
def afC{X:Type}{x:Int}{f:Nat->X}(L:0<=x)(H:x<(R:Int)):eG x (Bp R) ((fU R).map f)=U (f x.toNat):=by
 unfold Bp;have W:∀(m k:Nat),(k:Int)<=x->x<((k+m:Nat):Int)->eG x ((wl k m).map λi:Nat=>(i:Int)) ((wl k m).map f)=U (f x.toNat):=by
  intro m;induction m with
  |zero=>intro k Q P;omega
  |succ m N=>
   intro k Q P;simp only[Wm,eE,eG];split;rename_i M;subst M;simp;exact N (k+1) ae ae
 rw[P5];exact W R 0 ae ae
def Xl{R L:Type}{f:R->Option L}{x:Int}:∀{Q:bq}{vs:List R}{W:List L}{v:R},Dp (vs.map f)=U W->eG x Q vs=U v->∃p,f v=U p/\eG x Q W=U p
 |[],vs,W,v,_,h=>by simp[eG] at h
 |_::_,[],W,v,_,h=>by simp[eG] at h
 |k::Q,u::vs,W,v,X,h=>by
  simp only[eE] at X;cases P:f u with
  |none=>rw[P] at X;cases X
  |some p=>
   rw[P] at X;simp only[Dp] at X;cases N:Dp (vs.map f) with
   |none=>rw[N] at X;cases X
   |some H=>
    rw[N] at X;simp only[dV,cG] at X;subst X;simp only[eG] at h⊢;split at h;rename_i M;cases h;rw[aI M];exact⟨p,P,rfl⟩;rename_i M;rw[aK M];exact Xl N h
def afD(h:xQ w=U R)(W:M∈w):∃X,M=.loc R X:=by
 unfold xQ at h;split at h;rename_i j o r;split at h;rename_i Q;cases h;have:=fp.1 Q M W;split at this;rename_i P X;simp only[dv] at this;subst this;exact⟨X,rfl⟩;cases this;cases h;cases h
end
variable{n:Ty}{z:RK}{L:RV}
def PR.gives(O:ak)(v:C):PR->Prop
 |.ok x=>v=x
 |.bz b x=>b.ah O=J/\v=x
 |_=>False
def afE(h:bJ N n z L):ee z L=L:=by
 cases h with
 |sl e A M H X=>rfl
 |str s=>rfl
 |ai L R=>simp[ee,R]
 |own e Q h G=>cases h;rfl
 |ap Q h=>simp[ee,h]
 |mr F X=>rfl
def afF(k:RK):bJ N n k (ee k default):=by
 cases k with
 |sl e=>
  refine bJ.sl e Z 0 0 [] rfl (cd _) ?_ ?_ ?_ ?_<;>(intro i;intros;rename_i h;simp at*)
 |str=>exact bJ.str _
 |ai=>exact bJ.ai _ rfl
 |own e=>
  refine bJ.own e _ (bJ.sl e Z 0 0 [] rfl (cd _) ?_ ?_ ?_ ?_) (λl c h=>by cases h;rfl)<;>(intro i;intros;rename_i h;simp at*)
 |ap=>exact bJ.ap _ rfl
 |mr X=>
  refine bJ.mr X [] ?_ ?_ ?_ ?_<;>(intro i;intros;rename_i h;simp at*)
def ara(k:RK)(v:RV):iX (ee k v).val=true:=by
 cases k;simp only[ee];split;rename_i h;rw[h];rfl;rfl;simp only[ee];split<;>rfl;simp only[ee];split;rename_i h;exact h;rfl;simp only[ee];split;rename_i h;rw[h];rfl;rfl;simp only[ee];split;rename_i h;exact h;rfl;simp only[ee];split;rename_i h;rw[h];rfl;rfl
def IP(h:bJ N n z L):iX L.val=true:=by
 cases h with
 |sl e A M H X=>rfl
 |str s=>rfl
 |ai L R=>exact R
 |own e Q h G=>cases h;rfl
 |ap Q h=>exact h
 |mr F X=>rfl
def afG(h:bJ N n z L):bJ N n z.rd L:=by
 cases h with
 |own e u h t=>exact h
 |sl e A G F X R Q M H B y=>exact bJ.sl e A G F X R Q M H B y
 |str s=>exact bJ.str s
 |ai L x=>exact bJ.ai L x
 |ap _ h=>exact bJ.ap _ h
 |mr w X R Q M H=>exact bJ.mr w X R Q M H
def arb(h:bJ N n (.sl X) L)(i:Int)(j:Nat)(k:RK)(Q:Fy (bD n (.sl X))[j]?=k):bJ N n k (ee k (bQ L.aj i j)):=by
 cases h with
 |sl X A p o x m l w u t r=>
  simp only[RV.jD,bQ];cases M:x[i.toNat]? with
  |none=>simp only[dB,M,aeW,List.getElem?_nil];exact afF k
  |some H=>
   simp only[dB,M,oJ];cases F:H[j]? with
   |none=>simp only[aeW];exact afF k
   |some c=>
    simp only[oJ];have g:j<(bD n (.sl X)).length:=by
     have:=(w _ H M).1;have:=(bZ.1 F).1;omega
    cases G:(bD n (.sl X))[j]? with
    |none=>rw[Be] at G;omega
    |some q=>
     rw[G] at Q;cases q with
     |int B=>
      simp only[Fy] at Q;subst Q;obtain⟨R,y⟩:=u _ _ H c B M F G;simp only[ee,y,iX,cS];exact bJ.ai _ rfl
     |bool=>
      simp only[Fy] at Q;subst Q;obtain⟨R,y⟩:=t _ _ H c M F G;simp only[ee,y,iX,cS];exact bJ.ai _ rfl
     |ai z B=>
      simp only[Fy] at Q;subst Q;have:=r _ _ H c z B M F G;rw[afE this];exact this
section
variable{g:aw}{m:World}{D:b9}{P:Program}{ty:Ty}{B:mD}{V:aw}{O:ak}{s:S}{a:Act}{W:World}
def Xm(X:aC g m D ty V O s a W)(h:s.rs[R]?=U z):bJ W ty z (O.rv R):=by
 have Q:R<Y O.r:=by rw[X.er];exact(bZ.1 h).1
 have:=(X.mem.am R z O.r[R] h (cK Q)).1;simpa[ak.rv,Q] using this
def rm(R:aC g m D ty V O s a W):∀{r:RE}{e:RK},e≠ .ai->r.kind ty s=e->bJ W ty e (r.rv O)
 |.v k,e,X,h=>by
  simp only[RE.kind,dB] at h;cases Q:s.rs[k]? with
  |none=>rw[Q] at h;exact aY (show e=.ai from h.symm) X
  |some q=>rw[Q] at h;simp at h;subst h;exact afG (Xm R Q)
 |.cell r i j L,e,X,h=>by
  simp only[RE.kind] at h;split at h;rename_i H N;split at h;rename_i M;subst h;exact arb (rm R ay N) (i.ah O) j _ M;exact aY h.symm X;exact aY h.symm X
 |.k v,e,X,h=>by
  cases v<;>simp only[RE.kind] at h
  case string s=>subst h;exact bJ.str s
  all_goals exact aY h.symm X
def ME(R:aC g m D ty V O s a W){r:RE}(h:r.kind ty s=.sl X):∃x l c,r.ah O=.slice x l c:=by
 have:=rm R ay h;unfold RE.ah;revert this;generalize r.rv O=v;intro Q;cases Q with
 |sl X A N M L=>exact⟨A,N,M,rfl⟩
def DA(R:aC g m D ty V O s a W){r:RE}(h:r.kind ty s=.str):∃x,r.ah O=.string x:=by
 have:=rm R ay h;unfold RE.ah;revert this;generalize r.rv O=v;intro X;cases X with
 |str s=>exact⟨s,rfl⟩
def arc(R:aC g m D ty V O s a W){c:CT}{y:C}{e:BE}(h:Ie ty s c M y=U e):BJ c (M.ah O V)/\BJ c (y.ah O V)/\BH (M.ah O V) (y.ah O V)=U (e.ah O):=by
 unfold Ie at h;split at h;split at h;rename_i X;obtain⟨rfl,rfl⟩:=X;cases h;exact⟨rfl,rfl,by simp[C.ah,BH,BK,gX]⟩;cases h;cases h;exact⟨trivial,trivial,by simp[C.ah,BH,Xi]⟩;split at h;rename_i X;cases h;obtain⟨p,Q⟩:=DA R X.1;obtain⟨q,N⟩:=DA R X.2;simp only[C.ah,Q,N];unfold RE.ah at Q N;exact⟨trivial,trivial,by simp[BH,BE.ah,Q,N,sy]⟩;cases h;cases h
def afH(R:aC g m D ty V O s a W):∀{X:eQ}{x y:av}{e:BE},rf ty s X x y=U e->kG X (C.aF O V x)/\kG X (C.aF O V y)/\jP (C.aF O V x) (C.aF O V y)=U (e.ah O)
 |[],[],[],e,h=>by simp[rf] at h;subst h;exact⟨trivial,trivial,by simp[C.aF,jP,BE.ah]⟩
 |c::X,x::B,y::A,e,h=>by
  simp only[rf] at h;split at h;rename_i a b Q N;cases h;obtain⟨M,a2,L⟩:=arc R Q;obtain⟨H,G,F⟩:=afH R N;exact⟨⟨M,H⟩,⟨a2,G⟩,by simp only[C.aF,jP,L,F,Xh]⟩;cases h
 |[],[],_::_,e,h=>by simp[rf] at h
 |[],_::_,_,e,h=>by simp[rf] at h
 |_::_,[],_,e,h=>by simp[rf] at h
 |_::_,_::_,[],e,h=>by simp[rf] at h
def afI(R:aC g m D ty V O s a W){X:Dl}{y:av}{e:BE}(h:If ty s X w y=U e):∃ao d,X=U ⟨d,ao,J⟩/\kG ao (C.aF O V w)/\kG ao (C.aF O V y)/\jP (C.aF O V w) (C.aF O V y)=U (e.ah O):=by
 unfold If at h;split at h;exact⟨_,_,rfl,afH R h⟩;cases h
def afJ(B:bJ W ty (.sl X) L)(i:Int)(h:0<=i)(y:i<lenOf L.val):
  ∃Q b N,L.aj[i.toNat]?=U Q/\Y Q=(bD ty (.sl X)).length/\(∃l c,L.val=.slice (U ⟨b,N,Z⟩) l c)/\(∀(j:Nat)(c:RV),Q[j]?=U c->W.cell? ⟨b,N+i.toNat*(bD ty (.sl X)).length+j,Z⟩=U c.val)/\
   (∀(j:Nat)(c:RV)(M:CT),Q[j]?=U c->(bD ty (.sl X))[j]?=U M->match M with
    |.int k=>∃n,c.val=.int k n
    |.bool=>∃x,c.val=.bool x
    |.ai _ k=>bJ W ty k c):=by
 cases B with
 |sl X A w v H g f u t r q=>
  simp only[RV.mH,lenOf] at y;have p:i.toNat<Y H:=ae;have R:H[i.toNat]?=U H[i.toNat]:=cK p;obtain⟨o,b,N,rfl,d,m⟩:=u i.toNat _ R;refine⟨H[i.toNat],b,N,R,o,⟨w,v,rfl⟩,m,λj c M G F=> ?_⟩;cases M with
  |int k=>exact t _ j _ c k R G F
  |bool=>exact r _ j _ c R G F
  |ai z k=>exact q _ j _ c z k R G F
def ard{r:RE}{i:K}{H:aH}{X:CT}(G:(r.rv O).aj[(i.ah O).toNat]?=U H)(F:H[R]?=U L)(Q:match X with
    |.int k=>∃n,L.val=.int k n
    |.bool=>∃y,L.val=.bool y
    |.ai _ k=>bJ W ty k L):
  (Dm r i R X).ah O V=L.val:=by
 have N:bQ (r.rv O).aj (i.ah O) R=L:=by simp[bQ,G,F]
 cases X with
 |int B=>obtain⟨n,M⟩:=Q;simp[Dm,C.ah,K.ah,N,bS,M]
 |bool=>obtain⟨n,M⟩:=Q;simp[Dm,C.ah,BE.ah,N,jp,M]
 |ai z e=>simp only[Dm,C.ah,RE.ah,RE.rv,N];rw[afE Q]
def uZ(R:aC g m D ty V O s a W):∀(r:RE),r.Ft=J->iX (r.ah O)=J
 |.v k,_=>by
  simp only[RE.ah,RE.rv];by_cases X:k<Y s.rs;exact IP (Xm R (cK X));have:O.rv k=default:=by
   have:=R.er;simp[ak.rv,show¬k<Y O.r from ae]
  rw[this];rfl
 |.cell r i j k,_=>ara k _
 |.k w,h=>h
def are(R:aC g m D ty V O s a W)(d:i7 P ty)(hg:eL B O)(A:F.op=.load X r)(hk:(s.ev B r).eJ=E)
  (h:(ck ty B s (.load X r)).gives O M):(execOp a.eval F).run P W=.ok (.value (M.ah O V)) W:=by
 have he:=du R hg r hk;simp only[execOp,A,dq,he];simp only[ck] at h;split at h;rename_i ti i p n k;rw[k];split at h;rename_i tt f N;split at h;rename_i w L;cases h;have:=QR (P:=P) (W:=W) (d _ _ n) (O:=O) (V:=V) (b:=ad V i) (base:=0) L (λj y hy=>by
  obtain⟨N,A⟩:=ye N;have:=R.mem.box i tt f N;rw[sG A] at this;simp[nF,this,sC,hy])
 simp only[iJ] at this;simp only[C.ah,this,dl,eX];exact h.elim;exact h.elim;rename_i ti Q w i p n k;rw[k];split at h;rename_i e a3;split at h;exact h.elim;rename_i hw;split at h;rename_i y L;obtain⟨N,rfl⟩:=h;rw[IM] at N;simp only[K.ah] at N;have hh:=rm R ay a3;have a4:w=(bD ty (.sl e)).length:=by simpa using Eq.symm (by simpa using hw:(bD ty (.sl e)).length=w)
 obtain⟨aa,b,ag,h1,bg,⟨l,c,h3⟩,h4,h5⟩:=afJ hh (i.ah O) N.1 N.2;have:=QR (P:=P) (W:=W) (d _ _ n) (O:=O) (V:=V) (b:=b) (base:=ag+(i.ah O).toNat*w) L (λj z G=>by
  simp only[dN] at G;cases hj:(fU w)[j]? with
  |none=>rw[hj] at G;cases G
  |some H=>
   have a9:j<w/\H=j:=by
    have:=bZ.1 hj;obtain⟨q1,q2⟩:=this;simp at q1 q2;exact⟨q1,q2.symm⟩
   obtain⟨bk,rfl⟩:=a9;rw[hj] at G;simp only[dV,cG] at G;have ba:(bD ty (.sl e))[H]?=U ((bD ty (.sl e)).getD H .bool):=by
    rw[dB,cK ae];rfl
   have bb:H<Y aa:=ae;have ab:aa[H]?=U aa[H]:=cK bb;rw[<-G,ard (W:=W) (ty:=ty) h1 ab (h5 H _ _ ab ba)];rw[a4];exact h4 H _ ab)
 have hA:nL (RE.ah O Q) ((i.ah O).toNat*w+p)=⟨b,ag+(i.ah O).toNat*w+p,Z⟩:=by
  simp only[RE.ah,h3,nL,Fk]
 simp only[C.ah,hA,this,dl,eX];exact h.elim;exact h.elim;rename_i ti e ks vs n k;rw[k];split at h;rename_i tt f N;split at h;rename_i w L;split at h;rename_i al;obtain⟨an,rfl⟩:=h;simp only[dv] at al;cases ac:xQ vs with
 |none=>rw[ac] at N;cases N
 |some i=>
  rw[ac] at N;simp only[Wn] at N;rw[QU al] at an;obtain⟨u,hu⟩:=kD.1 an;obtain⟨p,rfl⟩:=afD ac (IN hu);cases af:Dp (vs.map (WF ti f)) with
  |none=>rw[af] at L;cases L
  |some ps=>
   rw[af] at L;simp only[Wn] at L;obtain⟨q,a0,bd⟩:=Xl af hu;simp only[WF] at a0;have a1:=QR (P:=P) (W:=W) (d _ _ n) (O:=O) (V:=V) (b:=ad V i) (base:=0) a0 (λj y hy=>by
    obtain⟨N,A⟩:=ye N;have:=R.mem.box i tt f N;rw[sG A] at this;simp[nF,this,sC,hy])
   simp only[iJ] at a1;have bf:(C.fW e ks vs).ah O V=.pointer (U ⟨ad V i,p,Z⟩):=by
    simp only[C.ah];rw[QX hu rfl];rfl
   rw[bf,afB (uZ R) L bd];simp only[a1,dl,eX]
 exact h.elim;exact h.elim;exact h.elim;exact h.elim
def arf(Q:aC g m D ty V O s a W)(aa:i7 P ty)(hg:eL B O)(ho:F.op=.fieldAddr X r R)(hk:(s.ev B r).eJ=E)
  (h:(ck ty B s (.fieldAddr X r R)).gives O M):(execOp a.eval F).run P W=.ok (.value (M.ah O V)) W:=by
 have he:=du Q hg r hk;have ab:∀(G:List (Nat×TypeId))(ao:eQ)(q:Bool)(y:Nat)(p:TypeId)(H:TI)(A:Addr),ty X=U ⟨.struct G,ao,q⟩->G[R]?=U (y,p)->ty p=U H->(Y H.ao==0)=E->A.spot=Z->
   (Instr.fieldAt X (.pointer (U A)) R).run P W=.ok (.pointer (U ⟨A.block,A.off+y,Z⟩)) W:=by
  intro G ao q y p H A h1 u h3 h4 h5;obtain⟨N,hF,ac⟩:=(aa _ _ h1).desc;rw[<-ac,dN] at u;cases z:N.toList[R]? with
  |none=>rw[z] at u;cases u
  |some fd=>
   rw[z] at u;simp only[dV,cG,Bh] at u;obtain⟨rfl,rfl⟩:=u;have af:N[R]?=U fd:=by simpa using z
   have ag:¬Y H.ao=0:=by simpa using h4
   obtain⟨b,of,sp⟩:=A;simp only at h5;subst h5;simp only[Instr.fieldAt,Instr.sureAddr,fieldPlace,dq,eU.ik hF,dl,af,eX,(aa _ _ h3).ng,aK ag,Sem.run_ite,wI]
 simp only[execOp,ho,dq,he];simp only[ck] at h;split at h;rename_i G ao q i y l k;rw[k];split at h;rename_i j e z;split at h;rename_i H d;split at h;exact h.elim;rename_i c;cases h;simp only[C.ah,ab G ao q j e H ⟨ad V i,y,Z⟩ l z d (by simpa using c) rfl,dl,eX];exact h.elim;exact h.elim;rename_i G ao q L w i y l k;rw[k];split at h;rename_i j e z;split at h;rename_i H d;split at h;exact h.elim;rename_i c;cases h;have al:∀M n,(nL M n).spot=none:=by intro M n;unfold nL;split<;>rfl
 simp only[C.ah,ab G ao q j e H _ l z d (by simpa using c) (al _ _),dl,eX];congr 4;unfold nL;split;simp only[Addr.mk.injEq,and_true,true_and];omega;simp only[Addr.mk.injEq,and_true,true_and];omega;exact h.elim;exact h.elim;exact h.elim
end
section
variable{G:aw}{H:World}{D:b9}{P:Program}{u:Ty}{B:mD}{V:aw}{O:ak}{s:S}{a:Act}{W:World}
def arh(Q:aC G H D u V O s a W)(z:i7 P u)(w:eL B O)(p:F.op=.field X r R)(n:(s.ev B r).eJ=E)
  (h:(ck u B s (.field X r R)).gives O M):(execOp a.eval F).run P W=.ok (.value (M.ah O V)) W:=by
 have m:=du Q w r n;simp only[execOp,p,dq,m];simp only[ck] at h;split at h;rename_i fs ao q l k j;rw[j];split at h;rename_i o' t' L;split at h;rename_i ti i;split at h;rename_i y g;cases h;obtain⟨N,e,d⟩:=(z _ _ k).desc;rw[<-d,dN] at L;cases A:N.toList[R]? with
 |none=>rw[A] at L;cases L
 |some c=>
  rw[A] at L;simp only[dV,cG,Bh] at L;obtain⟨rfl,rfl⟩:=L;have b:N[R]?=U c:=by simpa using A
  simp only[C.ah,Instr.field,dq,eU.ik e,dl,b,asAgg,eX,Xg (z _ _ i) g]
 exact h.elim;exact h.elim;exact h.elim;exact h.elim
def ari(R:aC G H D u V O s a W)(ab:i7 P u)(hg:eL B O){y:Operand}(ho:F.op=.indexAddr X r y)(hk:(s.ev B r).eJ=E)(al:(s.ev B y).eJ=E)
  (h:(ck u B s (.indexAddr X r y)).gives O M):(execOp a.eval F).run P W=.ok (.value (M.ah O V)) W:=by
 have he:=du R hg r hk;have an:=du R hg y al;have ac:∀(n:Nat)(e:TypeId)(ao:eQ)(q:Bool)(L:TI)(A:Addr)(k:IntKind)(m:Int),u X=U ⟨.arr n e,ao,q⟩->u e=U L->0<=m->m<n->A.spot=Z->
   (Instr.indexAt X (.pointer (U A)) (.int k m)).run P W=.ok (.pointer (U ⟨A.block,A.off+m.toNat*Y L.ao,Z⟩)) W:=by
  intro n e ao q L A k m h1 h2 h3 h4 h5;have hd:P.underlying X=U (.array n e):=(ab _ _ h1).desc;obtain⟨b,of,sp⟩:=A;simp only at h5;subst h5;simp only[Instr.indexAt,asIntOf,dq,eX,dl,eU.ik hd,Instr.sureAddr,h3,h4,and_self,cS,(ab _ _ h2).ng,wI]
 simp only[execOp,ho,dq,he,an];simp only[ck] at h;split at h;rename_i n e ao q i aa k m g d hy;rw[d,hy];split at h;rename_i L f;split at h;rename_i z;cases h;simp only[az,cF] at z;simp only[C.ah,K.ah,ac n e ao q L ⟨ad V i,aa,Z⟩ k m g f z.1 z.2 rfl,dl,eX];exact h.elim;exact h.elim;rename_i n e ao q Q w i aa k m g d hy;rw[d,hy];have af:∀M n,(nL M n).spot=none:=by intro M n;unfold nL;split<;>rfl
 have ag:∀(M:Value)(p q:Nat),(⟨(nL M p).block,(nL M p).off+q,Z⟩:Addr)=nL M (p+q):=by intro M p q;unfold nL;split<;>simp[Fk]
 split at h;rename_i L f;split at h;rename_i hc;obtain⟨N,rfl⟩:=h;rw[IM] at N;simp only[az,dv] at hc;obtain⟨⟨⟨h1,h2⟩,h3⟩,-⟩:=hc;subst h1 h2 h3;simp only[K.ah] at N;simp only[C.ah,ac n e ao q L _ k (m.ah O) g f N.1 N.2 (af _ _),dl,eX,ag];simp[K.ah];split at h;rename_i m;split at h;rename_i z;cases h;simp only[az,cF] at z;simp only[C.ah,K.ah,ac n e ao q L _ k m g f z.1 z.2 (af _ _),dl,eX,ag,Fk];exact h.elim;exact h.elim;exact h.elim;rename_i n e ao q Q w i aa k m a3 g d hy;rw[d,hy];have af:∀M n,(nL M n).spot=none:=by intro M n;unfold nL;split<;>rfl
 have ag:∀(M:Value)(p q:Nat),(⟨(nL M p).block,(nL M p).off+q,Z⟩:Addr)=nL M (p+q):=by intro M p q;unfold nL;split<;>simp[Fk]
 split at h;rename_i L f;split at h;rename_i z;cases h;simp only[az,cF] at z;simp only[C.ah,K.ah,ac n e ao q L _ k m g f z.1 z.2 (af _ _),dl,eX,ag,Fk];exact h.elim;exact h.elim;rename_i e ao q Q k m g d hy;rw[d,hy];split at h;rename_i L e' f a0;obtain⟨N,rfl⟩:=h;rw[IM] at N;simp only[K.ah] at N;have hh:=afJ (rm R ay a0) (m.ah O) N.1 N.2;obtain⟨a4,b,aa,-,-,⟨l,c,hv⟩,-⟩:=hh;have hd:P.underlying X=U (.slice e):=(ab _ _ g).desc;rw[hv] at N;simp only[lenOf] at N;simp only[C.ah,RE.ah,hv,Instr.indexAt,asIntOf,dq,eX,dl,eU.ik hd,N.1,N.2,and_self,cS,(ab _ _ f).ng,wI,nL,xN];exact h.elim;rename_i e ao q i aa a9 ba k m g d hy;rw[d,hy];split at h;rename_i L f;split at h;rename_i z;cases h;simp only[az,cF] at z;have hd:P.underlying X=U (.slice e):=(ab _ _ g).desc;simp only[C.ah,K.ah,Instr.indexAt,asIntOf,dq,eX,dl,eU.ik hd,z.1,z.2,and_self,cS,(ab _ _ f).ng,wI];exact h.elim;exact h.elim;rename_i n e ao q i aa k m bb g d hy;rw[d,hy];split at h;rename_i L f;obtain⟨N,rfl⟩:=h;rw[IM] at N;simp only[K.ah] at N;have a1:(C.fW m (Bp n) ((fU n).map λj=>C.loc i (aa+j*Y L.ao))).ah O V=.pointer (U ⟨ad V i,aa+(m.ah O).toNat*Y L.ao,Z⟩):=by
  simp only[C.ah];rw[QX (afC N.1 N.2) rfl];rfl
 rw[a1];simp only[C.ah,ac n e ao q L ⟨ad V i,aa,Z⟩ k (m.ah O) g f N.1 N.2 rfl,dl,eX];exact h.elim;exact h.elim
def arj(R:aC G H D u V O s a W)(L:i7 P u)(hg:eL B O){y:Operand}(ho:F.op=.index X r y)(hk:(s.ev B r).eJ=E)(af:(s.ev B y).eJ=E)
  (h:(ck u B s (.index X r y)).gives O M):(execOp a.eval F).run P W=.ok (.value (M.ah O V)) W:=by
 have he:=du R hg r hk;have ag:=du R hg y af;simp only[execOp,ho,dq,he,ag];simp only[ck] at h;split at h;rename_i n e ao q l k m A w i;rw[w,i];split at h;rename_i b g;split at h;rename_i hm;split at h;rename_i z hp;cases h;simp only[az,cF] at hm;have d:P.underlying X=U (.array n e):=(L _ _ A).desc;simp only[C.ah,K.ah,Instr.index,asIntOf,dq,eX,dl,eU.ik d,hm.1,hm.2,and_self,cS,(L _ _ g).ng,Xg (L _ _ g) hp];exact h.elim;exact h.elim;exact h.elim;rename_i n e ao q l k m a3 A w i;rw[w,i];split at h;rename_i b g;split at h;rename_i z c;obtain⟨N,rfl⟩:=h;rw[IM] at N;simp only[K.ah] at N;cases aa:Dp ((fU n).map λj=>wu b l (j*Y b.ao)) with
 |none=>rw[aa] at c;cases c
 |some ps=>
  rw[aa] at c;simp only[Wn] at c;obtain⟨p,al,an⟩:=Xl (vs:=fU n) aa (by have:=afC (f:=λj=>j) N.1 N.2;simpa using this);have d:P.underlying X=U (.array n e):=(L _ _ A).desc;rw[afB (uZ R) c an];simp only[C.ah,Instr.index,asIntOf,dq,eX,dl,eU.ik d,N.1,N.2,and_self,cS,(L _ _ g).ng,Xg (L _ _ g) al]
 exact h.elim;exact h.elim;rename_i ao q Q k m A w i;rw[w,i];split at h;rename_i a0;obtain⟨N,rfl⟩:=h;rw[IM] at N;obtain⟨ab,ac⟩:=DA R a0;unfold RE.ah at ac;have d:P.underlying X=U .string:=(L _ _ A).desc;simp only[K.ah,ac,lenOf] at N;have a1:(m.ah O).toNat<ab.size:=ae;simp only[C.ah,RE.ah,ac,K.ah,Instr.index,asIntOf,dq,eX,dl,eU.ik d,N.1,cS,kg];have:ab[(m.ah O).toNat]?=U ab[(m.ah O).toNat]:=by simp[a1]
 rw[this];rfl;exact h.elim;exact h.elim
def ark(X:BinOp)(R:Qj X=J)(t:TypeId)(k:IntKind)(m n:Int):(binOp X t (.int k m) (.int k n)).run P W=.ok (.bool (gX X m n)) W:=by
 cases X<;>simp[Qj] at R<;>simp[binOp,Op.intCmp,gX]
def arl(X:BinOp)(R:WA X=J)(t:TypeId)(k:IntKind)(m n:Int):(binOp X t (.int k m) (.int k n)).run P W=.ok (.int k (aU X k m n)) W:=by
 cases X<;>simp[WA] at R<;>simp[binOp,Op.intArith,aU]
def afK(X:BinOp)(R:WB X=J)(t:TypeId)(k:IntKind)(m n:Int)(Q:n≠0):(binOp X t (.int k m) (.int k n)).run P W=.ok (.int k (aU X k m n)) W:=by
 cases X<;>simp[WB] at R<;>simp[binOp,Op.intDiv,aU,Q]
def afL(X:BinOp)(t:TypeId)(x y:Operand)(k:IntKind)(n:Int)(w:Value):(eqGuard X t x y (.int k n) w).run P W=.ok () W:=by cases X<;>rfl
def arm(X:BinOp)(t:TypeId)(x y:Operand)(n:Bool)(w:Value):(eqGuard X t x y (.bool n) w).run P W=.ok () W:=by cases X<;>rfl
def afM(X:BinOp)(t:TypeId)(x y:Operand)(n:ByteArray)(w:Value):(eqGuard X t x y (.string n) w).run P W=.ok () W:=by cases X<;>rfl
def afN(R:P.underlying X=U .bool)(m n:Bool):(Dj X (.bool m) (.bool n)).run P W=.ok (m==n) W:=by
 have:Dj X (.bool m) (.bool n)=Bj (9999+1) X (.bool m) (.bool n):=rfl;rw[this,Bj,dq,eU.ik R];rfl
def arn(R:P.underlying X=U .bool)(m n:Bool):(binOp .eql X (.bool m) (.bool n)).run P W=.ok (.bool (m==n)) W:=by
 show((Dj X (.bool m) (.bool n))>>=λb=>(pure (.bool b):Sem Value)).run P W=_;rw[dq,afN R];rfl
def aro(R:P.underlying X=U .bool)(m n:Bool):(binOp .neq X (.bool m) (.bool n)).run P W=.ok (.bool !(m==n)) W:=by
 show((Dj X (.bool m) (.bool n))>>=λb=>(pure (.bool !b):Sem Value)).run P W=_;rw[dq,afN R];rfl
def Xn(R:i7 P u)(h:L6 (u X)=J):∃a b c,P.underlying X=U (.func a b c):=by
 unfold L6 at h;split at h;rename_i k q Q;obtain⟨d,N,⟨-,M⟩,-,-⟩:=(R _ _ Q).desc;obtain⟨a,b,c,rfl⟩:=M k rfl;exact⟨a,b,c,N⟩;cases h
def Xo{x y:Operand}{Q:_}{N:_}{M:_}(L:P.underlying X=U (.func Q N M))(v:Value)(n:Bool)(R:(v=.nilFunc/\n=J)\/(∃f a b,v=.func f a b)/\n=E):
  (do eqGuard .eql X x y v .nilFunc;binOp .eql X v .nilFunc).run P W=.ok (.bool n) W/\(do eqGuard .neq X x y v .nilFunc;binOp .neq X v .nilFunc).run P W=.ok (.bool !n) W:=by
 have H:(Dj X v .nilFunc).run P W=.ok n W:=by
  have G:Dj X v .nilFunc=Bj (9999+1) X v .nilFunc:=rfl;rw[G,Bj,dq,eU.ik L,dl];rcases R with⟨rfl,rfl⟩|⟨⟨f,a,b,rfl⟩,rfl⟩<;>rfl
 rcases R with⟨rfl,rfl⟩|⟨⟨f,a,b,rfl⟩,rfl⟩<;>constructor<;>simp[eqGuard,binOp,H]
def afO{e:K}:∀{ks:bq}{vs:av},vs.all Ig=J->Y ks=Y vs->
  (kh (e.ah O) ks (C.aF O V vs)=.nilFunc/\(Bn e ks vs).ah O=J)\/((∃f a b,kh (e.ah O) ks (C.aF O V vs)=.func f a b)/\(Bn e ks vs).ah O=E)
 |[],[],_,_=>.inl ⟨rfl,rfl⟩
 |[],_::_,_,h=>by simp at h
 |_::_,[],_,h=>by simp at h
 |k::ks,v::vs,R,M=>by
  simp only[LU,az] at R;have N:=afO (e:=e) (ks:=ks) (vs:=vs) R.2 (by simpa using M);have Q:=R.1;unfold Ig at Q;split at Q;rename_i g L;simp only[C.aF,C.ah,kh,Bn,BE.ah,gX,K.ah];by_cases X:e.ah O=k;right;simp[X,iX];simp only[X,ga,dv];exact N;simp only[C.aF,C.ah,kh,Bn,BE.ah,gX,K.ah];by_cases X:e.ah O=k;left;simp[X,RE.ah,RE.rv,iX];simp only[X,ga,dv];exact N;cases Q
def arp(R:aC G H D u V O s a W)(l:i7 P u)(hg:eL B O){z:BinOp}{t2:TypeId}{y:Operand}(ho:F.op=.binOp z X r y t2)(hk:(s.ev B r).eJ=E)(ab:(s.ev B y).eJ=E)
  (h:(ck u B s (.binOp z X r y t2)).gives O M):(execOp a.eval F).run P W=.ok (.value (M.ah O V)) W:=by
 have he:=du R hg r hk;have ac:=du R hg y ab;simp only[execOp,ho];rw[dq,he,ac];simp only[ck] at h;split at h;rename_i k m k' n Q N;rw[Q,N];split at h;rename_i af;have ag:z=.shr:=by cases z<;>simp[ae9] at af;rfl
 subst ag;split at h;rename_i n;split at h;rename_i A;have aa:¬n<0:=by simp only[cF] at A;omega
 cases h;simp only[C.ah,MC,K.ah];rw[dq,afL,dl];simp[binOp,Op.shift,aU,aa];exact h.elim;exact h.elim;split at h;exact h.elim;rename_i al;have an:k=k':=by simpa using al
 subst an;simp only[C.ah];rw[dq,afL,dl];split at h;rename_i hc;cases h;simp only[ark z hc,dl,eX,C.ah,BK];split at h;rename_i hc;cases h;simp only[arl z hc,dl,eX,C.ah,MC];split at h;rename_i hc;split at h;rename_i n;split at h;exact h.elim;rename_i A;cases h;have aa:n≠0:=by simpa using A
 simp only[C.ah,MC,K.ah];rw[afK z hc _ _ _ _ aa];rfl;obtain⟨hb,rfl⟩:=h;rw[BK] at hb;have aa:n.ah O≠0:=by simpa[gX,K.ah] using hb
 simp only[C.ah,MC];rw[afK z hc _ _ _ _ aa];rfl;exact h.elim;rename_i m n Q N;rw[Q,N];simp only[C.ah];rw[dq,arm,dl];split at h;rename_i q j;cases h;obtain⟨d,L,-,-,hb⟩:=(l _ _ j).desc;rw[hb rfl] at L;rw[arn L];simp[C.ah,Xi];rename_i q j;cases h;obtain⟨d,L,-,-,hb⟩:=(l _ _ j).desc;rw[hb rfl] at L;rw[aro L];simp[C.ah,Xi,MD];exact h.elim;rename_i Q N;rw[Q,N];split at h;exact h.elim;rename_i w;obtain⟨d1,d2,d3,L⟩:=Xn l (by simpa using w);obtain⟨q1,q2⟩:=Xo (x:=r) (y:=y) (W:=W) L .nilFunc J (.inl ⟨rfl,rfl⟩);have A:C.ah O V (.am (.k .nilFunc))=.nilFunc:=rfl;rw[A];split at h;cases h;rw[q1];rfl;cases h;rw[q2];rfl;exact h.elim;rename_i m n a3 Q N;rw[Q,N];split at h;rename_i i g;cases h;obtain⟨p,c⟩:=DA R i;obtain⟨q,b⟩:=DA R g;simp only[C.ah,c,b];rw[dq,afM,dl];unfold RE.ah at c b;simp[binOp,Op.stringOp,BE.ah,c,b,sy];rename_i i g;cases h;obtain⟨p,c⟩:=DA R i;obtain⟨q,b⟩:=DA R g;simp only[C.ah,c,b];rw[dq,afM,dl];unfold RE.ah at c b;simp[binOp,Op.stringOp,BE.ah,c,b,sy];exact h.elim;rename_i f a0 Q N;rw[Q,N];split at h;exact h.elim;rename_i w;obtain⟨d1,d2,d3,L⟩:=Xn l (by simpa using w);obtain⟨q1,q2⟩:=Xo (x:=r) (y:=y) (W:=W) L ((C.fn f a0).ah O V) E (.inr ⟨⟨_,_,_,rfl⟩,rfl⟩);have A:C.ah O V (.am (.k .nilFunc))=.nilFunc:=rfl;rw[A];split at h;cases h;rw[q1];rfl;cases h;rw[q2];rfl;exact h.elim;rename_i e ks vs Q N;rw[Q,N];split at h;rename_i w;simp only[az,dv] at w;obtain⟨d1,d2,d3,L⟩:=Xn l w.2;have a1:=afO (O:=O) (V:=V) (e:=e) w.1.1 w.1.2;obtain⟨q1,q2⟩:=Xo (x:=r) (y:=y) (W:=W) L (kh (e.ah O) ks (C.aF O V vs)) ((Bn e ks vs).ah O) a1;have A:C.ah O V (.am (.k .nilFunc))=.nilFunc:=rfl;rw[A,C.ah];split at h;cases h;rw[q1];rfl;cases h;rw[q2];simp[C.ah,MD];exact h.elim;exact h.elim;rename_i m n Q N;rw[Q,N];simp only[C.ah];split at h;rename_i e he;cases h;obtain⟨ao,d,j,i,g,h3⟩:=afI R he;have:=((l _ _ j).eq rfl _ _ _ r y W i g h3).1;rw[this];rfl;rename_i e he;cases h;obtain⟨ao,d,j,i,g,h3⟩:=afI R he;have:=((l _ _ j).eq rfl _ _ _ r y W i g h3).2;rw[this];simp[C.ah,MD];exact h.elim;exact h.elim
end
section
variable{d:aw}{g:World}{D:b9}{P:Program}{b:Ty}{B:mD}{V:aw}{O:ak}{s:S}{a:Act}{W:World}
def QY(X:∀r:RE,r.Ft=J->iX (r.ah O)=J)(h:M.Fu=J):(M.ah O V).cells.toList=C.aF O V M.cells:=by
 cases M with
 |agg l=>simp[C.ah,C.cells,Value.cells]
 |am r=>
  have:iX (r.ah O)=true:=X r (by cases r<;>simp_all[C.Fu,RE.Ft]);simp only[C.ah,C.cells,C.aF];revert this;cases r.ah O<;>simp[iX,Value.cells]
 |fW e R Q=>
  simp only[C.ah,C.cells,C.aF];exact aq4 (Xf _ _ _)
 |_=>simp[C.ah,C.cells,Value.cells,C.aF,undef]
def afP:∀(M l:av)(R:Nat),C.aF O V (kU l R M)=(C.aF O V M).zipIdx.foldl (λQ x=>Q.set (R+x.2) x.1) (C.aF O V l)
 |[],l,R=>by simp[kU,C.aF]
 |v::M,l,R=>by
  rw[kU,afP M (l.set R v) (R+1)];simp only[C.aF,List.zipIdx_cons,Dg,xN,iJ];rw[show C.aF O V (l.set R v)=(C.aF O V l).set R (v.ah O V) by simp[oU]];generalize(C.aF O V l).set R (v.ah O V)=X;have:∀(N:gc)(n:Nat)(X:gc),(N.zipIdx n).foldl (λQ x=>Q.set (R+1+x.2) x.1) X=(N.zipIdx (n+1)).foldl (λQ x=>Q.set (R+x.2) x.1) X:=by
   intro N;induction N with
   |nil=>intro n X;rfl
   |cons w N L=>intro n X;simp only[List.zipIdx_cons,Dg];rw[L,show R+1+n=R+(n+1) from ae]
  exact this _ 0 X
def afQ:∀(l:List (Value×Nat))(R:Nat)(X:lW),(l.foldl (λQ (x:Value×Nat)=>Q.setIfInBounds (R+x.2) x.1) X).toList=l.foldl (λQ x=>Q.set (R+x.2) x.1) X.toList
 |[],_,_=>rfl
 |x::l,R,X=>by simp only[Dg];rw[afQ l R];simp
def MF(R:∀r:RE,r.Ft=J->iX (r.ah O)=J)(place:Nat->Option (Nat×Nat)):∀(parts:List (Nat×C))(cells l:av),xP place cells parts=U l->
  Instr.fill place (C.aF O V cells).toArray (parts.map λp=>(p.1,p.2.ah O V))=U (C.aF O V l).toArray
 |[],cells,l,h=>by simp[xP] at h;simp[Instr.fill,h]
 |(i,v)::L,cells,l,h=>by
  simp only[xP] at h;cases X:place i with
  |none=>rw[X] at h;cases h
  |some q=>
   obtain⟨Q,H⟩:=q;rw[X] at h;simp only at h;split at h;cases h;rename_i N;simp only[jd,bne_iff_ne,cF,gO,not_or,Fh,Decidable.not_not,Nat.not_lt] at N;obtain⟨⟨G,y⟩,F⟩:=N;have M:=QY (V:=V) R F;have B:(v.ah O V).cells.size=H:=by rw[<-Dc,M];simp[G]
   simp only[eE,Instr.fill,X,B];rw[aK dF];have A:=MF R place L _ l h;rw[<-A];congr 1;apply mC;have e:((v.ah O V).cells.zipIdx.foldl (λz (x:Value×Nat)=>z.setIfInBounds (Q+x.2) x.1) (C.aF O V cells).toArray).toList=C.aF O V (kU cells Q v.cells):=by
    rw[<-aDw,afQ,afP,Array.toList_zipIdx,M]
   simpa using e
def arq(c:CT):(Bl c).ah O V=qu c:=by cases c<;>simp[Bl,C.ah,qu,K.ah,BE.ah,RE.ah,RE.rv]
def afR(X:TI):C.aF O V (dZ X)=X.ao.map qu:=by
 simp only[dZ,oU,oc];congr 1;funext c;exact arq c
def IQ(h:eU P X v):∃z,(zeroValue X).run P W=.ok z W/\z.cells=(C.aF O V (dZ v)).toArray:=by
 obtain⟨i,R,-,z,Q,N⟩:=h.IL;exact⟨z,by simp[zeroValue,typeInfo,R,Q],by rw[afR,<-N]⟩
def ars(R:aC d g D b V O s a W)(H:i7 P b)(hg:eL B O){parts:Array (Nat×Operand)}(ho:F.op=.build X parts)(hk:∀p∈parts.toList,(s.ev B p.2).eJ=E)
  (h:(ck b B s (.build X parts)).gives O M):(execOp a.eval F).run P W=.ok (.value (M.ah O V)) W:=by
 have c:(parts.map λ(i,x)=>(i,a.eval x)).toList=(parts.toList.map λp=>(p.1,s.ev B p.2)).map λp=>(p.1,p.2.ah O V):=by
  simp only[wh,oc];apply kb;intro p hp;simp[du R hg p.2 (hk p hp)]
 simp only[execOp,ho,dq];simp only[ck] at h;split at h;rename_i y ao q G;split at h;exact h.elim;rename_i u;have u:∀f∈y,(b f.2).isSome=true:=by
  have:(y.all λf=>(b f.2).isSome)=true:=by simpa only[gO,Fh] using u
  exact fp.1 this
 split at h;rename_i l N;cases h;obtain⟨Q,hF,aa⟩:=(H _ _ G).desc;obtain⟨z,r,k⟩:=IQ (P:=P) (W:=W) (O:=O) (V:=V) (H _ _ G);have ac:∀(L:List Field),(∀f∈L,∃A,b f.type=U A)->(L.mapM (m:=Sem) λf=>do pure (f.offset,<-Go.sizeOf f.type)).run P W=.ok (L.map λf=>(f.offset,((b f.type).map (·.ao.length)).getD 0)) W:=by
  intro L hL;induction L with
  |nil=>rfl
  |cons f L ih=>
   obtain⟨A,w⟩:=hL f ay;have:=ih (λf N=>hL f (by simp[N]));simp only[aqF,dq,(H _ _ w).ng,dl,eX,this,eE,w,dV,oJ]
 have ab:∀f∈Q.toList,∃A,b f.type=U A:=by
  intro f N;have:(f.offset,f.type)∈y:=by rw[<-aa];exact hJ.2 ⟨f,N,rfl⟩
  have:=u _ this;exact kD.1 this
 have hm:=ac Q.toList ab;have j:=MF (V:=V) (uZ R) _ _ _ _ N;simp only[Instr.build,dq,r,dl,eU.ik hF,aDc,Sem.run_map,hm,c,k];have af:(λi=>(Q.toList.map λf=>(f.offset,((b f.type).map (·.ao.length)).getD 0)).toArray[i]?)=WC b y:=by
  funext i;rw[<-aa,WC];simp only[aeR,dN];cases hi:Q.toList[i]? with
  |none=>simp
  |some f=>
   obtain⟨A,w⟩:=ab f (jm hi);simp[w]
 rw[af,j];simp[C.ah];exact h.elim;rename_i n e ao q G;split at h;rename_i te ag;split at h;rename_i l N;cases h;obtain⟨z,r,k⟩:=IQ (P:=P) (W:=W) (O:=O) (V:=V) (H _ _ G);have hd:P.underlying X=U (.array n e):=(H _ _ G).desc;have j:=MF (V:=V) (uZ R) _ _ _ _ N;simp only[Instr.build,dq,r,dl,eU.ik hd,(H _ _ ag).ng,c,k,j];simp[C.ah];exact h.elim;exact h.elim;exact h.elim
def art(R:aC d g D b V O s a W)(H:i7 P b)(w:eL B O){Q L u:Option Operand}(f:F.op=.slice X r Q L u)(c:(s.ev B r).eJ=E)(aa:∀y,Q=U y->(s.ev B y).eJ=E)
  (h:(ck b B s (.slice X r Q L u)).gives O M):(execOp a.eval F).run P W=.ok (.value (M.ah O V)) W:=by
 have he:=du R w r c;simp only[execOp,f,dq,he];simp only[ck] at h;split at h;rename_i n e ao q i ag ht hx;rw[hx];have p:P.underlying X=U (.array n e):=(H _ _ ht).desc;split at h;rename_i te G N A;cases h;have ab:Q=none:=by simpa using N
 have z:L=none:=by simpa using A
 subst ab z;simp[C.ah,Instr.sliceAt,eU.ik p,Instr.sureAddr,Instr.sliceBounds,(H _ _ G).ng,wI];rename_i te k l G N A;split at h;rename_i m;cases h;simp only[az,cF] at m;have z:L=none:=by simpa using A
 subst z;cases Q with
 |none=>cases N
 |some y=>
  simp only[dV,cG] at N;have j:=du R w y (aa y rfl);rw[N] at j;have ac:l<=n:=ae;have af:¬n=l.toNat:=ae;simp[C.ah,K.ah,Instr.sliceAt,eU.ik p,Instr.sureAddr,Instr.sliceBounds,Instr.sliceBound,asIntOf,j,m.1,ac,(H _ _ G).ng,wI,af]
 exact h.elim;exact h.elim;exact h.elim
def aru(R:aC d g D b V O s a W)(y:i7 P b)(p:eL B O){c:Call}(m:F.op=.call c)(u:c.callee=.builtin .len)(k:∀x∈c.args.toList,(s.ev B x).eJ=E)
  (h:(ck b B s (.call c)).gives O M):(execOp a.eval F).run P W=.ok (.value (M.ah O V)) W:=by
 have j:c.args.map a.eval=((c.args.toList.map (s.ev B)).map (C.ah O V)).toArray:=by
  apply mC;simp only[wh,oc];exact kb λx f=>du R p x (k x f)
 simp only[execOp,m,resolve,u,dq,eX,dl,invoke,builtin,j];simp only[ck,u] at h;split at h;rename_i t L H;have N:c.argTypes[0]?=U t:=by have:=jW (λl=>l[0]?) L;simpa using this
 rw[H];split at h;rename_i e ao q X;cases h;have Q:P.underlying t=U (.slice e):=(y _ _ X).desc;simp[Builtin.len_,N,C.ah,K.ah,RE.ah,RE.rv,eU.ik Q,goInt];exact h.elim;rename_i t r aa L H;have N:c.argTypes[0]?=U t:=by have:=jW (λl=>l[0]?) L;simpa using this
 rw[H];split at h;rename_i e ao q e' X w;cases h;have Q:P.underlying t=U (.slice e):=(y _ _ X).desc;obtain⟨A,l,cc,G⟩:=ME R w;have z:=G;unfold RE.ah at z;simp[Builtin.len_,N,C.ah,K.ah,G,z,eU.ik Q,lenOf,goInt];rename_i ao q X w;cases h;have Q:P.underlying t=U .string:=(y _ _ X).desc;obtain⟨ab,G⟩:=DA R w;have z:=G;unfold RE.ah at z;simp[Builtin.len_,N,C.ah,K.ah,G,z,eU.ik Q,lenOf,goInt];exact h.elim;rename_i t i ac n af L H;have N:c.argTypes[0]?=U t:=by have:=jW (λl=>l[0]?) L;simpa using this
 rw[H];split at h;rename_i e ao q X;cases h;have Q:P.underlying t=U (.slice e):=(y _ _ X).desc;simp[Builtin.len_,N,C.ah,K.ah,eU.ik Q,goInt];exact h.elim;exact h.elim
def afS(R:aC d g D b V O s a W)(G:eL B O){c:Call}(L:F.op=.call c)(X:c.callee=.builtin .min\/c.callee=.builtin .max)(A:∀x∈c.args.toList,(s.ev B x).eJ=E)
  (h:(ck b B s (.call c)).gives O M):(execOp a.eval F).run P W=.ok (.value (M.ah O V)) W:=by
 have H:c.args.map a.eval=((c.args.toList.map (s.ev B)).map (C.ah O V)).toArray:=by
  apply mC;simp only[wh,oc];exact kb λx z=>du R G x (A x z)
 rcases X with X|X;simp only[execOp,L,resolve,X,dq,eX,dl,invoke,builtin,H];simp only[ck,X] at h;split at h;rename_i k x l Q;rw[Q];split at h;rename_i e N;cases h;have:=Xj (P:=P) (W:=W) (O:=O) (V:=V) E k l x e N;simp only[iW,ga] at this;simp only[eE,C.ah,Builtin.min_,<-oU,this,dl];exact h.elim;exact h.elim;simp only[execOp,L,resolve,X,dq,eX,dl,invoke,builtin,H];simp only[ck,X] at h;split at h;rename_i k x l Q;rw[Q];split at h;rename_i e N;cases h;have:=Xj (P:=P) (W:=W) (O:=O) (V:=V) J k l x e N;simp only[cS] at this;simp only[eE,C.ah,Builtin.max_,<-oU,this,dl];exact h.elim;exact h.elim
end
section
variable{g:aw}{A:World}{D:b9}{P:Program}{f:Ty}{B:mD}{V:aw}{O:ak}{s:S}{a:Act}{W:World}
def Xp{l:bq}(h:t=E->Y l=1):wH (gL t l)=l:=by
 cases t;obtain⟨x,rfl⟩:=oa.1 (h rfl);rfl;simp[gL,wH,Function.comp_def,bS]
def Xq{x y z:K}(h:Fz R t M=U (x,y,z)):M.ah O V=gL t ([x.ah O,y.ah O,z.ah O].take R)/\([x.ah O,y.ah O,z.ah O].take R).length=R:=by
 unfold Fz at h;split at h;split at h;rename_i X;cases h;simp only[az,dv,gO] at X;obtain⟨rfl,rfl⟩:=X;simp[gL,C.ah];cases h;split at h;rename_i X;cases h;simp only[az,dv] at X;obtain⟨rfl,rfl⟩:=X;simp[gL,C.ah,C.aF];cases h;split at h;rename_i X;cases h;simp only[az,dv] at X;obtain⟨rfl,rfl⟩:=X;simp[gL,C.ah,C.aF];cases h;split at h;rename_i X;cases h;simp only[az,dv] at X;obtain⟨rfl,rfl⟩:=X;simp[gL,C.ah,C.aF];cases h;cases h
def Xr:∀{l:sd}{m:Nat}{e:MapEntry},e∈gu m l->∃p∈l,e.key=p.1
 |[],m,e,h=>by simp[gu] at h
 |x::r,m,e,h=>by
  simp only[gu,dP] at h;rcases h with rfl|h;exact⟨x,ay,rfl⟩;obtain⟨p,X,R⟩:=Xr h;exact⟨p,by simp[X],R⟩
def DB(n:Nat)(X:aH):Prop:=∃l:bq,Y l=n/\X.take n=l.map λx=>.mk (.int I x) []
def MG{ag:Bool}(M:ag=E->R=1){X:aH}(h:DB R X):∃l:bq,Y l=R/\qp ag (X.take R)=gL ag l/\(X.take R).map (λc=>bS c.val)=l:=by
 obtain⟨l,Q,N⟩:=h;refine⟨l,Q, ?_,by rw[N];simp[Function.comp_def,bS]⟩;rw[N];cases ag;obtain⟨x,rfl⟩:=oa.1 (Q.trans (M rfl));rfl;simp[qp,gL,Function.comp_def]
def afT{n:Nat}{Q va:Bool}(N:Q=E->n=1){R:bq}(H:(R.take n).length=n):∀{rows:ax}{m i:Nat},(∀X∈rows,DB n X)->
  (iE n R rows=Z/\nN (R.take n) (gu m (rows.map (uX n Q va))) i=Z)\/∃X j,iE n R rows=U X/\X∈rows/\nN (R.take n) (gu m (rows.map (uX n Q va))) i=U (j,qp va (X.drop n))
 |[],m,i,_=>.inl ⟨rfl,rfl⟩
 |X::rows,m,i,h=>by
  obtain⟨l,G,F,B⟩:=MG (ag:=Q) N (h X ay);simp only[iE,H8,eE,gu,nN,uX,F];rw[Xp (λe=>G.trans (N e))];have A:kY n R X=decide (l=R.take n):=by simp only[kY,B]
  rw[A];by_cases L:l=R.take n;right;simp only[L,decide_true,cS];exact⟨X,i,rfl,ay,rfl⟩;simp only[L,decide_false,ga];rcases afT (rows:=rows) (m:=m+1) (i:=i+1) (va:=va) N H (λr z=>h r (by simp[z])) with M|⟨r,j,M,y,x⟩;exact .inl M;exact .inr ⟨r,j,M,by simp[y],x⟩
def afU(O:ak)(V:aw){k e:TypeId}(F:P.underlying X=U (.map k e))(B:tT P k R t)(A:eU P e v){l:sd}(y:W.heap[Q]?=U (pG l)){L:bq}(u:Y L=R)
  (q:∀p∈l,∃M:bq,Y M=R/\p.1=gL t M)(H:Bool):
  ∃z,(zeroValue e).run P W=.ok z W/\(Instr.lookup X (.map (U Q)) (gL t L) H).run P W=.ok (let r:=match nN L (gu 0 l) 0 with
   |U (_,N)=>(N,J)
   |none=>(z,E);if H then .tuple #[r.1,.bool r.2] else r.1) W:=by
 obtain⟨z,G,aa⟩:=IQ (P:=P) (W:=W) (O:=O) (V:=V) A;refine⟨z,G, ?_⟩;have o:∀x∈gu 0 l,∃M:bq,Y M=R/\x.key=gL t M:=λx m=>by
  obtain⟨p,i,h⟩:=Xr m;obtain⟨M,g,f⟩:=q p i;exact⟨M,g,h.trans f⟩
 obtain⟨d,c⟩:=B.2 L (gu 0 l) W u o;have hg:=MapKept.run_getObj_map (P:=P) (w:=W) y;simp only[Instr.lookup,dq,eU.ik F,dl,hg,eX,d,c];cases hf:nN L (gu 0 l) 0 with
 |none=>simp[G]
 |some p=>obtain⟨j,N⟩:=p;simp
structure F7(f:Ty)(sh:Sh)(row:aH):Prop where
 len:Y row=(bD f (.mr sh)).length
 int:∀(j:Nat)(c:RV)(k:IntKind),row[j]?=U c->(bD f (.mr sh))[j]?=U (.int k)->∃n,c=.mk (.int k n) []
 bool:∀(j:Nat)(c:RV),row[j]?=U c->(bD f (.mr sh))[j]?=U .bool->∃x,c=.mk (.bool x) []
def arv{R:Sh}(h:bJ W f (.mr R) L):∀X∈L.aj,F7 f R X:=by
 cases h with
 |mr R A H G F z=>
  intro X B;obtain⟨i,Q⟩:=qW B;exact⟨H i X Q,λj c k N M=>G i j X c k Q N M,λj c N M=>F i j X c Q N M⟩
def F8(R:aC g A D f V O s a W){X:Sh}{r:RE}(h:r.qh f s X=J):∀Q∈(r.rv O).aj,F7 f X Q:=by
 unfold RE.qh at h;rcases aqp.1 h with h|h;exact arv (rm R ay (tH h));unfold RE.nil at h;split at h;intro Q N;simp[RE.rv] at N;cases h
def IR{e:TypeId}{va:Bool}(Q:sf f X R t=J)(M:f e=U v):∃N:eQ,bD f (.mr ⟨X,e,R,t,va⟩)=N++v.ao/\Y N=R/\∀c∈N,c=.int I:=by
 unfold sf at Q;split at Q;rename_i tk L;simp only[az,dv] at Q;refine⟨tk.ao,by simp[bD,L,M],Q.1.1,λc H=> ?_⟩;have:=fp.1 Q.1.2 c H;unfold WE at this;split at this;rfl;cases this;cases Q
def IS{e:TypeId}{N:Bool}(G:sf f X R t=J)(F:f e=U v){Q:aH}(h:F7 f ⟨X,e,R,t,N⟩ Q):DB R Q:=by
 obtain⟨u,M,B,A⟩:=IR (va:=N) G F;have z:=h.len;rw[M,gD,B] at z;refine⟨(Q.take R).map λc=>bS c.val,dF, ?_⟩;apply ke;intro j;rw[dN,dN,mB];by_cases L:j<R;rw[aI L];have H:j<Y Q:=ae;rw[cK H];have y:(bD f (.mr ⟨X,e,R,t,N⟩))[j]?=U (.int I):=by
  rw[M,dU ae,cK ae];congr 1;exact A _ (pA _)
 obtain⟨x,w⟩:=h.int j _ I (cK H) y;simp only[dV,w,RV.mH,bS];rw[aK L];rfl
def Xs{r:RE}{n:Nat}{x y z:K}{R:aH}(L:iE n [x.ah O,y.ah O,z.ah O] (r.rv O).aj=U R):∀{ao:eQ}{j:Nat},ao.all mE=J->Y R=j+Y ao->
  (∀(i:Nat)(k:IntKind),ao[i]?=U (.int k)->∃m,R[j+i]?=U (.mk (.int k m) []))->(∀(i:Nat),ao[i]?=U .bool->∃m,R[j+i]?=U (.mk (.bool m) []))->
  C.aF O V (qi r n x y z j ao)=(R.drop j).map RV.val
 |[],j,_,Q,_,_=>by rw[aql (by simp at Q;omega)];rfl
 |.int k::ao,j,N,Q,H,G=>by
  obtain⟨m,X⟩:=H 0 k rfl;have F:=Xs L (ao:=ao) (j:=j+1) (by simpa[mE] using N) (by simp at Q⊢;omega) (λi k h=>by have:=H (i+1) k (by simpa using h);rwa [show j+(i+1)=j+1+i from ae] at this) (λi h=>by have:=G (i+1) (by simpa using h);rwa [show j+(i+1)=j+1+i from ae] at this);have B:R.drop j=.mk (.int k m) []::R.drop (j+1):=by
   rw[xN] at X;have M:=(bZ.1 X).1;rw[E8 M];congr 1;rw[cK M] at X;simpa using X
  rw[xN] at X;simp only[qi,C.aF,C.ah,K.ah,L,F,B,eE,RV.mH,dB,X,oJ,bS]
 |.bool::ao,j,N,Q,H,G=>by
  obtain⟨m,X⟩:=G 0 rfl;have F:=Xs L (ao:=ao) (j:=j+1) (by simpa[mE] using N) (by simp at Q⊢;omega) (λi k h=>by have:=H (i+1) k (by simpa using h);rwa [show j+(i+1)=j+1+i from ae] at this) (λi h=>by have:=G (i+1) (by simpa using h);rwa [show j+(i+1)=j+1+i from ae] at this);have B:R.drop j=.mk (.bool m) []::R.drop (j+1):=by
   rw[xN] at X;have M:=(bZ.1 X).1;rw[E8 M];congr 1;rw[cK M] at X;simpa using X
  rw[xN] at X;simp only[qi,C.aF,C.ah,BE.ah,L,F,B,eE,RV.mH,dB,X,oJ,jp]
 |.ai _ _::ao,j,N,_,_,_=>by simp[mE] at N
def Xt{r:RE}{n:Nat}{x y z:K}(R:iE n [x.ah O,y.ah O,z.ah O] (r.rv O).aj=Z):∀{ao:eQ}{j:Nat},ao.all mE=J->C.aF O V (qi r n x y z j ao)=ao.map qu
 |[],j,_=>rfl
 |.int k::ao,j,X=>by
  simp only[qi,C.aF,C.ah,K.ah,R,eE,qu,Xt R (ao:=ao) (j:=j+1) (by simpa[mE] using X)]
 |.bool::ao,j,X=>by
  simp only[qi,C.aF,C.ah,BE.ah,R,eE,qu,Xt R (ao:=ao) (j:=j+1) (by simpa[mE] using X)]
 |.ai _ _::ao,j,X=>by simp[mE] at X
def QZ{r:RE}{n:Nat}{x y z:K}:∀{ao:eQ}{j:Nat},(qi r n x y z j ao).length=Y ao
 |[],j=>rfl
 |.int _::ao,j=>by simp[qi,QZ (ao:=ao)]
 |.bool::ao,j=>by simp[qi,QZ (ao:=ao)]
 |.ai _ _::ao,j=>by simp[qi,QZ (ao:=ao)]
def Xu(h:eU P X v)(R:(zeroValue X).run P W=.ok c W):c=if v.d.isAgg then .agg (v.ao.map qu).toArray else(v.ao.map qu).headD undef:=by
 obtain⟨i,Q,-,M,N,L⟩:=h.IL;have H:c=M:=by simp[zeroValue,typeInfo,Q,N] at R;exact R.symm
 subst H;have G:=h.afx i c Q N;rw[<-G,<-L];cases c<;>simp[QQ,Value.cells]
def zR(h:eU P X v)(Q:v.d.isAgg=E):Y v.ao=1:=by
 obtain⟨i,N,H,z,M,L⟩:=h.IL;have:=h.afx i z N M;rw[Q] at this;have R:=jW Y L;simp only[qY] at R;rw[<-R];cases z<;>simp[QQ] at this<;>rfl
def IT:∀{R:av}{X:bq},qj R=U X->BG (C.aF O V R)=(X.zip (lX R)).map (λp=>(.int I p.1,p.2.ah O V))/\Y X=(lX R).length
 |[],X,h=>by simp[qj] at h;subst h;exact⟨rfl,rfl⟩
 |[v],X,h=>by unfold qj at h;split at h<;>simp_all
 |u::v::r,X,h=>by
  unfold qj at h;split at h;rename_i Q;cases Q;rename_i k H G Q;cases Q;cases N:qj r with
  |none=>rw[N] at h;cases h
  |some F=>
   rw[N] at h;simp only[dV,cG] at h;subst h;obtain⟨M,L⟩:=IT N;exact⟨by simp only[C.aF,C.ah,K.ah,BG,M,lX,Wj,eE],by simp[lX,L]⟩
  cases h
def afV{x:Int}:∀{ks:bq}{vs:av}{m i:Nat},(nN [x] (gu m ((ks.zip vs).map λp=>(.int I p.1,p.2.ah O V))) i).map (·.2)=(eG x ks vs).map (C.ah O V)
 |[],vs,m,i=>by simp[gu,nN,eG]
 |_::_,[],m,i=>by simp[gu,nN,eG]
 |k::ks,v::vs,m,i=>by
  simp only[Wj,eE,gu,nN,wH,wi,and_true,eG];by_cases h:x=k;subst h;simp;rw[aK (λe=>h e.symm),aK h];exact afV
def DC{r:RE}{X:Bool}:lE uO (C.dJ O V [.am r,.int I (.c (R:Int)),.bool (.c t),.bool (.c X)])=pG ((r.rv O).aj.map (uX R t X)):=by
 simp[lE,uO,tI,C.dJ,C.gK,C.ah,K.ah,BE.ah]
def DD:lE tI (C.dJ O V w)=pG (BG (C.aF O V w)):=by
 simp only[lE,cS,afv]
def arw(R:aC g A D f V O s a W)(a1:i7 P f)(hg:eL B O){ix:Operand}(ho:F.op=.lookup X r ix t)(hk:(s.ev B r).eJ=E)(b0:(s.ev B ix).eJ=E)
  (h:(ck f B s (.lookup X r ix t)).gives O M):(execOp a.eval F).run P W=.ok (.value (M.ah O V)) W:=by
 have he:=du R hg r hk;have b1:=du R hg ix b0;simp only[execOp,ho,dq,he,b1];simp only[ck] at h;split at h;rename_i k e n ag ao q i ht hx;rw[hx];have hd:P.underlying X=U (.map k e):=(a1 _ _ ht).desc;have hK:tT P k n ag:=(a1 _ _ ht).key k e n ag rfl;unfold Qm at h;split at h;rename_i N H xb xc bt cs g1 g2 g3;have aa:=a1 _ _ g1;split at h;exact h.elim;rename_i an;have an:sf f k n ag=true:=by simpa using an
 obtain⟨b2,a3⟩:=Xq (O:=O) (V:=V) g2;have ac:=R.mem.box i bt cs g3;simp only[C.ah,b2];split at h;rename_i af;simp only[dv] at af;subst af;split at h;rename_i Q nk ka va;split at h;rename_i bd;simp only[az,dv] at bd;obtain⟨⟨⟨⟨⟨c1,c2⟩,c3⟩,c4⟩,c5⟩,-⟩:=bd;subst c2 c3 c4;rw[DC] at ac;have bf:=F8 R c1;have bg:∀G∈(Q.rv O).aj,DB n G:=λG hr=>IS an g1 (bf G hr)
 obtain⟨z,hz,a4⟩:=afU O V hd hK aa ac a3 (λp hp=>by
  obtain⟨G,hr,rfl⟩:=hJ.1 hp;obtain⟨l,q1,q2,-⟩:=MG hK.1 (bg G hr);exact⟨l,q1,q2⟩) t
 rw[a4];simp only[Ql,PR.gives] at h;subst h;have a0:N.d.isAgg=E->(qi Q n H xb xc n N.ao).length=1:=λha=>by rw[QZ];exact zR aa ha
 rcases afT (m:=0) (i:=0) (va:=N.d.isAgg) hK.1 a3 bg with⟨f1,f2⟩|⟨G,j,f1,f2,f3⟩;have hv:(se N.d.isAgg (qi Q n H xb xc n N.ao)).ah O V=z:=by
  rw[BL a0,Xt f1 c5];exact(Xu aa hz).symm
 simp only[f2];cases t;simp only[iW,ga,hv];rfl;simp only[cS,C.ah,C.aF,hv,BE.ah,f1];rfl;obtain⟨kc,r1,r2,r3⟩:=IR (va:=N.d.isAgg) an g1;have a9:=bf G f2;have b3:Y G=n+Y N.ao:=by rw[a9.len,r1,gD,r2]
 have bk:∀(m:Nat)(ct:CT),N.ao[m]?=U ct->(bD f (.mr ⟨k,e,n,_,N.d.isAgg⟩))[n+m]?=U ct:=λm ct hm=>by
  rw[r1,iC ae,r2,show n+m-n=m from ae];exact hm
 have bl:∀(m:Nat)(ct:CT),N.ao[m]?=U ct->∃c,G[n+m]?=U c:=λm ct hm=>by
  have:m<Y N.ao:=(bZ.1 hm).1;exact⟨G[n+m]' ae,cK _⟩
 have b4:=Xs (V:=V) f1 (ao:=N.ao) (j:=n) c5 b3 (λm kk hm=>by
  obtain⟨c,hc⟩:=bl m _ hm;obtain⟨x',ba⟩:=a9.int (n+m) c kk hc (bk m _ hm);exact⟨x',by rw[hc,ba]⟩) (λm hm=>by
  obtain⟨c,hc⟩:=bl m _ hm;obtain⟨x',ba⟩:=a9.bool (n+m) c hc (bk m _ hm);exact⟨x',by rw[hc,ba]⟩)
 have hv:(se N.d.isAgg (qi Q n H xb xc n N.ao)).ah O V=qp N.d.isAgg (G.drop n):=by
  rw[BL a0,b4,qp];cases b5:N.d.isAgg;have h1:=zR aa b5;obtain⟨c,hc⟩:=oa.1 (show(G.drop n).length=1 from dF);rw[hc];rfl;rfl
 simp only[f3];cases t;simp only[iW,ga,hv];rfl;simp only[cS,C.ah,C.aF,hv,BE.ah,f1];rfl;exact h.elim;exact h.elim;split at h;rename_i af;simp only[dv] at af;subst af;split at h;rename_i br;simp only[az,dv,gO] at br;obtain⟨rfl,rfl⟩:=br;rw[DD] at ac;split at h;rename_i v0 y L;simp only[Ql,PR.gives] at h;subst h;unfold afa at L;split at L;rename_i ks b6;obtain⟨p1,p2⟩:=IT (O:=O) (V:=V) b6;rw[p1] at ac;obtain⟨z,hz,a4⟩:=afU O V hd hK aa ac a3 (λp hp=>by
  obtain⟨u,b,rfl⟩:=hJ.1 hp;exact⟨[u.1],rfl,rfl⟩) t
 rw[a4];have ab:=afV (O:=O) (V:=V) (x:=H.ah O) (ks:=ks) (vs:=lX cs) (m:=0) (i:=0);have bs:(∀u,eG (H.ah O) ks (lX cs)=U u->v0.ah O V=u.ah O V/\y.ah O=J)/\(eG (H.ah O) ks (lX cs)=Z->v0.ah O V=z/\y.ah O=E):=by
  split at L;rename_i x0;simp only[K.ah] at*;split at L;rename_i u b;cases L;exact⟨λu' al=>by rw[b] at al;cases al;exact⟨rfl,rfl⟩,λhn=>by rw[b] at hn;cases hn⟩;rename_i b;cases L;refine⟨λu' al=>(by rw[b] at al;cases al),λ_=>⟨?_,rfl⟩⟩;rw[BL (λha=>by simp[dZ];exact zR aa ha),afR];exact(Xu aa hz).symm;rename_i ca;split at L;rename_i b7;cases bb:Bo H ks ((lX cs).map C.cells) 0 N.ao with
  |none=>rw[bb] at L;cases L
  |some l=>
   rw[bb] at L;simp only[dV,cG,Bh] at L;obtain⟨rfl,rfl⟩:=L;obtain⟨s0,s1,s2⟩:=QT (O:=O) (V:=V) bb;rw[QS] at s1 s2;have a0:N.d.isAgg=E->Y l=1:=λha=>by rw[s0];exact zR aa ha
   rw[BL a0,QU p2];refine⟨λu b=> ?_,λb=> ?_⟩;have bx:=fp.1 b7 u (IN b);have b8:Y u.cells=0+Y N.ao:=by
    simp only[zB,az,dv] at bx;omega
   rw[s1 u.cells (by rw[b];rfl) b8,b,QW (uZ R) bx];exact⟨rfl,rfl⟩;rw[s2 (by rw[b];rfl),b];exact⟨(Xu aa hz).symm,rfl⟩
  cases L
 have hL:[H.ah O,xb.ah O,xc.ah O].take 1=[H.ah O]:=rfl;rw[hL] at*;cases hp:eG (H.ah O) ks (lX cs) with
 |some u=>
  rw[hp] at ab;obtain⟨q1,q2⟩:=bs.1 u hp;cases hf:nN [H.ah O] (gu 0 ((ks.zip (lX cs)).map λp=>(.int I p.1,p.2.ah O V))) 0 with
  |none=>rw[hf] at ab;cases ab
  |some jv=>
   obtain⟨j,w⟩:=jv;rw[hf] at ab;simp only[dV,cG] at ab;subst ab;cases t;simp only[iW,ga,q1];rfl;simp only[cS,C.ah,C.aF,q1,q2];rfl
 |none=>
  rw[hp] at ab;obtain⟨q1,q2⟩:=bs.2 hp;cases hf:nN [H.ah O] (gu 0 ((ks.zip (lX cs)).map λp=>(.int I p.1,p.2.ah O V))) 0 with
  |some jv=>rw[hf] at ab;cases ab
  |none=>
   cases t;simp only[iW,ga,q1];rfl;simp only[cS,C.ah,C.aF,q1,q2];rfl
 cases L;exact h.elim;exact h.elim;exact h.elim;exact h.elim;exact h.elim
end
section
variable{j:aw}{u:World}{D:b9}{P:Program}{g:Ty}{B:mD}{V:aw}{O:ak}{s:S}{a:Act}{W:World}
def afW(R:aC j u D g V O s a W)(G:i7 P g)(N:eL B O)(o:Oper)(Q:∀x∈o.op.operands.toList,(s.ev B x).eJ=E)
  (h:(ck g B s o.op).gives O M):(execOp a.eval o).run P W=.ok (.value (M.ah O V)) W:=by
 cases X:o.op with
 |move x=>
  rw[X] at h Q;have H:=du R N x (Q x cL);simp only[ck,PR.gives] at h;simp[execOp,X,H,h]
 |assign x=>
  rw[X] at h Q;have H:=du R N x (Q x cL);simp only[ck,PR.gives] at h;simp[execOp,X,H,h]
 |pick c x y=>
  rw[X] at h Q;have A:=du R N c (Q c cL);have L:=du R N x (Q x cL);have hy:=du R N y (Q y cL);simp only[ck] at h;split at h;rename_i af;cases h;rw[af] at A;simp[execOp,X,A,L,C.ah,BE.ah,asBool];rename_i af;cases h;rw[af] at A;simp[execOp,X,A,hy,C.ah,BE.ah,asBool];exact h.elim
 |load t x=>rw[X] at h Q;exact are R G N X (Q x cL) h
 |fieldAddr t x f=>rw[X] at h Q;exact arf R G N X (Q x cL) h
 |field t x f=>rw[X] at h Q;exact arh R G N X (Q x cL) h
 |indexAddr t x y=>rw[X] at h Q;exact ari R G N X (Q x cL) (Q y cL) h
 |index t x y=>rw[X] at h Q;exact arj R G N X (Q x cL) (Q y cL) h
 |binOp op t x y t2=>rw[X] at h Q;exact arp R G N X (Q x cL) (Q y cL) h
 |unOp op t x=>
  rw[X] at h Q;have H:=du R N x (Q x cL);simp only[ck] at h;split at h;rename_i b L;cases h;simp[execOp,X,H,L,C.ah,Op.unary,MD];rename_i k e L;cases h;simp[execOp,X,H,L,C.ah,Op.unary,Op.intArith,MC,aU,K.ah];exact h.elim
 |convert t1 t2 x=>
  rw[X] at h Q;have H:=du R N x (Q x cL);simp only[ck] at h;split at h;rename_i k1 q1 k2 q2 k n h1 h2 L;cases h;obtain⟨d1,ab,-,ag,-⟩:=(G _ _ h1).desc;obtain⟨d2,ac,-,al,-⟩:=(G _ _ h2).desc;rw[ag _ rfl] at ab;rw[al _ rfl] at ac;simp[execOp,X,H,L,C.ah,convert,eU.ik ab,eU.ik ac,Conv.intToInt,K.ah];rename_i k1 q1 k2 q2 k n hn h1 h2 L;cases h;obtain⟨d1,ab,-,ag,-⟩:=(G _ _ h1).desc;obtain⟨d2,ac,-,al,-⟩:=(G _ _ h2).desc;rw[ag _ rfl] at ab;rw[al _ rfl] at ac;simp[execOp,X,H,L,C.ah,convert,eU.ik ab,eU.ik ac,Conv.intToInt,K.ah];exact h.elim
 |makeInterface t x=>
  rw[X] at h Q;have H:=du R N x (Q x cL);simp only[ck] at h;split at h;exact h.elim;rename_i ti a1 ht;cases h;have hd:=(G _ _ ht).desc;have aa:∀d,P.underlying t=U d->(∀m,d≠ .interface m)->(Instr.makeInterface t (a.eval x)).run P W=.ok (.iface t (a.eval x)) W:=by
   intro d h1 h2;simp only[Instr.makeInterface,dq,eU.ik h1,dl];cases d<;>first|rfl|exact aY rfl (h2 _)
  have:(Instr.makeInterface t (a.eval x)).run P W=.ok (.iface t (a.eval x)) W:=by
   obtain⟨d,ao,q⟩:=ti;cases d with
   |one=>obtain⟨d,h1,⟨h2,-⟩,-⟩:=hd;exact aa d h1 (λm z=>by rw[z] at h2;exact h2)
   |gJ=>exact aY rfl (a1 _ _)
   |str=>exact aa _ hd (λm z=>by cases z)
   |slice e=>exact aa _ hd (λm z=>by cases z)
   |arr n e=>exact aa _ hd (λm z=>by cases z)
   |struct fs=>obtain⟨F,h1,-⟩:=hd;exact aa _ h1 (λm z=>by cases z)
   |map k e=>exact aa _ hd (λm z=>by cases z)
  rw[H] at this;simp[execOp,X,H,this,C.ah];exact h.elim
 |makeFunc fn first a0=>
  rw[X] at h Q;simp only[ck] at h;split at h;rename_i f hf;cases h;have a3:first= #[]:=by apply mC;simpa using hf
  subst a3;have a4:a0.map a.eval=(C.aF O V (a0.toList.map (s.ev B))).toArray:=by
   apply mC;simp only[wh,oU,oc];exact kb λx L=>du R N x (Q x (by simp[io];simpa using L))
  simp[execOp,X,Instr.makeFunc,C.ah,a4];exact h.elim
 |extract x i=>
  rw[X] at h Q;have H:=du R N x (Q x cL);simp only[ck] at h;split at h;rename_i l L;split at h;rename_i y hy;simp only[PR.gives] at h;subst h;have:(C.aF O V l).toArray[i]?=U (M.ah O V):=by simp[sC,hy]
  simp[execOp,X,H,L,C.ah,Instr.extract,this,-aeR];exact h.elim;exact h.elim
 |nilCheck x=>
  rw[X] at h Q;have H:=du R N x (Q x cL);simp only[ck] at h;split at h;rename_i i a9 L;cases h;simp[execOp,X,H,L,C.ah];rename_i r w i a9 L;cases h;simp[execOp,X,H,L,C.ah];rename_i f l L;cases h;simp[execOp,X,H,L,C.ah];exact h.elim
 |slice t x lo hi mx=>
  rw[X] at h Q;exact art R G N X (Q x cL) (λy hy=>Q y (by subst hy;simp[io])) h
 |build t parts=>
  rw[X] at h Q;exact ars R G N X (λp hp=>Q p.2 (by simp[io];exact⟨p.1,by simpa using hp⟩)) h
 |lookup t x ix ok=>
  rw[X] at h Q;exact arw R G N X (Q x cL) (Q ix cL) h
 |call c=>
  rw[X] at h Q;have an:∀x∈c.args.toList,(s.ev B x).eJ=false:=λx L=>Q x (by simp[io,zw];exact .inr (by simpa using L))
  cases A:c.callee with
  |builtin b=>
   cases b with
   |len=>exact aru R G N X A an h
   |min=>exact afS R N X (.inl A) an h
   |max=>exact afS R N X (.inr A) an h
   |_=>simp only[ck,A,PR.gives] at h
  |value f=>simp only[ck,A,PR.gives] at h
  |invoke r m=>simp only[ck,A,PR.gives] at h
 |_=>rw[X] at h;simp only[ck,PR.gives] at h
end
section
variable{p:aw}{q:World}{D:b9}{P:Program}{f:Ty}{B:mD}{V:aw}{O:ak}{s:S}{a:Act}{W:World}
def zS{o:Obj}(h:N.heap[R]?=U o):R<N.heap.size:=(n9.1 h).1
def eF.world{X:uN}{R:BF}{W':World}(h:eF q D X y R N)(Q:∀(b:Nat)(o:Obj),N.heap[b]?=U o->(∀L t H,o≠ .cells L t H)->W'.heap[b]?=U o):eF q D X y R W':=
 ⟨h.len,h.qr,λn l r G F B=>let⟨a,b,c⟩:=h.dt n l r G F B;⟨a,Q _ _ b (λ_ _ _ h=>by cases h),c⟩,h.inj,let⟨A,a,z,b,c⟩:=h.ma;⟨A,a,z,b,λd M=>⟨Q _ _ (c d M).1 (λ_ _ _ h=>by cases h),(c d M).2⟩⟩⟩
def MH:Obj->Bool
 |.loop _|.deferred _=>J
 |_=>E
def afX{o:Obj}(h:MH o=J):∀X t R,o≠ .cells X t R:=λX t R e=>by subst e;cases h
def afY{o:Obj}(h:MH o=J):∀t l,o≠lE t l:=by
 intro t l e;subst e;unfold lE at h;split at h;cases h;split at h;split at h<;>cases h;split at h;split at h<;>cases h;cases h
def eF.aDI{X:uN}{R:BF}{Q:World}(h:eF q D X y R N)(M:∀(b:Nat)(o:Obj),N.heap[b]?=U o->MH o=J->Q.heap[b]?=U o):eF q D X y R Q:=
 ⟨h.len,h.qr,λn l r H G F=>let⟨a,b,c⟩:=h.dt n l r H G F;⟨a,M _ _ b rfl,c⟩,h.inj,let⟨B,a,A,b,c⟩:=h.ma;⟨B,a,A,b,λd L=>⟨M _ _ (c d L).1 rfl,(c d L).2⟩⟩⟩
def eF.below{X:uN}{R:BF}{Q:World}(h:eF q D X y R N)(L:Below N.heap.size N Q):eF q D X y R Q:=
 h.world λb o M _=>(L.block b (zS M)).trans M
def eF.cells{M:uN}{L:BF}{H:World}(h:eF q D M y L N){G:lW}{F:Nat×Nat}(B:N.heap[R]?=U (.cells G X F))(A:∀b,b≠R->b<N.heap.size->H.heap[b]?=N.heap[b]?):eF q D M y L H:=
 h.world λb o Q z=>(A b (λe=>by subst e;rw[B] at Q;cases Q;exact z _ _ _ rfl) (zS Q)).trans Q
def bJ.IU{B:World}(h:bJ N f z L)(y:∀b,dR f z L b->B.heap[b]?=N.heap[b]?)(hs:N.heap.size<=B.heap.size):bJ B f z L:=by
 induction h with
 |sl e A Q p M x w u g d ho t=>
  refine bJ.sl e A Q p M x w (λi H R=> ?_) g d (λi j H c X o R G n=>t i j H c X o R G n (λb r=>y b (dR.deep e _ _ i j H c X o b R G n r)));obtain⟨q1,b,m,rfl,⟨kj,t0,aa,q2⟩,q3⟩:=u i H R;have ab:0<Q:=by have:=(bZ.1 R).1;omega
  obtain⟨q,rfl⟩:∃q,Q=q+1:=⟨Q-1,ae⟩;have F:=y b (dR.here e ⟨b,m,Z⟩ q p M);refine⟨q1,b,m,rfl,⟨kj,t0,aa,F.trans q2⟩,λj c G=> ?_⟩;have l:=q3 j c G;simp only[nF,F] at l⊢;exact l
 |str s=>exact bJ.str s
 |ai v hv=>exact bJ.ai v hv
 |own e L h hn t=>exact bJ.own e L (t λb r=>y b (dR.own e L b r)) hn
 |ap L h=>exact bJ.ap L h
 |mr sh M x w u F=>exact bJ.mr sh M x w u F
def bJ.lt(h:bJ N f z L)(Q:dR f z L R):R<N.heap.size:=by
 induction h generalizing R with
 |sl e A q p M o n G m g d H=>
  cases Q with
  |here e a l c M=>
   have F:0<Y M:=ae;obtain⟨-,R,aa,B,⟨_,_,_,y⟩,-⟩:=G 0 _ (cK F);cases B;exact zS y
  |deep e v M i j x c X z R w u t r=>exact H i j x c X z w u t r
 |str s=>cases Q
 |ai v hv=>cases Q
 |own e L h hn H=>cases Q with
  |own e L R Q=>exact H Q
 |ap L h=>cases Q
 |mr sh M=>cases Q
def bJ.grow{G:World}(h:bJ N f z L)(x:Below N.heap.size N G):bJ G f z L:=by
 induction h with
 |sl e A w u X R Q M t r ho H=>
  refine bJ.sl e A w u X R Q (λi q p=> ?_) t r H;obtain⟨o,b,n,rfl,⟨kj,m,l,F⟩,g⟩:=M i q p;have B:=x.block b (zS F);refine⟨o,b,n,rfl,⟨kj,m,l,B.trans F⟩,λj c d=> ?_⟩;have y:=g j c d;simp only[nF,B] at y⊢;exact y
 |str s=>exact bJ.str s
 |ai v hv=>exact bJ.ai v hv
 |own e L h hn H=>exact bJ.own e L H hn
 |ap L h=>exact bJ.ap L h
 |mr sh X R Q M h4=>exact bJ.mr sh X R Q M h4
def jE.lt{Q:bp}(X:jE p q V O x f Q W)(h:aL x R=J):ad V R<W.heap.size:=by
 unfold aL at h;obtain⟨⟨t,N⟩,M⟩:=kD.1 h;exact(n9.1 (X.box R t N M)).1
def jE.below{Q:bp}(R:jE p q V O x f Q W)(X:Below W.heap.size W N):jE p q V O x f Q N:=by
 refine⟨R.base.call X,R.own,R.inj,λi t M h=> ?_,λk e L H G=> ?_⟩;rw[X.block _ (R.lt (by simp[aL,h]))];exact R.box i t M h;obtain⟨F,B⟩:=R.am k e L H G;exact⟨F.grow X,B⟩
def yc.lt{N:bp}(h:yc p q V O x f N W R X L Q):Q<W.heap.size:=by
 obtain⟨H,G,F,-,M,-⟩:=h.mem;exact(n9.1 M).1
def yc.world{N:bp}{W':World}(h:yc p q V O x f N W R X L Q)(M:W'.heap[Q]?=W.heap[Q]?):yc p q V O x f N W' R X L Q:=by
 obtain⟨H,G,F,B,A,z⟩:=h.mem;exact⟨h.own,⟨H,G,F,B,M.trans A,z⟩,h.box,h.alone,h.inner⟩
def aC.below{Q:World}(R:aC p q D f V O s a W)(X:Below W.heap.size W Q):aC p q D f V O s a Q:=
 ⟨R.mem.below X,R.gv,R.ei,R.eb,R.er,R.cU.below X,R.size,R.tmps,λk e N b M L H=>let t:=R.fZ k e N b M L H;t.world (X.block b t.lt)⟩
def aC.put(R:aC p q D f V O s a W)(X:cw)(v:C):aC p q D f V O (s.put X v) (a.put X (v.ah O V)) W:=by
 cases X with
 |none=>exact R
 |some d=>
  refine⟨R.mem,R.gv,R.ei,R.eb,R.er,R.cU,by simp[S.put,uQ,Act.put,R.size],λt M h=> ?_,R.fZ⟩;simp only[S.put,uQ,uL] at h;simp only[Act.put];split at h;rename_i Q;subst Q;split at h;rename_i L;cases h;right;have:d<a.tmps.size:=by rw[R.size];exact L
  simp[this];cases h;rename_i Q;rcases R.tmps t M h with N|N;exact .inl N;right;rw[aeM Q];exact N
def aC.yf(R:aC p q D f V O s a W)(X:s.bd=J):C.dQ (Y O.i) (Y O.b) (Y O.r) (aL s.au) s.tmps=J/\C.qm (Y O.i) (Y O.b) (Y O.r) (aL s.au) s.au=true:=by
 simp only[S.bd,az] at X;rw[R.ei,R.eb,R.er];exact X
structure nh(bx:bE)(O O':ak)(V V':aw):Prop where
 agree:iL O O' (Y O.i) (Y O.b) (Y O.r)
 li:Y O.i<=Y O'.i
 lb:Y O.b<=Y O'.b
 lr:Y O.r<=Y O'.r
 ad:∀k,aL bx k=J->ad V' k=ad V k
def nh.refl(X:bE)(O:ak)(V:aw):nh X O O V V:=⟨iL.refl _ _ _ _,cd _,cd _,cd _,λ_ _=>rfl⟩
def nh.trans{X R:bE}{O Q N:ak}{V M L:aw}(h:nh X O Q V M)(k:nh R Q N M L)(G:∀i,aL X i=J->aL R i=J):nh X O N V L:=
 ⟨h.agree.trans (k.agree.mono h.li h.lb h.lr),oL h.li k.li,oL h.lb k.lb,oL h.lr k.lr,λj H=>(k.ad j (G j H)).trans (h.ad j H)⟩
def arx(O:ak)(x:XV):Y O.i<=(O.add x).i.length/\Y O.b<=(O.add x).b.length/\Y O.r<=(O.add x).r.length:=by cases x<;>simp[ak.add]
def Q0:∀(X:bn)(O:ak),Y O.i<=(O.ext X).i.length/\Y O.b<=(O.ext X).b.length/\Y O.r<=(O.ext X).r.length
 |[],O=>by simp[ak.ext]
 |x::X,O=>by
  have R:=arx O x;have Q:=Q0 X (O.add x);simp only[ak.ext];omega
def BM(R:bE)(O:ak)(X:bn)(V:aw):nh R O (O.ext X) V V:=by
 have h:=Q0 X O;exact⟨Dz X O,h.1,h.2.1,h.2.2,λ_ _=>rfl⟩
def nh.ah{X:ak}{R:aw}(h:nh x l X y R)(Q:M.bd (Y l.i) (Y l.b) (Y l.r) (aL x)=J):M.ah X R=M.ah l y:=C.dW h.agree h.ad M Q
def nh.aF{X:ak}{R:aw}(h:nh x l X y R)(Q:C.dQ (Y l.i) (Y l.b) (Y l.r) (aL x) w=J):C.aF X R w=C.aF l y w:=C.IK h.agree h.ad w Q
def nh.dJ{X:ak}{R:aw}(h:nh x l X y R)(Q:C.dQ (Y l.i) (Y l.b) (Y l.r) (aL x) w=J):C.dJ X R w=C.dJ l y w:=MB h.agree h.ad w Q
def eL.ext{R:ak}{M:aw}(h:eL B l)(Q:nh x l R y M):eL B R:=by
 intro X L;obtain⟨N,H⟩:=h X L;exact⟨Wi N Q.lr,by rw[Q.agree.r _ N];exact H⟩
def BN(h:i≠R):ad (y.set R Q) i=ad y i:=by simp[ad,qX (Ne.symm h)]
def BO(h:R<Y y):ad (y.set R Q) R=Q:=by simp[ad,h]
def sH(h:pE x R X=J):gf x R=true:=by simp only[pE,az] at h;exact h.1
def IW(h:pE x R X=J):qg X=false:=by simp only[pE,az,gO] at h;exact h.2
def mJ(h:gf x R=J):aL x R=E/\R<Y x:=by
 unfold gf at h;split at h;rename_i X;exact⟨by simp[aL,cH,X],(bZ.1 X).1⟩;cases h
def afZ(h:gf x R=J)(O:ak)(V:aw)(X:Nat):nh x O O V (V.set R X):=
 ⟨iL.refl _ _ _ _,cd _,cd _,cd _,λk Q=>BN (λe=>by subst e;rw[(mJ h).1] at Q;cases Q)⟩
def yg{X:Option (TypeId×av)}(h:Q≠R):cg (x.set R X) Q=cg x Q:=by simp[cH,qX (Ne.symm h)]
def F9{X:TypeId×av}(h:R<Y x):cg (x.set R (U X)) R=U X:=by simp[cH,h]
def oX{X:TypeId×av}(h:R<Y x):aL (x.set R (U X)) Q=J<->Q=R\/aL x Q=true:=by
 by_cases N:Q=R;subst N;simp[aL,F9 h];simp[aL,yg N,N]
def aC.alloc(R:aC p q D f V O s a W){n:Nat}(v:gf s.au n=J)(t:TypeId)(F:av)(G:s.eV F=J):
  aC p q D f (V.set n W.heap.size) O (s.cZ n t F) a (W.alloc (lE t (C.dJ O V F))):=by
 simp only[S.eV,az] at G;obtain⟨B,G⟩:=G;obtain⟨r,o⟩:=R.yf B;rw[<-R.ei,<-R.eb,<-R.er] at G;obtain⟨m,M⟩:=mJ v;have y:=afZ v O V W.heap.size;have A:Below W.heap.size W (W.alloc (lE t (C.dJ O V F))):=(Below.refl _ _).alloc (cd _) _;have H:n<Y V:=by rw[R.gv];exact M
 have L:∀i,aL s.au i=J->i≠n:=λi Q e=>by subst e;rw[m] at Q;cases Q
 refine⟨⟨R.mem.base.alloc _, ?_, ?_, ?_, ?_⟩,by simp[S.cZ,R.gv],R.ei,R.eb,R.er,R.cU.below A,R.size, ?_,λk e x b X N z=> ?_⟩;intro i Q;rcases(oX M).1 Q with rfl|h;rw[BO H];exact .inl R.mem.base.size;rw[BN (L i h)];exact R.mem.own i h;intro i j Q u h;rcases(oX M).1 Q with rfl|X;rcases(oX M).1 u with rfl|N;rfl;rw[BO H,BN (L j N)] at h;have:=R.mem.lt N;omega;rcases(oX M).1 u with rfl|N;rw[BO H,BN (L i X)] at h;have:=R.mem.lt X;omega;rw[BN (L i X),BN (L j N)] at h;exact R.mem.inj i j X N h;intro i w l h;by_cases X:i=n;subst X;rw[S.cZ,F9 M] at h;simp only[cG,Bh] at h;obtain⟨rfl,rfl⟩:=h;rw[BO H,y.dJ G];exact P6 W _;rw[S.cZ,yg X] at h;rw[BN X,A.block _ (R.mem.lt (by simp[aL,h])),y.dJ (sF o h)];exact R.mem.box i w l h;intro k e x X N;obtain⟨z,g⟩:=R.mem.am k e x X N;refine⟨z.grow A,λb B i Q=> ?_⟩;rcases(oX M).1 Q with rfl|h;rw[BO H];have:=z.lt B;omega;rw[BN (L i h)];exact g b B i h;intro w d h;rcases R.tmps w d h with X|X;exact .inl X;right;rw[y.ah (uY r h)];exact X;have t:=R.fZ k e x b X N z;obtain⟨c,aa,ab,q1,q2,q3⟩:=t.mem;refine⟨t.own,⟨c,aa,ab,q1,(A.block b t.lt).trans q2,q3⟩,λi Q=> ?_,t.alone,t.inner⟩;rcases(oX M).1 Q with rfl|h;rw[BO H];have:=t.lt;omega;rw[BN (L i h)];exact t.box i h
def yi(l:gc)(X:Nat):gc->gc
 |[]=>l
 |v::r=>yi (l.set X v) (X+1) r
def Xv:∀(R l:gc)(X:Nat),(yi l X R).length=Y l
 |[],l,X=>rfl
 |v::R,l,X=>by rw[yi,Xv];simp
def af0:∀(X l:av)(R:Nat),C.aF O V (kU l R X)=yi (C.aF O V l) R (C.aF O V X)
 |[],l,R=>rfl
 |v::X,l,R=>by
  rw[kU,af0 X,C.aF,yi];congr 1;simp[oU]
def af3(h:iX c=J):c.oneCell'=true:=by cases c<;>simp_all[iX,Value.oneCell']
def Xw(b X:Nat)(t:TypeId):∀(N:gc)(i:Nat)(R:lW)(W:World),W.heap[b]?=U (.cells R t (0,0))->X+i+Y N<=R.size->(∀v∈N,iX v=J)->
  ∃Q,(storeCells ⟨b,X,Z⟩ N i).run P W=.ok () Q/\Q.heap[b]?=U (.cells (yi R.toList (X+i) N).toArray t (0,0))/\(∀k,k≠b->Q.heap[k]?=W.heap[k]?)/\Q.heap.size=W.heap.size/\Q.os=W.os/\Q.tape=W.tape/\Q.output=W.output
 |[],i,R,W,M,_,_=>⟨W,rfl,by simpa[yi] using M,λ_ _=>rfl,rfl,rfl,rfl,rfl⟩
 |v::N,i,R,W,M,G,L=>by
  simp only[oK] at G;have F:X+i<R.size:=ae;have B:W.cell? ⟨b,X+i,Z⟩=U R[X+i]:=by simp[nF,M,F]
  have A:W.frozen? ⟨b,X+i,Z⟩=false:=by simp[Wt,M]
  have z:(store ((⟨b,X,Z⟩:Addr).add i) v).run P W=.ok () (W.setCell ⟨b,X+i,Z⟩ v):=by
   rw[wI,run_store P W _ v _ (af3 (L v ay)),B];simp[A]
  have y:(W.setCell ⟨b,X+i,Z⟩ v).heap[b]?=U (.cells (R.setIfInBounds (X+i) v) t (0,0)):=by
   simp[Ws,P4,M]
  obtain⟨Q,w,u,r,q,p,o,n⟩:=Xw b X t N (i+1) (R.setIfInBounds (X+i) v) (W.setCell ⟨b,X+i,Z⟩ v) y dF (λx m=>L x (by simp[m]));refine⟨Q,by simp only[storeCells,dq,z,dl,w], ?_,λk H=>(r k H).trans (Below.heap_setCell _ _ _ _ H),q.trans (by simp[Ws]),p,o,n⟩;rw[u,yi];simp[Fk]
def af4(R:aC p q D f V O s a W):∀{l:av},Dn l=J->∀v∈C.aF O V l,iX v=J
 |[],_,v,X=>by simp[C.aF] at X
 |x::N,h,v,X=>by
  simp only[Qi,az] at h;simp only[C.aF,dP] at X;rcases X with rfl|X;have Q:=h.1;cases x<;>simp[C.single] at Q<;>try rfl
  rename_i r;exact uZ R r (by cases r<;>simp_all[RE.Ft]);simp only[C.ah];exact Xf _ _ _;exact af4 R h.2 v X
def aC.store(Q:aC p q D f V O s a W){H:TypeId}{z:TI}(d:eU P X z){off:Nat}{v:C}(M:cg s.au R=U (H,w))(o:qg H=E)(c:Y v.cells=Y z.ao)(ho:off+Y v.cells<=Y w)(hs:Dn v.cells=J)(n:(v.ah O V).cells.toList=C.aF O V v.cells):
  ∃G,(Instr.storeAt X (.pointer (U ⟨ad V R,off,Z⟩)) (v.ah O V)).run P W=.ok () G/\aC p q D f V O (s.cZ R H (kU w off v.cells)) a G:=by
 have y:=Q.mem.box R H w M;rw[sG o] at y;obtain⟨G,h1,h2,F,h4,h5,h6,h7⟩:=Xw (P:=P) (ad V R) off H (C.aF O V v.cells) 0 _ W y dF (af4 Q hs);have aa:(v.ah O V).cells.size=Y z.ao:=by rw[<-Dc,n];simp[c]
 have m:R<Y s.au:=(bZ.1 (jO.1 M)).1;have B:aL s.au R=true:=by simp[aL,M]
 have A:∀j,aL (s.au.set R (U (H,kU w off v.cells))) j=J->aL s.au j=true:=λj N=>by
  rcases(oX m).1 N with rfl|h;exact B;exact h
 refine⟨G, ?_,⟨⟨?_,λj N=>Q.mem.own j (A j N),λj k N x=>Q.mem.inj j k (A j N) (A k x), ?_, ?_⟩,by simpa[S.cZ] using Q.gv,Q.ei,Q.eb,Q.er,Q.cU.cells y (λb M _=>F b M),Q.size,Q.tmps,λk e u b q1 q2 q3=> ?_⟩⟩;simp only[Instr.storeAt,Instr.sureAddr,storeVar,dq,eX,dl,d.ng,aa,n,ne_eq,not_true_eq_false,ga,h1];refine⟨h5.trans Q.mem.base.os,h6.trans Q.mem.base.tape,h7.trans Q.mem.base.output,by rw[h4];exact Q.mem.base.size,λk x l=> ?_⟩;have ab:k≠ad V R:=by
  rintro rfl;rcases Q.mem.own R B with h|h;omega;exact l h
 rw[F k ab];exact Q.mem.base.block k x l;intro j L ac N;by_cases r:j=R;subst r;rw[S.cZ,F9 m] at N;simp only[cG,Bh] at N;obtain⟨rfl,rfl⟩:=N;rw[h2,sG o,af0];simp;rw[S.cZ,yg r] at N;rw[F _ (λh=>r (Q.mem.inj j R (by simp[aL,N]) B h))];exact Q.mem.box j L ac N;intro k e u af ag;obtain⟨al,g⟩:=Q.mem.am k e u af ag;exact⟨al.IU (λb M=>F b (λh=>g b M R B h.symm)) ae,λb M j N=>g b M j (A j N)⟩;have X:=Q.fZ k e u b q1 q2 q3;have L:=X.world (W':=G) (F b (λh=>X.box R B h.symm));exact⟨L.own,L.mem,λj N=>L.box j (A j N),L.alone,L.inner⟩
end
def IX(X:aw):∀(l:bp)(n i:Nat),(iY X n l)[i]?=(l[i]?).map λx=>if X.contains (n+i) then .ap else x
 |[],n,i=>by simp[iY]
 |x::R,n,0=>by simp[iY]
 |x::R,n,i+1=>by
  simp only[iY,sa];rw[IX X R (n+1) i,show n+1+i=n+(i+1) from ae]
def IY(X:aw):∀(l:bp)(n i:Nat),(jX X n l)[i]?=(l[i]?).map (xS (X.contains (n+i)))
 |[],n,i=>by simp[jX]
 |x::R,n,0=>by simp[jX]
 |x::R,n,i+1=>by
  simp only[jX,sa];rw[IY X R (n+1) i,show n+1+i=n+(i+1) from ae]
def Xx(X:aw):∀(l:bp)(n i:Nat),(Bq X n l)[i]?=(l[i]?).map (Ma (X.contains (n+i)))
 |[],n,i=>by simp[Bq]
 |x::R,n,0=>by simp[Bq]
 |x::R,n,i+1=>by
  simp only[Bq,sa];rw[Xx X R (n+1) i,show n+1+i=n+(i+1) from ae]
def zT(X:aw):∀(l:bp)(n:Nat),(iY X n l).length=Y l
 |[],n=>rfl
 |x::R,n=>by simp[iY,zT X R (n+1)]
def zU(X:aw):∀(l:bp)(n:Nat),(jX X n l).length=Y l
 |[],n=>rfl
 |x::R,n=>by simp[jX,zU X R (n+1)]
def af5(X:aw):∀(l:bp)(n:Nat),(Bq X n l).length=Y l
 |[],n=>rfl
 |x::R,n=>by simp[Bq,af5 X R (n+1)]
def qw(e X:RK):Prop:=X=e\/X=.ap\/∃t,e=.own t/\X=.sl t
structure pI(rs rs':bp):Prop where
 len:Y rs'=Y rs
 get:∀(k:Nat)(e':RK),rs'[k]?=U e'->∃e,rs[k]?=U e/\qw e e'
def pI.refl(X:bp):pI X X:=⟨rfl,λk e h=>⟨e,h,.inl rfl⟩⟩
def qw.trans{b c:RK}(h:qw z b)(k:qw b c):qw z c:=by
 rcases k with rfl|rfl|⟨t,rfl,rfl⟩;exact h;exact .inr (.inl rfl);rcases h with h|h|⟨R,Q,X⟩;exact .inr (.inr ⟨t,h.symm,rfl⟩);cases h;cases X
def pI.trans{a b c:bp}(h:pI a b)(k:pI b c):pI a c:=
 ⟨k.len.trans h.len,λi e X=>let⟨R,Q,N⟩:=k.get i e X;let⟨M,L,H⟩:=h.get i R Q;⟨M,L,H.trans N⟩⟩
def ary(b:Bool)(e:RK):qw e (xS b e):=by
 cases e<;>simp only[xS]
 case own t=>cases b;exact .inl rfl;exact .inr (.inr ⟨t,rfl,rfl⟩)
 all_goals exact .inl rfl
def af6(b:Bool)(e:RK):qw e (Ma b e):=by
 cases e<;>simp only[Ma]
 case own t=>cases b;exact .inr (.inl rfl);exact .inr (.inr ⟨t,rfl,rfl⟩)
 all_goals exact .inl rfl
def MI(Q:aw)(X:bp):pI X (jX Q 0 X):=by
 refine⟨zU _ _ _,λk N h=> ?_⟩;rw[IY] at h;cases R:X[k]? with
 |none=>rw[R] at h;cases h
 |some e=>rw[R] at h;simp only[dV,cG] at h;exact⟨e,rfl,h▸ary _ e⟩
def af7(Q:aw)(X:bp):pI X (Bq Q 0 X):=by
 refine⟨af5 _ _ _,λk N h=> ?_⟩;rw[Xx] at h;cases R:X[k]? with
 |none=>rw[R] at h;cases h
 |some e=>rw[R] at h;simp only[dV,cG] at h;exact⟨e,rfl,h▸af6 _ e⟩
def bJ.mb{X:RK}(h:bJ N n z L)(w:qw z X):bJ N n X L:=by
 rcases w with rfl|rfl|⟨t,rfl,rfl⟩;exact h;exact bJ.ap L (IP h);exact afG h
def dR.mb{X:RK}(w:qw z X)(h:dR n X L R):dR n z L R:=by
 rcases w with rfl|rfl|⟨t,rfl,rfl⟩;exact h;cases h;exact dR.own _ _ _ h
def yb.mb{d:Ty}{e R:RK}{Q:RV}{b:Nat}(w:qw e R)(h:yb d R Q b):yb d e Q b:=by
 rcases h with h|⟨⟨t,rfl⟩,h⟩;exact .inl (h.mb w);rcases w with rfl|X|⟨N,_,X⟩;exact .inr ⟨⟨t,rfl⟩,h⟩;cases X;cases X
def qw.own(w:qw z (.own X)):z=.own X:=by
 rcases w with h|h|⟨R,_,h⟩;exact h.symm;cases h;cases h
section
variable{p:aw}{q:World}{D:b9}{P:Program}{d:Ty}{B:mD}{V:aw}{O:ak}{s:S}{a:Act}{W:World}
def jE.mb{X:bE}{Q N:bp}(R:jE p q V O X d Q W)(h:pI Q N):jE p q V O X d N W:=
 ⟨R.base,R.own,R.inj,R.box,λk e M B L=>let⟨H,G,F⟩:=h.get k e B;⟨(R.am k H M G L).1.mb F,λb A i z=>(R.am k H M G L).2 b (A.mb F) i z⟩⟩
def aC.mb(R:aC p q D d V O s a W){X:bp}(h:pI s.rs X):aC p q D d V O {s with rs:=X} a W:=by
 refine⟨R.mem.mb h,R.gv,R.ei,R.eb,R.er.trans h.len.symm,R.cU,R.size,R.tmps,λk e N b M L H=> ?_⟩;obtain⟨o,G,F⟩:=h.get k _ M;have:=F.own;subst this;have t:=R.fZ k e N b G L H;exact⟨t.own,t.mem,t.box,λQ B A z y x w=>let⟨v,u,r⟩:=h.get Q B y;t.alone Q v A z u x (w.mb r),t.inner⟩
def aC.dO(Q:aC p q D d V O s a W)(g:s.rs[R]?=U (.own X))(hr:O.r[R]?=U L)(B:W.grownBy N L.kF):
  aC p q D d V O {s with rs:=iY [R] 0 s.rs} a N:=by
 have m:∀M G,(iY [R] 0 s.rs)[M]?=U G->(M=R/\G=.ap)\/(M≠R/\s.rs[M]?=U G):=by
  intro M G h;rw[IX] at h;cases f:s.rs[M]? with
  |none=>rw[f] at h;cases h
  |some x=>
   rw[f] at h;simp only[iJ,dV,cG] at h;by_cases F:M=R;subst F;left;simp at h;exact⟨rfl,h.symm⟩;right;simp[F] at h;exact⟨F,by rw[h]⟩
 have y:∀b,L.kF=U b->yc p q V O s.au d s.rs W R X L b:=λb H=>Q.fZ R X L b g hr H
 have ac:ij p q N:=Q.mem.base.grown B (λb H=>((y b H).own).symm);refine⟨⟨ac,Q.mem.own,Q.mem.inj,λi t cs h=> ?_,λM G A l z=> ?_⟩,Q.gv,Q.ei,Q.eb,by simp[zT];exact Q.er, ?_,Q.size,Q.tmps,λM G A b l z w=> ?_⟩;rw[B.block _ (Q.mem.lt (by simp[aL,h])) (λH=>(y _ H.symm).box i (by simp[aL,h]) rfl)];exact Q.mem.box i t cs h;rcases m M G l with⟨rfl,rfl⟩|⟨v,u⟩;refine⟨bJ.ap _ ?_,λb H=>by cases H⟩;exact IP (Q.mem.am M _ A g z).1;obtain⟨w,h4⟩:=Q.mem.am M G A u z;exact⟨w.IU (λb H=>B.block b (w.lt H) (λF=>(y b F.symm).alone M G A v u z (.inl H))) B.size,h4⟩;cases H:L.kF with
 |none=>exact Q.cU.world λb o h _=>(B.block b (zS h) (by rw[H];simp)).trans h
 |some b0=>
  obtain⟨c,aa,ab,q1,j,q3⟩:=(y b0 H).mem;exact Q.cU.cells j (λb v af=>B.block b af (λX=>v (by rw[H] at X;cases X;rfl)))
 rcases m M _ l with⟨-,F⟩|⟨v,u⟩;cases F;have t:=Q.fZ M G A b u z w;have hw:N.heap[b]?=W.heap[b]?:=B.block b t.lt (λF=>(y b F.symm).alone M _ A v u z (.inr ⟨⟨G,rfl⟩,w⟩));obtain⟨c,aa,ab,q1,j,q3⟩:=t.mem;refine⟨t.own,⟨c,aa,ab,q1,hw.trans j,q3⟩,t.box,λk2 e2 ag g1 g2 g3 n=> ?_,t.inner⟩;rcases m k2 e2 g2 with⟨rfl,rfl⟩|⟨_,al⟩;rcases n with n|⟨⟨t',an⟩,_⟩;cases n;cases an;exact t.alone k2 e2 ag g1 al g3 n
def aC.grown(R:aC p q D d V O s a W)(X:W.grownBy N Z):aC p q D d V O s a N:=
 R.below ⟨X.os,X.tape,X.output,X.size,λk Q=>X.block k Q ay⟩
def rn(X:bE)(O:ak)(x:XV)(V:aw):nh X O (O.add x) V V:=by
 have h:=BM X O [x] V;exact h
def Ga{v:RV}(h:(O.add (.r L)).r[R]?=U v):(R<Y O.r/\O.r[R]?=U v)\/(R=Y O.r/\v=L):=by
 simp only[ak.add] at h;by_cases X:R<Y O.r;rw[dU X] at h;exact .inl ⟨X,h⟩;have:R=Y O.r:=by have:=(bZ.1 h).1;simp at this;omega
 subst this;simp at h;exact .inr ⟨rfl,h.symm⟩
structure arz(p:aw)(q:World)(V:aw)(O:ak)(bx:bE)(d:Ty)(rs:bp)(W:World)(e:TypeId)(rv:RV)(b:Nat):Prop where
 own:q.heap.size<=b\/b∈p
 mem:∃len cap cur,rv.val=.slice (U ⟨b,0,Z⟩) len cap/\W.heap[b]?=U (.cells cur e (0,0))/\len<=cap/\cap<=maxLen/\cur.size=cap*(bD d (.sl e)).length
 box:∀i,aL bx i=J->ad V i≠b
 alone:∀(k':Nat)(e':RK)(rv':RV),rs[k']?=U e'->O.r[k']?=U rv'->¬yb d e' rv' b
 inner:¬nc d e rv.aj b
def aC.add(R:aC p q D d V O s a W)(n:s.bd=J){N:RK}{rv:RV}(m:bJ W d N rv)(l:∀b,dR d N rv b->∀i,aL s.au i=J->ad V i≠b)
  (j:∀(k:Nat)(e:TypeId)(H:RV)(b:Nat),s.rs[k]?=U (.own e)->O.r[k]?=U H->H.kF=U b->¬yb d N rv b)
  (g:∀e b,N=.own e->rv.kF=U b->arz p q V O s.au d s.rs W e rv b):aC p q D d V (O.add (.r rv)) {s with rs:=s.rs++[N]} a W:=by
 obtain⟨f,c⟩:=R.yf n;have x:=rn s.au O (.r rv) V;have F:∀{k:Nat}{e:RK},(s.rs++[N])[k]?=U e->(k<Y O.r/\s.rs[k]?=U e)\/(k=Y O.r/\e=N):=by
  intro k e h;rw[R.er];by_cases G:k<Y s.rs;rw[dU G] at h;exact .inl ⟨G,h⟩;have:k=Y s.rs:=by have:=(bZ.1 h).1;simp at this;omega
  subst this;simp at h;exact .inr ⟨rfl,h.symm⟩
 refine⟨⟨R.mem.base,R.mem.own,R.mem.inj,λi t cs h=> ?_,λk e v X M=> ?_⟩,R.gv,R.ei,R.eb,by simp[ak.add,R.er],R.cU,R.size,λt sv h=> ?_,λk e v b X M B=> ?_⟩;rw[x.dJ (sF c h)];exact R.mem.box i t cs h;rcases F X with⟨G,X⟩|⟨rfl,rfl⟩;rcases Ga M with⟨_,M⟩|⟨rfl,rfl⟩;exact R.mem.am k e v X M;omega;rcases Ga M with⟨G,_⟩|⟨_,rfl⟩;omega;exact⟨m,l⟩;rcases R.tmps t sv h with X|X;exact .inl X;right;rw[x.ah (uY f h)];exact X;rcases F X with⟨G,w⟩|⟨rfl,aa⟩;rcases Ga M with⟨_,u⟩|⟨rfl,rfl⟩;have t:=R.fZ k e v b w u B;refine⟨t.own,t.mem,t.box,λA z H y L Q=> ?_,t.inner⟩;rcases F L with⟨o,L⟩|⟨o,ab⟩;rcases Ga Q with⟨_,Q⟩|⟨rfl,rfl⟩;exact t.alone A z H y L Q;omega;rcases Ga Q with⟨af,_⟩|⟨_,ac⟩;omega;rw[ab,ac];exact j k e v b w u B;omega;rcases Ga M with⟨G,_⟩|⟨_,rfl⟩;omega;have t:=g e b aa.symm B;refine⟨t.own,t.mem,t.box,λA z H y L Q=> ?_,t.inner⟩;rcases F L with⟨o,L⟩|⟨rfl,_⟩;rcases Ga Q with⟨_,Q⟩|⟨rfl,rfl⟩;exact t.alone A z H L Q;omega;exact aY rfl y
end
variable{k:ax}
structure fz(W:World)(o:Ty)(e:TypeId)(rows:ax):Prop where
 len:∀(i:Nat)(row:aH),rows[i]?=U row->Y row=(bD o (.sl e)).length
 int:∀(i j:Nat)(row:aH)(c:RV)(k:IntKind),rows[i]?=U row->row[j]?=U c->(bD o (.sl e))[j]?=U (.int k)->∃n,c.val=.int k n
 bool:∀(i j:Nat)(row:aH)(c:RV),rows[i]?=U row->row[j]?=U c->(bD o (.sl e))[j]?=U .bool->∃x,c.val=.bool x
 ai:∀(i j:Nat)(row:aH)(c:RV)(z:Value)(k:RK),rows[i]?=U row->row[j]?=U c->(bD o (.sl e))[j]?=U (.ai z k)->bJ W o k c
def eo(rows:ax):gc:=rows.flatMap λX=>X.map RV.val
def zV{w:Nat}:∀{rows:ax},(∀(i:Nat)(X:aH),rows[i]?=U X->Y X=w)->(eo rows).length=Y rows*w
 |[],_=>by simp[eo]
 |r::Q,h=>by
  have N:=h 0 r rfl;have R:=zV (rows:=Q) (λi X M=>h (i+1) X (by simpa using M));simp only[eo,Wl,gD,qY,oK,N] at R⊢;rw[R,qf];omega
def MJ{w:Nat}:∀{rows:ax},(∀(i:Nat)(row:aH),rows[i]?=U row->Y row=w)->∀{i j:Nat}{row:aH}{c:RV},rows[i]?=U row->row[j]?=U c->(eo rows)[i*w+j]?=U c.val
 |[],_,i,j,row,c,h,_=>by simp at h
 |r::Q,h,0,j,row,c,X,R=>by
  simp at X;subst X;have L:j<Y r:=(bZ.1 R).1;simp only[eo,Wl,Nat.zero_mul,iJ];rw[dU (by simpa using L)];simp[R]
 |r::Q,h,i+1,j,row,c,X,R=>by
  have N:=h 0 r rfl;have M:=MJ (rows:=Q) (λi row H=>h (i+1) row (by simpa using H)) (i:=i) (by simpa using X) R;simp only[eo,Wl] at M⊢;rw[iC (by simp[N,qf];omega)];rw[<-M];congr 1;simp[N,qf];omega
def IZ{w:Nat}:∀{rows:ax},(∀(i:Nat)(X:aH),rows[i]?=U X->Y X=w)->∀{q:Nat}{u:Value},(eo rows)[q]?=U u->∃i j X c,rows[i]?=U X/\X[j]?=U c/\q=i*w+j/\u=c.val
 |[],_,q,u,h=>by simp[eo] at h
 |r::N,h,q,u,R=>by
  have A:=h 0 r rfl;simp only[eo,Wl] at R;by_cases M:q<Y r;rw[dU (by simpa using M),dN] at R;cases Q:r[q]? with
  |none=>rw[Q] at R;cases R
  |some c=>rw[Q] at R;simp at R;exact⟨0,q,r,c,rfl,Q,ay,R.symm⟩
  rw[iC dF] at R;obtain⟨i,j,X,c,L,H,G,F⟩:=IZ (rows:=N) (λi X B=>h (i+1) X (by simpa using B)) R;refine⟨i+1,j,X,c,by simpa using L,H, ?_,F⟩;simp only[qY] at G;rw[qf];omega
def Xy(a b:ax):eo (a++b)=eo a++eo b:=by simp[eo]
section
variable{W W':World}{o:Ty}{e:TypeId}{rows aE:ax}
def fz.wJ{v:Value}(h:bJ W o (.sl e) (.mk v rows)):fz W o e rows:=by
 cases h with
 |sl e A H G rows F B X R Q N=>exact⟨λi M L=>(X i M L).1,R,Q,N⟩
def pJ{A:nG}(h:bJ W o (.sl e) (.mk (.slice A R Q) rows)):Y rows=R/\R<=Q:=by
 cases h with
 |sl e A R Q rows X N M L H G=>exact⟨X,N⟩
def MK{A:nG}(h:bJ W o (.sl e) (.mk (.slice A R Q) rows)):∀(q:Nat)(u:Value),(eo rows)[q]?=U u->∃b X,A=U ⟨b,X,Z⟩/\(∃N t M,W.heap[b]?=U (.cells N t M))/\W.cell? ⟨b,X+q,Z⟩=U u:=by
 intro q u L;have H:=fz.wJ h;obtain⟨i,j,G,c,F,B,rfl,rfl⟩:=IZ H.len L;cases h with
 |sl e A R Q rows w v z r p n=>
  obtain⟨-,b,X,rfl,y,x⟩:=z i G F;exact⟨b,X,rfl,y,by rw[<-Fk];exact x j c B⟩
def Xz(h:fz W o e rows)(M:∃L t H,W.heap[R]?=U (.cells L t H))(G:∀(q:Nat)(u:Value),(eo rows)[q]?=U u->W.cell? ⟨R,Q+q,Z⟩=U u)(F:Y rows<=i):bJ W o (.sl e) (.mk (.slice (U ⟨R,Q,Z⟩) (Y rows) i) rows):=
 bJ.sl e _ _ _ _ rfl F (λX B N=>⟨h.len X B N,R,Q,rfl,M,λj c A=>by
  have:=G _ _ (MJ h.len N A)
  rwa [<-Fk] at this⟩) h.int h.bool h.ai
def BP(A:nG)(Q:Nat):bJ W o (.sl e) (.mk (.slice A 0 Q) []):=
 bJ.sl e _ _ _ _ rfl (Ww _) (λi R X=>by simp at X) (λi j R c k X=>by simp at X) (λi j R c X=>by simp at X) (λi j R c z k X=>by simp at X)
def fz.single(h:fz W o e rows):∀u∈eo rows,iX u=true:=by
 intro u L;obtain⟨q,H⟩:=qW L;obtain⟨i,j,X,c,R,Q,rfl,rfl⟩:=IZ h.len H;have F:j<(bD o (.sl e)).length:=by rw[<-h.len i X R];exact(bZ.1 Q).1
 cases N:(bD o (.sl e))[j]? with
 |none=>rw[Be] at N;omega
 |some G=>
  cases G with
  |int k=>obtain⟨n,M⟩:=h.int i j X c k R Q N;rw[M];rfl
  |bool=>obtain⟨n,M⟩:=h.bool i j X c R Q N;rw[M];rfl
  |ai z k=>exact IP (h.ai i j X c z k R Q N)
def fz.world(h:fz W o e rows)(M:∀b,nc o e rows b->W'.heap[b]?=W.heap[b]?)(L:W.heap.size<=W'.heap.size):fz W' o e rows:=
 ⟨h.len,h.int,h.bool,λi j X c z k R Q N=>(h.ai i j X c z k R Q N).IU (λb H=>M b ⟨i,j,X,c,z,k,R,Q,N,H⟩) L⟩
def fz.lt(h:fz W o e rows){b:Nat}(X:nc o e rows b):b<W.heap.size:=by
 obtain⟨i,j,R,c,z,k,Q,N,M,L⟩:=X;exact(h.ai i j R c z k Q N M).lt L
def fz.nil:fz W o e []:=⟨λi X h=>by simp at h,λi j X c k h=>by simp at h,λi j X c h=>by simp at h,λi j X c z k h=>by simp at h⟩
def ML{b:ax}{X:aH}(h:(k++b)[R]?=U X):k[R]?=U X\/b[R-Y k]?=U X:=by
 by_cases Q:R<Y k;rw[dU Q] at h;exact .inl h;rw[iC ae] at h;exact .inr h
def fz.mW(h:fz W o e rows)(R:fz W o e aE):fz W o e (rows++aE):=
 ⟨λi Q X=>(ML X).elim (h.len _ _) (R.len _ _),λi j Q c k X=>(ML X).elim (h.int _ _ _ _ _) (R.int _ _ _ _ _),
  λi j Q c X=>(ML X).elim (h.bool _ _ _ _) (R.bool _ _ _ _),λi j Q c z k X=>(ML X).elim (h.ai _ _ _ _ _ _) (R.ai _ _ _ _ _ _)⟩
def arA(h:nc o e (rows++aE) R):nc o e rows R\/nc o e aE R:=by
 obtain⟨i,j,Q,c,z,k,X,N,M,L⟩:=h;exact(ML X).imp (λX=>⟨_,j,Q,c,z,k,X,N,M,L⟩) (λX=>⟨_,j,Q,c,z,k,X,N,M,L⟩)
def MM(h:nc o e [] R):False:=by
 obtain⟨i,j,Q,c,z,k,X,-⟩:=h;simp at X
def Q1(h:nc o e rows R):dR o (.sl e) (.mk c rows) R:=by
 obtain⟨i,j,Q,X,z,k,N,M,L,H⟩:=h;exact dR.deep e c rows i j Q X z k R N M L H
def af8(h:dR o (.sl e) (.mk c rows) R):(∃a Q N,c=.slice (U a) (Q+1) N/\R=a.block)\/nc o e rows R:=by
 cases h with
 |here e a Q N rows=>exact .inl ⟨a,Q,N,rfl,rfl⟩
 |deep e c rows i j M X z k R L H G F=>exact .inr ⟨i,j,M,X,z,k,L,H,G,F⟩
end
def arB(h:dR n z (ee z L) R):dR n z L R:=by
 cases z with
 |sl e=>
  simp only[ee] at h;split at h;exact h;cases h with
  |deep e L rows i j N c X z R Q=>simp at Q
 |str=>cases h
 |ai=>cases h
 |own e=>
  simp only[ee] at h;split at h;exact h;cases h with
  |own e H R M=>cases M with
   |deep e L rows i j N c X z R Q=>simp at Q
 |ap=>cases h
 |mr G=>cases h
def af9(h:dR n z default R):False:=by
 cases h with
 |deep e v rows i j N c X z R Q=>simp at Q
 |own e L R M=>cases M with
  |deep e v rows i j N c X z R Q=>simp at Q
def Q2(h:dR n z.rd L R):dR n z L R:=by
 cases z with
 |own t=>exact dR.own _ _ _ h
 |_=>exact h
def arC{i:Int}(L:Fy (bD n (.sl X))[R]?=z)(H:z≠ .ai)(h:dR n z (ee z (bQ k i R)) Q):nc n X k Q:=by
 have M:=arB h;simp only[bQ,dB] at M;cases G:k[i.toNat]? with
 |none=>rw[G] at M;exact(af9 (by simpa using M)).elim
 |some A=>
  rw[G] at M;simp only[oJ] at M;cases F:A[R]? with
  |none=>rw[F] at M;exact(af9 (by simpa using M)).elim
  |some c=>
   rw[F] at M;cases B:(bD n (.sl X))[R]? with
   |none=>rw[B] at L;exact aY L.symm H
   |some y=>
    rw[B] at L;subst L;cases y with
    |ai N x=>exact⟨_,R,A,c,N,x,G,F,B,by simpa[Fy] using M⟩
    |int _=>exact aY rfl H
    |bool=>exact aY rfl H
def Q3{o:Ty}{O:ak}{s:S}{b:Nat}:∀{r:RE}{e:RK},e≠ .ai->r.kind o s=e->dR o e (r.rv O) b->
  ∃R Q,r.root=U R/\s.rs[R]?=U Q/\((r=.v R/\Q.rd=e)\/∃t,Q.rd=.sl t/\nc o t (O.rv R).aj b)
 |.v k,e,X,h,N=>by
  simp only[RE.kind,dB] at h;cases H:s.rs[k]? with
  |none=>rw[H] at h;exact aY (show e=.ai from h.symm) X
  |some q=>rw[H] at h;simp at h;exact⟨k,q,rfl,H,.inl ⟨rfl,h⟩⟩
 |.cell r i j x,e,X,h,N=>by
  simp only[RE.kind] at h;split at h;rename_i G F;split at h;rename_i B;subst h;simp only[RE.rv] at N;have L:=arC B X N;have A:dR o (.sl G) (r.rv O) b:=by
   revert L;generalize r.rv O=v;intro L;obtain⟨v,rows⟩:=v;exact Q1 L
  obtain⟨R,Q,z,y,M⟩:=Q3 (r:=r) (e:=.sl G) ay F A;refine⟨R,Q,z,y,.inr ?_⟩;rcases M with⟨rfl,M⟩|M;exact⟨G,M,by simpa[RE.rv] using L⟩;exact M;exact aY h.symm X;exact aY h.symm X
 |.k v,e,X,h,N=>by
  cases v<;>simp only[RE.kind] at h
  case string s=>subst h;cases N
  all_goals exact aY h.symm X
section
variable{p:aw}{d:World}{D:b9}{P:Program}{o:Ty}{B:mD}{V:aw}{O:ak}{s:S}{a:Act}{W:World}
def tU(X:aC p d D o V O s a W)(h:s.rs[R]?=U z):O.r[R]?=U (O.rv R):=by
 have Q:R<Y O.r:=by rw[X.er];exact(bZ.1 h).1
 simp[ak.rv,Q]
def Gb(v:RV):RV.mk v.val v.aj=v:=by cases v;rfl
def I0{e0:RK}(h:e0.rd=.sl X)(N:nc o X (O.rv R).aj Q):dR o e0 (O.rv R) Q:=by
 apply Q2;rw[h,<-Gb (O.rv R)];exact Q1 N
def MN(N:aC p d D o V O s a W)(H:s.rs[R]?=U (.own X))(F:O.r[R]?=U L)(x:L.kF=U Q){t:TypeId}(M:s.rs[i]?=U z)(G:z.rd=.sl t)(B:nc o t (O.rv i).aj Q):False:=by
 have A:=N.fZ R X L Q H F x;by_cases y:i=R;subst y;rw[H] at M;cases M;simp only[RK.rd,RK.sl.injEq] at G;subst G;have:=tU N H;rw[F] at this;cases this;exact A.inner B;exact A.alone i z (O.rv i) y M (tU N M) (.inl (I0 G B))
def Q4(N:aC p d D o V O s a W)(F:s.rs[R]?=U (.own X))(B:O.r[R]?=U L)(A:L.kF=U Q){r:RE}(w:z≠ .ai)(h:r.kind o s=z)(y:dR o z (r.rv O) Q):r=.v R:=by
 obtain⟨H,u,m,G,M⟩:=Q3 w h y;rcases M with⟨rfl,M⟩|⟨t,M,q⟩;by_cases x:H=R;rw[x];have n:=N.fZ R X L Q F B A;exact aY (.inl (Q2 (by rw[M];exact y))) (n.alone H u (O.rv H) x G (tU N G));exact(MN N F B A G M q).elim
def I1(X:aC p d D o V O s a W){r:RE}(F:z≠ .ai)(h:r.kind o s=z)(H:dR o z (r.rv O) R):O.pH o s.rs R/\∀i,aL s.au i=J->ad V i≠R:=by
 obtain⟨N,M,A,L,Q⟩:=Q3 F h H;have G:dR o M (O.rv N) R:=by
  rcases Q with⟨rfl,Q⟩|⟨t,Q,B⟩;exact Q2 (by rw[Q];exact H);exact I0 Q B
 exact⟨⟨N,M,L,G⟩,(X.mem.am N M _ L (tU X L)).2 R G⟩
def aga(R:aC p d D o V O s a W){k:RK}{r:RE}(h:r.fits o s k=J):bJ W o k (r.rv O):=by
 unfold RE.fits at h;split at h;rename_i e;simp only[jd,cF] at h;rcases h with h|h;exact rm R ay h;unfold RE.isNil at h;split at h;exact BP Z 0;cases h;simp only[cF] at h;exact rm R ay h;cases h
def XA{r:RE}(h:r.fits o s z=J)(Q:dR o z (r.rv O) R):r.kind o s=z/\z≠ .ai:=by
 unfold RE.fits at h;split at h;rename_i e;simp only[jd,cF] at h;rcases h with h|h;exact⟨h,ay⟩;unfold RE.isNil at h;split at h;simp only[RE.rv] at Q;cases Q with
 |deep e v rows i j M c X z R N=>simp at N
 cases h;simp only[cF] at h;exact⟨h,ay⟩;cases h
def Gc:∀{ao:eQ}{R:av},l8 o s ao R=J->Y R=Y ao/\∀(j:Nat)(X:CT)(v:C),ao[j]?=U X->R[j]?=U v->si o s X v=J
 |[],[],_=>⟨rfl,λj X v h=>by simp at h⟩
 |[],_::_,h=>by simp[l8] at h
 |_::_,[],h=>by simp[l8] at h
 |c::G,v::F,h=>by
  simp only[l8,az] at h;obtain⟨M,L⟩:=Gc h.2;refine⟨by simp[M],λj X H Q N=> ?_⟩;cases j with
  |zero=>simp at Q N;subst Q N;exact h.1
  |succ j=>exact L j X H (by simpa using Q) (by simpa using N)
def agb{X:CT}(h:si o s X M=J):M.ah O V=(M.cj O).val:=by
 unfold si at h;split at h<;>first|rfl|cases h
structure Q5(W:World)(o:Ty)(ao:eQ)(row:aH):Prop where
 len:Y row=Y ao
 int:∀(j:Nat)(c:RV)(k:IntKind),row[j]?=U c->ao[j]?=U (.int k)->∃n,c.val=.int k n
 bool:∀(j:Nat)(c:RV),row[j]?=U c->ao[j]?=U .bool->∃x,c.val=.bool x
 ai:∀(j:Nat)(c:RV)(z:Value)(k:RK),row[j]?=U c->ao[j]?=U (.ai z k)->bJ W o k c
def fz.of(h:∀(i:Nat)(Q:aH),k[i]?=U Q->Q5 W o (bD o (.sl X)) Q):fz W o X k:=
 ⟨λi Q N=>(h i Q N).len,λi j Q c R N=>(h i Q N).int j c R,λi j Q c N=>(h i Q N).bool j c,λi j Q c z R N=>(h i Q N).ai j c z R⟩
def fz.get(h:fz W o X k){N:aH}(M:k[R]?=U N):Q5 W o (bD o (.sl X)) N:=
 ⟨h.len R N M,λj c Q=>h.int R j N c Q M,λj c=>h.bool R j N c M,λj c z Q=>h.ai R j N c z Q M⟩
def XB(R:aC p d D o V O s a W){ao:eQ}(h:l8 o s ao w=J):Q5 W o ao (w.map (C.cj O)):=by
 obtain⟨F,B⟩:=Gc h;have H:∀(j:Nat)(c:RV)(L:CT),(w.map (C.cj O))[j]?=U c->ao[j]?=U L->∃v,si o s L v=J/\c=v.cj O:=by
  intro j c L N M;rw[dN] at N;cases G:w[j]? with
  |none=>rw[G] at N;cases N
  |some v=>rw[G] at N;simp at N;exact⟨v,B j L v M G,N.symm⟩
 refine⟨by simpa using F,λj c k N M=> ?_,λj c N M=> ?_,λj c z k N M=> ?_⟩;obtain⟨v,Q,rfl⟩:=H j c _ N M;unfold si at Q;split at Q;rename_i X;cases X;simp at Q;subst Q;exact⟨_,rfl⟩;rename_i X;cases X;rename_i X;cases X;cases Q;obtain⟨v,Q,rfl⟩:=H j c _ N M;unfold si at Q;split at Q;rename_i X;cases X;exact⟨_,rfl⟩;rename_i X;cases X;cases Q;obtain⟨v,Q,rfl⟩:=H j c _ N M;unfold si at Q;split at Q;rename_i X;cases X;rename_i X;cases X;rename_i X;cases X;exact aga R Q;cases Q
def XC{ao:eQ}(h:l8 o s ao w=J)(X:(w.map (C.cj O))[R]?=U L)(F:ao[R]?=U (.ai c z))(H:dR o z L Q):
  ∃r:RE,w[R]?=U (.am r)/\r.kind o s=z/\z≠ .ai/\dR o z (r.rv O) Q:=by
 obtain⟨A,B⟩:=Gc h;rw[dN] at X;cases G:w[R]? with
 |none=>rw[G] at X;cases X
 |some v=>
  rw[G] at X;simp at X;subst X;have N:=B R _ v F G;unfold si at N;split at N;rename_i M;cases M;rename_i M;cases M;rename_i r M;cases M;exact⟨r,rfl,(XA (O:=O) N H).1,(XA (O:=O) N H).2,H⟩;cases N
def DE:∀{ao:eQ}{l:wm},mX o s ao l=J->∀(i:Nat)(X:av),l[i]?=U X->l8 o s ao X=J
 |ao,[],_,i,X,h=>by simp at h
 |ao,r::Q,h,0,X,R=>by simp only[mX,az] at h;simp at R;subst R;exact h.1
 |ao,r::Q,h,i+1,X,R=>by simp only[mX,az] at h;exact DE h.2 i X (by simpa using R)
def XD{Q:bp}(h:(jX y 0 Q)[R]?=U (.own X)):Q[R]?=U (.own X)/\R∉y:=by
 rw[IY] at h;cases M:Q[R]? with
 |none=>rw[M] at h;cases h
 |some x=>
  rw[M] at h;simp only[iJ,dV,cG] at h;cases x<;>simp[xS] at h
  case own t=>
   by_cases N:R∈y;simp[N] at h;simp[N] at h;exact⟨by rw[h],N⟩
def agc{Q:bp}(h:(iY y 0 Q)[R]?=U z):(R∈y/\z=.ap)\/(R∉y/\Q[R]?=U z):=by
 rw[IX] at h;cases N:Q[R]? with
 |none=>rw[N] at h;cases h
 |some x=>
  rw[N] at h;simp only[iJ,dV,cG] at h;by_cases X:R∈y;simp[X] at h;exact .inl ⟨X,h.symm⟩;simp[X] at h;exact .inr ⟨X,by rw[h]⟩
structure DF(W W':World)(e:TypeId)(w:Nat)(old:cw)(rows:ax)(A:nG)(cap:Nat):Prop where
 le:Y rows<=cap
 nil:A=Z->cap=0
 mem:cap=0\/∃b cur,A=U ⟨b,0,Z⟩/\W'.heap[b]?=U (.cells cur e (0,0))/\cap<=maxLen/\cur.size=cap*w/\cur.toList.take (Y rows*w)=eo rows/\(W.heap.size<=b\/old=U b)
def BQ(o:Ty)(V:aw)(O:ak)(s:S)(e:TypeId)(rows:ax)(cY:aw):Prop:=
 ∀b,nc o e rows b->O.pH o s.rs b/\(∀i,aL s.au i=J->ad V i≠b)/\∀(k:Nat)(t:TypeId)(X:RV),s.rs[k]?=U (.own t)->O.r[k]?=U X->X.kF=U b->k∈cY
def MO{X:bp}(h:s.bd=J)(R:Y X=Y s.rs):({s with rs:=X}:S).bd=true:=by
 simp only[S.bd,R] at h⊢;exact h
def aC.bind(R:aC p d D o V O s a W)(hb:s.bd=J){e:TypeId}{rows:ax}{kill cY:aw}{old:cw}{W':World}{A:nG}{cap:Nat}
  (hk:(kill=[]/\old=Z)\/∃k t v,kill=[k]/\s.rs[k]?=U (.own t)/\O.r[k]?=U v/\old=v.kF)(a4:∀k∈kill,k∉cY)
  (f:W.grownBy W' old)(ac:fz W o e rows)(aa:BQ o V O s e rows cY)(z:DF W W' e (bD o (.sl e)).length old rows A cap):
  aC p d D o V (O.add (.r (.mk (.slice A (Y rows) cap) rows))) {s with rs:=jX cY 0 (iY kill 0 s.rs)++[.own e]} a W'/\∀b,dR o (.sl e) (.mk (.slice A (Y rows) cap) rows) b->d.heap.size<=b\/b∈p\/O.pH o s.rs b:=by
 have y:∀b,old=U b->(d.heap.size<=b\/b∈p)/\b<W.heap.size/\(∀i,aL s.au i=J->ad V i≠b)/\(∀L H M,L∉kill->s.rs[L]?=U H->O.r[L]?=U M->¬yb o H M b)/\¬nc o e rows b:=by
  intro b j;rcases hk with⟨_,m⟩|⟨k,t,v,rfl,X,F,x⟩;rw[m] at j;cases j;rw[x] at j;have tp:=R.fZ k t v b X F j;refine⟨tp.own,tp.lt,tp.box,λL H M hn=>tp.alone L H M (by simpa using hn),λG=> ?_⟩;exact a4 k ay ((aa b G).2.2 k t v X F j)
 have R1:aC p d D o V O {s with rs:=iY kill 0 s.rs} a W':=by
  rcases hk with⟨rfl,rfl⟩|⟨k,t,v,rfl,X,F,rfl⟩;have:iY [] 0 s.rs=s.rs:=by
   apply ke;intro i;rw[IX];cases s.rs[i]?<;>simp
  rw[this];exact R.grown f;exact R.dO X F f
 have R2:=R1.mb (MI cY _);have a9:fz W' o e rows:=ac.world (λb G=>f.block b (ac.lt G) (λh=>(y b h.symm).2.2.2.2 G)) f.size;have ba:bJ W' o (.sl e) (.mk (.slice A (Y rows) cap) rows):=by
  rcases z.mem with m|⟨b,af,rfl,X,F,x,h4,Q⟩;have N:=z.le;have:rows=[]:=rZ ae;subst this;exact BP A cap;refine Xz a9 ⟨_,_,_,X⟩ (λq u hq=> ?_) z.le;rw[<-h4,mB] at hq;split at hq;simp only[nF,X,iJ];simpa using hq;cases hq
 have ag:∀b,yb o (.own e) (.mk (.slice A (Y rows) cap) rows) b->(W.heap.size<=b\/old=U b)\/nc o e rows b:=by
  intro b N;have a1:∀n,A=U n->cap≠0->n.block=b->(W.heap.size<=b\/old=U b):=by
   intro n hA hc ab;rcases z.mem with m|⟨w,af,X,_,_,_,_,Q⟩;exact aY m hc;rw[X] at hA;cases hA;simp only at ab;subst ab;exact Q
  rcases N with N|⟨-,N⟩;cases N with
  |own e v b N=>
   rcases af8 N with⟨n,bs,bt,X,rfl⟩|X;simp only[Value.slice.injEq] at X;exact .inl (a1 n X.1 (by have:=z.le;omega) rfl);exact .inr X
  simp only[RV.kF,RV.mH] at N;split at N;rename_i n l0 c0 X;cases X;simp at N;exact .inl (a1 n rfl ae N);cases N
 have bb:∀{k:Nat}{H:RK},(jX cY 0 (iY kill 0 s.rs))[k]?=U H->∃e0,(iY kill 0 s.rs)[k]?=U e0/\qw e0 H:=λh=>(MI cY _).get _ _ h
 constructor;refine R2.add (MO (MO hb (zT _ _ _)) (zU _ _ _)) (bJ.own e _ ba (λl c h=>by cases h;exact z.nil rfl)) (λb N i G=> ?_) (λk t M b X F x N=> ?_) (λt b ht a3=> ?_);rcases ag b (.inl N) with(h|h)|h;have:=R.mem.lt G;omega;exact(y b h).2.2.1 i G;exact(aa b h).2.1 i G;obtain⟨bf,bg⟩:=XD X;rcases agc bf with⟨_,h⟩|⟨bk,al⟩;cases h;rcases ag b N with(h|h)|h;have:=(R.fZ k t M b al F x).lt;omega;exact(y b h).2.2.2.1 k _ M bk al F (.inr ⟨⟨t,rfl⟩,x⟩);exact bg ((aa b h).2.2 k t M al F x);cases ht;have bl:cap≠0:=by
  intro h;subst h;simp[RV.kF] at a3
 rcases z.mem with m|⟨w,af,rfl,X,F,x,h4,Q⟩;exact aY m bl;have ab:w=b:=by
  obtain⟨c',rfl⟩:∃c',cap=c'+1:=⟨cap-1,ae⟩;simpa[RV.kF] using a3
 subst ab;have br:∀(L:Nat)(H:RK)(M:RV),(iY kill 0 s.rs)[L]?=U H->O.r[L]?=U M->¬yb o H M w:=by
  intro L H M g1 g B;rcases agc g1 with⟨_,rfl⟩|⟨hn,an⟩;rcases B with B|⟨⟨t,ht⟩,_⟩;cases B;cases ht;rcases Q with Q|Q;rcases B with B|⟨⟨t,rfl⟩,B⟩;have:=(R.mem.am L H M an g).1.lt B;omega;have:=(R.fZ L t M w an g B).lt;omega;exact(y w Q).2.2.2.1 L H M hn an g B
 refine⟨?_,⟨Y rows,cap,af,rfl,X,z.le,F,x⟩,λi G=> ?_,λL H M g1 g B=> ?_,λG=> ?_⟩;rcases Q with Q|Q;exact .inl (oL R.mem.base.size Q);exact(y w Q).1;rcases Q with Q|Q;have:=R.mem.lt G;omega;exact(y w Q).2.2.1 i G;obtain⟨e0,g4,hw⟩:=bb g1;exact br L e0 M g4 g (B.mb hw);rcases Q with Q|Q;have:=ac.lt G;omega;exact(y w Q).2.2.2.2 G;intro b N;rcases ag b (.inl (dR.own _ _ _ N)) with(h|h)|h;exact .inl (oL R.mem.base.size h);exact(y b h).1.imp id .inl;exact .inr (.inr (aa b h).1)
end
section
variable{p:aw}{d:World}{D:b9}{P:Program}{o:Ty}{V:aw}{O:ak}{s:S}{a:Act}{W:World}
def kH(A:nG)(X:Nat):cw:=match A,X with
 |U a,_+1=>U a.block
 |_,_=>Z
def I2(A:nG)(n X:Nat)(R:ax):(RV.mk (.slice A n X) R).kF=kH A X:=by
 cases A<;>cases X<;>rfl
structure I3(W:World)(e:TypeId)(w:Nat)(A:nG)(cap:Nat):Prop where
 nil:A=Z->cap=0
 mem:cap=0\/∃b cur,A=U ⟨b,0,Z⟩/\W.heap[b]?=U (.cells cur e (0,0))/\cap<=maxLen/\cur.size=cap*w
def XF{M:lW}{t:TypeId}{L:Nat×Nat}(h:bJ W o (.sl X) (.mk (.slice (U ⟨R,0,Z⟩) Q i) k))(H:W.heap[R]?=U (.cells M t L)):
  M.toList.take (Y k*(bD o (.sl X)).length)=eo k:=by
 have A:=zV (fz.wJ h).len;have G:∀(q:Nat)(u:Value),(eo k)[q]?=U u->M[q]?=U u:=by
  intro q u N;obtain⟨z,y,F,x,B⟩:=MK h q u N;cases F;simpa[nF,H] using B
 apply ke;intro q;rw[mB];by_cases N:q<(eo k).length;rw[aI ae,cK N];simpa using G q _ (cK N);rw[aK ae,jK ae]
def arD{t t2 tyR:TypeId}(a4:eU P X v)(hw:Y v.ao≠0)(ac:(bD o (.sl X)).length=Y v.ao)(n:P.underlying t=U (.slice X))(m:P.underlying t2=U (.slice X))
  {H:ax}{F l:nG}{cap2:Nat}(y:bJ W o (.sl X) (.mk (.slice F R Q) k))(hr:I3 W X (Y v.ao) F Q)
  (af:Y H=i)(a9:fz W o X H)(ba:∀(q:Nat)(u:Value),(eo H)[q]?=U u->∃g,l=U g/\W.cell? (g.add q)=U u)
  (ca:R<=536870912)(cc:i<=536870912):
  ∃A bb W',(Builtin.append_ #[t,t2] tyR #[.slice F R Q,.slice l i cap2]).run P W=.ok (.slice A (R+i) bb) W'/\W.grownBy W' (kH F Q)/\DF W W' X (Y v.ao) (kH F Q) (k++H) A bb:=by
 obtain⟨N,w,r,z,hz,bk⟩:=a4.IL;have bl:=a4.bytes N w;have br:z.cells.size=Y v.ao:=by rw[<-Dc,bk];simp
 obtain⟨f,cf⟩:=pJ y;have bs:=fz.wJ y;have bd:(eo k).length=R*N.size:=by rw[zV bs.len,f,ac,r]
 have ag:(eo H).length=i*N.size:=by rw[zV a9.len,af,ac,r]
 have al:(eo (k++H)).length=(R+i)*Y v.ao:=by rw[Xy,gD,bd,ag,r,qf]
 have d:(k++H).length=R+i:=by simp[f,af]
 have an:∀G:World,(∀x,G.cell? x=W.cell? x)->(Builtin.firstCells N.size i (.slice l i cap2)).run P G=.ok (eo H).toArray G:=by
  intro G hc;cases l with
  |none=>
   have:eo H=[]:=by
    cases hq:eo H with
    |nil=>rfl
    |cons x xs=>obtain⟨g,h,_⟩:=ba 0 x (by rw[hq];rfl);cases h
   rw[run_firstCells_none,this]
  |some a2=>
   refine run_firstCells_some G N.size i a2 i cap2 _ ag (λj M hj=> ?_);obtain⟨g,h,h'⟩:=ba j M hj;cases h;rw[hc];exact h'
 have bt:∀G:World,(∀x,G.cell? x=W.cell? x)->(Builtin.firstCells N.size R (.slice F R Q)).run P G=.ok (eo k).toArray G:=by
  intro G hc;cases F with
  |none=>
   have:eo k=[]:=by
    cases hq:eo k with
    |nil=>rfl
    |cons x xs=>obtain⟨b,bx,h,_⟩:=MK y 0 x (by rw[hq];rfl);cases h
   rw[run_firstCells_none,this]
  |some a1=>
   refine run_firstCells_some G N.size R a1 R Q _ bd (λj M hj=> ?_);obtain⟨b,bx,h,_,h'⟩:=MK y j M hj;cases h;rw[hc,wI];exact h'
 by_cases aa:R+i<=Q
 
 rcases zt Q with h0|h0;have e1:R=0:=ae;have e2:i=0:=ae;subst h0 e1 e2;have r1:k=[]:=rZ f;have r2:H=[]:=rZ af;subst r1 r2;refine⟨F,0,W, ?_,⟨rfl,rfl,rfl,cd _,λ_ _ _=>rfl⟩,⟨cd _,λ_=>rfl,.inl rfl⟩⟩;have B:=an W (λ_=>rfl);have ab:∀a1:Addr,(storeCells a1 [] 0).run P W=.ok () W:=λ_=>rfl
 cases F with
 |none=>simp[Builtin.append_,run_underlying n,run_underlying m,Go.sizeOf,typeInfo,w,Builtin.lenOf,B,eo]
 |some a1=>simp[Builtin.append_,run_underlying n,run_underlying m,Go.sizeOf,typeInfo,w,Builtin.lenOf,B,eo,ab]
 rcases hr.mem with hc|⟨b,p,rfl,hg,a3,b0⟩;omega;have b1:R*N.size+(eo H).length<=p.size:=by rw[ag,b0,<-qf,r];exact Fe _ aa
 have B:=an W (λ_=>rfl);have ab:=run_storeCells_at P b (R*N.size) X (eo H) 0 p W hg (by simpa using b1) (λu hu=>af3 (a9.single u hu));simp only[xN] at ab;have bf:kH (U ⟨b,0,Z⟩) Q=U b:=by cases Q with
  |zero=>omega
  |succ c=>rfl
 refine⟨U ⟨b,0,Z⟩,Q,W.setRow b (p.toList.take (R*N.size)++eo H++p.toList.drop (R*N.size+(eo H).length)).toArray, ?_,⟨rfl,rfl,rfl,by simp[World.setRow],λL _ hk=>setRow_other W b L _ (λh=>hk (by rw[bf,h]))⟩,
  ⟨by rw[d];exact aa,ay,.inr ⟨b,_,rfl,setRow_heap W b p _ X _ hg,a3, ?_, ?_,.inr bf⟩⟩⟩
 simp[Builtin.append_,run_underlying n,run_underlying m,Go.sizeOf,typeInfo,w,Builtin.lenOf,aa,B,Addr.add_lit,ab];simp only[Fi,gD,De,Df,Dc];omega;have bg:=XF y hg;rw[f,ac,<-r] at bg;rw[d,bg,<-Xy,<-al];exact List.take_left
 
 have b2:R+i<=1073741824:=ae;have b3:(R+i)*N.bytes<=140737488355328:=by
  have:(R+i)*N.bytes<=1073741824*131072:=Wr b2 bl;omega
 have ch:=growslice_fits (show Q<R+i from ae) b3;have b4:R+i<=maxLen:=by simp only[maxLen];omega
 have b5:=grownCap_ge W (R+i) Q X;have a3:=grownCap_le_maxLen W (R+i) Q X b4;have B:=an W.drew (λ_=>ay);have b6:=bt W.drew (λ_=>ay);have b7:¬(9223372036854775807<((R:Int)+(i:Int))):=ae;have b8:¬(281474976710656<Builtin.nextslicecap (R+i) Q*N.bytes):=ae;refine⟨U ⟨W.heap.size,0,Z⟩,grownCap W (R+i) Q X,W.drew.alloc (.cells ((eo (k++H)).toArray++Builtin.zeroCells z.cells (grownCap W (R+i) Q X-(R+i))) X), ?_,
  ⟨rfl,rfl,rfl,ay,λL hk _=>Below.heap_alloc W.drew _ _ hk⟩,⟨by rw[d];exact b5,ay,.inr ⟨W.heap.size,_,rfl,P6 W.drew _,a3, ?_, ?_,.inl (cd _)⟩⟩⟩
 simp[Builtin.append_,run_underlying n,run_underlying m,Go.sizeOf,typeInfo,zeroValue,w,hz,Builtin.lenOf,aa,b7,b8,Question.forced,B,b6,newRow,grownCap];congr 2;apply mC;simp[H7,Xy];simp only[Array.size_append,Fi,size_zeroCells,br,al,<-qf];congr 1;omega;simp only[Array.toList_append,d,<-al];exact List.take_left
end
structure bH(s:S)(O:ak)(V:aw)(s':S)(O':ak)(V':aw):Prop where
 ext:nh s.au O O' V V'
 mono:∀i,aL s.au i=J->aL s'.au i=J
 len:Y s.au<=Y s'.au
 aA:s.aA<=s'.aA
def bH.refl(s:S)(O:ak)(V:aw):bH s O V s O V:=⟨nh.refl _ _ _,λ_ h=>h,cd _,cd _⟩
def bH.trans{s s' X:S}{O R Q:ak}{V N M:aw}(h:bH s O V s' R N)(k:bH s' R N X Q M):bH s O V X Q M:=
 ⟨h.ext.trans k.ext h.mono,λi L=>k.mono i (h.mono i L),oL h.len k.len,oL h.aA k.aA⟩
def bH.put{s s':S}{X:ak}{R:aw}(h:bH s l y s' X R)(d:cw)(v:C):bH s l y (s'.put d v) X R:=by
 cases d<;>exact⟨h.ext,h.mono,h.len,h.aA⟩
def OR.gives(O:ak)(X:S):OR->Prop
 |.ok x=>X=x
 |.bz b x=>b.ah O=J/\X=x
 |.split b R Q=>X=if b.ah O then R else Q
 |.no _=>False
def sI(P:Program)(o:Oper)(a:Act)(W:World)(v:Value)(X:World):Prop:=
 (execOp a.eval o).run P W=.ok (.value v) X\/((execOp a.eval o).run P W=.ok .skip X/\v=undef)
def XG{s:S}(h:gf s.au R=J)(t:TypeId)(X:av)(d:cw)(v:C):bH s l y ((s.cZ R t X).put d v) l (y.set R Q):=by
 refine bH.put (s':=s.cZ R t X) ⟨afZ h l y Q,λi N=>(oX (mJ h).2).2 (.inr N),by simp[S.cZ],by simp[S.cZ]⟩ d v
def agd{s:S}{Q:av}(h:cg s.au R=U (X,w))(d:cw)(v:C):bH s l y ((s.cZ R X Q).put d v) l y:=by
 refine bH.put (s':=s.cZ R X Q) ⟨nh.refl _ _ _,λi N=>(oX (bZ.1 (jO.1 h)).1).2 (.inr N),by simp[S.cZ],by simp[S.cZ]⟩ d v
def bH.lk{s X:S}{R:ak}{Q:aw}(h:bH s l y X R Q)(n:Nat):bH s l y {X with lk:=n} R Q:=⟨h.ext,h.mono,h.len,h.aA⟩
section
variable{g:aw}{u:World}{D:b9}{P:Program}{f:bF}{V:aw}{O:ak}{s:S}{a:Act}{W:World}
def aC.lk(R:aC g u D f.ty V O s a W)(n:Nat):aC g u D f.ty V O {s with lk:=n} a W:=⟨R.mem,R.gv,R.ei,R.eb,R.er,R.cU,R.size,R.tmps,R.fZ⟩
def zW{s X:S}{d:cw}{r:PR}(h:(sj s d R r).gives l X):∃v,r.gives l v/\X=s.dw d v R:=by
 cases r with
 |ok v=>exact⟨v,rfl,h⟩
 |bz b v=>
  simp only[sj] at h;split at h;exact⟨v,⟨h.1,rfl⟩,h.2⟩;exact h.elim
 |no w=>exact h.elim
def age(n:Nat)(l:av):(wv n l).length=n*Y l:=by
 induction n with
 |zero=>simp[wv]
 |succ n X=>simp[wv,X,qf];omega
def XH(l:av):∀(n k:Nat),k<n*Y l->(wv n l)[k]?=l[k%Y l]?
 |0,k,h=>by simp at h
 |n+1,k,h=>by
  have Q:0<Y l:=by
   rcases zt (Y l) with X|X;rw[X] at h;simp at h;exact X
  rw[wv];by_cases R:k<Y l;rw[dU R,Nat.mod_eq_of_lt R];rw[iC ae,XH l n (k-Y l) (by rw[qf] at h;omega)];congr 1;have:k=(k-Y l)+Y l:=ae
  conv=>rhs;rw[this,Nat.add_mod_right]
def MP(R:aC g u D f.ty V O s a W)(B:i7 P f.ty)(F:eL f.gl O)(m:OM){s':S}(h:(gt f m s).gives O s'):
  ∃v W' V',sI P m.o a W v W'/\aC g u D f.ty V' O s' (a.put m.o.dst v) W'/\bH s O V s' O V':=by
 unfold gt at h;split at h;exact h.elim;rename_i Q;have Q:∀x∈m.o.op.operands.toList,(s.ev f.gl x).eJ=false:=by
  intro x hx;cases hh:(s.ev f.gl x).eJ;rfl;exact aY (kS.2 ⟨x,hx,hh⟩) Q
 split at h
 
 rename_i t X;split at h;rename_i ti r;split at h;rename_i N;simp only[az] at N;cases h;obtain⟨z,ac,af⟩:=IQ (P:=P) (W:=W) (O:=O) (V:=V) (B _ _ r);have G:=R.alloc (sH N.2) t (dZ ti) N.1;rw[sG (IW N.2)] at G;have j:=mJ (sH N.2);refine⟨.pointer (U ⟨W.heap.size,0,Z⟩),W.alloc (.cells (C.aF O V (dZ ti)).toArray t),V.set m.ix W.heap.size,.inl ?_, ?_,XG (sH N.2) _ _ _ _⟩;rw[<-af];simp[execOp,X,Instr.alloc,ac,newVar,newRow];have:=G.put m.o.dst (.loc m.ix 0);rw[C.ah,BO (by rw[R.gv];exact j.2)] at this;exact this;exact h.elim;exact h.elim
 
 rename_i t x X;rw[X] at Q;have he:=du R F x (Q x cL);split at h;rename_i ti r;split at h;rename_i N;simp only[az] at N;cases h;obtain⟨⟨⟨-,d⟩,h2⟩,H⟩:=N;have ag:=QY (O:=O) (V:=V) (uZ R) h2;have G:=R.alloc (sH H) t (s.ev f.gl x).cells d;rw[sG (IW H)] at G;have j:=mJ (sH H);refine⟨.pointer (U ⟨W.heap.size,0,Z⟩),W.alloc (.cells (C.aF O V (s.ev f.gl x).cells).toArray t),V.set m.ix W.heap.size,.inl ?_, ?_,XG (sH H) _ _ _ _⟩;rw[<-ag];simp[execOp,X,Instr.box,newVar,newRow,he];have:=G.put m.o.dst (.loc m.ix 0);rw[C.ah,BO (by rw[R.gv];exact j.2)] at this;exact this;exact h.elim;exact h.elim
 
 rename_i t L parts X;rw[X] at Q;have a3:(parts.map λ(i,x)=>(i,a.eval x)).toList=(parts.toList.map λp=>(p.1,s.ev f.gl p.2)).map λp=>(p.1,p.2.ah O V):=by
  simp only[wh,oc];apply kb;intro p hp;have:=du R F p.2 (Q p.2 (by simp[io];exact⟨p.1,by simpa using hp⟩));simp[this]
 split at h;rename_i e ao q r;split at h;rename_i M al;split at h;rename_i l hf;split at h;rename_i N;simp only[az,cF] at N;cases h;obtain⟨⟨d,h2⟩,H⟩:=N;have hd:P.underlying t=U (.slice e):=(B _ _ r).desc;obtain⟨z,ac,af⟩:=IQ (P:=P) (W:=W) (O:=O) (V:=V) (B _ _ al);have a4:=MF (V:=V) (uZ R) _ _ _ _ hf;have aa:(dZ M).length=Y M.ao:=by simp[dZ]
 have hzero:((ae4 (L*Y M.ao)).map ((if L*Y M.ao=0 then #[] else z.cells)[· %(if L*Y M.ao=0 then #[] else z.cells).size]!))=(C.aF O V (wv L (dZ M))).toArray:=by
  apply mC;apply ke;intro k;by_cases ab:k<L*Y M.ao;have bb:¬L*Y M.ao=0:=ae;have bd:0<Y M.ao:=by
   rcases zt (Y M.ao) with A|A;rw[A] at ab;simp at ab;exact A
  have a9:k%Y M.ao<(C.aF O V (dZ M)).length:=by rw[F0,aa];exact Fo _ bd
  simp only[bb,ga,af,wh,aqs,dN,Dd ab,dV,sC,XH _ _ _ (by rw[aa];exact ab),aa];rw[<-sC,cK a9];simp only[Fi,F0,aa];rw[getElem!_pos _ _ (by simpa using a9)];simp;rw[jK dF,jK (by simp[age,aa];omega)]
 have G:=R.alloc (sH H) e l d;rw[sG (IW H)] at G;have j:=mJ (sH H);refine⟨.slice (U ⟨W.heap.size,0,Z⟩) L L,W.alloc (.cells (C.aF O V l).toArray e),V.set m.ix W.heap.size,.inl ?_, ?_,XG (sH H) _ _ _ _⟩;have ba:¬L*Y M.ao>2^24:=ae;by_cases A:L*Y M.ao=0;simp only[aI A] at hzero;simp only[execOp,X,Instr.buildSlice,dq,eU.ik hd,dl,(B _ _ al).ng,ba,ga,eX,aI A,a3];rw[hzero,a4];simp[newRow];simp only[aK A] at hzero;simp only[execOp,X,Instr.buildSlice,dq,eU.ik hd,dl,(B _ _ al).ng,ba,ga,eX,aK A,a3,ac];rw[hzero,a4];simp[newRow];have:=G.put m.o.dst (.iP m.ix 0 L L);rw[C.ah,BO (by rw[R.gv];exact j.2)] at this;exact this;exact h.elim;exact h.elim;exact h.elim;exact h.elim
 
 rename_i t x y X;rw[X] at Q;have an:=du R F x (Q x cL);have a0:=du R F y (Q y cL);split at h;rename_i ti i bg r hx;split at h;rename_i bt cs n;split at h;rename_i N;simp only[az,dv,cF] at N;cases h;obtain⟨⟨⟨⟨d,h2⟩,H⟩,h4⟩,-⟩:=N;have ag:=QY (O:=O) (V:=V) (uZ R) h4;obtain⟨n,bf⟩:=ye n;obtain⟨W',hr,G⟩:=R.store (B _ _ r) n bf d h2 H ag;refine⟨undef,W',V,.inr ⟨?_,rfl⟩,G.put m.o.dst (.bP []),agd n _ _⟩;simp only[execOp,X,an,a0,hx,C.ah,dq,hr,dl,eX];exact h.elim;exact h.elim;exact h.elim
 
 rename_i c x y X;rw[X] at Q;have a1:=du R F c (Q c cL);have an:=du R F x (Q x cL);have a0:=du R F y (Q y cL);split at h;rename_i b n;simp only[OR.gives] at h;rw[n,C.ah] at a1;cases w:b.ah O;simp only[w,iW,ga] at h;subst h;refine⟨_,W,V,.inl ?_,R.put _ _,(bH.refl _ _ _).put _ _⟩;simp[execOp,X,a1,w,asBool,a0];simp only[w,cS] at h;subst h;refine⟨_,W,V,.inl ?_,R.put _ _,(bH.refl _ _ _).put _ _⟩;simp[execOp,X,a1,w,asBool,an];exact h.elim
 
 rename_i t x X;obtain⟨v,w,rfl⟩:=zW h;exact⟨v.ah O V,W,V,.inl (afW R B F m.o Q (by rw[X];exact w)),(R.lk _).put _ _,((bH.refl _ _ _).lk _).put _ _⟩
 
 obtain⟨v,w,rfl⟩:=zW h;exact⟨v.ah O V,W,V,.inl (afW R B F m.o Q w),(R.lk _).put _ _,((bH.refl _ _ _).lk _).put _ _⟩
def aC.room{g:aw}{u:World}{D:b9}{V:aw}{O:ak}{s:S}{a:Act}{W:World}(R:aC g u D f.ty V O s a W)(n:Nat):
  aC g u D f.ty (V++eI n 0) O (s.room n) a W/\bH s O V (s.room n) O (V++eI n 0):=by
 have X:∀k,ad (V++eI n 0) k=ad V k:=by
  intro k;simp only[ad,dB];by_cases h:k<Y V;rw[dU h];rw[iC ae,jK (l:=V) ae,E9];split<;>rfl
 have G:∀i,cg (s.au++eI n Z) i=cg s.au i:=by
  intro i;simp only[cH];by_cases h:i<Y s.au;rw[dU h];rw[iC ae,jK (l:=s.au) ae,E9];split;rename_i N;split at N<;>cases N;rfl
 have M:∀i,aL (s.au++eI n Z) i=aL s.au i:=λi=>by simp[aL,G]
 have B:=iL.refl O (Y O.i) (Y O.b) (Y O.r);have F:∀v,C.ah O (V++eI n 0) v=v.ah O V:=by
  intro v;have:ad (V++eI n 0)=ad V:=funext X;exact QP this v
 have q:∀l,C.aF O (V++eI n 0) l=C.aF O V l:=λl=>by simp only[oU];exact kb λv _=>F v
 refine⟨⟨⟨R.mem.base,λi Q=> ?_,λi j Q A=> ?_,λi t z h=> ?_,λk e L N H=> ?_⟩,by simp[S.room,R.gv],R.ei,R.eb,R.er,R.cU,R.size,λt y h=> ?_,λk e L b N H x=> ?_⟩,⟨⟨B,cd _,cd _,cd _,λk _=>X k⟩,λi Q=> ?_,by simp[S.room],cd _⟩⟩;rw[X];exact R.mem.own i (by rw[<-M];exact Q);rw[X,X];exact R.mem.inj i j (by rw[<-M];exact Q) (by rw[<-M];exact A);rw[X,afw (funext X)];exact R.mem.box i t z (by rw[<-G];exact h);refine⟨(R.mem.am k e L N H).1,λb w i Q=> ?_⟩;rw[X];exact(R.mem.am k e L N H).2 b w i (by rw[<-M];exact Q);rw[F];exact R.tmps t y h;have t:=R.fZ k e L b N H x;exact⟨t.own,t.mem,λi Q=>by rw[X];exact t.box i (by rw[<-M];exact Q),t.alone,t.inner⟩;simp only[S.room];rw[M];exact Q
end
section
variable{p:aw}{f:World}{D:b9}{P:Program}{cf:bF}{V:aw}{O:ak}{s:S}{a:Act}{W:World}
def yj{d:cw}{bz:BE}{x:LE}{cY:aw}{b:BI}(h:jY s d bz X z x y cY=U b):
  s.bd=J/\(∀z∈y,z∉cY)/\b=⟨bz,X,x,({s with rs:=jX cY 0 (iY y 0 s.rs)++[z]}:S).put d (.am (.v (Y s.rs)))⟩:=by
 unfold jY at h;split at h;rename_i R;cases h;simp only[az] at R;exact⟨R.1.1.1,λz Q=>by have:=fp.1 R.1.1.2 z Q;simpa using this,rfl⟩;cases h
def Gd{X:S}(Q:aC p f D n V (O.add (.r L)) X a N)(M:Y O.r=R)(d:cw):aC p f D n V (O.add (.r L)) (X.put d (.am (.v R))) (a.put d L.val) N:=by
 have:=Q.put d (.am (.v R));have e:C.ah (O.add (.r L)) V (.am (.v R))=L.val:=by subst M;simp[C.ah,RE.ah,RE.rv,ak.rv,ak.add]
 rwa [e] at this
def DG{rv:RV}(X:bp)(d:cw)(v:C):bH s O V (({s with rs:=X}:S).put d v) (O.add (.r rv)) V:=
 bH.put (s:=s) (s':={s with rs:=X}) ⟨rn _ _ _ _,λ_ h=>h,cd _,cd _⟩ d v
def Q6{n:K}(h:(Im n).ah O=J):n.ah O<=536870912:=by
 unfold Im at h;rw[BK] at h;simp only[gX,K.ah,Il] at h;exact tH h
def I4(P:Program)(p:aw)(f:World)(D:b9)(R:Ty)(V:aw)(O:ak)(s:S)(a:Act)(W:World)(o:Oper)(b:BI):Prop:=
 ∃v Q X,sI P o a W v Q/\F6 R p f b.e b.x s.rs O X/\aC p f D R V (O.add (.r X)) b.s (a.put o.dst v) Q/\bH s O V b.s (O.add (.r X)) V
def MQ(Q:aC p f D cf.ty V O s a W)(h:s.rs[R]?=U (.own X)):∃A n N,O.rv R=.mk (.slice A n N) (O.rv R).aj/\bJ W cf.ty (.sl X) (.mk (.slice A n N) (O.rv R).aj)/\I3 W X (bD cf.ty (.sl X)).length A N:=by
 have M:=Xm Q h;have w:=tU Q h;have G:=λb F=>Q.fZ R X _ b h w F
 revert M G;generalize O.rv R=v;intro M G;cases M with
 |own X v M z=>
  cases M with
  |sl X A L N y u t r q F o=>
   refine⟨A,L,N,rfl,bJ.sl X A L N y u t r q F o,λm=>z L N (by rw[m];rfl), ?_⟩;rcases zt N with x|x;exact .inl x;right;cases A with
   |none=>have:=z L N rfl;omega
   |some B=>
    have l:(RV.mk (.slice (U B) L N) y).kF=U B.block:=by rw[I2];cases N with
     |zero=>omega
     |succ c=>rfl
    obtain⟨l',c',j,H,i,g3,g,d⟩:=(G _ l).mem;simp only[RV.mH,Value.slice.injEq] at H;obtain⟨H,rfl,rfl⟩:=H;exact⟨B.block,j,H,i,g,d⟩
def arE(R:aC p f D cf.ty V O s a W){G:LE}{v:BE}(h:ww s X t M=U (G,v,y))(q:v.ah O=J):
  ∃A n N,M.ah O V=.slice A n N/\bJ W cf.ty (.sl X) (.mk (.slice A n N) (G.aj O))/\I3 W X (bD cf.ty (.sl X)).length A N/\n<=536870912/\
   ((y=[]/\kH A N=Z)\/∃k Q F,y=[k]/\s.rs[k]?=U (.own Q)/\O.r[k]?=U F/\kH A N=F.kF)/\∀cY,BQ cf.ty V O s X (G.aj O) cY:=by
 unfold ww at h;split at h;rename_i k;split at h;rename_i o;cases h;have L:=o.1;obtain⟨A,n,N,B,m,l⟩:=MQ R L;have z:=Q6 q;refine⟨A,n,N,by simp only[C.ah,RE.ah,RE.rv];rw[B];rfl,by simpa[LE.aj,RE.rv] using m,l, ?_,.inr ⟨k,X,O.rv k,rfl,L,tU R L,by rw[B,I2]⟩,λcY b H=> ?_⟩;simp only[K.ah,RE.rv] at z;rw[B] at z;simp[lenOf] at z;omega;simp only[LE.aj,RE.rv] at H;have u:=I0 (O:=O) (e0:=.own X) rfl H;refine⟨⟨k,_,L,u⟩,(R.mem.am k _ _ L (tU R L)).2 b u,λd Q F j i g=>(MN R j i g L rfl H).elim⟩;cases h;rename_i r c;split at h;rename_i w;cases h;unfold RE.isNil at w;split at w;refine⟨Z,0,0,rfl,BP _ _,⟨λ_=>rfl,.inl rfl⟩,ae,.inl ⟨rfl,rfl⟩,λcY b H=>(MM (by simpa[LE.aj] using H)).elim⟩;cases w;cases h;cases h;refine⟨_,0,0,rfl,BP _ _,⟨ay,.inl rfl⟩,ae,.inl ⟨rfl,rfl⟩,λcY b H=>(MM (by simpa[LE.aj] using H)).elim⟩;cases h
def Q7{w:Nat}:∀{n:Nat}{l:av}{i:Nat}{X:av},(jo w n l)[i]?=U X->X=(l.drop (i*w)).take w/\i<n
 |0,l,i,X,h=>by simp[jo] at h
 |n+1,l,0,X,h=>by simp[jo] at h;subst h;exact⟨ay,ae⟩
 |n+1,l,i+1,X,h=>by
  simp only[jo,sa] at h;obtain⟨R,Q⟩:=Q7 h;refine⟨?_,ae⟩;rw[R,LS];congr 2;rw[qf];omega
def Q8(w:Nat):∀(n:Nat)(l:av),(jo w n l).length=n
 |0,l=>rfl
 |n+1,l=>by simp[jo,Q8 w n]
def Q9:∀{l:av}{r:RE}{k:Nat},C.am r∈l->r.root=U k->k∈C.oO l
 |[],r,k,h,_=>by simp at h
 |x::R,r,k,h,X=>by
  simp only[C.oO,eP];rcases dP.1 h with rfl|h;left;simp[C.WJ,X];right;exact Q9 h X
def agf(R:aC p f D cf.ty V O s a W){l:wm}{cY:aw}(B:mX cf.ty s (bD cf.ty (.sl X)) l=J)(A:∀N∈l,∀(r:RE)(k:Nat),C.am r∈N->r.root=U k->k∈cY):
  BQ cf.ty V O s X (l.map λN=>N.map (C.cj O)) cY:=by
 intro b ⟨i,j,N,c,z,k,Q,y,x,w⟩;rw[dN] at Q;cases M:l[i]? with
 |none=>rw[M] at Q;cases Q
 |some L=>
  rw[M] at Q;simp at Q;subst Q;obtain⟨r,v,H,G,F⟩:=XC (DE B i L M) y x w;obtain⟨u,q⟩:=I1 R G H F;refine⟨u,q,λh t g o n m=> ?_⟩;have:=Q4 R o n m G H F;subst this;exact A L (jm M) _ _ (jm v) rfl
def XI(R:aC p f D cf.ty V O s a W){l:wm}(M:mX cf.ty s (bD cf.ty (.sl X)) l=J):fz W cf.ty X (l.map λN=>N.map (C.cj O)):=by
 refine fz.of (λi N Q=> ?_);rw[dN] at Q;cases h:l[i]? with
 |none=>rw[h] at Q;cases Q
 |some L=>rw[h] at Q;simp at Q;subst Q;exact XB R (DE M i L h)
def XJ(o:(bD cf.ty (.sl X)).length=R)(y:mX cf.ty s (bD cf.ty (.sl X)) (jo R Q w)=J)(x:(∀(N:Nat)(H:aH),((jo R Q w).map λH=>H.map (C.cj O))[N]?=U H->Y H=R))
  (h:(eo ((jo R Q w).map λH=>H.map (C.cj O)))[i]?=U c):(C.aF O V w)[i]?=U c:=by
 obtain⟨N,j,H,M,G,F,rfl,rfl⟩:=IZ x h;rw[dN] at G;cases B:(jo R Q w)[N]? with
 |none=>rw[B] at G;cases G
 |some A=>
  rw[B] at G;simp at G;subst G;rw[dN] at F;cases L:A[j]? with
  |none=>rw[L] at F;cases F
  |some v=>
   rw[L] at F;simp at F;subst F;obtain⟨m,t⟩:=Gc (DE y N A B);have k:j<Y A:=(bZ.1 L).1;obtain⟨z,r⟩:∃z,(bD cf.ty (.sl X))[j]?=U z:=⟨_,cK ae⟩;rw[sC];have p:=(Q7 B).1;have:w[N*R+j]?=U v:=by
    rw[p,mB] at L;split at L
    rwa [tF] at L
    cases L
   rw[this];simp only[dV,cG];exact agb (t j z v r L)
def arF(R:aC p f D cf.ty V O s a W)(ac:cf.ty X=U v){G:LE}{n2:BE}(h:rh cf.ty s X v M=U (G,n2,y))(hn:n2.ah O=J):
  ∃A n N,M.ah O V=.slice A n N/\(G.aj O).length=n/\fz W cf.ty X (G.aj O)/\(∀(q:Nat)(u:Value),(eo (G.aj O))[q]?=U u->∃a0,A=U a0/\W.cell? (a0.add q)=U u)/\n<=536870912/\BQ cf.ty V O s X (G.aj O) y:=by
 have l:bD cf.ty (.sl X)=v.ao:=by simp[bD,ac]
 unfold rh at h;split at h;rename_i r;split at h;rename_i j;cases h;unfold RE.isNil at j;split at j;exact⟨Z,0,0,rfl,rfl,fz.nil,λq u L=>by simp[LE.aj,eo] at L,ae,λb Q=>(MM (by simpa[LE.aj] using Q)).elim⟩;cases j;split at h;rename_i F;cases h;have z:=rm R ay F;have x:=Q6 hn;simp only[K.ah] at x;have g:BQ cf.ty V O s X (r.rv O).aj []:=by
  intro b Q;have hl:dR cf.ty (.sl X) (r.rv O) b:=by rw[<-Gb (r.rv O)];exact Q1 Q
  obtain⟨q1,q2⟩:=I1 R ay F hl;refine⟨q1,q2,λk' t d w k2 k3=> ?_⟩;have:=Q4 R w k2 k3 ay F hl;subst this;simp only[RE.kind,dB,w,oJ,RK.rd,RK.sl.injEq] at F;subst F;exact(MN R w k2 k3 w rfl Q).elim
 simp only[C.ah,RE.ah,LE.aj];revert z x g;generalize r.rv O=d;intro z x g;have o:=fz.wJ (v:=d.val) (rows:=d.aj) (by rw[Gb];exact z);cases z with
 |sl X A H N af m h2 c hi Q ho=>
  refine⟨A,H,N,rfl,m,o,λq u L=> ?_,by simp[lenOf] at x;omega,g⟩;obtain⟨b,aa,g1,g2,g3⟩:=MK (bJ.sl X A H N af m h2 c hi Q ho) q u L;exact⟨_,g1,by rw[wI];exact g3⟩
 cases h;rename_i i aa H N;split at h;rename_i bt cs Q;split at h;rename_i hc;cases h;simp only[az,cF] at hc;obtain⟨⟨m,h2⟩,c⟩:=hc;have hf:mX cf.ty s (bD cf.ty (.sl X)) (jo (Y v.ao) H (wt cs aa (H*Y v.ao)))=true:=by rw[l];exact m
 have o:=XI R hf;refine⟨U ⟨ad V i,aa,Z⟩,H,N,rfl,by simp[LE.aj,Q8],by simpa[LE.aj] using o,λq u L=> ?_,by simp[Il] at c;omega, ?_⟩;simp only[LE.aj] at L;have B:=XJ (V:=V) (by rw[l]) hf (λi ab hr=>by rw[o.len i ab hr,l]) L;refine⟨_,rfl, ?_⟩;rw[sC,wt,mB] at B;split at B;rw[tF,<-sC] at B;obtain⟨Q,ag⟩:=ye Q;have:=R.mem.box i bt cs Q;rw[sG ag] at this;rw[wI];simp[nF,this,B];simp at B;refine agf R hf (λab al r k hr hk=> ?_);obtain⟨ii,an⟩:=qW al;have:=(Q7 an).1;subst this;exact Q9 (Bf (Db hr)) hk;cases h;cases h;cases h
end
section
variable{d:aw}{g:World}{D:b9}{P:Program}{f:bF}{V:aw}{O:ak}{s:S}{a:Act}{W:World}
def zX{x y:BE}(h:(uR x y).ah O=J):x.ah O=J/\y.ah O=true:=by
 rw[Xh] at h;simpa using h
def yk{x y:K}(h:(pC .leq x y).ah O=J):x.ah O<=y.ah O:=by
 rw[BK] at h;simp only[gX] at h;exact tH h
def arG(R:aC d g D f.ty V O s a W)(H:i7 P f.ty)(hg:eL f.gl O){c:Call}(n:F.op=.call c)(m:c.callee=.builtin .append){dr:Bool}{b:BI}(h:eH f F t dr s=U b)(hn:b.bz.ah O=J):
  I4 P d g D f.ty V O s a W F b:=by
 unfold eH at h;simp only[n,m] at h;split at h;rename_i X l x y ab G;split at h;rename_i e ao q L bd q2 ht ac;split at h;rename_i k B;split at h;cases h;rename_i j;have he:e=L:=by by_cases Q:e=L;exact Q;exact aY (.inl Q) j
 have af:Y k.ao≠0:=λQ=>j (.inr Q)
 subst he;split at h;rename_i N n1 bf M n2 cY i h2;obtain⟨ag,al,rfl⟩:=yj h;obtain⟨an,a0⟩:=zX hn;obtain⟨A1,m1,c1,e1,w,g2,g3,g4,g5⟩:=arE (cf:=f) R i an;obtain⟨A2,m2,c2,L,k1,k2,k3,k4,k5⟩:=arF R B h2 a0;have v:(bD f.ty (.sl e)).length=Y k.ao:=by simp[bD,B]
 obtain⟨A,u,W',r1,r2,r3⟩:=arD (P:=P) (tyR:=F.type) (t:=X) (t2:=l) (cap2:=c2) (H _ _ B) af v (H _ _ ht).desc (H _ _ ac).desc w (by rw[<-v];exact g2) k1 k2 k3 g3 k4;have a1:(LE.mW N M).aj O=N.aj O++M.aj O:=rfl;have aa:(N.aj O++M.aj O).length=m1+m2:=by rw[gD,(pJ w).1,k1]
 have a3:BQ f.ty V O s e (N.aj O++M.aj O) cY:=λb hb=>(arA hb).elim (g5 cY b) (k5 b)
 obtain⟨R',a4⟩:=R.bind ag (old:=kH A1 c1) g4 al r2 ((fz.wJ w).mW k2) a3 (by rw[v];exact r3);refine⟨.slice A (m1+m2) u,W',.mk (.slice A (N.aj O++M.aj O).length u) (N.aj O++M.aj O),.inl ?_,⟨⟨A,_,u,by rw[a1],rfl⟩,a4,λ_ _ _ _ h=>by cases h⟩, ?_,DG _ _ _⟩;have ha:c.args.toList=[c.args.toList.getD 0 default,c.args.toList.getD 1 default]:=by
  have hl:Y c.args.toList=2:=by have:=jW Y G;simpa using this
  match c.args.toList,hl with
  |[p,q],_=>rfl
 have a9:∀z∈c.args.toList,a.eval z=(s.ev f.gl z).ah O V:=by
  intro z r;refine du R hg z ?_;have:s.ev f.gl z∈[x,y]:=by rw[<-G];exact List.mem_map_of_mem r
  rcases dP.1 this with Q|Q;rw[Q];cases x<;>first|rfl|(simp[ww] at i)
  rw[P9.1 Q];cases y<;>first|rfl|(simp[rh] at h2)
 have ba:c.args.map a.eval= #[x.ah O V,y.ah O V]:=by
  apply mC;rw[wh];have:c.args.toList.map a.eval=(c.args.toList.map (s.ev f.gl)).map (C.ah O V):=by
   rw[oc];exact kb λz r=>a9 z r
  rw[this,G];rfl
 have bb:c.argTypes= #[X,l]:=by apply mC;rw[ab]
 simp only[execOp,n,resolve,m,dq,eX,dl,invoke,builtin,ba,bb,e1,L,r1];have:=Gd R' R.er F.dst;rw[RV.mH,aa] at this;rw[aa];exact this;cases h;cases h;cases h;cases h
def arH(X:CT):((Bl X).cj O).val=qu X:=by cases X<;>rfl
def arI(R:aC d g D f.ty V O s a W)(aa:i7 P f.ty)(hg:eL f.gl O){xm:Operand}(ho:F.op=.makeSlice X r xm){dr:Bool}{b:BI}(h:eH f F t dr s=U b)(hn:b.bz.ah O=J):
  I4 P d g D f.ty V O s a W F b:=by
 unfold eH at h;simp only[ho] at h;split at h;rename_i e ao q n m ht an a1;split at h;rename_i Q x;split at h;rename_i hc;simp only[az,bne_iff_ne,ne_eq] at hc;obtain⟨⟨bb,bd⟩,bf⟩:=hc;obtain⟨bg,cl,rfl⟩:=yj h;obtain⟨ab,ac⟩:=zX hn;have ab:=yk ab;have ac:=Q6 ac;simp only[K.ah] at ab;obtain⟨N,u⟩:∃N:Nat,n.ah O=(N:Int):=⟨(n.ah O).toNat,ae⟩;rw[u] at ac;have bk:N<=536870912:=ae;have hw:(bD f.ty (.sl e)).length=Y Q.ao:=by simp[bD,x]
 have p:bD f.ty (.sl e)=Q.ao:=by simp[bD,x]
 have af:=du R hg r (by rw[an];rfl);have ag:=du R hg xm (by rw[a1];rfl);have bl:m=n:=(K.bU _ _ bb).symm;rw[an,C.ah,u] at af;rw[a1,C.ah,bl,u] at ag;obtain⟨i,hi,br,z,hz,a3⟩:=(aa _ _ x).IL;have bs:=(aa _ _ x).bytes i hi;have a4:z.cells.size=Y Q.ao:=by rw[<-Dc,a3];simp
 have hf:mX f.ty s (bD f.ty (.sl e)) [dZ Q]=true:=by rw[p];exact bd
 have bt:Q5 W f.ty (bD f.ty (.sl e)) ((dZ Q).map (C.cj O)):=XB R (DE hf 0 _ rfl);have bx:(LE.uP n (dZ Q)).aj O=eI N ((dZ Q).map (C.cj O)):=by simp[LE.aj,u]
 have B:fz W f.ty e (eI N ((dZ Q).map (C.cj O))):=fz.of (λi l H=>by
  rw[E9] at H;split at H;cases H;exact bt;cases H)
 have b0:BQ f.ty V O s e (eI N ((dZ Q).map (C.cj O))) []:=by
  intro b ⟨i,j,l,c,z,k,G,L,M,hl⟩;rw[E9] at G;split at G;cases G;exfalso;rw[dN,dZ,dN] at L;rw[p] at M;rw[M] at L;simp only[dV,cG,Bl,C.cj,RE.rv] at L;subst L;cases hl with
  |deep e v b1 i j l c z k b g1=>simp at g1
  |own e' cm b hl=>
   have al:=(Gc (DE hf 0 _ rfl)).2 j _ (.am (.k z)) (by rw[p];exact M) (by simp[dZ,M,Bl]);simp[si,RE.fits] at al
  |here e a0 b2 b3 b1=>
   have al:=(Gc (DE hf 0 _ rfl)).2 j _ (.am (.k (.slice (U a0) (b2+1) b3))) (by rw[p];exact M) (by simp[dZ,M,Bl]);simp[si,RE.fits,RE.kind,RE.isNil] at al
  cases G
 have b4:(ae4 (N*Y Q.ao)).map (z.cells[· %z.cells.size]!)=(eo (eI N ((dZ Q).map (C.cj O)))).toArray:=by
  apply mC;apply ke;intro q;have cn:(eo (eI N ((dZ Q).map (C.cj O)))).length=N*Y Q.ao:=by rw[zV B.len,hw];simp
  by_cases hq:q<N*Y Q.ao;have b5:0<Y Q.ao:=ae;have b6:q/Y Q.ao<N:=aqo (by rw[Qg];exact hq);have hj:q%Y Q.ao<Y Q.ao:=Fo _ b5;have a9:Q.ao[q%Y Q.ao]?=U Q.ao[q%Y Q.ao]:=cK hj;have G:(eI N ((dZ Q).map (C.cj O)))[q/Y Q.ao]?=U ((dZ Q).map (C.cj O)):=by rw[E9,aI b6]
  have L:((dZ Q).map (C.cj O))[q%Y Q.ao]?=U ((Bl Q.ao[q%Y Q.ao]).cj O):=by simp[dZ,a9]
  have M:=MJ (w:=Y Q.ao) (λi l H=>by rw[B.len i l H,hw]) G L;have b7:q/Y Q.ao*Y Q.ao+q%Y Q.ao=q:=by rw[Qg];exact aeZ q _
  rw[b7,arH] at M;simp only[wh,aqs,dN,Dd hq,dV,a4];rw[M];congr 1;have ba:q%Y Q.ao<z.cells.size:=by rw[a4];exact hj
  rw[getElem!_pos z.cells _ ba];have:z.cells.toList[q%Y Q.ao]?=U (qu Q.ao[q%Y Q.ao]):=by rw[a3,dN,a9];rfl
  rw[We,aqj ba] at this;simpa using this;rw[jK dF,jK (by rw[Wg];omega)]
 have b8:IntKind.i64.wrap (N:Int)=N:=IntWalk.i64_in _ ae;have co:(i.bytes:Int)*N<=2^46:=by
  have:i.bytes*N<=131072*536870912:=Wr bs bk;have L:((i.bytes*N:Nat):Int)<=((131072*536870912:Nat):Int):=Int.ofNat_le.2 this;simp only[Int.natCast_mul] at L;omega
 obtain⟨R',ca⟩:=R.bind bg (old:=Z) (kill:=[]) (cY:=[]) (A:=U ⟨W.heap.size,0,Z⟩) (cap:=N) (W':=W.alloc (.cells (eo (eI N ((dZ Q).map (C.cj O)))).toArray e)) (.inl ⟨rfl,rfl⟩) ay (aDt W _ Z) B b0
  ⟨ay,ay,by
   rcases zt N with y|y;exact .inl y;exact .inr ⟨W.heap.size,_,rfl,P6 W _,by simp only[maxLen];omega,by
    rw[Fi,zV B.len,hw];simp,by
    rw[Wg,Fb];rw[zV B.len];exact cd _,.inl (cd _)⟩⟩
 refine⟨.slice (U ⟨W.heap.size,0,Z⟩) N N,W.alloc (.cells (eo (eI N ((dZ Q).map (C.cj O)))).toArray e),.mk (.slice (U ⟨W.heap.size,0,Z⟩) (eI N ((dZ Q).map (C.cj O))).length N) _,.inl ?_,⟨⟨_,_,_,by rw[bx],rfl⟩,ca,λ_ _ _ _ h=>by cases h⟩, ?_,DG _ _ _⟩;have hd:P.underlying X=U (.slice e):=(aa _ _ ht).desc;rw[<-b4];have c1:¬((N:Int)<0):=ae;have c2:¬((i.bytes:Int)*N>2^48):=ae;by_cases y:N*Y Q.ao=0;have cc:N=0:=by rcases Nat.mul_eq_zero.1 y with hh|hh;exact hh;exact aY hh bf
 subst cc;have ch:IntKind.i64.wrap 0=0:=IntWalk.i64_in 0 ae;simp[execOp,ho,af,ag,Instr.makeSlice,eU.ik hd,asInt,asIntOf,typeInfo,hi,ch,Go.sizeOf,newRow,askRoom];congr 2;apply mC;simp[ae4];simp[execOp,ho,af,ag,Instr.makeSlice,eU.ik hd,asInt,asIntOf,typeInfo,hi,b8,c1,Go.sizeOf,br,y,zeroValue,hz,newRow];intro hh;omega;have:=Gd R' R.er F.dst;rw[RV.mH] at this;simp only[List.length_replicate] at this⊢;exact this;cases h;cases h;cases h
def arJ(Q:aC d g D f.ty V O s a W)(y:i7 P f.ty)(hg:eL f.gl O){parts:Array (Nat×Operand)}(m:F.op=.buildSlice X R parts){dr:Bool}{b:BI}(h:eH f F t dr s=U b):
  I4 P d g D f.ty V O s a W F b:=by
 unfold eH at h;simp only[m] at h;split at h;cases h;split at h;rename_i e ao q ht;split at h;rename_i N v;split at h;rename_i l hf;split at h;rename_i hc;simp only[az,bne_iff_ne,ne_eq,dv,cF,gO] at hc;obtain⟨⟨⟨⟨⟨h1,h2⟩,h3⟩,h4⟩,h5⟩,h6⟩:=hc;obtain⟨an,a0,rfl⟩:=yj h;have H:bD f.ty (.sl e)=N.ao:=by simp[bD,v]
 have j:mX f.ty s (bD f.ty (.sl e)) (jo (Y N.ao) R l)=true:=by rw[H];exact h2
 have c:=XI Q j;have a1:(LE.lit (jo (Y N.ao) R l)).aj O=(jo (Y N.ao) R l).map λM=>M.map (C.cj O):=rfl
 have u:((jo (Y N.ao) R l).map λM=>M.map (C.cj O)).length=R:=by simp[Q8]
 have a3:=agf Q j (cY:=C.oO l) (λM a4 r k G hk=>by
  obtain⟨ii,a9⟩:=qW a4;have:=(Q7 a9).1;subst this;exact Q9 (Bf (Db G)) hk)
 have n:(eo ((jo (Y N.ao) R l).map λM=>M.map (C.cj O))).length=R*Y N.ao:=by rw[zV (w:=Y N.ao) (λi M G=>by rw[c.len i M G,H]),u]
 have ba:eo ((jo (Y N.ao) R l).map λM=>M.map (C.cj O))=C.aF O V l:=by
  apply ke;intro k;by_cases hk:k<R*Y N.ao;have aa:k<(eo ((jo (Y N.ao) R l).map λM=>M.map (C.cj O))).length:=by rw[n];exact hk
  have:=XJ (V:=V) (by rw[H]) j (λi M G=>by rw[c.len i M G,H]) (cK aa);rw[this,cK aa];rw[jK (by rw[n];omega),jK (by rw[F0,h1];omega)]
 have bl:R<=536870912:=by simp only[Il] at h4;omega
 obtain⟨R',bb⟩:=Q.bind an (old:=Z) (kill:=[]) (cY:=C.oO l) (A:=U ⟨W.heap.size,0,Z⟩) (cap:=R) (W':=W.alloc (.cells (eo ((jo (Y N.ao) R l).map λM=>M.map (C.cj O))).toArray e)) (.inl ⟨rfl,rfl⟩) a0 (aDt W _ Z) c a3
  ⟨by rw[u];exact cd _,ay,by
   rcases zt R with L|L;exact .inl L;exact .inr ⟨W.heap.size,_,rfl,P6 W _,by simp only[maxLen];omega,by
    rw[Fi,n,H],by
    rw[Wg,Fb];rw[n,u,H];exact cd _,.inl (cd _)⟩⟩
 refine⟨.slice (U ⟨W.heap.size,0,Z⟩) R R,W.alloc (.cells (eo ((jo (Y N.ao) R l).map λM=>M.map (C.cj O))).toArray e),.mk (.slice (U ⟨W.heap.size,0,Z⟩) ((jo (Y N.ao) R l).map λM=>M.map (C.cj O)).length R) _,.inl ?_,⟨⟨_,_,_,by rw[a1],rfl⟩,bb,λ_ _ _ _ h=>by cases h⟩, ?_,DG _ _ _⟩;have hd:P.underlying X=U (.slice e):=(y _ _ ht).desc;have ab:(parts.map λ(i,x)=>(i,a.eval x)).toList=(parts.toList.map λp=>(p.1,s.ev f.gl p.2)).map λp=>(p.1,p.2.ah O V):=by
  simp only[wh,oc];apply kb;intro p hp;have:=du Q hg p.2 (by
   cases hh:(s.ev f.gl p.2).eJ;rfl;exact aY (kS.2 ⟨p,hp,hh⟩) (by rw[h6];simp))
  simp[this]
 obtain⟨z,bd,bf⟩:=IQ (P:=P) (W:=W) (O:=O) (V:=V) (y _ _ v);have ac:=MF (V:=V) (uZ Q) _ _ _ _ hf;have B:(dZ N).length=Y N.ao:=by simp[dZ]
 have hzero:((ae4 (R*Y N.ao)).map ((if R*Y N.ao=0 then #[] else z.cells)[· %(if R*Y N.ao=0 then #[] else z.cells).size]!))=(C.aF O V (wv R (dZ N))).toArray:=by
  apply mC;apply ke;intro k;by_cases af:k<R*Y N.ao;have bg:¬R*Y N.ao=0:=ae;have bk:0<Y N.ao:=Nat.pos_of_ne_zero h3;have ag:k%Y N.ao<(C.aF O V (dZ N)).length:=by rw[F0,B];exact Fo _ bk
  simp only[bg,ga,bf,wh,aqs,dN,Dd af,dV,sC,XH _ _ _ (by rw[B];exact af),B];rw[<-sC,cK ag];simp only[Fi,F0,B];rw[getElem!_pos _ _ (by simpa using ag)];simp;rw[jK dF,jK (by simp[age,B];omega)]
 have al:¬R*Y N.ao>2^24:=ae;rw[ba];by_cases L:R*Y N.ao=0;simp only[aI L] at hzero;simp only[execOp,m,Instr.buildSlice,dq,eU.ik hd,dl,(y _ _ v).ng,al,ga,eX,aI L,ab];rw[hzero,ac];simp[newRow];simp only[aK L] at hzero;simp only[execOp,m,Instr.buildSlice,dq,eU.ik hd,dl,(y _ _ v).ng,al,ga,eX,aK L,ab,bd];rw[hzero,ac];simp[newRow];have:=Gd R' Q.er F.dst;rw[RV.mH] at this;rw[u] at this⊢;exact this;cases h;cases h;cases h;cases h
end
section
variable{p:aw}{g:World}{D:b9}{P:Program}{d:bF}{V:aw}{O:ak}{s:S}{a:Act}{W:World}
def MS{h:Nat}{N:aH}(X:((k.take h).drop R)[Q]?=U N):k[R+Q]?=U N/\R+Q<h:=by
 rw[tF,mB] at X;split at X;exact⟨X,uM⟩;cases X
def arK{h:Nat}(M:nc n X ((k.take h).drop R) Q):nc n X k Q:=by
 obtain⟨i,j,L,c,z,N,H,G,F,B⟩:=M;exact⟨_,j,L,c,z,N,(MS H).1,G,F,B⟩
def arL{A:nG}{h:Nat}(L:bJ W n (.sl X) (.mk (.slice A R Q) k))(h1:i<=h)(h2:h<=R):
  bJ W n (.sl X) (.mk (.slice (if Q=i then A else A.map (·.add (i*(bD n (.sl X)).length))) (h-i) (Q-i)) ((k.take h).drop i)):=by
 obtain⟨B,hc⟩:=pJ L;have z:((k.take h).drop i).length=h-i:=by simp[B];omega
 have y:=fz.wJ L;have H:fz W n X ((k.take h).drop i):=fz.of (λN M x=>y.get (MS x).1);by_cases w:i=h;have:(k.take h).drop i=[]:=rZ ae;rw[this,w,Wv];exact BP _ _;have aa:i<h:=ae;have v:Q≠i:=ae;rw[aK v];obtain⟨M,t⟩:∃M,k[i]?=U M:=⟨_,cK ae⟩;cases L with
 |sl X A ab Q k g1 g2 G hi hb ho=>
  obtain⟨-,b,F,rfl,r,-⟩:=G i M t;rw[<-z];simp only[dV,wI];refine Xz H r (λq u p=> ?_) ae;obtain⟨N,j,o,c,m,g,rfl,rfl⟩:=IZ H.len p;obtain⟨-,b',ac,f,-,d⟩:=G (i+N) o (MS m).1;cases f;have:=d j c g;rw[show F+i*(bD n (.sl X)).length+(N*(bD n (.sl X)).length+j)=F+(i+N)*(bD n (.sl X)).length+j by rw[qf];omega];exact this
def XK(N:aC p g D d.ty V O s a W)(m:s.bd=J){r:RE}(F:r.kind d.ty s=.sl X){A:nG}(j:r.ah O=.slice A R Q){l h:Nat}(f:l<=h)(c:h<=R){B:nG}
  (H:B=if Q=l then A else A.map (·.add (l*(bD d.ty (.sl X)).length)))(hc:i=Q-l):
  aC p g D d.ty V (O.add (.r (.mk (.slice B (h-l) i) (((r.rv O).aj.take h).drop l)))) {s with rs:=jX r.root.toList 0 (iY [] 0 s.rs)++[.sl X]} a W/\
   (((r.rv O).aj.take h).drop l).length=h-l/\∀b,dR d.ty (.sl X) (.mk (.slice B (h-l) i) (((r.rv O).aj.take h).drop l)) b->g.heap.size<=b\/b∈p\/O.pH d.ty s.rs b:=by
 have z:=rm N ay F;have v:r.rv O=.mk (.slice A R Q) (r.rv O).aj:=by rw[<-j];exact(Gb _).symm
 rw[v] at z;have aa:=arL z f c;have y:∀b,dR d.ty (.sl X) (.mk (.slice B (h-l) i) (((r.rv O).aj.take h).drop l)) b->dR d.ty (.sl X) (r.rv O) b:=by
  intro b G;rw[v];rcases af8 G with⟨a0,an,c0,L,rfl⟩|L;simp only[Value.slice.injEq] at L;obtain⟨L,u,q⟩:=L;obtain⟨x,rfl⟩:∃x,R=x+1:=⟨R-1,ae⟩;rw[L] at H;have ab:Q≠l:=by have:=(pJ z).2;omega
  rw[aK ab] at H;cases A with
  |none=>simp at H
  |some o=>
   simp only[dV,cG] at H;have:a0.block=o.block:=by rw[H];unfold Addr.add;split<;>rfl
   rw[this];exact dR.here X o x Q _
  exact Q1 (arK L)
 have ac:iY [] 0 s.rs=s.rs:=by
  apply ke;intro M;rw[IX];cases s.rs[M]?<;>simp
 rw[ac];have R1:=N.mb (MI r.root.toList s.rs);refine⟨?_,by have:=(pJ z).1;simp;omega,λb G=>.inr (.inr (I1 N ay F (y b G)).1)⟩;refine R1.add (MO m (zU _ _ _)) (by rw[H,hc];exact aa) (λb G=>(I1 N ay F (y b G)).2) (λk t rv b L u q w=> ?_) (λt b ht=>by cases ht);obtain⟨af,ag⟩:=XD L;rcases w with w|⟨⟨t',al⟩,_⟩;have:=Q4 N af u q ay F (y b w);subst this;exact ag (by simp[RE.root]);cases al
def MT{n:Int}(h:0<=n):∃N:Nat,n=(N:Int):=⟨n.toNat,ae⟩
def arM(R:aC p g D d.ty V O s a W)(f:i7 P d.ty)(hg:eL d.gl O){lo hi mx:Option Operand}(ho:F.op=.slice X r lo hi mx){dr:Bool}{b:BI}(h:eH d F t dr s=U b)(hn:b.bz.ah O=J):
  I4 P p g D d.ty V O s a W F b:=by
 unfold eH at h;simp only[ho] at h;split at h;cases h;have an:∀{y:Option Operand}{v:C},y.map (s.ev d.gl)=U v->v≠ .any->y.map a.eval=U (v.ah O V):=by
  intro y v hy M;cases y with
  |none=>cases hy
  |some z=>
   simp only[dV,cG] at hy⊢;rw[<-hy];exact du R hg z (by rw[hy];cases v<;>first|rfl|exact aY rfl M)
 have a0:∀{y:Option Operand},y.map (s.ev d.gl)=Z->y.map a.eval=none:=by
  intro y hy;cases y with
  |none=>rfl
  |some z=>cases hy
 split at h
 
 rename_i e ao q Q k1 k2 ht B ab ac af;split at h;rename_i te k;split at h;rename_i hc;obtain⟨ag,a9,rfl⟩:=yj h;have w:=du R hg r (by rw[B];rfl);rw[B,C.ah] at w;have hd:P.underlying X=U (.slice e):=(f _ _ ht).desc;obtain⟨A,n,N,M⟩:∃A n N,Q.ah O=.slice A n N:=by
  rcases hc with hc|hc;exact ME R hc;unfold RE.isNil at hc;split at hc;exact⟨Z,0,0,rfl⟩;cases hc
 obtain⟨R',al⟩:=R.bind ag (old:=Z) (kill:=[]) (cY:=[]) (rows:=[]) (e:=e) (A:=A) (cap:=0) (W':=W) (.inl ⟨rfl,rfl⟩) ay ⟨rfl,rfl,rfl,cd _,λ_ _ _=>rfl⟩ fz.nil (λb hb=>(MM hb).elim) ⟨ay,λ_=>rfl,.inl rfl⟩;refine⟨.slice A 0 0,W,.mk (.slice A 0 0) [],.inl ?_,⟨⟨A,0,0,rfl,rfl⟩,al,λ_ _ _ _ h=>by cases h⟩,Gd R' R.er F.dst,DG _ _ _⟩;have e1:=an ab ay;have j:=an ac ay;have i:=a0 af;simp only[C.ah,K.ah] at e1 j;simp[execOp,ho,w,M,e1,j,i,Instr.sliceAt,eU.ik hd,Instr.slice,Instr.sliceBounds,Instr.sliceBound,asIntOf,(f _ _ k).ng];cases h;cases h
 
 rename_i e ao q Q ih il ht B ab ac af;split at h;rename_i te k;split at h;rename_i u;obtain⟨ag,a9,rfl⟩:=yj h;obtain⟨G,a4⟩:=zX hn;obtain⟨a4,m⟩:=zX a4;have G:=yk G;have a4:=yk a4;have m:=yk m;have w:=du R hg r (by rw[B];rfl);rw[B,C.ah] at w;have hd:P.underlying X=U (.slice e):=(f _ _ ht).desc;obtain⟨A,n,N,M⟩:=ME R u;have a1:lenOf (Q.rv O).val=n:=by have:=M;unfold RE.ah at this;rw[this];rfl
 simp only[K.ah,a1] at G m;obtain⟨L,hL⟩:=MT G;obtain⟨H,hH⟩:=MT (show 0<=ih.ah O from ae);have ba:n<=N:=by
  have:=rm R ay u;rw[<-Gb (Q.rv O),show(Q.rv O).val=.slice A n N from M] at this;exact(pJ this).2
 obtain⟨R',a3,al⟩:=XK R ag u M (l:=L) (h:=H) ae ae rfl rfl;have aa:(LE.sub (.am Q) il ih).aj O=((Q.rv O).aj.take H).drop L:=by simp[LE.aj,hL,hH]
 have hw:(bD d.ty (.sl e)).length=Y te.ao:=by simp[bD,k]
 refine⟨.slice (if N=L then A else A.map (·.add (L*(bD d.ty (.sl e)).length))) (H-L) (N-L),W,_,.inl ?_,⟨⟨_,_,_,by rw[aa],by rw[aa];exact a3⟩,al,λ_ _ _ _ h=>by cases h⟩,Gd R' R.er F.dst,DG _ _ _⟩;have e1:=a0 ab;have j:=an ac ay;have i:=an af ay;simp only[C.ah,hL,hH] at j i;have c1:(H:Int)<=(N:Int):=ae;have c2:(L:Int)<=(H:Int):=ae;simp[execOp,ho,w,M,e1,j,i,Instr.sliceAt,eU.ik hd,Instr.slice,Instr.sliceBounds,Instr.sliceBound,asIntOf,(f _ _ k).ng,hw];simp[show H<=N from ae,show L<=H from ae];cases h;cases h
 
 rename_i e ao q Q ih ht B ab ac af;split at h;rename_i te k;split at h;rename_i u;obtain⟨ag,a9,rfl⟩:=yj h;obtain⟨G,m⟩:=zX hn;have G:=yk G;have m:=yk m;have w:=du R hg r (by rw[B];rfl);rw[B,C.ah] at w;have hd:P.underlying X=U (.slice e):=(f _ _ ht).desc;obtain⟨A,n,N,M⟩:=ME R u;have a1:lenOf (Q.rv O).val=n:=by have:=M;unfold RE.ah at this;rw[this];rfl
 simp only[K.ah,a1] at G m;obtain⟨H,hH⟩:=MT G;have ba:n<=N:=by
  have:=rm R ay u;rw[<-Gb (Q.rv O),show(Q.rv O).val=.slice A n N from M] at this;exact(pJ this).2
 obtain⟨R',a3,al⟩:=XK R ag u M (l:=0) (h:=H) ae ae rfl rfl;have aa:(LE.sub (.am Q) (.c 0) ih).aj O=((Q.rv O).aj.take H).drop 0:=by simp[LE.aj,hH,K.ah]
 have hw:(bD d.ty (.sl e)).length=Y te.ao:=by simp[bD,k]
 refine⟨.slice (if N=0 then A else A.map (·.add (0*(bD d.ty (.sl e)).length))) (H-0) (N-0),W,_,.inl ?_,⟨⟨_,_,_,by rw[aa],by rw[aa];exact a3⟩,al,λ_ _ _ _ h=>by cases h⟩,Gd R' R.er F.dst,DG _ _ _⟩;have e1:=a0 ab;have j:=an ac ay;have i:=a0 af;simp only[C.ah,hH] at j;simp[execOp,ho,w,M,e1,j,i,Instr.sliceAt,eU.ik hd,Instr.slice,Instr.sliceBounds,Instr.sliceBound,asIntOf,(f _ _ k).ng,hw];intro hh;omega;cases h;cases h
 
 rename_i e ao q Q il ht B ab ac af;split at h;rename_i te k;split at h;rename_i u;obtain⟨ag,a9,rfl⟩:=yj h;obtain⟨G,m⟩:=zX hn;have G:=yk G;have m:=yk m;have w:=du R hg r (by rw[B];rfl);rw[B,C.ah] at w;have hd:P.underlying X=U (.slice e):=(f _ _ ht).desc;obtain⟨A,n,N,M⟩:=ME R u;have a1:lenOf (Q.rv O).val=n:=by have:=M;unfold RE.ah at this;rw[this];rfl
 simp only[K.ah,a1] at G m;obtain⟨L,hL⟩:=MT G;have ba:n<=N:=by
  have:=rm R ay u;rw[<-Gb (Q.rv O),show(Q.rv O).val=.slice A n N from M] at this;exact(pJ this).2
 obtain⟨R',a3,al⟩:=XK R ag u M (l:=L) (h:=n) ae ae rfl rfl;have aa:(LE.sub (.am Q) il (.len Q)).aj O=((Q.rv O).aj.take n).drop L:=by simp[LE.aj,hL,K.ah,a1]
 have hw:(bD d.ty (.sl e)).length=Y te.ao:=by simp[bD,k]
 refine⟨.slice (if N=L then A else A.map (·.add (L*(bD d.ty (.sl e)).length))) (n-L) (N-L),W,_,.inl ?_,⟨⟨_,_,_,by rw[aa],by rw[aa];exact a3⟩,al,λ_ _ _ _ h=>by cases h⟩,Gd R' R.er F.dst,DG _ _ _⟩;have e1:=a0 ab;have j:=a0 ac;have i:=an af ay;simp only[C.ah,hL] at i;simp[execOp,ho,w,M,e1,j,i,Instr.sliceAt,eU.ik hd,Instr.slice,Instr.sliceBounds,Instr.sliceBound,asIntOf,(f _ _ k).ng,hw];intro hh;omega;cases h;cases h;cases h
mutual
def XL{k n:Nat}(h:(O.rv n).val=(O.rv k).val):∀(v:C),(v.hM k n).ah O V=v.ah O V
 |.int _ _|.bool _|.loc _ _|.iP _ _ _ _|.yl _|.any=>rfl
 |.am (.v j)=>by
  simp only[C.hM];split;rename_i X;simp at X;subst X;simp only[C.ah,RE.ah,RE.rv,h];rfl
 |.am (.cell _ _ _ _)=>rfl
 |.am (.k _)=>rfl
 |.el (.v j) w i o=>by
  simp only[C.hM];split;rename_i X;simp at X;subst X;simp only[C.ah,RE.ah,RE.rv,h];rfl
 |.el (.cell _ _ _ _) _ _ _=>rfl
 |.el (.k _) _ _ _=>rfl
 |.agg l=>by simp only[C.hM,C.ah,I5 h l]
 |.bP l=>by simp only[C.hM,C.ah,I5 h l]
 |.fn f l=>by simp only[C.hM,C.ah,I5 h l]
 |.gJ t x=>by simp only[C.hM,C.ah,XL h x]
 |.mp _=>rfl
 |.fW e Q R=>by simp only[C.hM,C.ah,I5 h R]
def I5{k n:Nat}(h:(O.rv n).val=(O.rv k).val):∀(l:av),C.aF O V (C.oP k n l)=C.aF O V l
 |[]=>rfl
 |x::X=>by simp only[C.oP,C.aF,XL h x,I5 h X]
end
def arN(v:C):v.hM R Q=.any<->v=.any:=by
 cases v with
 |am r=>cases r<;>simp[C.hM]<;>split<;>simp
 |el r w i o=>cases r<;>simp[C.hM]<;>split<;>simp
 |_=>simp[C.hM]
def agh{k n:Nat}:∀(l:av)(i:Nat),(C.oP k n l)[i]?=(l[i]?).map (C.hM k n)
 |[],i=>by simp[C.oP]
 |x::X,0=>by simp[C.oP]
 |x::X,i+1=>by simp[C.oP,agh X i]
def agi{k n:Nat}:∀(l:av),(C.oP k n l).length=Y l
 |[]=>rfl
 |x::X=>by simp[C.oP,agi X]
def MU{k n:Nat}:∀(l:bE),(tK k n l).length=Y l
 |[]=>rfl
 |Z::X=>by simp[tK,MU X]
 |U (t,R)::X=>by simp[tK,MU X]
def XM(k n:Nat)(x:TypeId×av):TypeId×av:=(x.1,if qg x.1 then x.2 else C.oP k n x.2)
def Ra{k n:Nat}:∀(l:bE)(i:Nat),cg (tK k n l) i=(cg l i).map (XM k n)
 |[],i=>by simp[tK,cH]
 |Z::X,0=>by simp[tK,cH]
 |U (t,R)::X,0=>by simp[tK,cH,XM]
 |Z::X,i+1=>by have:=Ra X i (k:=k) (n:=n);simpa[tK,cH] using this
 |U (t,R)::X,i+1=>by have:=Ra X i (k:=k) (n:=n);simpa[tK,cH] using this
def Ge{k n:Nat}(l:bE)(i:Nat):aL (tK k n l) i=aL l i:=by simp[aL,Ra]
def aC.hM{A:Ty}(R:aC p g D A V O s a W){k n:Nat}(h:(O.rv n).val=(O.rv k).val):aC p g D A V O (s.hM k n) a W:=by
 have y:(s.hM k n).au=tK k n s.au:=rfl;refine⟨⟨R.mem.base,λi N=>R.mem.own i (by rw[<-Ge (k:=k) (n:=n)];exact N),λi j N w=>R.mem.inj i j (by rw[<-Ge (k:=k) (n:=n)];exact N) (by rw[<-Ge (k:=k) (n:=n)];exact w),λi t r X=> ?_,λH e G Q F=> ?_⟩,
  by simp[S.hM,MU,R.gv],R.ei,R.eb,R.er,R.cU,by simp[S.hM,agi,R.size],λt q L=> ?_,λH e G b Q F v=> ?_⟩
 rw[y,Ra] at X;cases M:cg s.au i with
 |none=>rw[M] at X;cases X
 |some x=>
  obtain⟨z,kj⟩:=x;rw[M] at X;simp only[dV,XM,cG,Bh] at X;obtain⟨rfl,rfl⟩:=X;have B:=R.mem.box i z kj M;cases u:qg z;simp only[iW,ga];rw[sG u] at B⊢;rw[I5 h];exact B;simp only[cS];exact B
 exact⟨(R.mem.am H e G Q F).1,λb X i N=>(R.mem.am H e G Q F).2 b X i (by rw[<-Ge (k:=k) (n:=n)];exact N)⟩;simp only[S.hM,agh] at L;cases M:s.tmps[t]? with
 |none=>rw[M] at L;cases L
 |some x=>
  rw[M] at L;simp only[dV,cG] at L;subst L;rcases R.tmps t x M with Q|Q;exact .inl ((arN x).2 Q);right;rw[XL h];exact Q
 have t:=R.fZ H e G b Q F v;exact⟨t.own,t.mem,λi N=>t.box i (by rw[<-Ge (k:=k) (n:=n)];exact N),t.alone,t.inner⟩

def agj:∀(Q X:aH)(R:Nat),(fJ X R Q).length=Y X
 |[],X,R=>rfl
 |v::Q,X,R=>by rw[fJ,agj];simp
def Rc:∀(R Q:aH)(X j:Nat),X+Y R<=Y Q->(fJ Q X R)[j]?=if X<=j/\j<X+Y R then R[j-X]? else Q[j]?
 |[],Q,X,j,_=>by simp[fJ];intro M N;omega
 |v::R,Q,X,j,h=>by
  simp only[oK] at h;rw[fJ,Rc R _ (X+1) j dF];by_cases M:j=X;subst M;rw[aK ae,aI ay,Fc ae];simp;by_cases N:X+1<=j/\j<X+1+Y R;rw[aI N,aI dF,show j-X=(j-(X+1))+1 from ae];simp;rw[aK N,aK dF,qX ae]
def agk:∀(R l:gc)(X j:Nat),X+Y R<=Y l->(yi l X R)[j]?=if X<=j/\j<X+Y R then R[j-X]? else l[j]?
 |[],l,X,j,_=>by simp[yi];intro N Q;omega
 |v::R,l,X,j,h=>by
  simp only[oK] at h;rw[yi,agk R _ (X+1) j dF];by_cases N:j=X;subst N;rw[aK ae,aI ay,Fc ae];simp;by_cases Q:X+1<=j/\j<X+1+Y R;rw[aI Q,aI dF,show j-X=(j-(X+1))+1 from ae];simp;rw[aK Q,aK dF,qX ae]
def I6{f:aH->aH}{N:aH}(h:(k.modify R f)[Q]?=U N):(Q=R/\∃X,k[R]?=U X/\N=f X)\/(Q≠R/\k[Q]?=U N):=by
 rw[P7] at h;by_cases M:R=Q;subst M;simp only[cS] at h;cases L:k[R]? with
 |none=>rw[L] at h;cases h
 |some X=>rw[L] at h;simp at h;exact .inl ⟨rfl,X,rfl,h.symm⟩
 simp only[M,ga] at h;exact .inr ⟨λH=>M H.symm,by simpa using h⟩
def arO{w:Nat}{l:gc}(R:∀(i:Nat)(X:aH),k[i]?=U X->Y X=w)(N:Y l=Y k*w)(h:∀(i j:Nat)(X:aH)(c:RV),k[i]?=U X->X[j]?=U c->l[i*w+j]?=U c.val):l=eo k:=by
 apply ke;intro q;by_cases M:q<(eo k).length;have Q:=cK M;obtain⟨i,j,X,c,L,H,G,F⟩:=IZ R Q;rw[Q,F];subst G;exact h i j X c L H;rw[jK (l:=eo k) ae,jK];rw[N,<-zV R];omega
def arP(R:aC p g D d.ty V O s a W)(cm:i7 P d.ty)(hg:eL d.gl O){y:Operand}(ho:F.op=.store X r y){dr:Bool}{b:BI}(h:eH d F t dr s=U b)(hn:b.bz.ah O=J):
  I4 P p g D d.ty V O s a W F b:=by
 unfold eH at h;simp only[ho] at h;split at h;cases h;split at h;rename_i G k w i M cn hx;split at h;rename_i e hk;split at h;rename_i te co;split at h;rename_i hc;simp only[az,dv,cF] at hc;obtain⟨⟨⟨⟨cp,a3⟩,cv⟩,ac⟩,cx⟩:=hc;cases hb:jY s Z (uS i (.len (.v k))) e (.own e) (.set (.am (.v k)) i M (s.ev d.gl y).cells) [k] (C.oO (s.ev d.gl y).cells) with
 |none=>rw[hb] at h;cases h
 |some b0=>
  rw[hb] at h;simp only[dV,cG] at h;obtain⟨cy,cA,rfl⟩:=yj hb;subst h;have bx:bD d.ty (.sl e)=te.ao:=by simp[bD,co]
  have hw:(bD d.ty (.sl e)).length=w:=by rw[bx];exact cp
  obtain⟨A,n,f,g1,g2,g3⟩:=MQ R hk;have bb:=tU R hk;simp only[uS] at hn;obtain⟨a4,af⟩:=zX hn;have a4:=yk a4;rw[BK] at af;simp only[gX,K.ah,RE.rv] at a4 af;have af:=tH af;rw[g1] at af;simp only[RV.mH,lenOf] at af;obtain⟨Q,hI⟩:=MT a4;have dc:Q<n:=ae;obtain⟨b1,b2⟩:=pJ g2;have a0:=fz.wJ g2;obtain⟨bk,a1,hA,b3,cB,a9⟩:∃b a1,A=U ⟨b,0,Z⟩/\W.heap[b]?=U (.cells a1 e (0,0))/\f<=maxLen/\a1.size=f*(bD d.ty (.sl e)).length:=by
   rcases g3.mem with h0|h0;omega;exact h0
  subst hA;have cC:kH (U ⟨bk,0,Z⟩) f=U bk:=by cases f with
   |zero=>omega
   |succ c=>rfl
  have cD:s.ev d.gl y≠ .any:=by
   intro hy;rw[hy] at ac a3;simp only[C.cells,Wc] at a3;rw[<-a3] at ac;cases hd:(te.ao.drop M).take 1 with
   |nil=>rw[hd] at ac;simp[l8,C.cells] at ac
   |cons c cs=>rw[hd] at ac;simp[l8,C.cells,si] at ac
  have cI:=du R hg y (by cases hh:s.ev d.gl y<;>first|rfl|exact aY hh cD);have cO:=du R hg r (by rw[hx];rfl);have cR:=QY (O:=O) (V:=V) (uZ R) cx;obtain⟨f1,f2⟩:=Gc ac;have ba:(s.ev d.gl y).cells.length=Y G.ao:=a3;have dd:((te.ao.drop M).take (Y G.ao)).length=Y G.ao:=dF;have b4:∀(j:Nat),j<Y G.ao->((te.ao.drop M).take (Y G.ao))[j]?=(bD d.ty (.sl e))[M+j]?:=by
   intro j hj;rw[mB,aI hj,tF,bx]
  have b5:C.aF O V (s.ev d.gl y).cells=((s.ev d.gl y).cells.map (C.cj O)).map RV.val:=by
   apply ke;intro j;rw[sC,dN,dN];cases hv:(s.ev d.gl y).cells[j]? with
   |none=>rfl
   |some v=>
    have hj:j<Y G.ao:=by rw[<-ba];exact(bZ.1 hv).1
    obtain⟨ct,cW⟩:∃ct,((te.ao.drop M).take (Y G.ao))[j]?=U ct:=⟨_,cK ae⟩;simp only[dV];rw[agb (f2 j ct v cW hv)]
  have ag:=XB R ac;have b6:(LE.set (.am (.v k)) i M (s.ev d.gl y).cells).aj O=(O.rv k).aj.modify Q λL=>fJ L M ((s.ev d.gl y).cells.map (C.cj O)):=by simp[LE.aj,RE.rv,hI]
  have bd:((s.ev d.gl y).cells.map (C.cj O)).length=Y G.ao:=by simp[ba]
  generalize c0:(s.ev d.gl y).cells.map (C.cj O)=vv at*;have bf:∀H:aH,Y H=(bD d.ty (.sl e)).length->M+Y vv<=Y H:=λH h0=>by rw[h0,hw,bd];exact cv
  have bg:fz W d.ty e ((O.rv k).aj.modify Q λL=>fJ L M vv):=by
   refine fz.of (λB L hr=> ?_);rcases I6 hr with⟨rfl,H,l,rfl⟩|⟨bl,l⟩
   ·have q:=a0.get l;have c1:=bf H q.len;refine⟨by rw[agj];exact q.len,λj c kk aa ab=> ?_,λj c aa ab=> ?_,λj c z kk aa ab=> ?_⟩
    all_goals
     rw[Rc _ _ _ _ c1] at aa;split at aa;rename_i hj;have br:j-M<Y G.ao:=ae;have al:=b4 _ br;rw[show M+(j-M)=j from ae,ab] at al
     first
      |exact ag.int (j-M) c _ aa al
      |exact ag.bool (j-M) c aa al
      |exact ag.ai (j-M) c _ _ aa al
     first
      |exact q.int j c _ aa ab
      |exact q.bool j c aa ab
      |exact q.ai j c _ _ aa ab
   exact a0.get l
  have c2:BQ d.ty V O s e ((O.rv k).aj.modify Q λL=>fJ L M vv) (C.oO (s.ev d.gl y).cells):=by
   intro b ⟨B,j,L,c,z,kk,h1,m,h3,hl⟩;have elder:∀H,(O.rv k).aj[B]?=U H->H[j]?=U c->O.pH d.ty s.rs b/\(∀i,aL s.au i=J->ad V i≠b)/\∀(k':Nat)(X:TypeId)(rv:RV),s.rs[k']?=U (.own X)->O.r[k']?=U rv->rv.kF=U b->k'∈C.oO (s.ev d.gl y).cells:=by
    intro H q1 q2;have hi:nc d.ty e (O.rv k).aj b:=⟨B,j,H,c,z,kk,q1,q2,h3,hl⟩;have b7:=I0 (O:=O) (e0:=.own e) rfl hi;exact⟨⟨k,_,hk,b7⟩,(R.mem.am k _ _ hk bb).2 b b7,λk' X rv q3 q4 q5=>(MN R q3 q4 q5 hk rfl hi).elim⟩
   rcases I6 h1 with⟨rfl,H,l,rfl⟩|⟨bl,l⟩;rw[Rc _ _ _ _ (bf H (a0.len _ _ l))] at m;split at m;rename_i hj;have br:j-M<Y G.ao:=ae;have al:((te.ao.drop M).take (Y G.ao))[j-M]?=U (.ai z kk):=(b4 _ br).trans (by rw[show M+(j-M)=j from ae];exact h3);rw[<-c0] at m;obtain⟨N,q1,q2,q3,q4⟩:=XC ac m al hl;obtain⟨p1,p2⟩:=I1 R q3 q2 q4;refine⟨p1,p2,λk' X rv k1 k2 k3=> ?_⟩;have:=Q4 R k1 k2 k3 q3 q2 q4;subst this;exact Q9 (jm q1) rfl;exact elder H l m;exact elder L l m
  have bs:(C.aF O V (s.ev d.gl y).cells).length=Y G.ao:=by simp[ba]
  have c3:Q*w+M+Y G.ao<=f*w:=by
   have:(Q+1)*w<=f*w:=Fe _ ae;rw[qf] at this;omega
  obtain⟨W',r1,r2,r3,r4,r5,r6,r7⟩:=Xw (P:=P) bk (Q*w+M) e (C.aF O V (s.ev d.gl y).cells) 0 a1 W b3 (by rw[bs,a9,hw];omega) (λu hu=>by
   rw[b5] at hu;obtain⟨c,c4,rfl⟩:=hJ.1 hu;obtain⟨j,hj⟩:=qW c4;have df:j<Y G.ao:=by rw[<-bd];exact(bZ.1 hj).1
   obtain⟨ct,ab⟩:∃ct,((te.ao.drop M).take (Y G.ao))[j]?=U ct:=⟨_,cK ae⟩;cases ct with
   |int kk=>obtain⟨n',bt⟩:=ag.int j c kk hj ab;rw[bt];rfl
   |bool=>obtain⟨n',bt⟩:=ag.bool j c hj ab;rw[bt];rfl
   |ai z kk=>exact IP (ag.ai j c z kk hj ab))
  have an:((O.rv k).aj.modify Q λL=>fJ L M vv).length=n:=by simp[b1]
  have b8:=XF g2 b3;rw[b1,hw] at b8;obtain⟨R',c5⟩:=R.bind cy (old:=U bk) (kill:=[k]) (cY:=C.oO (s.ev d.gl y).cells) (A:=U ⟨bk,0,Z⟩) (cap:=f) (W':=W') (.inr ⟨k,e,_,rfl,hk,bb,by rw[g1,I2,cC]⟩) cA
   ⟨r5,r6,r7,ae,λq _ hq=>r3 q (λh=>hq (by rw[h]))⟩ bg c2
   ⟨by rw[an];exact b2,ay,.inr ⟨bk,_,rfl,r2,cB,by rw[hw,Fi,Xv,Dc,a9,hw],by
    rw[an,hw];refine arO (w:=w) (λB L hr=>by rw[bg.len B L hr,hw]) ?_ (λB j L c h1 m=> ?_);rw[an,De,Wg,Xv,Dc,a9,hw];exact Fj (Fe _ b2);have dk:B<n:=by rw[<-an];exact(bZ.1 h1).1
    have dn:j<w:=by rw[<-hw,<-bg.len B L h1];exact(bZ.1 m).1
    have ca:B*w+j<n*w:=by
     have:(B+1)*w<=n*w:=Fe _ ae;rw[qf] at this;omega
    rw[mB,aI ca,Wg,xN,agk _ _ _ _ (by rw[bs,Dc,a9,hw];exact c3),bs];have cc:∀H:aH,(O.rv k).aj[B]?=U H->H[j]?=U c->a1.toList[B*w+j]?=U c.val:=by
     intro H q1 q2;have:=MJ (w:=w) (λi L hr=>by rw[a0.len i L hr,hw]) q1 q2;rw[<-b8,mB,aI ca] at this;exact this
    rcases I6 h1 with⟨rfl,H,l,rfl⟩|⟨bl,l⟩;rw[Rc _ _ _ _ (bf H (a0.len _ _ l)),bd] at m;by_cases hj:M<=j/\j<M+Y G.ao;rw[aI hj] at m;rw[aI ae,b5,show B*w+j-(B*w+M)=j-M from ae,dN,m];rfl;rw[aK hj] at m;rw[aK ae];exact cc H l m;have c6:¬(Q*w+M<=B*w+j/\B*w+j<Q*w+M+Y G.ao):=by
     rintro⟨q1,q2⟩;rcases aDx bl with ds|dx;have:(B+1)*w<=Q*w:=Fe _ ae;rw[qf] at this;omega;have:(Q+1)*w<=B*w:=Fe _ ae;rw[qf] at this;omega
    rw[aK c6];exact cc L l m,.inr rfl⟩⟩
  have c7:k<Y O.r:=(bZ.1 bb).1;have R2:=R'.hM (k:=k) (n:=Y s.rs) (by
   rw[<-R.er];have e1:(O.add (.r (.mk (.slice (U ⟨bk,0,Z⟩) ((O.rv k).aj.modify Q λL=>fJ L M vv).length f) ((O.rv k).aj.modify Q λL=>fJ L M vv)))).rv (Y O.r)=.mk (.slice (U ⟨bk,0,Z⟩) ((O.rv k).aj.modify Q λL=>fJ L M vv).length f) ((O.rv k).aj.modify Q λL=>fJ L M vv):=by simp[ak.rv,ak.add]
   have e2:(O.add (.r (.mk (.slice (U ⟨bk,0,Z⟩) ((O.rv k).aj.modify Q λL=>fJ L M vv).length f) ((O.rv k).aj.modify Q λL=>fJ L M vv)))).rv k=O.rv k:=by simp[ak.rv,ak.add,dU,c7]
   rw[e1,e2,RV.mH,an];have:=jW RV.val g1;exact this.symm)
  refine⟨undef,W',_,.inr ⟨?_,rfl⟩,⟨⟨_,_,_,by rw[b6],by rw[b6]⟩,c5,λk' _ _ _ hx=>by
   cases hx;rw[RV.mH,an];exact(jW RV.val g1).symm⟩,R2.put F.dst (.bP []), ?_⟩
  have c8:(O.rv k).val=.slice (U ⟨bk,0,Z⟩) n f:=by rw[g1];rfl
  have ch:((s.ev d.gl y).ah O V).cells.toList=C.aF O V (s.ev d.gl y).cells:=cR;have c9:((s.ev d.gl y).ah O V).cells.size=Y G.ao:=by rw[<-Dc,ch];simp[ba]
  simp only[execOp,ho,cO,cI,hx,C.ah,RE.ah,RE.rv,c8,nL,hI,zu,iJ,Instr.storeAt,Instr.sureAddr,storeVar,dq,eX,dl,(cm _ _ cn).ng,c9,ch,ne_eq,not_true_eq_false,ga,r1];have cl:bH s O V ({s with rs:=jX (C.oO (s.ev d.gl y).cells) 0 (iY [k] 0 s.rs)++[.own e]}:S) _ V:=DG (rv:=.mk (.slice (U ⟨bk,0,Z⟩) ((O.rv k).aj.modify Q λL=>fJ L M vv).length f) ((O.rv k).aj.modify Q λL=>fJ L M vv)) _ Z (.bP []);refine bH.put (s:=s) (s':=(({s with rs:=jX (C.oO (s.ev d.gl y).cells) 0 (iY [k] 0 s.rs)++[.own e]}:S).put Z (.am (.v (Y s.rs)))).hM k (Y s.rs)) ⟨cl.ext,λq hq=> ?_,by simp[S.put,S.hM,MU],cl.aA⟩ _ _;simp only[S.put,S.hM,Ge];exact hq
 cases h;cases h;cases h;cases h
def XN(R:aC p g D d.ty V O s a W)(N:i7 P d.ty)(M:eL d.gl O){G:Bool}{b:BI}(h:eH d F t G s=U b)(L:b.bz.ah O=J):I4 P p g D d.ty V O s a W F b:=by
 cases Q:F.op with
 |call c=>
  cases H:c.callee with
  |builtin B=>cases B with
   |append=>exact arG R N M Q H h L
   |_=>simp[eH,Q,H] at h
  |_=>simp[eH,Q,H] at h
 |makeSlice X n m=>exact arI R N M Q h L
 |buildSlice X A parts=>exact arJ R N M Q h
 |slice X x z w v=>exact arM R N M Q h L
 |store X x y=>exact arP R N M Q h L
 |_=>simp[eH,Q] at h
end
