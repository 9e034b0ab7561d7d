/- Part 1 of the proof; the last part says what is shown. -/
import GoSem.Step
import Derived.Below
import Derived.Laws.AppendOwn
import Derived.Deep.Draws
import Derived.RangeFuncRecord
import Derived.CallsIn
import Derived.OrdersIn
import Derived.Sort.LoopGhostIn
import Derived.RangeFuncCalls
import Derived.Laws.Cells
import Derived.MapKept
import Derived.IntWalk
set_option linter.all false
open Bool renaming and_eq_true->aDc,not_eq_true'->aDv,false_eq_true->aDB,or_eq_true->aDE,eq_iff_iff->aEk,not_eq_false->aEM,rec->aFM,or_eq_true_iff->aF0,and_assoc->aGy,true_or->aGL,true->J,false->E
open List renaming getElem?_eq_some_iff->aDd,getElem?_eq_getElem->aDe,getD_eq_getElem?_getD->aDf,getElem?_append_left->aDg,getElem?_map->aDj,getElem?_append_right->aDk,mem_append->aDo,mem_cons->aDp,replicate->aDq,all_eq_true->aDr,length_append->aDs,map_cons->aDt,mem_of_getElem?->aDx,getElem?_eq_none->aDy,range->aDA,map_congr_left->aDC,mem_map->aDF,ext_getElem?->aDG,eq_nil_of_length_eq_zero->aDI,length_eq_one_iff->aDJ,getElem?_take->aDK,any_eq_true->aDL,getElem?_cons_succ->aDO,getElem?_set_ne->aDP,getElem?_of_mem->aDU,length_map->aDV,getElem?_drop->aDZ,getElem?_eq_none_iff->aD2,getElem_mem->aD3,length_cons->aD4,append_assoc->aD5,map_map->aD7,getElem?_set->aD9,drop_eq_getElem_cons->aEf,mem_of_mem_drop->aEj,getElem?_replicate->aEm,mem_cons_of_mem->aEn,mem_of_mem_take->aEo,take_of_length_le->aEp,getElem?_set_self->aEq,getElem?_range->aEt,range'->aEC,size_toArray->aED,mem_of_find?_eq_some->aEF,foldl_cons->aEG,length_drop->aEJ,find?_cons->aEN,length_take->aEQ,mem_singleton->aE0,length_singleton->aE1,rec->aE7,range_eq_range'->aE9,drop_drop->aFa,toList_toArray->aFd,all_cons->aFf,find?_some->aFi,zip_cons_cons->aFj,flatMap_cons->aFp,range'_succ->aFs,getElem?_modify->aFu,drop_eq_nil_of_le->aFL,getElem?_toArray->aFQ,drop_zero->aGz,mapM_cons->aGA,length->Y
open Option.some renaming injEq->aDh
open Nat renaming le_refl->aDm,lor->aDu,zero_add->aDM,shiftLeft->aDR,le_trans->aDY,zero_le->aD0,beq->aD8,add_mul->aEl,eq_zero_or_pos->aEu,mul_le_mul_right->aEv,add_zero->aEA,testBit_or->aEL,add_assoc->aEW,testBit_add_one->aEY,lt_of_lt_of_le->aFh,min_eq_left->aFA,mul_comm->aFD,mod_lt->aFH,rec->aFO,testBit_shiftLeft->aFP,div_lt_of_lt_mul->aFS,div_add_mod->aFT,sub_self->aFU,mul_le_mul->aF2,one_shiftLeft->aGb,testBit_zero->aGf,eq_of_beq_eq_true->aGx,beq_eq->aGF,testBit_two_pow->aGJ,lt_or_gt_of_ne->aGN,gcd->aGY
open Option renaming map_some->aDn,isSome_iff_exists->aDw,getD_some->aDS,bind_some->aFt,getD_none->aFN,some->U,none->Z
open Array renaming getElem?_eq_some_iff->aDD,ext'->aEe,toList_map->aEh,length_toList->aEs,getElem?_modify->aER,getElem?_setIfInBounds_ne->aEU,getElem?_toList->aE2,getElem?_eq_getElem->aFz,toList_range->aF5,mapM_eq_mapM_toList->aGc,getElem?_eq_none->aGr,range->aGs,foldl_toList->aGM
open Int renaming toNat_natCast->aEa
open List.cons renaming injEq->aEg
open Prod.mk renaming injEq->aEX
open Go.IntKind renaming i64->I
namespace Go.Proofs.YtieaiocljdpebaaGreatDoor.Y
variable{R M h:Nat}
structure Sh where
 kt:TypeId
 vt:TypeId
 nk:Nat
 ka:Bool
 va:Bool
 deriving DecidableEq
abbrev aj:=List Nat
abbrev bT:=Option Nat
abbrev bh:=List Int
abbrev gT:=List TypeId
abbrev iQ:=Option (List TypeId)
abbrev cS:=Array Oper
abbrev ol:=List Oper
abbrev lC:=List (Nat×Nat×Nat)
abbrev pN:=List ResultVar
abbrev A5:=List (Nat×Nat)
abbrev eJ:=List Value
abbrev jk:=Array Value
abbrev kz:=List Bool
abbrev mC:=Option Addr
abbrev qJ:=List (Value×Value)
inductive RK where
 |sl (e:TypeId)
 |str
 |aH
 |own (e:TypeId)
 |dead
 |mr (sh:Sh)
 deriving DecidableEq
abbrev aE:=List RK
def RK.rd:RK->RK
 |.own e=>.sl e
 |k=>k
inductive CT where
 |int (k:IntKind)
 |bool
 |aH (z:Value) (k:RK)
abbrev dN:=List CT
inductive TD where
 |one
 |eP
 |str
 |slice (e:TypeId)
 |arr (n:Nat) (e:TypeId)
 |struct (fs:List (Nat×TypeId))
 |map (k e:TypeId) (n:Nat) (ag:Bool)
structure TI where
 d:TD
 ae:dN
 eq:Bool:=E
abbrev fj:=Option TI
mutual
inductive IE where
 |c (n:Int)
 |v (k:Nat)
 |bin (op:BinOp) (k:IntKind) (a b:IE)
 |conv(k:IntKind) (a:IE)
 |len (r:RE)
 |mm (mx:Bool) (a b:IE)
 |cR (b:BE) (x y:IE)
 |cell (r:RE) (i:IE) (j:Nat)
 |mD (r:RE) (i:IE)
 |look (r:RE) (n:Nat) (a b c:IE) (j:Nat)
inductive BE where
 |c (b:Bool)
 |v (k:Nat)
 |cmp (op:BinOp) (a b:IE)
 |not (a:BE)
 |and (a b:BE)
 |beq (a b:BE)
 |cR (b x y:BE)
 |cell (r:RE) (i:IE) (j:Nat)
 |seq (a b:RE)
 |look (r:RE) (n:Nat) (a b c:IE) (j:Nat)
 |has (r:RE) (n:Nat) (a b c:IE)
inductive RE where
 |v (k:Nat)
 |cell (r:RE) (i:IE) (j:Nat) (k:RK)
 |k (v:Value)
end
inductive SV where
 |int (k:IntKind) (e:IE)
 |bool (b:BE)
 |ref (r:RE)
 |loc (i off:Nat)
 |el (r:RE) (w:Nat) (i:IE) (off:Nat)
 |gM (i off len cap:Nat)
 |agg (l:List SV)
 |bK (l:List SV)
 |fn (f:FuncId) (caps:List SV)
 |eP (t:TypeId) (x:SV)
 |yl (n:Nat)
 |any
 |mp (i:Nat)
 |eQ (e:IE) (ks:List Int) (vs:List SV)
abbrev ai:=List SV
abbrev tW:=List (List SV)
abbrev E7:=Option (List SV)
inductive PX where
 |ret
 |exit (id:Nat)
 deriving DecidableEq
inductive E8 where
 |ready
 |busy
 |done (e:PX)
 deriving DecidableEq
abbrev rW:=List E8
abbrev bA:=List (Option (TypeId×ai))
structure S where
 tmps:ai
 boxes:bA
 ni:Nat
 nb:Nat
 rs:aE
 au:Nat
 lk:Nat
 pd:rW
noncomputable def bX(l:bA)(i:Nat):Option (TypeId×ai):=aE7 (motive:=λ_=>Nat->Option (TypeId×ai)) (λ_=>Z) (λx _ X t=>aFO (motive:=λ_=>Option (TypeId×ai)) x (λm _=>X m) t) l i
def cK:∀(l:bA)(i:Nat),bX l i=(match l[i]? with
  |U (U b)=>U b
  |_=>Z)
 |[],_=>rfl
 |Z::_,0=>rfl
 |U _::_,0=>rfl
 |_::l,i+1=>by rw[aDO];exact cK l i
noncomputable section
def rX:TypeId:=1099511627776
def tX:TypeId:=1099511627777
def vw:TypeId:=1099511627778
def oU(t:TypeId):Bool:=decide (rX<=t)
def kA(l:bA)(i:Nat):Option (TypeId×ai):=match bX l i with
 |U (t,X)=>if oU t then Z else U (t,X)
 |none=>Z
inductive LK where
 |int (k:IntKind)
 |bool
 |ref (k:RK)
 deriving DecidableEq
abbrev aR:=List LK
inductive XE where
 |normal
 |ret
 |exit (id:Nat)
 |bj (v:SV)
inductive LE where
 |ref (r:RE)
 |lit (l:List (List SV))
 |iG (a b:LE)
 |rY (n:IE) (row:List SV)
 |set (a:LE) (i:IE) (off:Nat) (cs:List SV)
 |sub (a:LE) (lo hi:IE)
 |ins (a:LE) (n:Nat) (cs:List SV)
inductive be where
 |lex (cs:List Nat) (desc:Bool)
 |ratio (n d:Nat)
 |cw (k:Nat) (o:be) (as:List IE)
abbrev zj:=List (FuncId×FuncId×TypeId×be×Bool)
inductive T where
 |out (e:XE) (s:S)
 |ret (v:SV) (bx:bA) (rs:List RK)
 |bj (v:SV)
 |node (b:BE) (t f:T)
 |aV (b:BE) (t:T)
 |call (f:FuncId) (args:List SV) (bx:bA) (rs:List RK) (ks:List LK) (fG:SV) (t:T)
 |loop (au:Nat) (ks:List LK) (x0:List SV) (t:T)
 |back (au:Nat) (x:List SV)
 |new (e:TypeId) (x:LE) (rs rsn:List RK) (t:T)
 |rows (k:RK) (x:LE) (rs:List RK) (t:T)
 |fA (g h:BE) (t f:T)
 |pick (n:IE) (g h:BE) (t f:T)
 |dw (f g:FuncId) (e:TypeId) (sp:be) (st:Bool) (r:RE) (rs:List RK) (t:T)
 |stuck (msg:String)
def HN:Value->SV
 |.int k n=>.int k (.c n)
 |.bool b=>.bool (.c b)
 |v=>.ref (.k v)
def LG:Value->SV
 |.int k n=>.int k (.c n)
 |.bool b=>.bool (.c b)
 |.agg X=>.agg (X.toList.map HN)
 |v=>.ref (.k v)
def Xy(l:ai)(t:Nat):SV:=aE7 (motive:=λ_=>Nat->SV) (λ_=>.any) (λx _ X t=>aFO (motive:=λ_=>SV) x (λm _=>X m) t) l t
def agb(l:ai)(d:Nat)(v:SV):ai:=aE7 (motive:=λ_=>Nat->ai) (λ_=>[]) (λx X W d=>aFO (motive:=λ_=>ai) (v::X) (λm _=>x::W m) d) l d
@[simp] def vx:∀(l:ai)(t:Nat),Xy l t=l.getD t .any
 |[],_=>rfl
 |_::_,0=>rfl
 |_::X,t+1=>vx X t
@[simp] def tY:∀(l:ai)(d:Nat)(v:SV),agb l d v=l.set d v
 |[],_,_=>rfl
 |_::_,0,_=>rfl
 |x::X,d+1,v=>congrArg (x::·) (tY X d v)
def S.ev(X:lC)(s:S):Operand->SV
 |.tmp t=>Xy s.tmps t
 |.const v=>LG v
 |.global g=>match X.find? (λx=>x.1==g) with
  |U (_,k,w)=>.el (.v k) w (.c 0) 0
  |none=>.any
 |.func f=>.fn f []
def S.put(s:S)(X:bT)(v:SV):S:=
 match X with
 |U d=>{s with tmps:=agb s.tmps d v}
 |none=>s
def CW(r:RE)(i:IE)(j:Nat):CT->SV
 |.int k=>.int k (.cell r i j)
 |.bool=>.bool (.cell r i j)
 |.aH _ k=>.ref (.cell r i j k)
def A6:CT->SV
 |.int k=>.int k (.c 0)
 |.bool=>.bool (.c E)
 |.aH z _=>.ref (.k z)
def TD.isAgg:TD->Bool
 |.arr _ _|.struct _=>J
 |_=>E
def SV.cells:SV->ai
 |.agg l=>l
 |v=>[v]
def gU:Value->Bool
 |.agg _|.tuple _=>E
 |_=>J
def RE.E9:RE->Bool
 |.k w=>gU w
 |_=>J
def SV.Fa:SV->Bool
 |.ref (.k w)=>gU w
 |_=>J
def SV.single:SV->Bool
 |.ref (.k w)=>gU w
 |.agg _|.bK _|.any=>E
 |_=>J
noncomputable def CX(l:ai):Bool:=aE7 (motive:=λ_=>Bool) J (λx _ X=>aFM (motive:=λ_=>Bool) E X x.single) l
def Py:(CX []=J)/\(∀x X,CX (x::X)=(x.single&&CX X)):=⟨rfl,λx X=>by
 show aFM (motive:=λ_=>Bool) E (CX X) x.single=_;cases x.single<;>rfl⟩
def vy(l:ai)(X n:Nat):ai:=(l.drop X).take n
def vA(X:TI)(l:ai)(W:Nat):Option SV:=
 if X.d.isAgg then(if W+Y X.ae<=Y l then U (.agg (vy l W (Y X.ae))) else Z) else l[W]?
def j8(l:ai)(X:Nat):ai->ai
 |[]=>l
 |v::r=>j8 (l.set X v) (X+1) r
def xk(place:Nat->Option (Nat×Nat))(cells:ai):List (Nat×SV)->E7
 |[]=>U cells
 |(i,v)::V=>
  match place i with
  |none=>Z
  |U (X,W)=>if Y v.cells !=W||decide (Y cells<X+W)|| !v.Fa then Z else xk place (j8 cells X v.cells) V
def dp(X:TI):ai:=X.ae.map A6
def vC(n:Nat)(l:ai):ai:=match n with
 |0=>[]
 |n+1=>l++vC n l
def Pz:BinOp->Bool
 |.eql|.neq|.lss|.leq|.gtr|.geq=>J
 |_=>E
def fQ:BinOp->Int->Int->Bool
 |.eql,x,y=>x==y
 |.neq,x,y=>x !=y
 |.lss,x,y=>decide (x<y)
 |.leq,x,y=>decide (x<=y)
 |.gtr,x,y=>decide (x>y)
 |.geq,x,y=>decide (x>=y)
 |_,_,_=>E
def ay:BinOp->IntKind->Int->Int->Int
 |.add,k,x,y=>k.wrap (x+y)
 |.sub,k,x,y=>k.wrap (x-y)
 |.mul,k,x,y=>k.wrap (x*y)
 |.quo,k,x,y=>k.wrap (x.tdiv y)
 |.rem,_,x,y=>x.tmod y
 |.shr,k,x,y=>x.fdiv (2^min y.toNat k.bits)
 |_,_,_,_=>0
def Xz:BinOp->Bool
 |.add|.sub|.mul=>J
 |_=>E
def XA:BinOp->Bool
 |.quo|.rem=>J
 |_=>E
def agc:BinOp->Bool
 |.shr=>J
 |_=>E
inductive PR where
 |ok (v:SV)
 |aV (b:BE) (v:SV)
 |no (why:String)
def Fb(X:BinOp)(k:IntKind):IE->IE->IE
 |.c x,.c y=>.c (ay X k x y)
 |a,b=>.bin X k a b
def oo(X:BinOp):IE->IE->BE
 |.c x,.c y=>.c (fQ X x y)
 |a,b=>.cmp X a b
def CY:BE->BE
 |.c b=>.c (!b)
 |b=>.not b
def tZ:BE->BE->BE
 |.c J,b=>b
 |.c E,_=>.c E
 |a,.c J=>a
 |a,b=>.and a b
def LH:BE->BE->BE
 |.c a,.c b=>.c (a==b)
 |.c J,b=>b
 |.c E,b=>CY b
 |a,.c J=>a
 |a,.c E=>CY a
 |a,b=>.beq a b
def t8(i:IE)(n:IE):BE:=tZ (oo .leq (.c 0) i) (oo .lss i n)
def PA(X:Bool):IE->IE->IE
 |.c x,.c y=>.c (if X then max x y else min x y)
 |a,b=>.mm X a b
def Fc(X:Bool)(k:IntKind):IE->ai->Option IE
 |e,[]=>U e
 |e,.int W x::r=>if k=W then Fc X k (PA X e x) r else Z
 |_,_=>Z
abbrev Ty:=TypeId->fj
def bw(W:Ty):RK->dN
 |.sl e=>match W e with
  |U X=>X.ae
  |none=>[]
 |.mr V=>(match W V.kt with
  |U X=>X.ae
  |none=>[])++(match W V.vt with
  |U X=>X.ae
  |none=>[])
 |_=>[]
def Fe:Option CT->RK
 |U (.aH _ k)=>k
 |_=>.aH
def RE.kind(X:Ty)(s:S):RE->RK
 |.v n=>(s.rs.getD n .aH).rd
 |.cell r _ j W=>match RE.kind X s r with
  |.sl e=>if Fe (bw X (.sl e))[j]?=W then W else .aH
  |_=>.aH
 |.k (.string _)=>.str
 |.k _=>.aH
def HO(X:Ty)(s:S):CT->SV->SV->Option BE
 |.int k,.int W a,.int V b=>if W=k/\V=k then U (oo .eql a b) else Z
 |.bool,.bool a,.bool b=>U (LH a b)
 |.aH _ .str,.ref a,.ref b=>if a.kind X s=.str/\b.kind X s=.str then U (.seq a b) else Z
 |_,_,_=>Z
def pO(X:Ty)(s:S):dN->ai->ai->Option BE
 |[],[],[]=>U (.c J)
 |c::W,x::V,y::R=>match HO X s c x y,pO X s W V R with
  |U a,U b=>U (tZ a b)
  |_,_=>Z
 |_,_,_=>Z
def HQ(X:Ty)(s:S)(W:fj)(a b:ai):Option BE:=match W with
 |U ⟨_,ae,J⟩=>pO X s ae a b
 |_=>Z
def XB(X:Ty)(W:List (Nat×TypeId))(i:Nat):Option (Nat×Nat):=match W[i]? with
 |U (o,V)=>(X V).map λf=>(o,Y f.ae)
 |none=>Z
def RE.nil:RE->Bool
 |.k (.slice Z 0 0)=>J
 |_=>E
def RE.oV(X:Ty)(s:S)(W:Sh)(r:RE):Bool:=decide (r.kind X s=.mr W)||r.nil
def Ff(n:Nat)(X:Bool):SV->Option (IE×IE×IE)
 |.int I a=>if n==1&& !X then U (a,.c 0,.c 0) else Z
 |.agg [.int I a]=>if n==1&&X then U (a,.c 0,.c 0) else Z
 |.agg [.int I a,.int I b]=>if n==2&&X then U (a,b,.c 0) else Z
 |.agg [.int I a,.int I b,.int I c]=>if n==3&&X then U (a,b,c) else Z
 |_=>Z
def lD:CT->Bool
 |.aH _ _=>E
 |_=>J
def oW(r:RE)(n:Nat)(a b c:IE):Nat->dN->ai
 |_,[]=>[]
 |j,.int k::X=>.int k (.look r n a b c j)::oW r n a b c (j+1) X
 |j,.bool::X=>.bool (.look r n a b c j)::oW r n a b c (j+1) X
 |j,.aH z _::X=>.ref (.k z)::oW r n a b c (j+1) X
def qK(X:Bool)(l:ai):SV:=if X then .agg l else l.getD 0 .any
def oX:ai->Option bh
 |[]=>U []
 |.int I (.c k)::_::r=>(oX r).map (k::·)
 |_=>Z
def kX:ai->ai
 |_::v::r=>v::kX r
 |_=>[]
def zk(e:IE):bh->ai->Option IE
 |k::X,.int _ x::W=>(zk e X W).map λy=>.cR (.cmp .eql e (.c k)) x y
 |[],[]=>U (.c 0)
 |_,_=>Z
def A7(e:IE):bh->ai->Option BE
 |k::X,.bool x::W=>(A7 e X W).map λy=>.cR (.cmp .eql e (.c k)) x y
 |[],[]=>U (.c E)
 |_,_=>Z
def HR:SV->Bool
 |.fn _ _=>J
 |.ref (.k .nilFunc)=>J
 |_=>E
def LI:fj->Bool
 |U ⟨.one,[.aH .nilFunc _],_⟩=>J
 |_=>E
def A8(e:IE):bh->ai->BE
 |k::X,.fn _ _::W=>.cR (.cmp .eql e (.c k)) (.c E) (A8 e X W)
 |k::X,_::W=>.cR (.cmp .eql e (.c k)) (.c J) (A8 e X W)
 |_,_=>.c J
def XC(e:IE)(W:bh)(X:ai):CT->Option SV
 |.int k=>if X.all λv=>match v with|.int V _=>decide (k=V)|_=>E then(zk e W X).map (.int k) else Z
 |.bool=>(A7 e W X).map .bool
 |.aH .nilFunc _=>if X.all HR&&Y W==Y X then U (.eQ e W X) else Z
 |_=>Z
def A9(e:IE)(X:bh)(W:tW):Nat->dN->E7
 |_,[]=>U []
 |j,c::V=>match XC e X (W.map λr=>r.getD j .any) c,A9 e X W (j+1) V with
  |U v,U r=>U (v::r)
  |_,_=>Z
def Fh(e:IE):bh->BE
 |[]=>.c E
 |k::X=>.cR (.cmp .eql e (.c k)) (.c J) (Fh e X)
def dH{X:Type}(x:Int):bh->List X->Option X
 |k::W,v::V=>if x=k then U v else dH x W V
 |_,_=>Z
def zl(X:TI)(v:SV):Bool:=Y v.cells==Y X.ae&&v.Fa&&(match v with
 |.agg _=>X.d.isAgg
 |_=> !X.d.isAgg)
def agd(X:TI)(e:IE)(W:ai):Option (SV×BE):=match oX W with
 |U V=>match e with
  |.c x=>match dH x V (kX W) with
   |U v=>U (v,.c J)
   |none=>U (qK X.d.isAgg (dp X),.c E)
  |e=>if(kX W).all (zl X) then(A9 e V ((kX W).map SV.cells) 0 X.ae).map λl=>(qK X.d.isAgg l,Fh e V) else Z
 |none=>Z
def XD:CT->Bool
 |.int I=>J
 |_=>E
def qL(X:Ty)(k:TypeId)(n:Nat)(W:Bool):Bool:=match X k with
 |U tk=>Y tk.ae==n&&tk.ae.all XD&&tk.d.isAgg==W
 |none=>E
def PB(X:Bool)(v:SV)(b:BE):PR:=.ok (if X then .bK [v,.bool b] else v)
def PD(V:Ty)(s:S)(k e:TypeId)(n:Nat)(W R:Bool)(i:Nat)(O:SV):PR:=match V e,Ff n W O,bX s.boxes i with
 |U X,U (a,b,c),U (Q,P)=>if !qL V k n W then .no "" else
  if Q==tX then(match P with
   |[.ref r,.int I (.c N),.bool (.c M),.bool (.c L)]=>if r.oV V s ⟨k,e,n,W,X.d.isAgg⟩&&N==(n:Int)&&M==W&&L==X.d.isAgg&&X.ae.all lD&&Y X.ae !=0 then PB R (qK X.d.isAgg (oW r n a b c n X.ae)) (.has r n a b c) else .no ""
   |_=>.no "")
  else if Q==rX then(if n==1&& !W then(match agd X a P with
   |U (v,x)=>PB R v x
   |none=>.no "") else .no "")
  else .no ""
 |_,_,_=>.no ""
def Ba(n:Nat):bh:=(aDA n).map λ(i:Nat)=>(i:Int)
def PE(X:TI)(e:IE)(V:bh)(W:ai):Option SV:=if W.all (zl X) then(A9 e V (W.map SV.cells) 0 X.ae).map (qK X.d.isAgg) else Z
def xl(X:ai):bT:=match X with
 |.loc i _::_=>if X.all λv=>match v with
  |.loc j _=>i==j
  |_=>E then U i else Z
 |_=>Z
def CZ{X:Type}:List (Option X)->Option (List X)
 |[]=>U []
 |U x::r=>(CZ r).map (x::·)
 |Z::_=>Z
def XF(X:TI)(W:ai):SV->Option SV
 |.loc _ V=>vA X W V
 |_=>Z
def bO(X:Ty)(W:lC)(s:S):Op->PR
 |.move x|.assign x=>.ok (s.ev W x)
 |.pick c a b=>match s.ev W c with
  |.bool (.c J)=>.ok (s.ev W a)
  |.bool (.c E)=>.ok (s.ev W b)
  |_=>.no ""
 |.load t a=>match X t,s.ev W a with
  |U P,.loc i V=>match kA s.boxes i with
   |U (_,H)=>match vA P H V with
    |U v=>.ok v
    |none=>.no ""
   |none=>.no ""
  |U P,.el r w i V=>match r.kind X s with
   |.sl e=>
    if(bw X (.sl e)).length !=w then .no "" else
    match vA P ((aDA w).map λj=>CW r i j ((bw X (.sl e)).getD j .bool)) V with
    |U v=>.aV (t8 i (.len r)) v
    |none=>.no ""
   |_=>.no ""
  |U P,.eQ e M N=>match(xl N).bind λi=>kA s.boxes i with
   |U (_,H)=>match(CZ (N.map (XF P H))).bind (PE P e M) with
    |U v=>if Y M==Y N then .aV (Fh e M) v else .no ""
    |none=>.no ""
   |none=>.no ""
  |_,_=>.no ""
 |.fieldAddr G x f=>match X G,s.ev W x with
  |U ⟨.struct O,_,_⟩,.loc i V=>match O[f]? with
   |U (o,t)=>match X t with
    |U P=>if Y P.ae==0 then .no "" else .ok (.loc i (V+o))
    |none=>.no ""
   |none=>.no ""
  |U ⟨.struct O,_,_⟩,.el r w i V=>match O[f]? with
   |U (o,t)=>match X t with
    |U P=>if Y P.ae==0 then .no "" else .ok (.el r w i (V+o))
    |none=>.no ""
   |none=>.no ""
  |_,_=>.no ""
 |.field G x f=>match X G,s.ev W x with
  |U ⟨.struct O,_,_⟩,.agg l=>match O[f]? with
   |U (o,t)=>match X t with
    |U P=>match vA P l o with
     |U v=>.ok v
     |none=>.no ""
    |none=>.no ""
   |none=>.no ""
  |_,_=>.no ""
 |.indexAddr t x L=>match X t,s.ev W x,s.ev W L with
  |U ⟨.arr n e,_,_⟩,.loc i V,.int _ (.c m)=>match X e with
   |U R=>if decide (0<=m)&&decide (m<(n:Int)) then .ok (.loc i (V+m.toNat*Y R.ae)) else .no ""
   |none=>.no ""
  |U ⟨.arr n e,_,_⟩,.el r w (.c i) V,.int _ m=>match X e with
   |U R=>if Y R.ae==w&&i==0&&V==0&&Y R.ae !=0 then .aV (t8 m (.c n)) (.el r w m 0) else
    match m with
    |.c m=>if decide (0<=m)&&decide (m<(n:Int)) then .ok (.el r w (.c i) (V+m.toNat*Y R.ae)) else .no ""
    |_=>.no ""
   |none=>.no ""
  |U ⟨.arr n e,_,_⟩,.el r w i V,.int _ (.c m)=>match X e with
   |U R=>if decide (0<=m)&&decide (m<(n:Int)) then .ok (.el r w i (V+m.toNat*Y R.ae)) else .no ""
   |none=>.no ""
  |U ⟨.slice e,_,_⟩,.ref r,.int _ m=>match X e,r.kind X s with
   |U R,.sl _=>.aV (t8 m (.len r)) (.el r (Y R.ae) m 0)
   |_,_=>.no ""
  |U ⟨.slice e,_,_⟩,.gM i V D _,.int _ (.c m)=>match X e with
   |U R=>if decide (0<=m)&&decide (m<(D:Int)) then .ok (.loc i (V+m.toNat*Y R.ae)) else .no ""
   |none=>.no ""
  |U ⟨.arr n e,_,_⟩,.loc i V,.int _ m=>match X e with
   |U R=>.aV (t8 m (.c n)) (.eQ m (Ba n) ((aDA n).map λj=>.loc i (V+j*Y R.ae)))
   |none=>.no ""
  |_,_,_=>.no ""
 |.index t x L=>match X t,s.ev W x,s.ev W L with
  |U ⟨.arr n e,_,_⟩,.agg l,.int _ (.c m)=>match X e with
   |U R=>if decide (0<=m)&&decide (m<(n:Int)) then(match vA R l (m.toNat*Y R.ae) with
    |U v=>.ok v
    |none=>.no "") else .no ""
   |none=>.no ""
  |U ⟨.arr n e,_,_⟩,.agg l,.int _ m=>match X e with
   |U R=>match(CZ ((aDA n).map λj=>vA R l (j*Y R.ae))).bind (PE R m (Ba n)) with
    |U v=>.aV (t8 m (.c n)) v
    |none=>.no ""
   |none=>.no ""
  |U ⟨.str,_,_⟩,.ref r,.int _ m=>match r.kind X s with
   |.str=>.aV (t8 m (.len r)) (.int .u8 (.mD r m))
   |_=>.no ""
  |_,_,_=>.no ""
 |.binOp Q t x y _=>match s.ev W x,s.ev W y with
  |.int k a,.int C b=>
   if agc Q then(match b with
    |.c n=>if decide (0<=n) then .ok (.int k (Fb Q k a (.c n))) else .no ""
    |_=>.no "") else
   if k≠C then .no "" else
   if Pz Q then .ok (.bool (oo Q a b)) else
   if Xz Q then .ok (.int k (Fb Q k a b)) else
   if XA Q then(match b with
    |.c n=>if n==0 then .no "" else .ok (.int k (Fb Q k a b))
    |_=>.aV (oo .neq b (.c 0)) (.int k (Fb Q k a b))) else .no ""
  |.bool a,.bool b=>match X t,Q with
   |U ⟨.one,[.bool],_⟩,.eql=>.ok (.bool (LH a b))
   |U ⟨.one,[.bool],_⟩,.neq=>.ok (.bool (CY (LH a b)))
   |_,_=>.no ""
  |.ref (.k .nilFunc),.ref (.k .nilFunc)=>if !LI (X t) then .no "" else match Q with
   |.eql=>.ok (.bool (.c J))
   |.neq=>.ok (.bool (.c E))
   |_=>.no ""
  |.ref a,.ref b=>match a.kind X s,b.kind X s,Q with
   |.str,.str,.eql=>.ok (.bool (.seq a b))
   |.str,.str,.neq=>.ok (.bool (.not (.seq a b)))
   |_,_,_=>.no ""
  |.fn _ _,.ref (.k .nilFunc)=>if !LI (X t) then .no "" else match Q with
   |.eql=>.ok (.bool (.c E))
   |.neq=>.ok (.bool (.c J))
   |_=>.no ""
  |.eQ e M N,.ref (.k .nilFunc)=>if N.all HR&&Y M==Y N&&LI (X t) then(match Q with
   |.eql=>.ok (.bool (A8 e M N))
   |.neq=>.ok (.bool (CY (A8 e M N)))
   |_=>.no "") else .no ""
  |.agg a,.agg b=>match Q,HQ X s (X t) a b with
   |.eql,U e=>.ok (.bool e)
   |.neq,U e=>.ok (.bool (CY e))
   |_,_=>.no ""
  |_,_=>.no ""
 |.unOp Q _ x=>match Q,s.ev W x with
  |.not,.bool b=>.ok (.bool (CY b))
  |.neg,.int k e=>.ok (.int k (Fb .sub k (.c 0) e))
  |_,_=>.no ""
 |.convert B A x=>match X B,X A,s.ev W x with
  |U ⟨.one,[.int _],_⟩,U ⟨.one,[.int k],_⟩,.int _ (.c n)=>.ok (.int k (.c (k.wrap n)))
  |U ⟨.one,[.int _],_⟩,U ⟨.one,[.int k],_⟩,.int _ e=>.ok (.int k (.conv k e))
  |_,_,_=>.no ""
 |.makeInterface t x=>match X t with
  |U ⟨.eP,_,_⟩=>.no ""
  |U _=>.ok (.eP t (s.ev W x))
  |none=>.no ""
 |.makeFunc z first F=>match z,first.toList with
  |.func f,[]=>.ok (.fn f (F.toList.map (s.ev W)))
  |_,_=>.no ""
 |.extract x i=>match s.ev W x with
  |.bK l=>match l[i]? with
   |U v=>.ok v
   |none=>.no ""
  |_=>.no ""
 |.nilCheck x=>match s.ev W x with
  |.loc i V=>.ok (.loc i V)
  |.el r w i V=>.ok (.el r w i V)
  |.fn f F=>.ok (.fn f F)
  |_=>.no ""
 |.slice t x u h g=>match X t,s.ev W x,g with
  |U ⟨.arr n e,_,_⟩,.loc i V,Z=>match X e,u.map (s.ev W),h.map (s.ev W) with
   |U _,Z,Z=>.ok (.gM i V n n)
   |U R,U (.int _ (.c l)),Z=>if decide (0<=l)&&decide (l<(n:Int)) then .ok (.gM i (V+l.toNat*Y R.ae) (n-l.toNat) (n-l.toNat)) else .no ""
   |_,_,_=>.no ""
  |_,_,_=>.no ""
 |.build t parts=>match X t with
  |U ⟨.struct O,ae,q⟩=>if !(O.all λf=>(X f.2).isSome) then .no "" else match xk (XB X O) (dp ⟨.struct O,ae,q⟩) (parts.toList.map λp=>(p.1,s.ev W p.2)) with
   |U l=>.ok (.agg l)
   |none=>.no ""
  |U ⟨.arr n e,ae,q⟩=>match X e with
   |U R=>match xk (λi=>U (i*Y R.ae,Y R.ae)) (dp ⟨.arr n e,ae,q⟩) (parts.toList.map λp=>(p.1,s.ev W p.2)) with
    |U l=>.ok (.agg l)
    |none=>.no ""
   |none=>.no ""
  |_=>.no ""
 |.call c=>match c.callee with
  |.builtin .len=>match c.argTypes.toList,c.args.toList.map (s.ev W) with
   |[t],[.ref (.k (.slice Z 0 0))]=>match X t with
    |U ⟨.slice _,_,_⟩=>.ok (.int I (.c 0))
    |_=>.no ""
   |[t],[.ref r]=>match X t,r.kind X s with
    |U ⟨.slice _,_,_⟩,.sl _=>.ok (.int I (.len r))
    |U ⟨.str,_,_⟩,.str=>.ok (.int I (.len r))
    |_,_=>.no ""
   |[t],[.gM _ _ n _]=>match X t with
    |U ⟨.slice _,_,_⟩=>.ok (.int I (.c n))
    |_=>.no ""
   |_,_=>.no ""
  |.builtin .min=>match c.args.toList.map (s.ev W) with
   |.int k x::r=>match Fc E k x r with
    |U e=>.ok (.int k e)
    |none=>.no ""
   |_=>.no ""
  |.builtin .max=>match c.args.toList.map (s.ev W) with
   |.int k x::r=>match Fc J k x r with
    |U e=>.ok (.int k e)
    |none=>.no ""
   |_=>.no ""
  |_=>.no ""
 |.lookup t x L d=>match X t,s.ev W x with
  |U ⟨.map k e n ag,_,_⟩,.mp i=>PD X s k e n ag d i (s.ev W L)
  |_,_=>.no ""
 |_=>.no ""
def zm(X:lC)(s:S):Op->bT
 |.load _ x=>match s.ev X x with
  |.loc i _=>U i
  |.eQ _ _ W=>xl W
  |_=>Z
 |.lookup _ x _ _=>match s.ev X x with
  |.mp i=>U i
  |_=>Z
 |_=>Z
def Fi:Value->Value->Bool
 |.string a,.string b=>a.data.toList==b.data.toList
 |.slice Z a b,.slice Z c d=>a==c&&b==d
 |.pointer Z,.pointer Z=>J
 |.nilFunc,.nilFunc=>J
 |.nilIface,.nilIface=>J
 |.map Z,.map Z=>J
 |_,_=>E
def zn(a b:BinOp):Bool:=decide (a=b)
noncomputable def IE.same(e:IE):IE->Bool:=IE.rec (motive_1:=λ_=>IE->Bool) (motive_2:=λ_=>BE->Bool) (motive_3:=λ_=>RE->Bool) (λn e=>match e with|IE.c N=>n==N|_=>E) (λk e=>match e with|IE.v O=>k==O|_=>E) (λo k _ _ X W e=>match e with|IE.bin D O V R=>zn o D&&decide (k=O)&&X V&&W R|_=>E) (λk _ X e=>match e with|IE.conv O V=>decide (k=O)&&X V|_=>E) (λ_ Q e=>match e with|IE.len P=>Q P|_=>E) (λm _ _ X W e=>match e with|IE.mm y V R=>m==y&&X V&&W R|_=>E) (λ_ _ _ W C B e=>match e with|IE.cR R A z=>W R&&C A&&B z|_=>E) (λ_ _ j Q L e=>match e with|IE.cell P H M=>Q P&&L H&&j==M|_=>E) (λ_ _ Q L e=>match e with|IE.mD P H=>Q P&&L H|_=>E) (λ_ n _ _ _ j Q X W G e=>match e with|IE.look P N V R F M=>Q P&&n==N&&X V&&W R&&G F&&j==M|_=>E) (λn e=>match e with|BE.c N=>n==N|_=>E) (λk e=>match e with|BE.v O=>k==O|_=>E) (λo _ _ X W e=>match e with|BE.cmp D V R=>zn o D&&X V&&W R|_=>E) (λ_ X e=>match e with|BE.not V=>X V|_=>E) (λ_ _ X W e=>match e with|BE.and V R=>X V&&W R|_=>E) (λ_ _ X W e=>match e with|BE.beq V R=>X V&&W R|_=>E) (λ_ _ _ W C B e=>match e with|BE.cR R A z=>W R&&C A&&B z|_=>E) (λ_ _ j Q L e=>match e with|BE.cell P H M=>Q P&&L H&&j==M|_=>E) (λ_ _ X W e=>match e with|BE.seq V R=>X V&&W R|_=>E) (λ_ n _ _ _ j Q X W G e=>match e with|BE.look P N V R F M=>Q P&&n==N&&X V&&W R&&G F&&j==M|_=>E) (λ_ n _ _ _ Q X W G e=>match e with|BE.has P N V R F=>Q P&&n==N&&X V&&W R&&G F|_=>E) (λk e=>match e with|RE.v O=>k==O|_=>E) (λ_ _ j k Q L e=>match e with|RE.cell P H M O=>Q P&&L H&&j==M&&decide (k=O)|_=>E) (λv e=>match e with|RE.k x=>Fi v x|_=>E) e
noncomputable def BE.same(e:BE):BE->Bool:=BE.rec (motive_1:=λ_=>IE->Bool) (motive_2:=λ_=>BE->Bool) (motive_3:=λ_=>RE->Bool) (λn e=>match e with|IE.c N=>n==N|_=>E) (λk e=>match e with|IE.v O=>k==O|_=>E) (λo k _ _ X W e=>match e with|IE.bin D O V R=>zn o D&&decide (k=O)&&X V&&W R|_=>E) (λk _ X e=>match e with|IE.conv O V=>decide (k=O)&&X V|_=>E) (λ_ Q e=>match e with|IE.len P=>Q P|_=>E) (λm _ _ X W e=>match e with|IE.mm y V R=>m==y&&X V&&W R|_=>E) (λ_ _ _ W C B e=>match e with|IE.cR R A z=>W R&&C A&&B z|_=>E) (λ_ _ j Q L e=>match e with|IE.cell P H M=>Q P&&L H&&j==M|_=>E) (λ_ _ Q L e=>match e with|IE.mD P H=>Q P&&L H|_=>E) (λ_ n _ _ _ j Q X W G e=>match e with|IE.look P N V R F M=>Q P&&n==N&&X V&&W R&&G F&&j==M|_=>E) (λn e=>match e with|BE.c N=>n==N|_=>E) (λk e=>match e with|BE.v O=>k==O|_=>E) (λo _ _ X W e=>match e with|BE.cmp D V R=>zn o D&&X V&&W R|_=>E) (λ_ X e=>match e with|BE.not V=>X V|_=>E) (λ_ _ X W e=>match e with|BE.and V R=>X V&&W R|_=>E) (λ_ _ X W e=>match e with|BE.beq V R=>X V&&W R|_=>E) (λ_ _ _ W C B e=>match e with|BE.cR R A z=>W R&&C A&&B z|_=>E) (λ_ _ j Q L e=>match e with|BE.cell P H M=>Q P&&L H&&j==M|_=>E) (λ_ _ X W e=>match e with|BE.seq V R=>X V&&W R|_=>E) (λ_ n _ _ _ j Q X W G e=>match e with|BE.look P N V R F M=>Q P&&n==N&&X V&&W R&&G F&&j==M|_=>E) (λ_ n _ _ _ Q X W G e=>match e with|BE.has P N V R F=>Q P&&n==N&&X V&&W R&&G F|_=>E) (λk e=>match e with|RE.v O=>k==O|_=>E) (λ_ _ j k Q L e=>match e with|RE.cell P H M O=>Q P&&L H&&j==M&&decide (k=O)|_=>E) (λv e=>match e with|RE.k x=>Fi v x|_=>E) e
noncomputable def RE.same(e:RE):RE->Bool:=RE.rec (motive_1:=λ_=>IE->Bool) (motive_2:=λ_=>BE->Bool) (motive_3:=λ_=>RE->Bool) (λn e=>match e with|IE.c N=>n==N|_=>E) (λk e=>match e with|IE.v O=>k==O|_=>E) (λo k _ _ X W e=>match e with|IE.bin D O V R=>zn o D&&decide (k=O)&&X V&&W R|_=>E) (λk _ X e=>match e with|IE.conv O V=>decide (k=O)&&X V|_=>E) (λ_ Q e=>match e with|IE.len P=>Q P|_=>E) (λm _ _ X W e=>match e with|IE.mm y V R=>m==y&&X V&&W R|_=>E) (λ_ _ _ W C B e=>match e with|IE.cR R A z=>W R&&C A&&B z|_=>E) (λ_ _ j Q L e=>match e with|IE.cell P H M=>Q P&&L H&&j==M|_=>E) (λ_ _ Q L e=>match e with|IE.mD P H=>Q P&&L H|_=>E) (λ_ n _ _ _ j Q X W G e=>match e with|IE.look P N V R F M=>Q P&&n==N&&X V&&W R&&G F&&j==M|_=>E) (λn e=>match e with|BE.c N=>n==N|_=>E) (λk e=>match e with|BE.v O=>k==O|_=>E) (λo _ _ X W e=>match e with|BE.cmp D V R=>zn o D&&X V&&W R|_=>E) (λ_ X e=>match e with|BE.not V=>X V|_=>E) (λ_ _ X W e=>match e with|BE.and V R=>X V&&W R|_=>E) (λ_ _ X W e=>match e with|BE.beq V R=>X V&&W R|_=>E) (λ_ _ _ W C B e=>match e with|BE.cR R A z=>W R&&C A&&B z|_=>E) (λ_ _ j Q L e=>match e with|BE.cell P H M=>Q P&&L H&&j==M|_=>E) (λ_ _ X W e=>match e with|BE.seq V R=>X V&&W R|_=>E) (λ_ n _ _ _ j Q X W G e=>match e with|BE.look P N V R F M=>Q P&&n==N&&X V&&W R&&G F&&j==M|_=>E) (λ_ n _ _ _ Q X W G e=>match e with|BE.has P N V R F=>Q P&&n==N&&X V&&W R&&G F|_=>E) (λk e=>match e with|RE.v O=>k==O|_=>E) (λ_ _ j k Q L e=>match e with|RE.cell P H M O=>Q P&&L H&&j==M&&decide (k=O)|_=>E) (λv e=>match e with|RE.k x=>Fi v x|_=>E) e
def IE.fT:(∀n e,IE.same (.c n) e=match e with|IE.c Q=>n==Q|_=>E)/\(∀k e,IE.same (.v k) e=match e with|IE.v R=>k==R|_=>E)/\(∀o k a b e,IE.same (.bin o k a b) e=match e with|IE.bin N R X W=>zn o N&&decide (k=R)&&IE.same a X&&IE.same b W|_=>E)/\(∀k a e,IE.same (.conv k a) e=match e with|IE.conv R X=>decide (k=R)&&IE.same a X|_=>E)/\(∀r e,IE.same (.len r) e=match e with|IE.len V=>RE.same r V|_=>E)/\(∀m a b e,IE.same (.mm m a b) e=match e with|IE.mm M X W=>m==M&&IE.same a X&&IE.same b W|_=>E)/\(∀b x y e,IE.same (.cR b x y) e=match e with|IE.cR W L H=>BE.same b W&&IE.same x L&&IE.same y H|_=>E)/\(∀r i j e,IE.same (.cell r i j) e=match e with|IE.cell V P O=>RE.same r V&&IE.same i P&&j==O|_=>E)/\(∀r i e,IE.same (.mD r i) e=match e with|IE.mD V P=>RE.same r V&&IE.same i P|_=>E)/\(∀r n a b c j e,IE.same (.look r n a b c j) e=match e with|IE.look V Q X W G O=>RE.same r V&&n==Q&&IE.same a X&&IE.same b W&&IE.same c G&&j==O|_=>E):=⟨λ_ _=>rfl,λ_ _=>rfl,λ_ _ _ _ _=>rfl,λ_ _ _=>rfl,λ_ _=>rfl,λ_ _ _ _=>rfl,λ_ _ _ _=>rfl,λ_ _ _ _=>rfl,λ_ _ _=>rfl,λ_ _ _ _ _ _ _=>rfl⟩
def BE.fT:(∀n e,BE.same (.c n) e=match e with|BE.c V=>n==V|_=>E)/\(∀k e,BE.same (.v k) e=match e with|BE.v O=>k==O|_=>E)/\(∀o a b e,BE.same (.cmp o a b) e=match e with|BE.cmp N X W=>zn o N&&IE.same a X&&IE.same b W|_=>E)/\(∀a e,BE.same (.not a) e=match e with|BE.not X=>BE.same a X|_=>E)/\(∀a b e,BE.same (.and a b) e=match e with|BE.and X W=>BE.same a X&&BE.same b W|_=>E)/\(∀a b e,BE.same (.beq a b) e=match e with|BE.beq X W=>BE.same a X&&BE.same b W|_=>E)/\(∀b x y e,BE.same (.cR b x y) e=match e with|BE.cR W M L=>BE.same b W&&BE.same x M&&BE.same y L|_=>E)/\(∀r i j e,BE.same (.cell r i j) e=match e with|BE.cell R H Q=>RE.same r R&&IE.same i H&&j==Q|_=>E)/\(∀a b e,BE.same (.seq a b) e=match e with|BE.seq X W=>RE.same a X&&RE.same b W|_=>E)/\(∀r n a b c j e,BE.same (.look r n a b c j) e=match e with|BE.look R V X W P Q=>RE.same r R&&n==V&&IE.same a X&&IE.same b W&&IE.same c P&&j==Q|_=>E)/\(∀r n a b c e,BE.same (.has r n a b c) e=match e with|BE.has R V X W P=>RE.same r R&&n==V&&IE.same a X&&IE.same b W&&IE.same c P|_=>E):=⟨λ_ _=>rfl,λ_ _=>rfl,λ_ _ _ _=>rfl,λ_ _=>rfl,λ_ _ _=>rfl,λ_ _ _=>rfl,λ_ _ _ _=>rfl,λ_ _ _ _=>rfl,λ_ _ _=>rfl,λ_ _ _ _ _ _ _=>rfl,λ_ _ _ _ _ _=>rfl⟩
def RE.fT:(∀k e,RE.same (.v k) e=match e with|RE.v X=>k==X|_=>E)/\(∀r i j k e,RE.same (.cell r i j k) e=match e with|RE.cell W V R X=>RE.same r W&&IE.same i V&&j==R&&decide (k=X)|_=>E)/\(∀v e,RE.same (.k v) e=match e with|RE.k Q=>Fi v Q|_=>E):=⟨λ_ _=>rfl,λ_ _ _ _ _=>rfl,λ_ _=>rfl⟩
noncomputable def SV.same(v:SV):SV->Bool:=SV.rec (motive_1:=λ_=>SV->Bool) (motive_2:=λ_=>ai->Bool) (λk e v=>match v with|SV.int O V=>decide (k=O)&&e.same V|_=>E) (λb v=>match v with|SV.bool R=>b.same R|_=>E) (λr v=>match v with|SV.ref Q=>r.same Q|_=>E) (λi o v=>match v with|SV.loc X P=>i==X&&o==P|_=>E) (λr w i o v=>match v with|SV.el Q N X P=>r.same Q&&w==N&&i.same X&&o==P|_=>E) (λa b c d v=>match v with|SV.gM M R L H=>a==M&&b==R&&c==L&&d==H|_=>E) (λ_ h v=>match v with|SV.agg W=>h W|_=>E) (λ_ h v=>match v with|SV.bK W=>h W|_=>E) (λf _ h v=>match v with|SV.fn G W=>f==G&&h W|_=>E) (λt _ h v=>match v with|SV.eP F D=>t==F&&h D|_=>E) (λn v=>match v with|SV.yl C=>n==C|_=>E) (λv=>match v with|SV.any=>J|_=>E) (λi v=>match v with|SV.mp X=>i==X|_=>E) (λe B _ h v=>match v with|SV.eQ V A z=>e.same V&&B==A&&h z|_=>E) (λl=>match l with|[]=>J|_=>E) (λ_ _ h x l=>match l with|y::u=>h y&&x u|_=>E) v
noncomputable def SV.oY(l:ai):ai->Bool:=SV.rec_1 (motive_1:=λ_=>SV->Bool) (motive_2:=λ_=>ai->Bool) (λk e v=>match v with|SV.int O V=>decide (k=O)&&e.same V|_=>E) (λb v=>match v with|SV.bool R=>b.same R|_=>E) (λr v=>match v with|SV.ref Q=>r.same Q|_=>E) (λi o v=>match v with|SV.loc X P=>i==X&&o==P|_=>E) (λr w i o v=>match v with|SV.el Q N X P=>r.same Q&&w==N&&i.same X&&o==P|_=>E) (λa b c d v=>match v with|SV.gM M R L H=>a==M&&b==R&&c==L&&d==H|_=>E) (λ_ h v=>match v with|SV.agg W=>h W|_=>E) (λ_ h v=>match v with|SV.bK W=>h W|_=>E) (λf _ h v=>match v with|SV.fn G W=>f==G&&h W|_=>E) (λt _ h v=>match v with|SV.eP F D=>t==F&&h D|_=>E) (λn v=>match v with|SV.yl C=>n==C|_=>E) (λv=>match v with|SV.any=>J|_=>E) (λi v=>match v with|SV.mp X=>i==X|_=>E) (λe B _ h v=>match v with|SV.eQ V A z=>e.same V&&B==A&&h z|_=>E) (λl=>match l with|[]=>J|_=>E) (λ_ _ h x l=>match l with|y::u=>h y&&x u|_=>E) l
def SV.fT:(∀k e v,SV.same (.int k e) v=match v with|SV.int M V=>decide (k=M)&&e.same V|_=>E)/\(∀b v,SV.same (.bool b) v=match v with|SV.bool R=>b.same R|_=>E)/\(∀r v,SV.same (.ref r) v=match v with|SV.ref Q=>r.same Q|_=>E)/\(∀i o v,SV.same (.loc i o) v=match v with|SV.loc X P=>i==X&&o==P|_=>E)/\(∀r w i o v,SV.same (.el r w i o) v=match v with|SV.el Q L X P=>r.same Q&&w==L&&i.same X&&o==P|_=>E)/\(∀a b c d v,SV.same (.gM a b c d) v=match v with|SV.gM H R G F=>a==H&&b==R&&c==G&&d==F|_=>E)/\(∀l v,SV.same (.agg l) v=match v with|SV.agg W=>SV.oY l W|_=>E)/\(∀l v,SV.same (.bK l) v=match v with|SV.bK W=>SV.oY l W|_=>E)/\(∀f l v,SV.same (.fn f l) v=match v with|SV.fn D W=>f==D&&SV.oY l W|_=>E)/\(∀t x v,SV.same (.eP t x) v=match v with|SV.eP C B=>t==C&&SV.same x B|_=>E)/\(∀n v,SV.same (.yl n) v=match v with|SV.yl A=>n==A|_=>E)/\(∀v,SV.same (.any) v=match v with|SV.any=>J|_=>E)/\(∀i v,SV.same (.mp i) v=match v with|SV.mp X=>i==X|_=>E)/\(∀e O N v,SV.same (.eQ e O N) v=match v with|SV.eQ V z y=>e.same V&&O==z&&SV.oY N y|_=>E):=⟨λ_ _ _=>rfl,λ_ _=>rfl,λ_ _=>rfl,λ_ _ _=>rfl,λ_ _ _ _ _=>rfl,λ_ _ _ _ _=>rfl,λ_ _=>rfl,λ_ _=>rfl,λ_ _ _=>rfl,λ_ _ _=>rfl,λ_ _=>rfl,λ_=>rfl,λ_ _=>rfl,λ_ _ _ _=>rfl⟩
def SV.age:(∀l,SV.oY [] l=match l with|[]=>J|_=>E)/\(∀x X l,SV.oY (x::X) l=match l with|y::W=>SV.same x y&&SV.oY X W|_=>E):=⟨λ_=>rfl,λ_ _ _=>rfl⟩
def agf:∀n:Nat,∃q,8^n=7*q+1
 |0=>⟨0,rfl⟩
 |n+1=>by
  obtain⟨q,h⟩:=agf n;exact⟨8*q+1,by rw[Nat.pow_succ,h];omega⟩
def A3(n:Nat):Nat:=Nat.div (Nat.sub (Nat.pow 8 n) 1) 7
def agh(n:Nat):8^n=7*A3 n+1:=by
 obtain⟨q,h⟩:=agf n;have:A3 n=q:=by
  show(8^n-1)/7=q;rw[h];omega
 rw[this];exact h
def PF(n:Nat):A3 (n+1)=8*A3 n+1:=by
 have X:=agh n;have W:=agh (n+1);rw[Nat.pow_succ,X] at W;omega
def agi:∀(n j:Nat),(A3 n).testBit j=(decide (j%3=0)&&decide (j/3<n))
 |0,j=>by simp[show A3 0=0 from rfl]
 |n+1,0=>by rw[PF,aGf];simp;omega
 |n+1,1=>by rw[PF,aEY,show(8*A3 n+1)/2=4*A3 n by omega,aGf];simp;omega
 |n+1,2=>by rw[PF,aEY,aEY,show(8*A3 n+1)/2/2=2*A3 n by omega,aGf];simp
 |n+1,j+3=>by
  rw[PF,aEY,aEY,aEY,show(8*A3 n+1)/2/2/2=A3 n by omega,agi n j,Nat.add_mod_right,Nat.add_div_right _ (by omega)];simp
def kY(X W V:Nat):Nat:=aDu (A3 X) (aDu (aDR (A3 W) 1) (aDR (A3 V) 2))
def XG(X W V j:Nat):(kY X W V).testBit j=if j%3=0 then decide (j/3<X) else if j%3=1 then decide (j/3<W) else decide (j/3<V):=by
 change(A3 X|||(A3 W<<<1|||A3 V<<<2)).testBit j=_;simp only[aEL,aFP,agi];rw[aEk];simp only[aDE,aDc,decide_eq_true_eq];split;simp only[decide_eq_true_eq];omega;split;simp only[decide_eq_true_eq];omega;simp only[decide_eq_true_eq];omega
def LJ:aD8 (aDu R M) M=J<->∀j,R.testBit j=J->M.testBit j=true:=by
 rw[aGF];constructor;intro h j X;have:(R|||M).testBit j=M.testBit j:=congrArg (λx=>Nat.testBit x j) h;rw[<-this,aEL,X,aGL];intro h;refine Nat.eq_of_testBit_eq λj=> ?_
 change(R|||M).testBit j=_;rw[aEL];cases W:R.testBit j with
 |true=>rw[h j W];rfl
 |false=>simp
def j9(a b A:Nat):aD8 (aDu (aDu a b) A) A=(aD8 (aDu a A) A&&aD8 (aDu b A) A):=by
 rw[aEk,aDc,LJ,LJ,LJ];change(∀j,(a|||b).testBit j=J->_)<->_;simp only[aEL,aDE];exact⟨λh=>⟨λj k=>h j (.inl k),λj k=>h j (.inr k)⟩,λh j k=>k.elim (h.1 j) (h.2 j)⟩
def XH(k A:Nat):aD8 (aDu (aDR 1 k) A) A=A.testBit k:=by
 rw[aEk,LJ];change(∀j,(1<<<k).testBit j=J->_)<->_;simp only[aGb,aGJ,decide_eq_true_eq];exact⟨λh=>h k rfl,λh j e=>e▸h⟩
def Fj(A:Nat):aD8 (aDu 0 A) A=true:=LJ.2 λj h=>by simp at h
noncomputable def IE.lc(e:IE):Nat:=IE.rec (motive_1:=λ_=>Nat) (motive_2:=λ_=>Nat) (motive_3:=λ_=>Nat) (λ_=>0) (λk=>aDR 1 (3*k)) (λ_ _ _ _ a b=>aDu a b) (λ_ _ a=>a) (λ_ r=>r) (λ_ _ _ a b=>aDu a b) (λ_ _ _ b x y=>aDu (aDu b x) y) (λ_ _ _ r i=>aDu r i) (λ_ _ r i=>aDu r i) (λ_ _ _ _ _ _ r a b c=>aDu (aDu (aDu r a) b) c) (λ_=>0) (λk=>aDR 1 (3*k+1)) (λ_ _ _ a b=>aDu a b) (λ_ a=>a) (λ_ _ a b=>aDu a b) (λ_ _ a b=>aDu a b) (λ_ _ _ b x y=>aDu (aDu b x) y) (λ_ _ _ r i=>aDu r i) (λ_ _ a b=>aDu a b) (λ_ _ _ _ _ _ r a b c=>aDu (aDu (aDu r a) b) c) (λ_ _ _ _ _ r a b c=>aDu (aDu (aDu r a) b) c) (λk=>aDR 1 (3*k+2)) (λ_ _ _ _ r i=>aDu r i) (λ_=>0) e
noncomputable def BE.lc(e:BE):Nat:=BE.rec (motive_1:=λ_=>Nat) (motive_2:=λ_=>Nat) (motive_3:=λ_=>Nat) (λ_=>0) (λk=>aDR 1 (3*k)) (λ_ _ _ _ a b=>aDu a b) (λ_ _ a=>a) (λ_ r=>r) (λ_ _ _ a b=>aDu a b) (λ_ _ _ b x y=>aDu (aDu b x) y) (λ_ _ _ r i=>aDu r i) (λ_ _ r i=>aDu r i) (λ_ _ _ _ _ _ r a b c=>aDu (aDu (aDu r a) b) c) (λ_=>0) (λk=>aDR 1 (3*k+1)) (λ_ _ _ a b=>aDu a b) (λ_ a=>a) (λ_ _ a b=>aDu a b) (λ_ _ a b=>aDu a b) (λ_ _ _ b x y=>aDu (aDu b x) y) (λ_ _ _ r i=>aDu r i) (λ_ _ a b=>aDu a b) (λ_ _ _ _ _ _ r a b c=>aDu (aDu (aDu r a) b) c) (λ_ _ _ _ _ r a b c=>aDu (aDu (aDu r a) b) c) (λk=>aDR 1 (3*k+2)) (λ_ _ _ _ r i=>aDu r i) (λ_=>0) e
noncomputable def RE.lc(e:RE):Nat:=RE.rec (motive_1:=λ_=>Nat) (motive_2:=λ_=>Nat) (motive_3:=λ_=>Nat) (λ_=>0) (λk=>aDR 1 (3*k)) (λ_ _ _ _ a b=>aDu a b) (λ_ _ a=>a) (λ_ r=>r) (λ_ _ _ a b=>aDu a b) (λ_ _ _ b x y=>aDu (aDu b x) y) (λ_ _ _ r i=>aDu r i) (λ_ _ r i=>aDu r i) (λ_ _ _ _ _ _ r a b c=>aDu (aDu (aDu r a) b) c) (λ_=>0) (λk=>aDR 1 (3*k+1)) (λ_ _ _ a b=>aDu a b) (λ_ a=>a) (λ_ _ a b=>aDu a b) (λ_ _ a b=>aDu a b) (λ_ _ _ b x y=>aDu (aDu b x) y) (λ_ _ _ r i=>aDu r i) (λ_ _ a b=>aDu a b) (λ_ _ _ _ _ _ r a b c=>aDu (aDu (aDu r a) b) c) (λ_ _ _ _ _ r a b c=>aDu (aDu (aDu r a) b) c) (λk=>aDR 1 (3*k+2)) (λ_ _ _ _ r i=>aDu r i) (λ_=>0) e
noncomputable def IE.bd(X W V:Nat)(e:IE):Bool:=aD8 (aDu e.lc (kY X W V)) (kY X W V)
noncomputable def BE.bd(X W V:Nat)(e:BE):Bool:=aD8 (aDu e.lc (kY X W V)) (kY X W V)
noncomputable def RE.bd(X W V:Nat)(e:RE):Bool:=aD8 (aDu e.lc (kY X W V)) (kY X W V)
def arn(X W V k:Nat):(kY X W V).testBit (3*k)=decide (k<X):=by
 rw[XG,if_pos (by omega),show 3*k/3=k by omega]
def aro(W X V k:Nat):(kY W X V).testBit (3*k+1)=decide (k<X):=by
 rw[XG,if_neg (by omega),if_pos (by omega),show(3*k+1)/3=k by omega]
def arp(W V X k:Nat):(kY W V X).testBit (3*k+2)=decide (k<X):=by
 rw[XG,if_neg (by omega),if_neg (by omega),show(3*k+2)/3=k by omega]
def IE.ba:(∀n,IE.bd R M h (.c n)=J)/\(∀k,IE.bd R M h (.v k)=decide (k<R))/\(∀o k a b,IE.bd R M h (.bin o k a b)=(IE.bd R M h a&&IE.bd R M h b))/\(∀k a,IE.bd R M h (.conv k a)=(IE.bd R M h a))/\(∀r,IE.bd R M h (.len r)=(RE.bd R M h r))/\(∀m a b,IE.bd R M h (.mm m a b)=(IE.bd R M h a&&IE.bd R M h b))/\(∀b x y,IE.bd R M h (.cR b x y)=(BE.bd R M h b&&IE.bd R M h x&&IE.bd R M h y))/\(∀r i j,IE.bd R M h (.cell r i j)=(RE.bd R M h r&&IE.bd R M h i))/\(∀r i,IE.bd R M h (.mD r i)=(RE.bd R M h r&&IE.bd R M h i))/\(∀r n a b c j,IE.bd R M h (.look r n a b c j)=(RE.bd R M h r&&IE.bd R M h a&&IE.bd R M h b&&IE.bd R M h c)):=⟨λ_=>Fj _,λ_=>(XH _ _).trans (arn _ _ _ _),λ_ _ _ _=>j9 _ _ _,λ_ _=>rfl,λ_=>rfl,λ_ _ _=>j9 _ _ _,λ_ _ _=>(j9 _ _ _).trans (congrArg (· &&_) (j9 _ _ _)),λ_ _ _=>j9 _ _ _,λ_ _=>j9 _ _ _,λ_ _ _ _ _ _=>(j9 _ _ _).trans (congrArg (· &&_) ((j9 _ _ _).trans (congrArg (· &&_) (j9 _ _ _))))⟩
def BE.ba:(∀n,BE.bd R M h (.c n)=J)/\(∀k,BE.bd R M h (.v k)=decide (k<M))/\(∀o a b,BE.bd R M h (.cmp o a b)=(IE.bd R M h a&&IE.bd R M h b))/\(∀a,BE.bd R M h (.not a)=(BE.bd R M h a))/\(∀a b,BE.bd R M h (.and a b)=(BE.bd R M h a&&BE.bd R M h b))/\(∀a b,BE.bd R M h (.beq a b)=(BE.bd R M h a&&BE.bd R M h b))/\(∀b x y,BE.bd R M h (.cR b x y)=(BE.bd R M h b&&BE.bd R M h x&&BE.bd R M h y))/\(∀r i j,BE.bd R M h (.cell r i j)=(RE.bd R M h r&&IE.bd R M h i))/\(∀a b,BE.bd R M h (.seq a b)=(RE.bd R M h a&&RE.bd R M h b))/\(∀r n a b c j,BE.bd R M h (.look r n a b c j)=(RE.bd R M h r&&IE.bd R M h a&&IE.bd R M h b&&IE.bd R M h c))/\(∀r n a b c,BE.bd R M h (.has r n a b c)=(RE.bd R M h r&&IE.bd R M h a&&IE.bd R M h b&&IE.bd R M h c)):=⟨λ_=>Fj _,λ_=>(XH _ _).trans (aro _ _ _ _),λ_ _ _=>j9 _ _ _,λ_=>rfl,λ_ _=>j9 _ _ _,λ_ _=>j9 _ _ _,λ_ _ _=>(j9 _ _ _).trans (congrArg (· &&_) (j9 _ _ _)),λ_ _ _=>j9 _ _ _,λ_ _=>j9 _ _ _,λ_ _ _ _ _ _=>(j9 _ _ _).trans (congrArg (· &&_) ((j9 _ _ _).trans (congrArg (· &&_) (j9 _ _ _)))),λ_ _ _ _ _=>(j9 _ _ _).trans (congrArg (· &&_) ((j9 _ _ _).trans (congrArg (· &&_) (j9 _ _ _))))⟩
def RE.ba:(∀k,RE.bd R M h (.v k)=decide (k<h))/\(∀r i j k,RE.bd R M h (.cell r i j k)=(RE.bd R M h r&&IE.bd R M h i))/\(∀v,RE.bd R M h (.k v)=J):=⟨λ_=>(XH _ _).trans (arp _ _ _ _),λ_ _ _ _=>j9 _ _ _,λ_=>Fj _⟩
noncomputable def SV.lc(v:SV):Nat:=SV.rec (motive_1:=λ_=>Nat) (motive_2:=λ_=>Nat) (λ_ e=>e.lc) (λb=>b.lc) (λr=>r.lc) (λ_ _=>0) (λr _ i _=>aDu r.lc i.lc) (λ_ _ _ _=>0) (λ_ l=>l) (λ_ l=>l) (λ_ _ l=>l) (λ_ _ x=>x) (λ_=>0) 0 (λ_=>0) (λe _ _ l=>aDu e.lc l) 0 (λ_ _ a b=>aDu a b) v
noncomputable def SV.HS(l:ai):Nat:=SV.rec_1 (motive_1:=λ_=>Nat) (motive_2:=λ_=>Nat) (λ_ e=>e.lc) (λb=>b.lc) (λr=>r.lc) (λ_ _=>0) (λr _ i _=>aDu r.lc i.lc) (λ_ _ _ _=>0) (λ_ l=>l) (λ_ l=>l) (λ_ _ l=>l) (λ_ _ x=>x) (λ_=>0) 0 (λ_=>0) (λe _ _ l=>aDu e.lc l) 0 (λ_ _ a b=>aDu a b) l
noncomputable def SV.zo(v:SV):Nat:=SV.rec (motive_1:=λ_=>Nat) (motive_2:=λ_=>Nat) (λ_ _=>0) (λ_=>0) (λ_=>0) (λi _=>aDR 1 i) (λ_ _ _ _=>0) (λi _ _ _=>aDR 1 i) (λ_ l=>l) (λ_ l=>l) (λ_ _ l=>l) (λ_ _ x=>x) (λ_=>0) 0 (λi=>aDR 1 i) (λ_ _ _ l=>l) 0 (λ_ _ a b=>aDu a b) v
noncomputable def SV.Fk(l:ai):Nat:=SV.rec_1 (motive_1:=λ_=>Nat) (motive_2:=λ_=>Nat) (λ_ _=>0) (λ_=>0) (λ_=>0) (λi _=>aDR 1 i) (λ_ _ _ _=>0) (λi _ _ _=>aDR 1 i) (λ_ l=>l) (λ_ l=>l) (λ_ _ l=>l) (λ_ _ x=>x) (λ_=>0) 0 (λi=>aDR 1 i) (λ_ _ _ l=>l) 0 (λ_ _ a b=>aDu a b) l
noncomputable def SV.HT(X:Nat->Bool)(v:SV):Bool:=SV.rec (motive_1:=λ_=>Bool) (motive_2:=λ_=>Bool) (λ_ _=>J) (λ_=>J) (λ_=>J) (λi _=>X i) (λ_ _ _ _=>J) (λi _ _ _=>X i) (λ_ l=>l) (λ_ l=>l) (λ_ _ l=>l) (λ_ _ x=>x) (λ_=>J) J (λi=>X i) (λ_ _ _ l=>l) J (λ_ _ a b=>a&&b) v
noncomputable def SV.HV(X:Nat->Bool)(l:ai):Bool:=SV.rec_1 (motive_1:=λ_=>Bool) (motive_2:=λ_=>Bool) (λ_ _=>J) (λ_=>J) (λ_=>J) (λi _=>X i) (λ_ _ _ _=>J) (λi _ _ _=>X i) (λ_ l=>l) (λ_ l=>l) (λ_ _ l=>l) (λ_ _ x=>x) (λ_=>J) J (λi=>X i) (λ_ _ _ l=>l) J (λ_ _ a b=>a&&b) l
noncomputable def SV.bd(X W V:Nat)(R:Nat->Bool)(v:SV):Bool:=aFM (motive:=λ_=>Bool) E (aFM (motive:=λ_=>Bool) (v.HT R) J (aD8 v.zo 0)) (aD8 (aDu v.lc (kY X W V)) (kY X W V))
def SV.agj(X W V:Nat)(R:Nat->Bool)(v:SV):SV.bd X W V R v=(aD8 (aDu v.lc (kY X W V)) (kY X W V)&&(aD8 v.zo 0||v.HT R)):=by
 unfold SV.bd;cases aD8 (aDu v.lc (kY X W V)) (kY X W V)<;>cases aD8 v.zo 0<;>rfl
noncomputable def SV.db(X W V:Nat)(R:Nat->Bool)(l:ai):Bool:=aE7 (motive:=λ_=>Bool) J (λx _ Q=>aFM (motive:=λ_=>Bool) E Q (SV.bd X W V R x)) l
def SV.gz{X:Nat->Bool}:(SV.db R M h X []=J)/\(∀x W,SV.db R M h X (x::W)=(SV.bd R M h X x&&SV.db R M h X W)):=⟨rfl,λx W=>by
 show aFM (motive:=λ_=>Bool) E (SV.db R M h X W) (SV.bd R M h X x)=_;cases SV.bd R M h X x<;>rfl⟩
def agk:aD8 (aDu R M) 0=(aD8 R 0&&aD8 M 0):=by
 rw[aEk,aDc,aGF,aGF,aGF];exact Nat.or_eq_zero_iff
def PG(i:Nat):aD8 (aDR 1 i) 0=false:=by
 have:aDR 1 i≠0:=by
  change 1<<<i≠0;rw[aGb];exact Nat.ne_of_gt (Nat.two_pow_pos i)
 cases h:aD8 (aDR 1 i) 0 with
 |false=>rfl
 |true=>exact absurd (aGx h) this
mutual
def XI(X:Nat->Bool):∀v:SV,aD8 v.zo 0=J->v.HT X=J
 |.int _ _,_=>rfl
 |.bool _,_=>rfl
 |.ref _,_=>rfl
 |.loc i _,h=>by rw[show(SV.loc i _).zo=aDR 1 i from rfl,PG] at h;cases h
 |.el _ _ _ _,_=>rfl
 |.gM i _ _ _,h=>by rw[show(SV.gM i _ _ _).zo=aDR 1 i from rfl,PG] at h;cases h
 |.agg l,h=>HW X l h
 |.bK l,h=>HW X l h
 |.fn _ l,h=>HW X l h
 |.eP _ x,h=>XI X x h
 |.yl _,_=>rfl
 |.any,_=>rfl
 |.mp i,h=>by rw[show(SV.mp i).zo=aDR 1 i from rfl,PG] at h;cases h
 |.eQ _ _ l,h=>HW X l h
def HW(X:Nat->Bool):∀l:ai,aD8 (SV.Fk l) 0=J->SV.HV X l=J
 |[],_=>rfl
 |x::W,h=>by
  rw[show SV.Fk (x::W)=aDu x.zo (SV.Fk W) from rfl,agk,aDc] at h;show(x.HT X&&SV.HV X W)=J;rw[XI X x h.1,HW X W h.2];rfl
end
def LL(V R Q:Nat)(W:Nat->Bool):∀l:ai,(aD8 (aDu (SV.HS l) (kY V R Q)) (kY V R Q)&&(aD8 (SV.Fk l) 0||SV.HV W l))=SV.db V R Q W l
 |[]=>by rw[show SV.HS []=0 from rfl,Fj];rfl
 |x::X=>by
  rw[SV.gz.2,<-LL V R Q W X,SV.agj,show SV.HS (x::X)=aDu x.lc (SV.HS X) from rfl,show SV.Fk (x::X)=aDu x.zo (SV.Fk X) from rfl,j9,agk,show SV.HV W (x::X)=(x.HT W&&SV.HV W X) from rfl];have P:=XI W x;have O:=HW W X;cases N:aD8 x.zo 0<;>cases M:aD8 (SV.Fk X) 0<;>cases L:x.HT W<;>cases H:SV.HV W X<;>cases aD8 (aDu x.lc (kY V R Q)) (kY V R Q)<;>cases aD8 (aDu (SV.HS X) (kY V R Q)) (kY V R Q)<;>simp_all
def SV.ba{X:Nat->Bool}:(∀k e,SV.bd R M h X (.int k e)=e.bd R M h)/\(∀b,SV.bd R M h X (.bool b)=b.bd R M h)/\(∀r,SV.bd R M h X (.ref r)=r.bd R M h)/\(∀i o,SV.bd R M h X (.loc i o)=X i)/\(∀i a b c,SV.bd R M h X (.gM i a b c)=X i)/\(∀r w i o,SV.bd R M h X (.el r w i o)=(r.bd R M h&&i.bd R M h))/\(∀l,SV.bd R M h X (.agg l)=SV.db R M h X l)/\(∀l,SV.bd R M h X (.bK l)=SV.db R M h X l)/\(∀f l,SV.bd R M h X (.fn f l)=SV.db R M h X l)/\(∀t x,SV.bd R M h X (.eP t x)=SV.bd R M h X x)/\(∀n,SV.bd R M h X (.yl n)=J)/\(SV.bd R M h X .any=J)/\(∀i,SV.bd R M h X (.mp i)=X i)/\(∀e P Q,SV.bd R M h X (.eQ e P Q)=(e.bd R M h&&SV.db R M h X Q)):=by
 have W:∀b:Bool,(b&&(aD8 0 0||J))=b:=λb=>by cases b<;>rfl
 have V:∀i,(aD8 (aDu 0 (kY R M h)) (kY R M h)&&(aD8 (aDR 1 i) 0||X i))=X i:=λi=>by rw[Fj,PG];rfl
 simp only[SV.agj];refine⟨λ_ _=>W _,λ_=>W _,λ_=>W _,λ_ _=>V _,λ_ _ _ _=>V _,λr _ i _=> ?_,λl=>LL _ _ _ _ l,λl=>LL _ _ _ _ l,λ_ l=>LL _ _ _ _ l,λ_ _=>rfl,λ_=>(W _).trans (Fj _),(W _).trans (Fj _),λ_=>V _,λe _ l=> ?_⟩;exact(W _).trans (j9 _ _ _);rw[<-LL];show(aD8 (aDu (aDu e.lc (SV.HS l)) _) _&&_)=_;rw[j9,aGy];rfl
def SV.oZ(X W V:Nat)(R:Nat->Bool):bA->Bool
 |[]=>J
 |U x::Q=>SV.db X W V R x.2&&SV.oZ X W V R Q
 |Z::Q=>SV.oZ X W V R Q
def aM(l:bA)(i:Nat):Bool:=(bX l i).isSome
def S.bd(s:S):Bool:=SV.db s.ni s.nb (Y s.rs) (aM s.boxes) s.tmps&&SV.oZ s.ni s.nb (Y s.rs) (aM s.boxes) s.boxes
def S.dV(s:S)(l:ai):Bool:=s.bd&&SV.db s.ni s.nb (Y s.rs) (aM s.boxes) l
structure eF where
 tm:List (Nat×LK)
 cl:List (Nat×Nat×LK)
inductive arq where
 |ars
 |inv (a:eF)
inductive FK where
 |box
 |slot (t:Nat) (vs:List Int)
structure bB where
 ty:Ty
 gl:lC
 inl:FuncId->Option (Code×Nat×pN)
 sig:FuncId->iQ
 loop:FuncId->Nat->arq
 agl:TypeId:=3
 zp:FuncId->FuncId->Option (TypeId×be×Bool):=λ_ _=>Z
 nA:Bool:=E
 LM:FuncId->Nat->Bool:=λ_ _=>E
 frk:FuncId->Nat->Option FK:=λ_ _=>Z
def S.fresh(s:S):LK->SV×S
 |.int k=>(.int k (.v s.ni),{s with ni:=s.ni+1})
 |.bool=>(.bool (.v s.nb),{s with nb:=s.nb+1})
 |.ref e=>(.ref (.v (Y s.rs)),{s with rs:=s.rs++[e]})
def rZ:CT->LK
 |.int k=>.int k
 |.bool=>.bool
 |.aH _ k=>.ref k
def S.bW(s:S):aR->ai×S
 |[]=>([],s)
 |k::X=>let r:=s.fresh k;let q:=r.2.bW X;(r.1::q.1,q.2)
def zq(W:Ty):gT->ai->E7
 |[],_=>U []
 |t::V,l=>match W t with
  |U X=>match zq W V (l.drop (Y X.ae)) with
   |U r=>U ((if X.d.isAgg then .agg (l.take (Y X.ae)) else l.getD 0 .any)::r)
   |none=>Z
  |none=>Z
def gA(X:Ty):gT->Option aR
 |[]=>U []
 |t::W=>match X t,gA X W with
  |U V,U r=>U (V.ae.map rZ++r)
  |_,_=>Z
def one(l:ai):SV:=match l with
 |[v]=>v
 |l=>.bK l
def Code.mQ:Code->aj
 |.region _ X _=>X.toList.filterMap (·.dst)
 |.seq a b=>Code.mQ a++Code.mQ b
 |.cond _ a b=>Code.mQ a++Code.mQ b
 |.block _ c=>Code.mQ c
 |.loop c=>Code.mQ c
 |.scope c=>Code.mQ c
 |.rangeFunc _ W a b=>W.toList++Code.mQ a++Code.mQ b
 |_=>[]
def Code.first:Code->bT
 |.region id _ _=>U id
 |.seq a b=>match Code.first a with
  |U i=>U i
  |none=>Code.first b
 |.cond _ a b=>match Code.first a with
  |U i=>U i
  |none=>Code.first b
 |.block _ c=>Code.first c
 |.loop c=>Code.first c
 |.scope c=>Code.first c
 |_=>Z
mutual
def SV.Fl:SV->aj
 |.loc i _=>[i]
 |.gM i _ _ _=>[i]
 |.agg l=>SV.nC l
 |.bK l=>SV.nC l
 |.fn _ l=>SV.nC l
 |.eP _ x=>SV.Fl x
 |.mp i=>[i]
 |.eQ _ _ X=>SV.nC X
 |_=>[]
def SV.nC:ai->aj
 |[]=>[]
 |x::X=>SV.Fl x++SV.nC X
end
def pP(X:aj):Nat->bA->bA
 |_,[]=>[]
 |n,x::W=>(if X.contains n then x else Z)::pP X (n+1) W
def ua:bA->bA
 |[]=>[]
 |x::X=>match x,ua X with
  |Z,[]=>[]
  |x,r=>x::r
def SV.dL:SV->Bool
 |.any=>J
 |_=>E
inductive Fm where
 |fn (g:FuncId)
 |yl (n:Nat)
abbrev oq:=Fm->ai->S->(SV->S->T)->(SV->S->T)->T
abbrev YH:=Nat->ai->S->(SV->S->T)->(SV->S->T)->T
def iA:YH:=λ_ _ _ _ _=>.stuck ""
structure OM where
 o:Oper
 ix:Nat
 bC:Bool
 j:Nat
 dr:Bool
 so:Bool
abbrev ce:=List OM
inductive OR where
 |ok (s:S)
 |aV (b:BE) (s:S)
 |split(b:BE) (s1 s2:S)
 |no (why:String)
def RE.isNil:RE->Bool
 |.k (.slice Z 0 0)=>J
 |_=>E
def RE.fits(X:Ty)(s:S)(k:RK)(r:RE):Bool:=match k with
 |.sl e=>decide (r.kind X s=.sl e)||r.isNil
 |.str=>decide (r.kind X s=.str)
 |_=>E
def qM(X:Ty)(s:S):CT->SV->Bool
 |.int k,.int W _=>decide (k=W)
 |.bool,.bool _=>J
 |.aH _ k,.ref r=>r.fits X s k
 |_,_=>E
def ld(X:Ty)(s:S):dN->ai->Bool
 |[],[]=>J
 |c::W,v::V=>qM X s c v&&ld X s W V
 |_,_=>E
def lX(X:Ty)(s:S)(ae:dN):tW->Bool
 |[]=>J
 |r::W=>ld X s ae r&&lX X s ae W
def iH(w:Nat):Nat->ai->tW
 |0,_=>[]
 |n+1,l=>l.take w::iH w n (l.drop w)
def LE.bd(X W V:Nat):LE->Bool
 |.ref r=>r.bd X W V
 |.lit l=>l.all (SV.db X W V λ_=>E)
 |.iG a b=>LE.bd X W V a&&LE.bd X W V b
 |.rY n Q=>n.bd X W V&&SV.db X W V (λ_=>E) Q
 |.set a i _ R=>LE.bd X W V a&&i.bd X W V&&SV.db X W V (λ_=>E) R
 |.sub a P O=>LE.bd X W V a&&P.bd X W V&&O.bd X W V
 |.ins a _ R=>LE.bd X W V a&&SV.db X W V (λ_=>E) R
def RE.root:RE->bT
 |.v n=>U n
 |.cell r _ _ _=>r.root
 |.k _=>Z
mutual
def SV.XJ:SV->aj
 |.ref r=>r.root.toList
 |.el r _ _ _=>r.root.toList
 |.agg l=>SV.nD l
 |.bK l=>SV.nD l
 |.fn _ l=>SV.nD l
 |.eP _ x=>SV.XJ x
 |.eQ _ _ X=>SV.nD X
 |_=>[]
def SV.nD:ai->aj
 |[]=>[]
 |x::X=>SV.XJ x++SV.nD X
end
def xo(b:Bool):RK->RK
 |.own e=>if b then .sl e else .own e
 |x=>x
def LN(b:Bool):RK->RK
 |.own e=>if b then .sl e else .dead
 |x=>x
def jz(X:aj):Nat->aE->aE
 |_,[]=>[]
 |n,x::W=>xo (X.contains n) x::jz X (n+1) W
def gV(X:aj):Nat->aE->aE
 |_,[]=>[]
 |n,x::W=>(if X.contains n then .dead else x)::gV X (n+1) W
def Bb(X:aj):Nat->aE->aE
 |_,[]=>[]
 |n,x::W=>LN (X.contains n) x::Bb X (n+1) W
mutual
def SV.fZ(k n:Nat):SV->SV
 |.ref (.v j)=>if j==k then .ref (.v n) else .ref (.v j)
 |.el (.v j) w i o=>if j==k then .el (.v n) w i o else .el (.v j) w i o
 |.agg l=>.agg (SV.nE k n l)
 |.bK l=>.bK (SV.nE k n l)
 |.fn f l=>.fn f (SV.nE k n l)
 |.eP t x=>.eP t (SV.fZ k n x)
 |.eQ e X W=>.eQ e X (SV.nE k n W)
 |v=>v
def SV.nE(k n:Nat):ai->ai
 |[]=>[]
 |x::X=>SV.fZ k n x::SV.nE k n X
end
def sa(k n:Nat):bA->bA
 |[]=>[]
 |Z::X=>Z::sa k n X
 |U (t,W)::X=>U (t,if oU t then W else SV.nE k n W)::sa k n X
def S.fZ(s:S)(k n:Nat):S:={s with tmps:=SV.nE k n s.tmps,boxes:=sa k n s.boxes}
structure BI where
 aV:BE
 e:TypeId
 x:LE
 s:S
def HX:Int:=536870912
def HY(n:IE):BE:=oo .leq n (.c HX)
def pQ(Q:Ty)(s:S)(e:TypeId)(X:TI):SV->Option (LE×BE×aj)
 |.ref r=>if r.isNil then U (.lit [],.c J,[]) else if r.kind Q s=.sl e then U (.ref r,HY (.len r),[]) else Z
 |.gM i V W _=>match kA s.boxes i with
  |U (_,R)=>if lX Q s X.ae (iH (Y X.ae) W (vy R V (W*Y X.ae)))&&decide (V+W*Y X.ae<=Y R)&&decide ((W:Int)<=HX) then U (.lit (iH (Y X.ae) W (vy R V (W*Y X.ae))),.c J,SV.nD (vy R V (W*Y X.ae))) else Z
  |none=>Z
 |_=>Z
def vD(s:S)(e:TypeId)(bC:Bool):SV->Option (LE×BE×aj)
 |.ref (.v k)=>if s.rs[k]?=U (.own e)/\ !(bC&&s.lk.testBit (2*k+1)) then U (.ref (.v k),HY (.len (.v k)),[k]) else Z
 |.ref r=>if r.isNil then U (.lit [],.c J,[]) else Z
 |.gM _ _ 0 0=>U (.lit [],.c J,[])
 |_=>Z
def jl(s:S)(d:bT)(aV:BE)(e:TypeId)(k:RK)(x:LE)(X W:aj):Option BI:=
 if s.bd&&X.all (λk=> !W.contains k)&&LE.bd s.ni s.nb (Y s.rs) x&&aV.bd s.ni s.nb (Y s.rs) then U ⟨aV,e,x,{s with rs:=jz W 0 (gV X 0 s.rs)++[k]}.put d (.ref (.v (Y s.rs)))⟩ else Z
def dI(X:bB)(o:Oper)(bC R:Bool)(s:S):Option BI:=match o.op with
 |.call c=>match c.callee with
  |.builtin .append=>match c.argTypes.toList,c.args.toList.map (s.ev X.gl) with
   |[t,O],[x,y]=>match X.ty t,X.ty O with
    |U ⟨.slice e,_,_⟩,U ⟨.slice N,_,_⟩=>match X.ty e with
     |U W=>if e≠N\/Y W.ae=0 then Z else match vD s e bC x,pQ X.ty s e W y with
      |U (a,M,L),U (b,H,G)=>jl s o.dst (tZ M H) e (.own e) (.iG a b) L G
      |_,_=>Z
     |none=>Z
    |_,_=>Z
   |_,_=>Z
  |_=>Z
 |.makeSlice t n m=>match X.ty t,s.ev X.gl n,s.ev X.gl m with
  |U ⟨.slice e,_,_⟩,.int I n,.int I m=>match X.ty e with
   |U W=>if n.same m&&lX X.ty s W.ae [dp W]&&Y W.ae !=0 then jl s o.dst (tZ (oo .leq (.c 0) n) (HY n)) e (.own e) (.rY n (dp W)) [] [] else Z
   |none=>Z
  |_,_,_=>Z
 |.buildSlice t V parts=>if R|| !X.nA then Z else match X.ty t with
  |U ⟨.slice e,_,_⟩=>match X.ty e with
   |U W=>match xk (λi=>U (i*Y W.ae,Y W.ae)) (vC V (dp W)) (parts.toList.map λp=>(p.1,s.ev X.gl p.2)) with
    |U l=>if(Y l==V*Y W.ae&&lX X.ty s W.ae (iH (Y W.ae) V l)&&Y W.ae !=0&&decide ((V:Int)<=HX)&&decide (V*Y W.ae<=16777216)&& !(parts.toList.any λp=>(s.ev X.gl p.2).dL)) then jl s o.dst (.c J) e (.own e) (.lit (iH (Y W.ae) V l)) [] (SV.nD l) else Z
    |none=>Z
   |none=>Z
  |_=>Z
 |.slice t x F D C=>if R then Z else match X.ty t,s.ev X.gl x,C.map (s.ev X.gl),D.map (s.ev X.gl),F.map (s.ev X.gl) with
  |U ⟨.slice e,_,_⟩,.ref r,U (.int _ (.c 0)),U (.int _ (.c 0)),Z=>match X.ty e with
   |U _=>if r.kind X.ty s=.sl e\/r.isNil then jl s o.dst (.c J) e (.own e) (.lit []) [] [] else Z
   |none=>Z
  |U ⟨.slice e,_,_⟩,.ref r,Z,U (.int I h),U (.int I l)=>match X.ty e with
   |U _=>if r.kind X.ty s=.sl e then jl s o.dst (tZ (oo .leq (.c 0) l) (tZ (oo .leq l h) (oo .leq h (.len r)))) e (.sl e) (.sub (.ref r) l h) [] r.root.toList else Z
   |none=>Z
  |U ⟨.slice e,_,_⟩,.ref r,Z,U (.int I h),Z=>match X.ty e with
   |U _=>if r.kind X.ty s=.sl e then jl s o.dst (tZ (oo .leq (.c 0) h) (oo .leq h (.len r))) e (.sl e) (.sub (.ref r) (.c 0) h) [] r.root.toList else Z
   |none=>Z
  |U ⟨.slice e,_,_⟩,.ref r,Z,Z,U (.int I l)=>match X.ty e with
   |U _=>if r.kind X.ty s=.sl e then jl s o.dst (tZ (oo .leq (.c 0) l) (oo .leq l (.len r))) e (.sl e) (.sub (.ref r) l (.len r)) [] r.root.toList else Z
   |none=>Z
  |_,_,_,_,_=>Z
 |.store t a x=>if R then Z else match X.ty t,s.ev X.gl a with
  |U Q,.el (.v k) w i P=>match s.rs[k]? with
   |U (.own e)=>match X.ty e with
    |U W=>if(Y W.ae==w&&(s.ev X.gl x).cells.length==Y Q.ae&&decide (P+Y Q.ae<=w)&&ld X.ty s ((W.ae.drop P).take (Y Q.ae)) (s.ev X.gl x).cells&&(s.ev X.gl x).Fa) then
      (jl s Z (t8 i (.len (.v k))) e (.own e) (.set (.ref (.v k)) i P (s.ev X.gl x).cells) [k] (SV.nD (s.ev X.gl x).cells)).map λb=>{b with s:=(b.s.fZ k (Y s.rs)).put o.dst (.bK [])} else Z
    |none=>Z
   |_=>Z
  |_,_=>Z
 |_=>Z
def S.cq(s:S)(n:Nat)(t:TypeId)(X:ai):S:={s with boxes:=s.boxes.set n (U (t,X))}
def LO(bC:Bool):SV->Nat
 |.loc i _=>if bC then 1<<<(2*i) else 0
 |.el r _ _ _=>if bC then(match r.root with
  |U k=>1<<<(2*k+1)
  |none=>0) else 0
 |.eQ _ _ X=>if bC then(match xl X with
  |U i=>1<<<(2*i)
  |none=>0) else 0
 |_=>0
def S.cH(s:S)(d:bT)(v:SV)(l:Nat):S:={s with lk:=s.lk|||l}.put d v
def qN(s:S)(d:bT)(l:Nat):PR->OR
 |.ok v=>.ok (s.cH d v l)
 |.aV b v=>if b.bd s.ni s.nb (Y s.rs) then .aV b (s.cH d v l) else .no ""
 |.no w=>.no w
def eU(l:bA)(n:Nat):Bool:=match l[n]? with
 |U Z=>J
 |_=>E
def ot(l:bA)(n:Nat)(t:TypeId):Bool:=eU l n&& !oU t
def fc(X:bB)(m:OM)(s:S):OR:=
 if m.o.op.operands.toList.any λx=>(s.ev X.gl x).dL then .no (""++toString m.j++ ""++toString m.o.dst) else
 match m.o.op with
 |.alloc t=>match X.ty t with
  |U W=>if s.dV (dp W)&&ot s.boxes m.ix t then .ok ((s.cq m.ix t (dp W)).put m.o.dst (.loc m.ix 0)) else .no ""
  |none=>.no ""
 |.box t x=>match X.ty t with
  |U W=>if(s.ev X.gl x).cells.length==Y W.ae&&s.dV (s.ev X.gl x).cells&&(s.ev X.gl x).Fa&&ot s.boxes m.ix t then .ok ((s.cq m.ix t (s.ev X.gl x).cells).put m.o.dst (.loc m.ix 0)) else .no ""
  |none=>.no ""
 |.buildSlice t V parts=>match X.ty t with
  |U ⟨.slice e,_,_⟩=>match X.ty e with
   |U R=>match xk (λi=>U (i*Y R.ae,Y R.ae)) (vC V (dp R)) (parts.toList.map λp=>(p.1,s.ev X.gl p.2)) with
    |U l=>if s.dV l&&decide (V*Y R.ae<=16777216)&&ot s.boxes m.ix e then .ok ((s.cq m.ix e l).put m.o.dst (.gM m.ix 0 V V)) else .no ""
    |none=>.no ""
   |none=>.no ""
  |_=>.no ""
 |.store t a x=>match X.ty t,s.ev X.gl a with
  |U W,.loc i Q=>match kA s.boxes i with
   |U (O,P)=>if(s.ev X.gl x).cells.length==Y W.ae&&decide (Q+(s.ev X.gl x).cells.length<=Y P)&&CX (s.ev X.gl x).cells&&(s.ev X.gl x).Fa&& !(m.bC&&s.lk.testBit (2*i)) then .ok ((s.cq i O (j8 P Q (s.ev X.gl x).cells)).put m.o.dst (.bK [])) else .no ""
   |none=>.no ""
  |_,_=>.no ""
 |.pick c x y=>match s.ev X.gl c with
  |.bool b=>.split b (s.put m.o.dst (s.ev X.gl x)) (s.put m.o.dst (s.ev X.gl y))
  |_=>.no ""
 |.load t a=>qN s m.o.dst (LO m.bC (s.ev X.gl a)) (bO X.ty X.gl s (.load t a))
 |op=>qN s m.o.dst 0 (bO X.ty X.gl s op)
inductive MR where
 |ok (s:S)
 |rows (k:RK) (x:LE) (s:S)
def Fo(X:TI)(n:Nat)(W:Bool):TypeId×ai:=if X.ae.all lD&&Y X.ae !=0 then(tX,[.ref (.k (.slice Z 0 0)),.int I (.c n),.bool (.c W),.bool (.c X.d.isAgg)]) else(rX,[])
def S.xp(s:S)(b:TypeId×ai):S:={s with boxes:=s.boxes++[U b]}
def Fp(V:bB)(s:S)(k e:TypeId)(n:Nat)(W:Bool)(X:TI):ai->Option RE
 |[.ref r,.int I (.c R),.bool (.c Q),.bool (.c P)]=>if r.oV V.ty s ⟨k,e,n,W,X.d.isAgg⟩&&R==(n:Int)&&Q==W&&P==X.d.isAgg&&X.ae.all lD then U r else Z
 |_=>Z
def PH(V:bB)(d:bT)(s:S)(t:TypeId)(O R v:SV):Option MR:=match V.ty t,O with
 |U ⟨.map k e n X,_,_⟩,.mp i=>match V.ty e,Ff n X R,bX s.boxes i with
  |U W,U (N,_,_),U (P,Q)=>if !qL V.ty k n X|| !s.dV [R,v]|| !zl W v then Z else
   if P==tX then(match Fp V s k e n X W Q with
    |U r=>if ld V.ty s W.ae v.cells then
      U (.rows (RK.mr ⟨k,e,n,X,W.d.isAgg⟩) (.ins (.ref r) n (R.cells++v.cells)) (S.put {s with rs:=s.rs++[RK.mr ⟨k,e,n,X,W.d.isAgg⟩],boxes:=s.boxes.set i (U (tX,[.ref (.v (Y s.rs)),.int I (.c n),.bool (.c X),.bool (.c W.d.isAgg)]))} d (.bK []))) else Z
    |none=>Z)
   else if P==rX&&n==1&& !X then(match N,oX Q with
    |.c x,U M=>if M.contains x then Z else U (.ok ((s.cq i rX (Q++[.int I (.c x),v])).put d (.bK [])))
    |_,_=>Z)
   else Z
  |_,_,_=>Z
 |_,_=>Z
def PI(X:bB)(d:bT)(s:S)(t:TypeId):Option S:=match X.ty t with
 |U ⟨.map k e n W,_,_⟩=>match X.ty e with
  |U V=>if s.bd&&qL X.ty k n W then U ((s.xp (Fo V n W)).put d (.mp (Y s.boxes))) else Z
  |none=>Z
 |_=>Z
def vE(X:bB):Sh:=⟨X.agl,vw,1,E,E⟩
def Fq(X:bB):Bool:=qL X.ty X.agl 1 E&&(X.ty vw).isNone
def XK(R:bB)(s:S)(k e:TypeId)(n:Nat)(X:Bool)(Q:TI)(i:Nat):Option IE:=match bX s.boxes i with
 |U (W,V)=>if W==tX then(Fp R s k e n X Q V).map .len
  else if W==rX&&n==1&& !X then(oX V).map λP=>.c (Y P) else Z
 |none=>Z
def PJ(X:bB)(d:bT)(s:S)(t:TypeId)(W:SV):Option S:=match X.ty t,W with
 |U ⟨.map k e n V,_,_⟩,.mp i=>match X.ty e with
  |U R=>match XK X s k e n V R i with
   |U c=>if s.bd&&c.bd s.ni s.nb (Y s.rs)&&aM s.boxes i then U ((s.xp (vw,[.mp i,.int I (.c t),.int I c,.ref (.k (.slice Z 0 0))])).put d (.loc (Y s.boxes) 0)) else Z
   |none=>Z
  |none=>Z
 |_,_=>Z
def sc(r:RE)(i:IE):Nat->dN->ai
 |_,[]=>[]
 |j,c::X=>CW r i j c::sc r i (j+1) X
def HZ(r:RE)(i:IE)(n:Nat)(X:Bool):SV:=qK X ((aDA n).map λj=>.int I (.cell r i j))
def XL(X:bB)(d:bT)(s:S)(q W:Nat)(i t:Nat)(c:IE)(V v:SV):S:=
 S.put {s with ni:=W,rs:=s.rs++[RK.mr (vE X)],boxes:=s.boxes.set q (U (vw,[.mp i,.int I (.c t),.int I c,.ref (.v (Y s.rs))]))} d (.bK [.bool (.c J),V,v])
def PK(X:RE)(j:IE):BE:=.not (.has X 1 j (.c 0) (.c 0))
def PL(X:TI)(e:IE)(W:bh)(V:ai):Option (SV×SV):=if V.all (zl X) then(match zk e (Ba (Y W)) (W.map λk=>.int I (.c k)),A9 e (Ba (Y W)) (V.map SV.cells) 0 X.ae with
 |U a,U l=>U (.int I a,qK X.d.isAgg l)
 |_,_=>Z) else Z
def PM(W:bB)(s:S)(c:IE)(X:RE)(t V:T):T:=
 .pick c (PK X (.v s.ni)) (.cmp .leq c (.len X)) (.rows (.mr (vE W)) (.ins (.ref X) 1 [.int I (.v s.ni)]) s.rs t) V
def XM(X:bB)(d:bT)(s:S)(L:SV)(P O:S->T):Option T:=match L with
 |.loc q 0=>match bX s.boxes q with
  |U (H,[.mp i,.int I (.c t),.int I c,.ref R])=>if !(H==vw&&Fq X&&R.oV X.ty s (vE X)&&s.bd&&({s with ni:=s.ni+1}:S).bd&&decide (0<=t)) then Z else match X.ty t.toNat,bX s.boxes i with
   |U ⟨.map k e n V,_,_⟩,U (N,Q)=>match X.ty e with
    |U W=>if !qL X.ty k n V then Z else
     if N==tX then(match Fp X s k e n V W Q with
      |U r=>if c.same (.len r)&&Y W.ae !=0 then U (PM X s c R (P (XL X d s q (s.ni+1) i t.toNat c (HZ r (.v s.ni) n V) (qK W.d.isAgg (sc r (.v s.ni) n W.ae)))) (O (s.put d (.bK [.bool (.c E)])))) else Z
      |none=>Z)
     else if N==rX&&n==1&& !V then(match oX Q with
      |U M=>if c.same (.c (Y M)) then(match PL W (.v s.ni) M (kX Q) with
       |U (G,v)=>U (PM X s c R (P (XL X d s q (s.ni+1) i t.toNat c G v)) (O (s.put d (.bK [.bool (.c E)]))))
       |none=>Z) else Z
      |none=>Z)
     else Z
    |none=>Z
   |_,_=>Z
  |_=>Z
 |_=>Z
def ub(X:RE):IE:=.cell X (.bin .sub I (.len X) (.c 1)) 0
def XN(c:IE)(X:RE):BE:=tZ (tZ (oo .leq (.c 1) (.len X)) (HY (.len X))) (t8 (ub X) c)
def XO(X:bB)(d:bT)(s:S)(M:SV)(P:S->T):Option T:=match M with
 |.loc q 0=>match bX s.boxes q with
  |U (L,[.mp i,.int I (.c t),.int I c,.ref W])=>if !(L==vw&&Fq X&&W.oV X.ty s (vE X)&&s.bd&&decide (0<=t)) then Z else match X.ty t.toNat,bX s.boxes i with
   |U ⟨.map k e n V,_,_⟩,U (O,Q)=>match X.ty e with
    |U R=>if !qL X.ty k n V then Z else
     if O==tX then(match Fp X s k e n V R Q with
      |U r=>if c.same (.len r) then U (.aV (XN c W) (P (s.put d (.bK [HZ r (ub W) n V,qK R.d.isAgg (sc r (ub W) n R.ae)])))) else Z
      |none=>Z)
     else if O==rX&&n==1&& !V then(match oX Q with
      |U N=>if c.same (.c (Y N)) then(match PL R (ub W) N (kX Q) with
       |U (H,v)=>U (.aV (XN c W) (P (s.put d (.bK [H,v]))))
       |none=>Z) else Z
      |none=>Z)
     else Z
    |none=>Z
   |_,_=>Z
  |_=>Z
 |_=>Z
def PN(X:bB)(d:bT)(s:S)(t:TypeId)(W:Bool)(x y:SV)(V:S->T):Option T:=match X.ty t,x,y with
 |U ⟨.slice e,_,_⟩,.ref r,.ref (.k (.slice Z 0 0))=>if r.kind X.ty s=.sl e then U (.fA (.c J) (.cmp .leq (.len r) (.c 0)) (V (s.put d (.bool (.c W)))) (V (s.put d (.bool (.c (!W)))))) else Z
 |_,_,_=>Z
abbrev Fx:=List (BE×Bool)
def LP(X:Fx):BE->Option Bool
 |.c v=>U v
 |b=>(X.find? λx=>x.1.same b).map (·.2)
def Bc(s:S)(X:Fx)(b:BE)(t f:Fx->T):T:=match LP X b with
 |U J=>t X
 |U E=>f X
 |none=>if b.bd s.ni s.nb (Y s.rs) then .node b (t ((b,J)::X)) (f ((b,E)::X)) else .stuck ""
inductive CK where
 |call (g:Fm) (args:List SV)
 |bj (v:SV)
 |op
 |no
def dA(X:bB)(s:S)(o:Oper):CK:=
 match o.op with
 |.panic x=>match s.ev X.gl x with
  |.eP t y=>.bj (.eP t y)
  |_=>.no
 |.call c=>match c.callee with
  |.value f=>match s.ev X.gl f with
   |.fn g W=>if c.args.toList.any λx=>(s.ev X.gl x).dL then .no else .call (.fn g) (c.args.toList.map (s.ev X.gl)++W)
   |.yl n=>if c.args.toList.any λx=>(s.ev X.gl x).dL then .no else .call (.yl n) (c.args.toList.map (s.ev X.gl))
   |_=>.no
  |.invoke _ _=>.no
  |.builtin .panic=>match c.args.toList with
   |[x]=>match s.ev X.gl x with
    |.eP t y=>.bj (.eP t y)
    |_=>.no
   |_=>.no
  |.builtin _=>.op
 |_=>.op
def nF(s:S)(X:Fx):Fx:=X.filter λx=>x.1.bd s.ni s.nb (Y s.rs)
def XP(b:BE):SV->SV->Option SV
 |.int k x,.int X y=>if k=X then U (.int k (.cR b x y)) else Z
 |.bool x,.bool y=>U (.bool (.cR b x y))
 |_,_=>Z
def LQ(b:BE):ai->Nat->ai->E7
 |[],_,X=>U X
 |x::V,W,X=>match X[W]? with
  |U R=>match XP b x R with
   |U c=>LQ b V (W+1) (X.set W c)
   |none=>Z
  |none=>Z
def Fs(e:IE)(W:ai):bh->ai->ai->E7
 |[],[],X=>U X
 |k::V,.loc _ R::Q,X=>match LQ (.cmp .eql e (.c k)) W R X with
  |U P=>Fs e W V Q P
  |none=>Z
 |_,_,_=>Z
def PO:bh->Bool
 |[]=>J
 |x::X=> !X.contains x&&PO X
def LR:SV->Bool
 |.int _ _|.bool _=>J
 |_=>E
def H0:ai->Bool
 |[]=>E
 |[x]=>LR x
 |x::X=>LR x&&H0 X
def XQ(d:bT)(s:S)(R:TI)(e:IE)(X:bh)(W:ai)(V:SV)(k:S->T):Option T:=match xl W with
 |U i=>match kA s.boxes i with
  |U (Q,P)=>match Fs e V.cells X W P with
   |U O=>if Y R.ae==Y V.cells&&Y X==Y W&&PO X&&H0 V.cells then U (.aV (Fh e X) (k ((s.cq i Q O).put d (.bK [])))) else Z
   |none=>Z
  |none=>Z
 |none=>Z
def zr(X:bB)(m:OM)(s:S)(V:S->Fx->T)(R:Fx):Option T:=if m.dr||m.o.op.operands.toList.any λx=>(s.ev X.gl x).dL then Z else match m.o.op with
 |.makeMap t Z=>(PI X m.o.dst s t).map λW=>V W R
 |.mapUpdate t x y z=>match PH X m.o.dst s t (s.ev X.gl x) (s.ev X.gl y) (s.ev X.gl z) with
  |U (.ok W)=>U (V W R)
  |U (.rows k x W)=>U (.rows k x s.rs (V W (nF s R)))
  |none=>Z
 |.insert t x y z=>match PH X m.o.dst s t (s.ev X.gl x) (s.ev X.gl y) (s.ev X.gl z) with
  |U (.ok W)=>U (V W R)
  |U (.rows k x W)=>U (.rows k x s.rs (V W (nF s R)))
  |none=>Z
 |.range t x=>(PJ X m.o.dst s t (s.ev X.gl x)).map λW=>V W R
 |.next Q E=>XM X m.o.dst s (s.ev X.gl Q) (λW=>V W (nF s R)) (λW=>V W R)
 |.entry Q=>XO X m.o.dst s (s.ev X.gl Q) λW=>V W R
 |.store t a x=>match X.ty t,s.ev X.gl a with
  |U P,.eQ e O N=>XQ m.o.dst s P e O N (s.ev X.gl x) λW=>V W R
  |_,_=>Z
 |.binOp M t x y _=>match M with
  |.eql=>PN X m.o.dst s t E (s.ev X.gl x) (s.ev X.gl y) λW=>V W R
  |.neq=>PN X m.o.dst s t J (s.ev X.gl x) (s.ev X.gl y) λW=>V W R
  |_=>Z
 |_=>Z
def zt(X:bB)(m:OM)(s:S):Option (IE×bh×ai×ai):=if m.dr then Z else match m.o.op with
 |.call c=>match c.callee with
  |.value f=>match s.ev X.gl f with
   |.eQ e W V=>if(c.args.toList.any λx=>(s.ev X.gl x).dL)|| !e.bd s.ni s.nb (Y s.rs) then Z else U (e,W,V,c.args.toList.map (s.ev X.gl))
   |_=>Z
  |_=>Z
 |_=>Z
def C0(e:IE)(X:FuncId->ai->T):bh->ai->T
 |k::W,.fn g R::V=>.node (.cmp .eql e (.c k)) (X g R) (C0 e X W V)
 |k::W,.ref (.k .nilFunc)::V=>.node (.cmp .eql e (.c k)) (.stuck "") (C0 e X W V)
 |_,_=>.stuck ""
structure zu where
 f:FuncId
 g:FuncId
 e:TypeId
 sp:be
 st:Bool
 r:RE
 s:S
def LS:ai->Option (List IE×FuncId)
 |[.fn g []]=>U ([],g)
 |.int I e::r=>match LS r with
  |U x=>U (e::x.1,x.2)
  |none=>Z
 |_=>Z
def be.fill:be->List IE->Option be
 |.cw k o _,X=>U (.cw k o X)
 |W,[]=>U W
 |_,_::_=>Z
def XR(V:bB)(f:FuncId)(R:ai)(s:S)(d:bT):Option zu:=match R with
 |.ref r::Q=>match LS Q with
  |U (P,g)=>match(if f==g then Z else V.zp f g) with
   |U (e,O,X)=>match O.fill P with
    |U W=>match r with
     |.v k=>if s.rs[k]?=U (.own e) then U ⟨f,g,e,W,X,.v k,(({s with rs:=jz [] 0 (gV [k] 0 s.rs)++[.own e]}:S).fZ k (Y s.rs)).put d (.bK [])⟩ else Z
     |.k (.slice Z 0 0)=>U ⟨f,g,e,W,X,.k (.slice Z 0 0),({s with rs:=jz [] 0 (gV [] 0 s.rs)++[.own e]}:S).put d (.bK [])⟩
     |_=>Z
    |none=>Z
   |none=>Z
  |none=>Z
 |_=>Z
def Ft(V:bB)(f:FuncId)(R:ai)(s:S)(d:bT):Option zu:=match R with
 |[.int I i,.loc X 0,.loc W 0]=>match V.zp f f with
  |U (e,.cw 0 o _,J)=>match bX s.boxes X,bX s.boxes W with
   |U (Q,[.ref (.v k)]),U (P,[.fn O [.loc N 0,.loc M 0]])=>if i.bd s.ni s.nb (Y s.rs)&&O==f&&N==X&&M==W&& !oU Q&& !oU P&&decide (s.rs[k]?=U (.own e)) then U ⟨f,f,e,.cw 0 o [i],J,.v k,(({s with rs:=jz [] 0 (gV [k] 0 s.rs)++[.own e]}:S).fZ k (Y s.rs)).put d (.int I (.cell (.v (Y s.rs)) i 0))⟩ else Z
   |_,_=>Z
  |_=>Z
 |_=>Z
def Be(X:bB)(m:OM)(s:S):Option zu:=if m.dr|| !s.bd then Z else match dA X s m.o with
 |.call (.fn f) W=>match XR X f W s m.o.dst with
  |U u=>U u
  |none=>Ft X f W s m.o.dst
 |_=>Z
def Fu(X:bB)(o:Oper)(s:S):Option zu:=if !s.bd then Z else match dA X s o with
 |.call (.fn f) W=>Ft X f W s o.dst
 |_=>Z
def zv(R:bB)(O:oq)(m:OM)(s:S)(X:S->Fx->T)(P:SV->S->T)(W:Fx):T:=
 match zt R m s with
 |U (e,N,M,Q)=>C0 e (λg L=>O (.fn g) (Q++L) s (λv V=>X (V.put m.o.dst v) (nF s W)) P) N M
 |none=>
 match Be R m s with
 |U u=>.dw u.f u.g u.e u.sp u.st u.r s.rs (X u.s (nF s W))
 |none=>
 match dA R s m.o with
 |.call (.fn g) Q=>O (.fn g) Q s (λv V=>X (V.put m.o.dst v) (nF s W)) P
 |.call (.yl n) Q=>if m.so then O (.yl n) Q s (λv V=>X (V.put m.o.dst v) (nF s W)) P else .stuck ""
 |.bj v=>P v s
 |.no=>.stuck ""
 |.op=>match zr R m s X W with
  |U t=>t
  |none=>match dI R m.o m.bC m.dr s with
  |U b=>.aV b.aV (.new b.e b.x s.rs b.s.rs (X b.s (nF s W)))
  |none=>match fc R m s with
  |.ok V=>X V W
  |.aV b V=>.aV b (X V W)
  |.split b H G=>Bc s W b (X H) (X G)
  |.no F=>.stuck F
def PQ(R:cS)(m:OM)(s:S)(X:Fx)(W V:Fx->T):T:=
 match m.o.guard with
 |none=>W X
 |U (j,Q)=>match(R[j]?).bind (·.dst) with
  |U d=>match s.tmps[d]? with
   |U (.bool b)=>if Q then Bc s X b W V else Bc s X b V W
   |U (.bK [])=>V X
   |_=>.stuck ""
  |none=>.stuck ""
def mE(X:bB)(W:oq)(V:cS)(k:S->T)(R:SV->S->T):ce->S->Fx->T
 |[],s,_=>k s
 |m::Q,s,P=>PQ V m s P (zv X W m s (mE X W V k R Q) R) (mE X W V k R Q (s.put m.o.dst (.bK [])))
def fk:Op->Bool
 |.alloc _|.box _ _|.buildSlice _ _ _=>J
 |_=>E
def lG(l:ol):Nat:=(l.filter λo=>fk o.op).length
def fH(bC:Nat->Bool)(X W:Bool):Nat->Nat->ol->ce
 |_,_,[]=>[]
 |j,n,o::r=>⟨o,n,bC j,j,W,X⟩::fH bC X W (j+1) (if fk o.op then n+1 else n) r
def S.room(s:S)(n:Nat):S:={s with boxes:=s.boxes++aDq n Z,lk:=0}
def sd(X:bB)(s:S):pN->E7
 |[]=>U []
 |.tmp t::W=>match sd X s W with
  |U l=>if(s.tmps.getD t .any).dL then Z else U (s.tmps.getD t .any::l)
  |none=>Z
 |.cell a t::W=>match sd X s W,s.tmps.getD a .any,X.ty t with
  |U l,.loc i V,U R=>match kA s.boxes i with
   |U (_,Q)=>match vA R Q V with
    |U v=>U (v::l)
    |none=>Z
   |none=>Z
  |_,_,_=>Z
def uc(n:Nat):List (Nat×LK)->ai->Option SV
 |(t,_)::r,v::X=>if t==n then U v else uc n r X
 |_,_=>Z
def zw(b n:Nat):List (Nat×Nat×LK)->ai->Option SV
 |(X,W,_)::r,v::V=>if X==b&&W==n then U v else zw b n r V
 |_,_=>Z
def agn(l:bA)(x:Nat×Nat×LK):SV:=match bX l x.1 with
 |U (_,X)=>X.getD x.2.1 .any
 |none=>.any
def eF.ks(a:eF):aR:=a.tm.map (·.2)++a.cl.map (·.2.2)
def jA(a:eF)(s:S):ai:=a.tm.map (λx=>s.tmps.getD x.1 .any)++a.cl.map (agn s.boxes)
def PS:LK->SV->aj
 |.ref (.own _),.ref (.v k)=>[k]
 |_,_=>[]
def Bf:aR->ai->aj
 |k::X,v::W=>PS k v++Bf X W
 |_,_=>[]
def Fv(a:eF)(s:S):aj:=Bf a.ks (jA a s)
def gW(a:eF)(s:S):aE:=gV (Fv a s) 0 s.rs
def xq:aE->aE->Bool
 |[],_=>J
 |x::X,y::W=>(decide (x=.dead)||decide (x=y))&&xq X W
 |_::_,[]=>E
def lH:aj->Bool
 |[]=>J
 |x::X=> !X.contains x&&lH X
def Fw(X:aE)(l:aj):Bool:=lH l&&l.all λk=>decide (Y X<=k)||decide (X[k]?=U .dead)
def zx(a:eF)(X:aj)(W:ai):Nat->ai->ai
 |_,[]=>[]
 |n,x::V=>(uc n a.tm W).getD (if X.contains n then .any else x)::zx a X W (n+1) V
def Fy(a:eF)(X:ai)(b:Nat):Nat->ai->ai
 |_,[]=>[]
 |n,x::W=>(zw b n a.cl X).getD x::Fy a X b (n+1) W
def se(a:eF)(X:ai):Nat->bA->bA
 |_,[]=>[]
 |n,Z::W=>Z::se a X (n+1) W
 |n,U (t,V)::W=>U (t,Fy a X n 0 V)::se a X (n+1) W
def o7(a:eF)(X:aj)(s:S):S:=
 let r:ai×S:=S.bW {s with au:=s.au+1,rs:=gW a s} a.ks
 {r.2 with tmps:=zx a X r.1 0 s.tmps,boxes:=se a (r.1.drop (Y a.tm)) 0 s.boxes}
def xt(a:eF)(X:aj):Nat->ai->ai->Bool
 |_,[],[]=>J
 |n,x::W,y::V=>(a.tm.any (·.1==n)||X.contains n||SV.same x y)&&xt a X (n+1) W V
 |_,_,_=>E
def Fz(a:eF)(b:Nat):Nat->ai->ai->Bool
 |_,[],[]=>J
 |n,x::X,y::W=>(a.cl.any (λc=>c.1==b&&c.2.1==n)||SV.same x y)&&Fz a b (n+1) X W
 |_,_,_=>E
def qO(a:eF):Nat->bA->bA->Bool
 |_,[],_=>J
 |n,Z::X,_::W=>qO a (n+1) X W
 |n,U x::X,U y::W=>x.1==y.1&&Fz a n 0 x.2 y.2&&qO a (n+1) X W
 |_,_,_=>E
def Bg(s:S):LK->SV->Bool
 |.int k,.int X _=>decide (k=X)
 |.bool,.bool _=>J
 |.ref e,.ref (.v k)=>s.rs[k]?==U e
 |.ref (.sl _),.ref (.k (.slice Z 0 0))=>J
 |.ref (.own _),.ref (.k (.slice Z 0 0))=>J
 |.ref (.mr _),.ref (.k (.slice Z 0 0))=>J
 |_,_=>E
def qP(s:S):aR->ai->Bool
 |[],[]=>J
 |k::X,v::W=>Bg s k v&&qP s X W
 |_,_=>E
def FA:LK->Bool
 |.ref (.own _)=>E
 |_=>J
def ou:aR->Bool
 |[]=>J
 |k::X=>FA k&&ou X
def LU:aR->Bool
 |[]=>E
 |.ref _::_=>J
 |_::X=>LU X
def LV(X:ai)(n:Nat):aj:=if(SV.nC X).isEmpty then SV.nD X else aDA n
def LW(W:ai)(X:aE):aE:=Bb (LV W (Y X)) 0 X
def Bh(W:ai)(V:aR)(X:aE):aE:=if LU V then jz (LV W (Y X)) 0 X else X
def S.cut(s:S)(X:ai)(W:aR):S:={s with rs:=Bh X W s.rs}
def xu(V:bB)(f:FuncId)(X:ai)(s:S)(k:SV->S->T):T:=
 match V.sig f with
 |U R=>match gA V.ty R with
  |U W=>match zq V.ty R ((s.cut X W).bW W).1 with
   |U l=>if s.dV X&&ou W then .call f X (ua (pP (SV.nC X) 0 s.boxes)) (LW X s.rs) W (one l) (k (one l) ((s.cut X W).bW W).2) else .stuck ""
   |none=>.stuck ""
  |none=>.stuck ""
 |none=>.stuck (""++toString f)
def kb(o:Oper):aj:=(o.after.toList.filter λe=>Region.binds .any e).map (·.on)
def nG(X:ol):aj:=X.foldl (λacc o=>acc++[(kb o).foldl (λl e=>l|||(1<<<e)|||acc.getD e 0) 0]) []
def zy:Op->Bool
 |.load _ _=>J
 |_=>E
def xw:Op->Bool
 |.store _ _ _=>J
 |_=>E
def lY:Op->Bool
 |.call c=>match c.callee with
  |.builtin .len|.builtin .min|.builtin .max=>J
  |_=>E
 |.move _|.assign _|.pick _ _ _|.load _ _|.fieldAddr _ _ _|.field _ _ _|.indexAddr _ _ _|.index _ _ _|.binOp _ _ _ _ _|.unOp _ _ _|.convert _ _ _|.makeInterface _ _|.makeFunc _ _ _|.extract _ _|.nilCheck _|.slice _ _ _ _ _|.build _ _|.lookup _ _ _ _=>J
 |_=>E
def iY(X:cS)(o:Oper):aj:=o.op.operands.toList.filterMap (λx=>match x with
  |.tmp t=>U t
  |_=>Z)++(match o.guard with
  |U (j,_)=>((X[j]?).bind (·.dst)).toList
  |none=>[])
def H3:Op->Bool
 |.panic _=>J
 |.call c=>match c.callee with
  |.builtin .panic=>J
  |_=>E
 |_=>E
def Bi:Op->Bool
 |.call c=>match c.callee with
  |.builtin .append=>J
  |_=>E
 |_=>E
def sf:Op->Bool
 |.call c=>match c.callee with
  |.builtin .append=>J
  |_=>E
 |.makeSlice _ _ _=>J
 |_=>E
def looks:Op->Bool
 |.call _|.load _ _|.indexAddr _ _ _|.index _ _ _|.lookup _ _ _ _=>J
 |.binOp X _ _ _ _=>Pz X
 |_=>E
def PU(X:cS)(x y:OM):Bool:=
 x.dr&&y.dr&&lY x.o.op&& !H3 y.o.op&&(match x.o.dst with
  |U d=> !(iY X y.o).contains d&&y.o.dst !=U d&& !(iY X x.o).contains d
  |none=>E)&&(match y.o.dst with
  |U d=> !(iY X x.o).contains d
  |none=>J)&&(!(xw y.o.op)|| !(zy x.o.op)||(x.bC&&y.bC))&&(!(Bi y.o.op)|| !(looks x.o.op)||(zy x.o.op&&x.bC&&y.bC))
def vF:Operand->Bool
 |.global _=>E
 |_=>J
def xx:Op->Bool
 |.call c=>match c.callee with
  |.value _=>J
  |_=>E
 |_=>E
def FB:Op->Bool
 |.alloc _=>J
 |_=>E
def PV(X:cS)(x y:OM):Bool:=(match x.o.dst with
  |U d=> !(iY X y.o).contains d&&y.o.dst !=U d
  |none=>J)&&(match y.o.dst with
  |U d=> !(iY X x.o).contains d
  |none=>J)
def H4:Op->Bool
 |.call c=>match c.callee with
  |.value (.func _)=>c.args.toList.isEmpty
  |_=>E
 |_=>E
def PW(X:cS):Bool:=(aDA X.size).all λi=>(aDA X.size).all λj=>match X[i]?,X[j]? with
 |U x,U y=> !(xx x.op)|| !(fk y.op||sf y.op)||((nG X.toList).getD i 0).testBit j||((nG X.toList).getD j 0).testBit i||(H4 x.op&&FB y.op)
 |_,_=>J
def H5(X:cS)(x y:OM):Bool:=
 x.dr&&y.dr&&FB y.o.op&&y.o.guard.isNone&&(fk x.o.op||sf x.o.op||xx x.o.op)&&(!fk x.o.op||x.ix !=y.ix)&&x.o.op.operands.toList.all vF&&PV X x y&&(!xx x.o.op|| !PW X||H4 x.o.op)
def C1:Op->Bool
 |.move _|.assign _|.fieldAddr _ _ _=>J
 |_=>E
def LX(X:cS)(x y:OM):Bool:=
 x.dr&&y.dr&&fk x.o.op&& !FB x.o.op&&x.o.guard.isNone&&x.o.op.operands.toList.all vF&&y.o.op.operands.toList.all vF&&(fk y.o.op||sf y.o.op||xx y.o.op||C1 y.o.op||xw y.o.op)&&(!fk y.o.op||x.ix !=y.ix)&&PV X x y&&(!xx y.o.op|| !PW X)
def si(X:cS)(x y:OM):Bool:= !x.so&& !y.so&&(PU X x y||H5 X x y||LX X x y)
def LY(X:ol):Nat->aj->aj
 |0,acc=>acc
 |n+1,acc=>
  let W:=(aDA (Y X)).filter λi=> !acc.contains i&&(match X[i]? with
   |U o=>(kb o).all acc.contains
   |none=>E)
  match W.find? λi=>match X[i]? with
   |U o=>lY o.op
   |none=>E with
  |U i=>LY X n (acc++[i])
  |none=>match(W.find? λi=>match X[i]? with
   |U o=>fk o.op&& !FB o.op
   |none=>E).or (W.find? λi=>match X[i]? with
   |U o=> !FB o.op
   |none=>E) with
   |U i=>LY X n (acc++[i])
   |none=>match W with
   |i::_=>LY X n (acc++[i])
   |[]=>acc
def C2(X:cS)(W:aj):ce->Bool
 |[]=>J
 |x::r=>(r.all λy=>(W.getD y.j 0).testBit x.j||si X x y)&&C2 X W r
def C3(X:cS):aj->ce->Bool
 |_,[]=>J
 |done,x::r=>(match X[x.j]? with
  |U o=>(kb o).all done.contains
  |none=>E)&&C3 X (x.j::done) r
def PY(X:ol)(W:aj):Bool:=(aDA (Y X)).all λj=>match X[j]? with
 |U o=>(kb o).all (λe=>decide (e<j))&&(aDA (Y X)).all λi=> !(W.getD j 0).testBit i||(kb o).contains i||(kb o).any λe=>(W.getD e 0).testBit i
 |none=>E
def LZ(X:ol)(W:aj)(j:Nat):Bool:=match X[j]? with
 |U o=>(zy o.op&&(aDA (Y X)).any λi=>(match X[i]? with
   |U q=>xw q.op||Bi q.op
   |none=>E)&& !(W.getD i 0).testBit j&& !(W.getD j 0).testBit i)||
  ((xw o.op||Bi o.op)&&(aDA (Y X)).any λi=>(match X[i]? with
   |U q=>zy q.op
   |none=>E)&& !(W.getD i 0).testBit j&& !(W.getD j 0).testBit i)
 |none=>E
def zA(X:aj):ce->Bool
 |[]=>J
 |x::r=>(r.all λy=>(X.getD y.j 0).testBit x.j)&&zA X r
def art:Op->Bool
 |.call c=>match c.callee with
  |.value (.tmp _)=>J
  |_=>E
 |_=>E
def sj(X:aj):ce->ce->ce
 |_,[]=>[]
 |W,m::r=>{m with so:=art m.o.op&&zA X (m::r)&&W.all (λx=>(X.getD m.j 0).testBit x.j)}::sj X (W++[m]) r
def qQ(X:aj):Nat->ai->ai
 |_,[]=>[]
 |n,x::W=>(if X.contains n then .any else x)::qQ X (n+1) W
def S.plus(s:S)(X:bA):S:={s with boxes:=s.boxes++X}
abbrev vG:=FuncId->ai->S->Option (SV×bA)
def xz(W:bB)(V:vG)(R:YH):oq
 |.fn f,X,s,k,_=>match V f X s with
  |U (v,Q)=>if s.bd then k v (s.plus Q) else .stuck ""
  |none=>xu W f X s k
 |.yl n,X,s,k,P=>R n X s k P
def H6(l:ce)(X:aj):ce:=X.filterMap λi=>l[i]?
def C4(l:ol):aj:=l.filterMap (·.dst)
def H7(X:cS)(n:Nat):Option ce:=
 let V:=nG X.toList;let W:=sj V [] (H6 (fH (LZ X.toList V) E J 0 n X.toList) (LY X.toList X.size []))
 if PY X.toList V&&C3 X [] W&&C2 X V W&&lH (W.filterMap (·.o.dst))&&lH (W.map (·.j))&&lH ((W.filter λm=>fk m.o.op).map (·.ix))&&Y W==X.size&&(aDA X.size).all (λi=>W.any λm=>m.j==i) then U W else Z
def FC(X:bB)(t:TypeId):Bool:=(X.ty t).isSome&& !oU t
def H8(X:bB):ol->Bool
 |[]=>J
 |o::r=>(match o.op with
  |.alloc t=>FC X t
  |_=>J)&&H8 X r
def ago(s:S)(X:aj):aj:=X.filter λd=>match s.tmps[d]? with
 |U w=> !(w.bd s.ni s.nb (Y s.rs) (aM s.boxes))
 |none=>J
def S.zB(s:S)(X:cS)(W:ce):S:={s.room (lG X.toList) with tmps:=qQ (ago s (C4 (W.dropLast.map (·.o)))) 0 s.tmps}
def PZ(X:S->T)(k:XE->S->T):XE->S->T
 |.normal,s=>X s
 |e,s=>k e s
def XS(id:Nat)(k:XE->S->T):XE->S->T
 |.exit j,s=>if j==id then k .normal s else k (.exit j) s
 |e,s=>k e s
def H9(W:bB)(s:S)(V:pN)(k R:SV->S->T):XE->S->T
 |.normal,X=>match sd W X V with
  |U l=>k (one l) {X with tmps:=s.tmps}
  |none=>.stuck ""
 |.ret,X=>match sd W X V with
  |U l=>k (one l) {X with tmps:=s.tmps}
  |none=>.stuck ""
 |.bj v,X=>R v {X with tmps:=s.tmps}
 |.exit _,_=>.stuck ""
def jB(W:bB)(R:FuncId->Code->S->(XE->S->T)->T)(Q:YH):oq
 |.fn f,X,s,k,V=>match W.inl f with
  |U (c,P,O)=>if s.dV X then R f c {s with tmps:=X++aDq (P-Y X) (.bK [])} (H9 W s O k V) else .stuck ""
  |none=>xu W f X s k
 |.yl n,X,s,k,V=>Q n X s k V
def XT(b:Bool)(R:bB)(V:oq):oq
 |.fn f,X,s,k,W=>if b then xu R f X s k else V (.fn f) X s k W
 |.yl n,X,s,k,W=>V (.yl n) X s k W
def aru:T:=.fA (.c E) (.c E) (.stuck "") (.stuck "")
def XU:T->Bool
 |.fA (.c E) (.c E) _ _=>J
 |_=>E
mutual
def SV.zC:SV->Bool
 |.agg l=>SV.vH l
 |.bK l=>SV.vH l
 |.fn _ l=>SV.vH l
 |.eP _ x=>SV.zC x
 |.yl _=>E
 |.eQ _ _ X=>SV.vH X
 |_=>J
def SV.vH:ai->Bool
 |[]=>J
 |x::X=>SV.zC x&&SV.vH X
end
def C5:bA->Bool
 |[]=>J
 |Z::X=>C5 X
 |U x::X=>SV.vH x.2&&C5 X
def lI:bA->bA->Bool
 |[],[]=>J
 |Z::X,Z::W=>lI X W
 |U x::X,U y::W=>x.1==y.1&&SV.oY x.2 y.2&&lI X W
 |_,_=>E
def mF(W:ai)(X:bA):bA:=if W.isEmpty then X.map (λ_=>Z) else X
def sk(X:ai)(s:S):S:=⟨[],mF X s.boxes,s.ni,s.nb,s.rs.map RK.rd,0,0,[]⟩
def agp(W V X:S):Bool:=lI X.boxes V.boxes&&X.ni==W.ni&&X.nb==W.nb&&decide (X.rs=W.rs)
def Ia(V:bB)(R:FuncId->Code->S->(XE->S->T)->T)(g:FuncId)(W:ai)(s:S):Option (SV×bA):=
 match jB V R iA (.fn g) W (sk W s) (λv X=>.out .normal {X with tmps:=[v]}) (λ_ _=>.stuck "") with
 |.out .normal X=>match X.tmps with
  |[v]=>if SV.vH W&&C5 (mF W s.boxes)&&v.zC&&C5 X.boxes&&lI (X.boxes.take (Y s.boxes)) (mF W s.boxes)&&v.bd s.ni s.nb (Y s.rs) (aM X.boxes)&&SV.oZ s.ni s.nb (Y s.rs) (aM X.boxes) X.boxes&&XU (jB V R iA (.fn g) W (sk W s) (λQ P=>if Q.same v&&agp (sk W s) X P then aru else .stuck "") (λ_ _=>.stuck "")) then U (v,X.boxes.drop (Y s.boxes)) else Z
  |_=>Z
 |_=>Z
def C6(X:bB)(W:cS)(V:FuncId->Code->S->(XE->S->T)->T):vG:=λg R s=>if PW W&&(X.inl g).isSome then Ia X V g R s else Z
def XW:Op->Bool
 |.pick _ _ _=>J
 |_=>E
def agq:Op->Bool
 |.buildSlice _ _ _=>J
 |_=>E
def L4:Op->Bool
 |.buildSlice _ _ _|.alloc _|.box _ _|.store _ _ _=>J
 |_=>E
def zD(X:bB)(s:S)(o:Oper):Option (BE×SV):=
 if(o.op.operands.toList.any λx=>(s.ev X.gl x).dL)||XW o.op then Z else match bO X.ty X.gl s o.op with
 |.ok v=>U (.c J,v)
 |.aV b v=>if b.bd s.ni s.nb (Y s.rs) then U (b,v) else Z
 |.no _=>Z
def BE.XX:BE->Bool
 |.c b=>b
 |_=>E
def C7(X:bB):ce->S->Option (S×List BE)
 |[],s=>U (s,[])
 |q::r,s=>match zD X s q.o with
  |U (b,v)=>(C7 X r (s.put q.o.dst v)).map λx=>(x.1,if b.XX then x.2 else b::x.2)
  |none=>Z
def XY(X:bB)(lf:List BE)(s:S)(W:ce):Bool:=W.all λq=>match q.o.dst,zD X s q.o with
 |U d,U (b,v)=>(match s.tmps[d]? with
  |U w=>v.same w&&(b.XX||lf.any λx=>x.same b)
  |none=>E)
 |_,_=>E
def P0:List BE->T->T
 |[],t=>t
 |b::r,t=>.aV b (P0 r t)
def S.bM(s:S)(X:aj):S:={s with tmps:=qQ X 0 s.tmps}
def Ib{X:Type}:List X->List (X×List X)
 |[]=>[]
 |x::r=>(x,r)::(Ib r).map λy=>(y.1,x::y.2)
def XZ(X:aj)(x:OM×ce):Bool:=x.2.all λy=> !(X.getD x.1.j 0).testBit y.j
def Ic:tW->tW->Bool
 |[],[]=>J
 |x::X,y::W=>SV.oY x y&&Ic X W
 |_,_=>E
def LE.same:LE->LE->Bool
 |.ref r,.ref Q=>r.same Q
 |.lit l,.lit P=>Ic l P
 |.iG a b,.iG X O=>LE.same a X&&LE.same b O
 |.rY n N,.rY W M=>n.same W&&SV.oY N M
 |.set a i L V,.set X H G R=>LE.same a X&&i.same H&&L==G&&SV.oY V R
 |.sub a F D,.sub X C B=>LE.same a X&&F.same C&&D.same B
 |.ins a n V,.ins X W R=>LE.same a X&&n==W&&SV.oY V R
 |_,_=>E
def S.same(s X:S):Bool:=SV.oY s.tmps X.tmps&&lI s.boxes X.boxes&&s.ni==X.ni&&s.nb==X.nb&&decide (s.rs=X.rs)&&s.au==X.au&&s.lk==X.lk&&decide (s.pd=X.pd)
def T.same:T->T->Bool
 |.ret v P W,.ret O N V=>v.same O&&lI P N&&decide (W=V)
 |.bj v,.bj O=>v.same O
 |.node b t f,.node M X R=>b.same M&&T.same t X&&T.same f R
 |.aV b t,.aV M X=>b.same M&&T.same t X
 |.call f C P W L fG t,.call R B N V H A X=>f==R&&SV.oY C B&&lI P N&&decide (W=V)&&decide (L=H)&&fG.same A&&T.same t X
 |.loop au L z t,.loop G H y X=>au==G&&decide (L=H)&&SV.oY z y&&T.same t X
 |.back au x,.back G Q=>au==G&&SV.oY x Q
 |.new e x W w t,.new u Q V r X=>e==u&&LE.same x Q&&decide (W=V)&&decide (w=r)&&T.same t X
 |.rows k x W t,.rows q Q V X=>decide (k=q)&&LE.same x Q&&decide (W=V)&&T.same t X
 |.fA g h t f,.fA F D X R=>g.same F&&h.same D&&T.same t X&&T.same f R
 |.pick n g h t f,.pick p F D X R=>n.same p&&g.same F&&h.same D&&T.same t X&&T.same f R
 |.out .normal s,.out .normal o=>S.same s o
 |_,_=>E
def FD:List T->List T
 |[]=>[]
 |t::X=>if X.any (T.same t) then FD X else t::FD X
def Bj:List T->T
 |[]=>.stuck ""
 |[t]=>t
 |t::X=>.fA (.c J) (.c J) t (Bj X)
def Ie:Op->Bool
 |.call c=>match c.callee with
  |.builtin .append=>J
  |_=>E
 |.makeSlice _ _ _|.buildSlice _ _ _|.slice _ _ _ _ _|.store _ _ _=>J
 |_=>E
def C8(X:bB)(R:oq)(Q:aj)(P:SV->S->T)(m:OM)(W:S->T)(s:S):T:=match Fu X m.o s with
 |U u=>.dw u.f u.g u.e u.sp u.st u.r s.rs (W u.s)
 |none=>match dA X s m.o with
  |.call (.fn g) O=>R (.fn g) O s (λv V=>W (V.put m.o.dst v)) (λv V=>P v (V.bM Q))
  |.op=>match(if Ie m.o.op then dI X m.o m.bC E s else Z) with
   |U b=>.aV b.aV (.new b.e b.x s.rs b.s.rs (W b.s))
   |none=>if lY m.o.op then(match zD X s m.o with
    |U (b,v)=>.aV b (W (s.put m.o.dst v))
    |none=>.stuck "") else
   if L4 m.o.op then(match fc X m s with
    |.ok V=>W V
    |_=>.stuck "") else .stuck ""
  |_=>.stuck ""
def If(X:aj)(m:OM)(W:ce):ce:=W.filter λq=> !(X.getD m.j 0).testBit q.j
def nH(X:bB)(R:oq)(W:aj)(lf:List BE)(V:ce)(Q:aj)(k:S->T)(P:SV->S->T):Nat->ce->S->T
 |_,[],s=>if XY X lf s V then k s else .stuck ""
 |0,_::_,_=>.stuck ""
 |n+1,m::r,s=>if !XY X lf s V then .stuck "" else Bj (FD (((Ib (m::r)).filter (XZ W)).map λx=>C8 X R Q P x.1 (λO=>nH X R W lf (If W x.1 V) Q k P n x.2 O) s))
def T.mG(k:S->T)(X:SV->S->T):T->T
 |.out .normal s=>k s
 |.out (.bj v) s=>X v s
 |.node b t f=>.node b (t.mG k X) (f.mG k X)
 |.aV b t=>.aV b (t.mG k X)
 |.call f a V W R fG t=>.call f a V W R fG (t.mG k X)
 |.new e x W Q t=>.new e x W Q (t.mG k X)
 |.dw f g e P O r W t=>.dw f g e P O r W (t.mG k X)
 |.fA g h t f=>.fA g h (t.mG k X) (f.mG k X)
 |t=>t
def P1(X:bB):oq
 |.fn g,W,s,k,_=>if(X.inl g).isNone then xu X g W s k else .stuck ""
 |_,_,_,_,_=>.stuck ""
def arv:Op->Bool
 |.slice _ _ _ _ _=>J
 |_=>E
def arw:Op->Bool
 |.indexAddr .. =>J
 |_=>E
def arx:Op->Bool
 |.store _ _ _=>J
 |_=>E
def P2(W:Bool)(X:cS):aj:=(aDA X.size).foldl (λacc i=>match X[i]? with
 |U o=>if lY o.op&&(W|| !arv o.op)&& !(arw o.op&&(aDA i).any λj=>match X[j]? with
   |U x=>arx x.op
   |none=>E)&&((aDA X.size).all λj=>match(X[j]?).bind (·.dst) with
   |U d=> !(iY X o).contains d||acc.contains j
   |none=>J) then acc++[i] else acc
 |none=>acc) []
structure L5 where
 qs:ce
 ch:ce
 s:S
 lf:List BE
def X0(X:bB)(s:S)(W:ol):Bool:=W.any λo=>match o.op with
 |.call c=>(match c.callee with
  |.value (.func g)=>(X.inl g).isSome
  |.value (.tmp t)=>(C4 W).contains t||(match s.tmps[t]? with
   |U (.fn g _)=>(X.inl g).isSome
   |_=>E)
  |_=>E)
 |_=>E
def X1(X:cS)(Q:aj)(W V R:ce):Bool:=
 PY X.toList Q&&W.all (λm=>m.o.guard.isNone&& !m.bC)&&lH (W.filterMap (·.o.dst))&&
 W.all (λm=>W.all λx=>match x.o.dst with
  |U d=> !(iY X m.o).contains d||(Q.getD m.j 0).testBit x.j
  |none=>J)&&V.all (λq=>lY q.o.op&&q.o.dst.isSome)&&(aDA X.size).all (λi=>(V++R).any λm=>m.j==i)&&(V++R).length==X.size&&lH ((V++R).map (·.j))&&
 R.all (λm=>lY m.o.op||L4 m.o.op||Ie m.o.op||(match m.o.op with
  |.call _=>J
  |_=>E))
def Bk(W:Bool)(X:cS)(n:Nat):ce:=(fH (λ_=>E) E J 0 n X.toList).filter λm=>(P2 W X).contains m.j
def Bl(W:Bool)(X:cS)(n:Nat):ce:=(fH (λ_=>E) E J 0 n X.toList).filter λm=> !(P2 W X).contains m.j
def Ig(W:Bool)(X:cS)(n:Nat):Bool:=X1 X (nG X.toList) (fH (λ_=>E) E J 0 n X.toList) (Bk W X n) (Bl W X n)
def ary:CK->Bool
 |.call (.yl _) _=>J
 |_=>E
def X2(W:bB)(V X:ce)(x:S×List BE):Option L5:=if X.any λm=>ary (dA W x.1 m.o) then Z else U ⟨V,X,x.1,x.2⟩
def Ih(V:bB)(W:Bool)(X:cS)(s:S):Option L5:=
 if(!W||(X0 V s X.toList||(V.nA&&X.toList.any λo=>agq o.op))&&zA (nG X.toList) (Bl W X (Y s.boxes)))&&Ig W X (Y s.boxes) then(C7 V (Bk W X (Y s.boxes)) (s.room (lG X.toList))).bind (X2 V (Bk W X (Y s.boxes)) (Bl W X (Y s.boxes))) else Z
def agr(X:eF)(s W:S):String:= ""
def P3(W:eF)(V:aj)(s:S)(k:XE->S->T):XE->S->T
 |.normal,X=>if xt W V 0 s.tmps X.tmps&&qO W 0 s.boxes X.boxes&&qP X W.ks (jA W X)&&xq (gW W s) X.rs&&Fw (gW W s) (Fv W X)&&decide (X.pd=s.pd) then .back s.au (jA W X) else .stuck (agr W s X)
 |e,X=>k e X
mutual
def SV.vI(n:Nat):SV->Bool
 |.agg l=>SV.o8 n l
 |.bK l=>SV.o8 n l
 |.fn _ l=>SV.o8 n l
 |.eP _ x=>SV.vI n x
 |.yl m=>m==n
 |.eQ _ _ X=>SV.o8 n X
 |_=>E
def SV.o8(n:Nat):ai->Bool
 |[]=>E
 |x::X=>SV.vI n x||SV.o8 n X
end
def vJ(n:Nat):bA->Bool
 |[]=>E
 |Z::X=>vJ n X
 |U x::X=>SV.o8 n x.2||vJ n X
def S.vI(s:S)(n:Nat):Bool:=SV.o8 n s.tmps||vJ n s.boxes
def FE:aj->ai->ai->ai
 |p::X,v::W,l=>FE X W (l.set p v)
 |_,_,l=>l
def S.Bm(s X:S):S:={X with tmps:=s.tmps,pd:=X.pd.take (Y s.pd)}
def FF(s:S)(k:XE->S->T):XE->S->T
 |.bj v,X=>if v.vI (Y s.pd)||vJ (Y s.pd) X.boxes then .stuck "" else k (.bj v) (s.Bm X)
 |.exit _,_=>.stuck ""
 |_,X=>if vJ (Y s.pd) X.boxes then .stuck "" else match X.pd[Y s.pd]? with
  |U .ready=>k .normal (s.Bm X)
  |U (.done .ret)=>k .ret (s.Bm X)
  |U (.done (.exit id))=>k (.exit id) (s.Bm X)
  |_=>.stuck ""
def iZ:Code->Bool
 |.seq a b=>iZ a||iZ b
 |.cond _ a b=>iZ a||iZ b
 |.block _ c=>iZ c
 |.loop c=>iZ c
 |.scope c=>iZ c
 |.rangeFunc _ _ _ _=>J
 |_=>E
def P4(n:Nat)(W:S)(k V:SV->S->T):XE->S->T
 |.normal,X=>k (.bool (.c J)) {X with tmps:=W.tmps,pd:=X.pd.set n .ready}
 |.ret,X=>k (.bool (.c E)) {X with tmps:=W.tmps,pd:=X.pd.set n (.done .ret)}
 |.exit id,X=>k (.bool (.c E)) {X with tmps:=W.tmps,pd:=X.pd.set n (.done (.exit id))}
 |.bj v,X=>V v {X with tmps:=W.tmps}
def L6(n:Nat)(k:S->T):XE->S->T
 |.normal,X=>if decide (X.pd[n]?=U .ready) then k X else .stuck ""
 |_,_=>.stuck ""
def Ii(s:S)(W:Nat)(X:ai):S:={s with tmps:=(.yl (Y s.pd)::X)++aDq (W-(SV.yl (Y s.pd)::X).length) (.bK []),pd:=s.pd++[.ready]}
def L7(n V:Nat)(R:ai->S->(SV->S->T)->(SV->S->T)->T):YH:=λm W X Q P=>
 if m==n&&decide (Y X.pd=n+1)&&decide (X.pd[n]?=U .ready)&&Y W==V&&X.dV W then R W X Q P else .stuck ""
def Bn(X s:S)(W:aj)(V:ai):S:={X with tmps:=FE W V s.tmps}
def S.FG(s:S)(n:Nat)(x:E8):S:={s with pd:=s.pd.set n x}
def ags(X:eF)(W:aj)(s:S):String:= ""
def eF.at(a:eF)(s:S):eF:=⟨a.tm,a.cl.filterMap λx=>match bX s.boxes (x.1%1000) with
 |U (t,X)=>(match X[x.2.1]? with
  |U v=>if Bg s x.2.2 v&&(!oU t||(match x.2.2 with
   |.ref _=>J
   |_=>E))&&(x.1/1000==0||decide (Y s.boxes<=x.1/1000)) then U (x.1%1000,x.2) else Z
  |none=>Z)
 |none=>Z⟩
def agt:ai->Option (IE×bh)
 |[]=>Z
 |.eQ e X _::_=>U (e,X)
 |_::r=>agt r
def P5:bA->Option (IE×bh)
 |[]=>Z
 |U x::r=>match agt x.2 with
  |U y=>U y
  |none=>P5 r
 |Z::r=>P5 r
def FH(k:Int):bh->ai->Option SV
 |X::W,.fn f l::V=>if k=X then U (.fn f l) else FH k W V
 |X::W,.ref (.k .nilFunc)::V=>if k=X then U (.ref (.k .nilFunc)) else FH k W V
 |_,_=>Z
def L8(e:IE)(k:Int):Nat->BE->BE
 |0,b=>b
 |n+1,.cR (.cmp .eql X (.c W)) x y=>if IE.same e X then(if k=W then L8 e k n x else L8 e k n y) else .cR (.cmp .eql X (.c W)) x y
 |_,b=>b
def L9(e:IE)(k:Int):Nat->IE->IE
 |0,b=>b
 |n+1,.cR (.cmp .eql X (.c W)) x y=>if IE.same e X then(if k=W then L9 e k n x else L9 e k n y) else .cR (.cmp .eql X (.c W)) x y
 |_,b=>b
def X3(e:IE)(k:Int):SV->SV
 |.bool b=>.bool (L8 e k 20 b)
 |.int t b=>.int t (L9 e k 20 b)
 |.eQ X W V=>if IE.same e X then(match FH k W V with
  |U v=>v
  |none=>.eQ X W V) else .eQ X W V
 |v=>v
def P6(e:IE)(V:bh):SV->SV
 |.eQ X W R=>if IE.same e X&&W.all V.contains then .ref (.k .nilFunc) else .eQ X W R
 |v=>v
def FI(f:SV->SV)(l:bA):bA:=l.map λx=>match x with
 |U y=>U (y.1,y.2.map f)
 |none=>Z
def S.fix(f:SV->SV)(s:S):S:={s with boxes:=FI f s.boxes}
def Ij(e:IE)(fA:Int->S)(aH:T)(g:S->T):bh->T
 |[]=>aH
 |k::X=>.node (.cmp .eql e (.c k)) (g (fA k)) (Ij e fA aH g X)
def P7(W:bB)(V id:Nat)(s:S):Option (IE×bh×(Int->S)×Option S):=match W.frk V id with
 |U .box=>match P5 s.boxes with
  |U (e,X)=>U (e,X,λk=>s.fix (X3 e k),match P5 (FI (P6 e X) s.boxes) with
   |none=>U (s.fix (P6 e X))
   |U _=>Z)
  |none=>Z
 |U (.slot t R)=>match Xy s.tmps t with
  |.int _ (.c _)=>Z
  |.int k e=>U (e,R,λv=>{s with tmps:=s.tmps.set t (.int k (.c v))},Z)
  |_=>Z
 |none=>Z
def X4(g:S->T):Option S->T
 |U s=>g s
 |none=>.stuck ""
def Ma(W:bB)(V:oq)(X:cS)(k:XE->S->T)(c:L5):T:=P0 c.lf (if zA (nG X.toList) c.ch||X0 W c.s X.toList then nH W V (nG X.toList) c.lf c.qs (C4 X.toList) (k .normal) (λv=>k (.bj v)) (Y c.ch) c.ch c.s
 else(nH W (P1 W) (nG X.toList) c.lf c.qs (C4 X.toList) (.out .normal) (λv=>.out (.bj v)) (Y c.ch) c.ch c.s).mG (k .normal) λv=>k (.bj v))
def eR(X:bB):Nat->FuncId->Code->S->YH->(XE->S->T)->T
 |0,_,_,_,_,_=>.stuck ""
 |n+1,V,c,s,W,k=>
  match c with
  |.skip=>k .normal s
  |.label _=>k .normal s
  |.ret=>k .ret s
  |.exit id=>k (.exit id) s
  |.seq a b=>eR X n V a s W (PZ (λP=>eR X n V b P W k) k)
  |.block id a=>eR X n V a s W (XS id k)
  |.scope a=>eR X n V a s W k
  |.cond c a b=>match s.ev X.gl c with
   |.bool (.c J)=>eR X n V a s W k
   |.bool (.c E)=>eR X n V b s W k
   |.bool x=>match c with
    |.tmp t=>.node x (eR X n V a {s with tmps:=s.tmps.set t (.bool (.c J))} W k) (eR X n V b {s with tmps:=s.tmps.set t (.bool (.c E))} W k)
    |_=>.stuck ""
   |_=>.stuck ""
  |.region id R O=>match P7 X V id s with
   |U (e,G,fA,aH)=>Ij e fA (X4 (λP=>eR X n V (.region id R O) P W k) aH) (λP=>eR X n V (.region id R O) P W k) G
   |none=>if O then
    match Ih X (!X.LM V id) R s with
    |U c=>Ma X (jB X (λf c s k=>eR X n f c s W k) W) R k c
    |none=>match H7 R (Y s.boxes) with
    |U M=>if !H8 X R.toList then .stuck "" else mE X (xz X (C6 X R λf c s k=>eR X n f c s iA k) W) R (k .normal) (λv=>k (.bj v)) M (s.zB R M) []
    |none=>match Ih X E R s with
     |U c=>Ma X (jB X (λf c s k=>eR X n f c s W k) W) R k c
     |none=>.stuck ""
   else
   mE X (XT (X.LM V (id+1000000)) X (jB X (λf c s k=>eR X n f c s W k) W)) R (k .normal) (λv=>k (.bj v)) (fH (λ_=>E) J E 0 (Y s.boxes) R.toList) (s.room (lG R.toList)) []
  |.loop a=>match(Code.first a).map (X.loop V) with
   |U (.inv Q)=>
    if !s.bd|| !qP s (Q.at s).ks (jA (Q.at s) s)|| !xt (Q.at s) (Code.mQ a) 0 s.tmps s.tmps|| !qO (Q.at s) 0 s.boxes s.boxes|| !xq (gW (Q.at s) s) s.rs|| !Fw (gW (Q.at s) s) (Fv (Q.at s) s) then .stuck (ags (Q.at s) (Code.mQ a) s) else
    .loop s.au (Q.at s).ks (jA (Q.at s) s) (eR X n V a (o7 (Q.at s) (Code.mQ a) s) W (P3 (Q.at s) (Code.mQ a) s k))
   |_=>eR X n V a s W (PZ (λP=>eR X n V (.loop a) P W k) k)
  |.rangeFunc f L assign body=>match s.ev X.gl f with
   |.fn g N=>match X.inl g with
    |U (c,F,[])=>
     if !s.dV N||s.vI (Y s.pd)||SV.o8 (Y s.pd) N||iZ assign||iZ body then .stuck "" else
     eR X n g c (Ii s F N)
      (L7 (Y s.pd) L.size λD H C B=>
       eR X n V assign (Bn H s L.toList D) iA (L6 (Y s.pd) λA=>
        eR X n V body (A.FG (Y s.pd) .busy) iA (P4 (Y s.pd) H C B))) (FF s k)
    |_=>.stuck ""
   |_=>.stuck ""
  |_=>.stuck ""
def Ik{X:Type}(f:SV->aE->(SV->aE->X)->X):ai->aE->(ai->aE->X)->X
 |[],W,k=>k [] W
 |x::V,W,k=>f x W λR Q=>Ik f V Q λP O=>k (R::P) O
def S.cj(X:aE):S:=⟨[],[],0,0,X,0,0,[]⟩
def Il(R:bB)(P:bA):Nat->SV->aE->(SV->aE->T)->T
 |0,_,_,_=>.stuck ""
 |n+1,.gM i N Q M,X,k=>match kA P i with
  |U (e,L)=>match R.ty e with
   |U V=>Ik (Il R P n) L X λO W=>if lX R.ty (.cj W) V.ae (iH (Y V.ae) Q O)&&Y O==Q*Y V.ae&&N==0&&decide (Q<=M)&&Y V.ae !=0 then .new e (.lit (iH (Y V.ae) Q O)) W (W++[.sl e]) (k (.ref (.v (Y W))) (W++[.sl e])) else .stuck ""
   |none=>.stuck ""
  |none=>.stuck ""
 |n+1,.agg l,X,k=>Ik (Il R P n) l X λH W=>k (.agg H) W
 |_+1,.int q e,X,k=>k (.int q e) X
 |_+1,.bool e,X,k=>k (.bool e) X
 |_+1,.ref r,X,k=>k (.ref r) X
 |_+1,_,_,_=>.stuck ""
mutual
def SV.arz:SV->Bool
 |.gM _ _ _ _=>J
 |.agg l=>SV.X5 l
 |_=>E
def SV.X5:ai->Bool
 |[]=>E
 |x::X=>SV.arz x||SV.X5 X
end
def Mb(V:bB)(W:Nat)(l:ai)(X:S):T:=if W==0&&SV.X5 l&&X.bd&&SV.db X.ni X.nb (Y X.rs) (aM X.boxes) l then Ik (Il V X.boxes 9) l (X.rs.map RK.rd) λR Q=>.ret (one R) [] Q else .ret (one l) (ua (X.boxes.take W)) (X.rs.map RK.rd)
def P8(W:bB)(V:Nat)(R:pN):XE->S->T
 |.normal,X=>match sd W X R with
  |U l=>Mb W V l X
  |none=>.stuck ""
 |.ret,X=>match sd W X R with
  |U l=>Mb W V l X
  |none=>.stuck ""
 |.bj v,_=>.bj v
 |.exit _,_=>.stuck ""
def Mc(X:bB)(n:Nat)(V:FuncId)(c:Code)(R:Nat)(Q:pN)(W:ai)(s:S):T:=
 eR X n V c {s with tmps:=W++aDq (R-Y W) (.bK [])} iA (P8 X (Y s.boxes) Q)
structure DI where
 qR:cS
 rest:Code
 g:FuncId
 te:Nat
 tf:Nat
def agu(qR:cS)(Q:Code):ol->Option DI
 |[X,W]=>match X.op,X.dst,X.guard,W.op,W.guard,W.dst with
  |.makeFunc (.func g) first P,U V,Z,.defer R,Z,Z=>match first.toList,P.toList,R.callee,R.args.toList with
   |[],[.tmp O],.value (.tmp N),[]=>if V==N then U ⟨qR,Q,g,O,V⟩ else Z
   |_,_,_,_=>Z
  |_,_,_,_,_,_=>Z
 |_=>Z
def ud:Code->Option DI
 |.seq (.region _ qR E) (.seq (.region _ X E) W)=>agu qR W X.toList
 |_=>Z
def Im(W:bB)(V:Nat)(R:pN)(X:S):T:=match sd W X R with
 |U l=>.ret (one l) (ua (X.boxes.take V)) (X.rs.map RK.rd)
 |none=>.stuck ""
def X6(W:bB)(V:Nat)(R:TypeId)(P:Nat)(Q:pN):XE->S->T
 |.normal,X=>Im W V Q X
 |.ret,X=>Im W V Q X
 |.bj v,X=>match v with
  |.eP t (.int I x)=>match bX X.boxes P with
   |U (O,[.int I _])=>if t==R&&O==R then Im W V Q {X with boxes:=X.boxes.set P (U (R,[.int I x]))} else .stuck ""
   |_=>.stuck ""
  |_=>.stuck ""
 |.exit _,_=>.stuck ""
def X7(W:bB)(n:Nat)(R:FuncId)(d:DI)(V:TypeId)(Q:Nat)(P:pN)(X:S):T:=match X.tmps[d.te]? with
 |U (.loc i 0)=>if !oU V&&aM X.boxes i&&decide (d.tf<Y X.tmps) then eR W n R d.rest (X.put (U d.tf) (.fn d.g [.loc i 0])) iA (X6 W Q V i P) else .stuck ""
 |_=>.stuck ""
def Me(X:bB)(n:Nat)(V:FuncId)(c:Code)(R:Nat)(Q:pN)(P:TypeId)(W:ai)(s:S):T:=match ud c with
 |U d=>mE X (jB X (λf c s k=>eR X n f c s iA k) iA) d.qR (X7 X n V d P (Y s.boxes) Q) (λ_ _=>.stuck "") (fH (λ_=>E) J E 0 (Y s.boxes) d.qR.toList) (({s with tmps:=W++aDq (R-Y W) (SV.bK [])}:S).room (lG d.qR.toList)) []
 |none=>.stuck ""
end
end Go.Proofs.YtieaiocljdpebaaGreatDoor.Y
namespace Go.Proofs.YtieaiocljdpebaaGreatDoor
open Go.RowKit
variable{l:List Nat}{Q c:World}
structure eV(S:List Nat)(w w':World):Prop where
 os:w'.os=w.os
 tape:w'.tape=w.tape
 output:w'.output=w.output
 size:w.heap.size<=w'.heap.size
 block:∀k,k<w.heap.size->k∉S->w'.heap[k]?=w.heap[k]?
def eV.refl(S:List Nat)(w:World):eV S w w:=⟨rfl,rfl,rfl,aDm _,λ_ _ _=>rfl⟩
def eV.trans{S:List Nat}{a b c:World}(h:eV S a b)(k:eV S b c):eV S a c:=
 ⟨k.os.trans h.os,k.tape.trans h.tape,k.output.trans h.output,aDY h.size k.size,λi X W=>(k.block i (aFh X h.size) W).trans (h.block i X W)⟩
def eV.mono{X:List Nat}(h:eV l Q c)(W:∀x,x∈l->x∈X):eV X Q c:=
 ⟨h.os,h.tape,h.output,h.size,λi V R=>h.block i V (λm=>R (W i m))⟩
def eV.alloc(h:eV l Q c)(o:Obj):eV l Q (c.alloc o):=
 h.trans ⟨rfl,rfl,rfl,by simp,λk X _=>Below.heap_alloc _ _ _ X⟩
def eV.drew(h:eV l Q c):eV l Q c.drew:=⟨h.os,h.tape,h.output,h.size,h.block⟩
def eV.drewN(h:eV l Q c)(n:Nat):eV l Q (c.drewN n):=⟨h.os,h.tape,h.output,h.size,h.block⟩
def eV.setCell{S:List Nat}{a w:World}(h:eV S a w){p:Addr}(X:p.block∈S)(u:Value):eV S a (w.setCell p u):=
 h.trans ⟨rfl,rfl,rfl,by simp[World.setCell],λk _ W=>Below.heap_setCell _ _ _ _ (λe=>W (e▸X))⟩
def eV.putObj{S:List Nat}{a w:World}(h:eV S a w){r:Nat}(X:r∈S)(o:Obj):eV S a (w.putObj r o):=
 h.trans ⟨rfl,rfl,rfl,by simp[World.putObj],λk _ W=>World.putObj_heap_other (λe=>W (e▸X))⟩
def eV.arA(h:Below Q.heap.size Q c):eV l Q c:=⟨h.os,h.tape,h.output,h.size,λk X _=>h.block k X⟩
def eV.call{X:World}(h:eV l Q c)(k:Below c.heap.size c X):eV l Q X:=h.trans (eV.arA k)
def eV.grown{W:World}{V:Option Nat}(h:eV l Q c)(X:c.grownBy W V)(N:∀k,V=U k->k∈l\/Q.heap.size<=k):eV l Q W:=
 ⟨X.os.trans h.os,X.tape.trans h.tape,X.output.trans h.output,aDY h.size X.size,λk R P=>(X.block k (aFh R h.size) (λe=>by rcases N k e.symm with O|O;exact P O;omega)).trans (h.block k R P)⟩
def eV.heap{S:List Nat}{w V:World}(h:eV S w V){b:Nat}{o:Obj}(X:w.heap[b]?=U o)(R:b∉S):V.heap[b]?=U o:=by
 have W:b<w.heap.size:=by
  by_cases W:b<w.heap.size;exact W;rw[aGr (by omega)] at X;cases X
 exact(h.block b W R).trans X
end Go.Proofs.YtieaiocljdpebaaGreatDoor
namespace Go.Proofs.YtieaiocljdpebaaGreatDoor.Y
open Go.RowKit
noncomputable section
variable{t:Bool}{R M h:Nat}{X:TypeId}{Q c:World}{H:Oper}{r:Operand}
inductive RV where
 |mk (val:Value) (rows:List (List RV))
abbrev am:=List (List RV)
abbrev aF:=List RV
abbrev Bo:=Option (List (List RV))
abbrev zE:=List Deferred
def RV.val:RV->Value
 |.mk v _=>v
def RV.rows:RV->am
 |.mk _ r=>r
@[simp] def RV.lg (v:Value) (r:am):(RV.mk v r).val=v:=rfl
@[simp] def RV.lj (v:Value) (r:am):(RV.mk v r).rows=r:=rfl
instance:Inhabited RV:=⟨.mk (.pointer Z) []⟩
structure ac where
 i:bh
 b:kz
 r:aF
 y:aj
def ac.at(O:ac)(y:aj):ac:={O with y:=y}
def ac.rv(O:ac)(k:Nat):RV:=O.r.getD k default
def aO:Value->Int
 |.int _ n=>n
 |_=>0
def fm:Value->Bool
 |.bool b=>b
 |_=>E
def lenOf:Value->Int
 |.slice _ n _=>n
 |.string s=>s.size
 |_=>0
def C9(v:Value)(i:Int):Int:=match v with
 |.string s=>match s[i.toNat]? with
  |U b=>b.toNat
  |none=>0
 |_=>0
def ue:Value->Value->Bool
 |.string a,.string b=>a.toList==b.toList
 |_,_=>E
def iB(n:Nat)(X:bh)(W:aF):Bool:=decide ((W.take n).map (λc=>aO c.val)=X.take n)
def fJ(n:Nat)(X:bh)(W:am):Option aF:=W.find? (iB n X)
def di(n:Nat)(X:aF):am->am
 |[]=>[X]
 |r::W=>if iB n ((X.take n).map λc=>aO c.val) r then X::W else r::di n X W
def jC(x:Int):bh->eJ->Value
 |k::X,v::W=>if x=k then(if gU v then v else .nilFunc) else jC x X W
 |_,_=>.nilFunc
def cellAt(X:am)(i:Int)(j:Nat):RV:=(X.getD i.toNat []).getD j default
def cT:RK->RV->RV
 |.sl _,v|.own _,v=>match v.val with
  |.slice _ _ _=>v
  |_=>.mk (.slice Z 0 0) []
 |.str,v=>match v.val with
  |.string s=>.mk (.string s) []
  |_=>.mk (.string ⟨#[]⟩) []
 |.aH,v=>if gU v.val then .mk v.val [] else .mk (.pointer Z) []
 |.dead,v=>if gU v.val then v else .mk (.pointer Z) []
 |.mr _,v=>match v.val with
  |.slice _ _ _=>v
  |_=>.mk (.slice Z 0 0) []
mutual
def IE.den(O:ac):IE->Int
 |.c n=>n
 |.v k=>O.i.getD k 0
 |.bin X k a b=>ay X k (a.den O) (b.den O)
 |.conv k a=>k.wrap (a.den O)
 |.len r=>lenOf (r.rv O).val
 |.mm W a b=>if W then max (a.den O) (b.den O) else min (a.den O) (b.den O)
 |.cR b x y=>if b.den O then x.den O else y.den O
 |.cell r i j=>aO (cellAt (r.rv O).rows (i.den O) j).val
 |.mD r i=>C9 (r.rv O).val (i.den O)
 |.look r n a b c j=>match fJ n [a.den O,b.den O,c.den O] (r.rv O).rows with
  |U V=>aO (V.getD j default).val
  |none=>0
def BE.den(O:ac):BE->Bool
 |.c b=>b
 |.v k=>O.b.getD k E
 |.cmp X a b=>fQ X (a.den O) (b.den O)
 |.not a=> !(a.den O)
 |.and a b=>a.den O&&b.den O
 |.beq a b=>a.den O==b.den O
 |.cR b x y=>if b.den O then x.den O else y.den O
 |.cell r i j=>fm (cellAt (r.rv O).rows (i.den O) j).val
 |.seq a b=>ue (a.rv O).val (b.rv O).val
 |.look r n a b c j=>match fJ n [a.den O,b.den O,c.den O] (r.rv O).rows with
  |U W=>fm (W.getD j default).val
  |none=>E
 |.has r n a b c=>(fJ n [a.den O,b.den O,c.den O] (r.rv O).rows).isSome
def RE.rv(O:ac):RE->RV
 |.v k=>O.rv k
 |.cell r i j k=>cT k (cellAt (r.rv O).rows (i.den O) j)
 |.k v=>.mk v []
end
def RE.den(O:ac)(r:RE):Value:=(r.rv O).val
def SV.bN(O:ac):SV->RV
 |.int k e=>.mk (.int k (e.den O)) []
 |.bool b=>.mk (.bool (b.den O)) []
 |.ref r=>r.rv O
 |_=>default
def fo(X:aF)(W:Nat):aF->aF
 |[]=>X
 |v::r=>fo (X.set W v) (W+1) r
def LE.rows(O:ac):LE->am
 |.ref r=>(r.rv O).rows
 |.lit l=>l.map λX=>X.map (SV.bN O)
 |.iG a b=>a.rows O++b.rows O
 |.rY n X=>aDq (n.den O).toNat (X.map (SV.bN O))
 |.set a i V W=>(a.rows O).modify (i.den O).toNat λX=>fo X V (W.map (SV.bN O))
 |.sub a R Q=>((a.rows O).take (Q.den O).toNat).drop (R.den O).toNat
 |.ins a n W=>di n (W.map (SV.bN O)) (a.rows O)
def gf(x:LE)(O:ac):RV:=.mk (.slice Z (x.rows O).length (x.rows O).length) (x.rows O)
def ax(c:Nat)(X:aF):Int:=aO (X.getD c default).val
def gX(X:Bool):aj->aF->aF->Bool
 |[],_,_=>E
 |c::W,x,y=>if ax c x=ax c y then gX X W x y else if X then decide (ax c y<ax c x) else decide (ax c x<ax c y)
def be.lt:be->aF->aF->Bool
 |.lex X d,x,y=>gX d X x y
 |.ratio n d,x,y=>decide (ax n x*ax d y<ax n y*ax d x)
 |.cw _ _ _,_,_=>E
def ke(n d:Int):Bool:=decide (1<=d)&&decide (d<=1073741824)&&decide (-1073741824<=n)&&decide (n<=1073741824)&&aGY n.natAbs d.toNat==1
def be.ok:be->aF->Bool
 |.lex _ _,_=>J
 |.ratio n d,x=>ke (ax n x) (ax d x)
 |.cw _ _ _,_=>E
def dO(lt:aF->aF->Bool)(x:aF):am->am
 |[]=>[x]
 |y::r=>if lt x y then x::y::r else y::dO lt x r
def bD(lt:aF->aF->Bool)(l:am):am:=l.foldl (λacc x=>dO lt x acc) []
def sn(lt:aF->aF->Bool):am->Bool
 |[]=>J
 |x::r=>r.all (λy=>lt x y||lt y x)&&sn lt r
def fU:be->Bool->am->Bo
 |.cw _ _ _,_,_=>Z
 |W,V,X=>if decide (Y X<=1099511627776)&&(X.all W.ok&&(V||sn W.lt X)) then U (bD W.lt X) else Z
def kB(X:am):Bool:=(aDA (Y X)).all λk=>decide (0<=ax 0 (X.getD k []))&&decide (ax 0 (X.getD k [])<=k)
def o9:Nat->Int->am->am
 |0,_,X=>X
 |n+1,i,X=>if ax 0 (X.getD i.toNat [])=i then X else(o9 n (ax 0 (X.getD i.toNat [])) X).set i.toNat ((o9 n (ax 0 (X.getD i.toNat [])) X).getD (ax 0 (X.getD i.toNat [])).toNat [])
def uf(i:Int)(X:am):Bo:=if decide (Y X<=1099511627776)&&decide (0<=i)&&decide (i<Y X)&&kB X then U (o9 (Y X) i X) else Z
def aX(X:am)(a b:Nat):am:=(X.drop a).take (b-a)
def vK(lt:aF->aF->Bool):am->Bool
 |[]=>J
 |x::r=>r.all (λy=> !lt y x)&&vK lt r
def lJ(k:Nat)(o:be)(W:bh)(X:am):Bo:=match k,W with
 |0,[a,b,n]=>if decide (0<=a)&&decide (0<=n)&&decide (a+n<=b)&&decide (b+n<=Y X) then U (X.take a.toNat++(aX X b.toNat (b+n).toNat++(aX X (a+n).toNat b.toNat++(aX X a.toNat (a+n).toNat++X.drop (b+n).toNat)))) else Z
 |1,[a,m,b]=>if decide (0<=a)&&decide (a<m)&&decide (m<b)&&decide (b<=Y X) then U (X.take a.toNat++(aX X m.toNat b.toNat++(aX X a.toNat m.toNat++X.drop b.toNat))) else Z
 |2,[a,b]=>if decide (0<=a)&&decide (a<=b)&&decide (b<=Y X)&&X.all o.ok then U (X.take a.toNat++(bD o.lt (aX X a.toNat b.toNat)++X.drop b.toNat)) else Z
 |n+3,[a,m,b]=>if decide (0<=a)&&decide (a<m)&&decide (m<b)&&decide (b<=Y X)&&decide (b-a<n)&&X.all o.ok&&vK o.lt (aX X a.toNat m.toNat)&&vK o.lt (aX X m.toNat b.toNat) then U (X.take a.toNat++(bD o.lt (aX X a.toNat b.toNat)++X.drop b.toNat)) else Z
 |_,_=>Z
def ad(V:aj)(i:Nat):Nat:=V.getD i 0
def mH(v:Value)(n:Nat):Addr:=match v with
 |.slice (U a) _ _=>⟨a.block,a.off+n,Z⟩
 |_=>⟨0,n,Z⟩
mutual
def SV.den(O:ac)(V:aj):SV->Value
 |.int k e=>.int k (e.den O)
 |.bool b=>.bool (b.den O)
 |.ref r=>r.den O
 |.loc i X=>.pointer (U ⟨ad V i,X,Z⟩)
 |.el r w i X=>.pointer (U (mH (r.den O) ((i.den O).toNat*w+X)))
 |.gM i X W R=>.slice (U ⟨ad V i,X,Z⟩) W R
 |.agg l=>.agg (SV.aD O V l).toArray
 |.bK l=>.tuple (SV.aD O V l).toArray
 |.fn f l=>.func (.func f) #[] (SV.aD O V l).toArray
 |.eP t x=>.iface t (SV.den O V x)
 |.yl n=>.func (.yield (O.y.getD n 0)) #[] #[]
 |.any=>undef
 |.mp i=>.map (U (ad V i))
 |.eQ e Q P=>jC (e.den O) Q (SV.aD O V P)
def SV.aD(O:ac)(V:aj):ai->eJ
 |[]=>[]
 |x::X=>SV.den O V x::SV.aD O V X
end
def nJ(O:ac)(V:aj):∀l,SV.aD O V l=l.map (SV.den O V)
 |[]=>rfl
 |x::X=>by rw[SV.aD,nJ O V X];rfl
@[simp] def FJ (O:ac) (V:aj) (l:ai):(SV.aD O V l).length=Y l:=by rw[nJ];simp
def qS(O:ac)(V:aj)(l:ai)(i:Nat):(SV.aD O V l)[i]?=(l[i]?).map (SV.den O V):=by rw[nJ];simp
def P9(O:ac)(V:aj)(l m:ai):SV.aD O V (l++m)=SV.aD O V l++SV.aD O V m:=by simp[nJ]
inductive bz(W:World)(ty:Ty):RK->RV->Prop where
 |sl (e:TypeId) (A:Option Addr) (len cap:Nat) (rows:List (List RV)) (h1:Y rows=len) (h2:len<=cap)
   (h3:∀(i:Nat)(row:List RV),rows[i]?=U row->Y row=(bw ty (.sl e)).length/\∃b off,A=U ⟨b,off,Z⟩/\(∃cs t fr,W.heap[b]?=U (.cells cs t fr))/\
    ∀(j:Nat)(c:RV),row[j]?=U c->W.cell? ⟨b,off+i*(bw ty (.sl e)).length+j,Z⟩=U c.val)
   (hi:∀(i j:Nat)(row:List RV)(c:RV)(k:IntKind),rows[i]?=U row->row[j]?=U c->(bw ty (.sl e))[j]?=U (.int k)->∃n,c.val=.int k n)
   (hb:∀(i j:Nat)(row:List RV)(c:RV),rows[i]?=U row->row[j]?=U c->(bw ty (.sl e))[j]?=U .bool->∃x,c.val=.bool x)
   (ho:∀(i j:Nat)(row:List RV)(c:RV)(z:Value)(k:RK),rows[i]?=U row->row[j]?=U c->(bw ty (.sl e))[j]?=U (.aH z k)->bz W ty k c):
   bz W ty (.sl e) (.mk (.slice A len cap) rows)
 |str (s:ByteArray):bz W ty .str (.mk (.string s) [])
 |aH (v:Value) (h:gU v=J):bz W ty .aH (.mk v [])
 |own (e:TypeId) (rv:RV) (h:bz W ty (.sl e) rv) (hn:∀l c,rv.val=.slice Z l c->c=0):bz W ty (.own e) rv
 |dead (rv:RV) (h:gU rv.val=J):bz W ty .dead rv
 |mr (sh:Sh) (rows:List (List RV)) (h1:∀(i:Nat)(row:List RV),rows[i]?=U row->Y row=(bw ty (.mr sh)).length)
   (hi:∀(i j:Nat)(row:List RV)(c:RV)(k:IntKind),rows[i]?=U row->row[j]?=U c->(bw ty (.mr sh))[j]?=U (.int k)->∃n,c=.mk (.int k n) [])
   (hb:∀(i j:Nat)(row:List RV)(c:RV),rows[i]?=U row->row[j]?=U c->(bw ty (.mr sh))[j]?=U .bool->∃x,c=.mk (.bool x) [])
   (ho:∀(i j:Nat)(row:List RV)(c:RV)(z:Value)(k:RK),rows[i]?=U row->row[j]?=U c->(bw ty (.mr sh))[j]?≠U (.aH z k)):
   bz W ty (.mr sh) (.mk (.slice Z (Y rows) (Y rows)) rows)
inductive de(ty:Ty):RK->RV->Nat->Prop where
 |here (e:TypeId) (a:Addr) (len cap:Nat) (rows:List (List RV)):de ty (.sl e) (.mk (.slice (U a) (len+1) cap) rows) a.block
 |deep (e:TypeId) (v:Value) (rows:List (List RV)) (i j:Nat) (row:List RV) (c:RV) (z:Value) (k:RK) (b:Nat):rows[i]?=U row->row[j]?=U c->(bw ty (.sl e))[j]?=U (.aH z k)->de ty k c b->de ty (.sl e) (.mk v rows) b
 |own (e:TypeId) (rv:RV) (b:Nat):de ty (.sl e) rv b->de ty (.own e) rv b
def RV.jS(X:RV):bT:=match X.val with
 |.slice (U a) _ (_+1)=>U a.block
 |_=>Z
def xA(W:Ty)(e:RK)(X:RV)(b:Nat):Prop:=de W e X b\/(∃t,e=.own t)/\X.jS=U b
def lZ(X:Ty)(e:TypeId)(V:am)(b:Nat):Prop:=∃(i j:Nat)(W:aF)(c:RV)(z:Value)(k:RK),V[i]?=U W/\W[j]?=U c/\(bw X (.sl e))[j]?=U (.aH z k)/\de X k c b
structure xB(S0:aj)(w0:World)(V:aj)(O:ac)(bx:bA)(ty:Ty)(rs:aE)(W:World)(k:Nat)(e:TypeId)(rv:RV)(b:Nat):Prop where
 own:w0.heap.size<=b\/b∈S0
 mem:∃len cap cur,rv.val=.slice (U ⟨b,0,Z⟩) len cap/\W.heap[b]?=U (.cells cur e (0,0))/\len<=cap/\cap<=maxLen/\cur.size=cap*(bw ty (.sl e)).length
 box:∀i,aM bx i=J->ad V i≠b
 alone:∀(k':Nat)(e':RK)(rv':RV),k'≠k->rs[k']?=U e'->O.r[k']?=U rv'->¬xA ty e' rv' b
 inner:¬lZ ty e rv.rows b
def SV.f8(O:ac)(V:aj)(v:SV):RV:=match v with
 |.ref r=>r.rv O
 |v=>.mk (v.den O V) []
def SV.cN(O:ac)(V:aj)(l:ai):aF:=l.map (SV.f8 O V)
def fe:Nat->qJ->List MapEntry
 |_,[]=>[]
 |n,x::r=>⟨x.1,x.2,n⟩::fe (n+1) r
def ov(l:qJ):Obj:=.map (fe 0 l).toArray (Y l)
def Bp:eJ->qJ
 |k::v::r=>(k,v)::Bp r
 |_=>[]
def pe(a:Bool)(l:aF):Value:=if a then .agg (l.map RV.val).toArray else(l.headD default).val
def ug(n:Nat)(W V:Bool)(X:aF):Value×Value:=(pe W (X.take n),pe V (X.drop n))
def agv:Value->bT
 |.map a=>a
 |_=>Z
def nK(X:aF):Nat:=(aO (X.headD default).val).toNat
def kC(t:TypeId)(l:aF):Obj:=
 if t=rX then ov (Bp (l.map RV.val)) else
 if t=tX then(match l with
  |[X,.mk (.int _ n) _,.mk (.bool W) _,.mk (.bool V) _]=>ov (X.rows.map (ug n.toNat W V))
  |_=>ov []) else
 if t=vw then(match l with
  |[R,_,.mk (.int _ n) _,Q]=>.mapIter (agv R.val) n.toNat (Q.rows.map nK).toArray n.toNat
  |_=>ov []) else
 .cells (l.map RV.val).toArray t (0,0)
structure jD(S0:aj)(w0:World)(V:aj)(O:ac)(bx:bA)(ty:Ty)(rs:aE)(W:World):Prop where
 base:eV S0 w0 W
 own:∀i,aM bx i=J->w0.heap.size<=ad V i\/ad V i∈S0
 inj:∀i j,aM bx i=J->aM bx j=J->ad V i=ad V j->i=j
 box:∀(i:Nat)(t:TypeId)(cs:ai),bX bx i=U (t,cs)->W.heap[ad V i]?=U (kC t (SV.cN O V cs))
 ref:∀(k:Nat)(e:RK)(rv:RV),rs[k]?=U e->O.r[k]?=U rv->bz W ty e rv/\∀b,de ty e rv b->∀i,aM bx i=J->ad V i≠b
structure bR where
 out:aj
 dB:List (Nat×Loop)
 rd:Bool
 base:zE
def bR.none:bR:=⟨[],[],E,[]⟩
def kD(r:Nat):Deferred:={target:=.collected r,args:= #[]}
def PX.code:PX->Code
 |.ret=>.ret
 |.exit id=>.exit id
def pR(r:Loop):E8->Loop
 |.ready=>{r with state:=.ready,pending:=Z}
 |.busy=>{r with state:=.busy,pending:=Z}
 |.done e=>{r with state:=.done,pending:=U e.code}
structure dE(w0:World)(D:bR)(pd:rW)(y:aj)(dfr:zE)(W:World):Prop where
 len:Y D.dB=Y pd
 qT:Y y=Y pd
 dB:∀(n l:Nat)(r:Loop)(st:E8),D.dB[n]?=U (l,r)->pd[n]?=U st->y[n]?=U l/\W.heap[l]?=U (.loop (pR r st))/\w0.heap.size<=l
 inj:∀(n n' l:Nat)(r r':Loop),D.dB[n]?=U (l,r)->D.dB[n']?=U (l,r')->n=n'
 l8:∃ms:aj,dfr=ms.map kD++D.base/\(D.rd=J->ms=[])/\(ms++D.out).Nodup/\∀d∈ms++D.out,W.heap[d]?=U (.deferred (U []))/\w0.heap.size<=d
structure az(S0:aj)(w0:World)(D:bR)(ty:Ty)(V:aj)(O:ac)(s:S)(a:Act)(W:World):Prop where
 mem:jD S0 w0 V O s.boxes ty s.rs W
 fp:Y V=Y s.boxes
 ei:Y O.i=s.ni
 eb:Y O.b=s.nb
 er:Y O.r=Y s.rs
 cP:dE w0 D s.pd O.y a.defers W
 size:a.tmps.size=Y s.tmps
 tmps:∀(t:Nat)(sv:SV),s.tmps[t]?=U sv->sv=.any\/a.tmps[t]?=U (sv.den O V)
 dJ:∀(k:Nat)(e:TypeId)(rv:RV)(b:Nat),s.rs[k]?=U (.own e)->O.r[k]?=U rv->rv.jS=U b->xB S0 w0 V O s.boxes ty s.rs W k e rv b
def ac.ow(X:Ty)(O:ac)(W:aE)(b:Nat):Prop:=∃(k:Nat)(e:RK),W[k]?=U e/\de X e (O.rv k) b
inductive XV where
 |i (n:Int)
 |b (x:Bool)
 |r (v:RV)
abbrev aW:=List XV
def ac.add(O:ac):XV->ac
 |.i n=>{O with i:=O.i++[n]}
 |.b x=>{O with b:=O.b++[x]}
 |.r v=>{O with r:=O.r++[v]}
def ac.ext(O:ac):aW->ac
 |[]=>O
 |x::X=>(O.add x).ext X
def SV.xv(O:ac):SV->XV
 |.int _ e=>.i (e.den O)
 |.bool b=>.b (b.den O)
 |.ref r=>.r (r.rv O)
 |_=>.i 0
def pS:LK->XV->Prop
 |.int _,.i _=>True
 |.bool,.b _=>True
 |.ref _,.r _=>True
 |_,_=>False
def dP:aR->aW->Prop
 |[],[]=>True
 |k::X,x::W=>pS k x/\dP X W
 |_,_=>False
def arB(X:Ty)(W:World)(B:Nat)(R:Nat->Prop):LK->XV->Prop
 |.ref e,.r V=>bz W X e V/\∀b,de X e V b->B<=b\/R b
 |_,_=>True
def In(X:Ty)(W:World)(B:Nat)(V:Nat->Prop):aR->aW->Prop
 |k::R,x::Q=>arB X W B V k x/\In X W B V R Q
 |_,_=>True
structure FL(ty:Ty)(S0:aj)(w0:World)(e:TypeId)(x:LE)(rs:aE)(O:ac)(rv:RV):Prop where
 val:∃A n c,rv=.mk (.slice A n c) (x.rows O)/\(x.rows O).length=n
 ow:∀b,de ty (.sl e) rv b->w0.heap.size<=b\/b∈S0\/O.ow ty rs b
 X8:∀(k:Nat)(i:IE)(off:Nat)(cs:ai),x=.set (.ref (.v k)) i off cs->rv.val=(O.rv k).val
structure LC where
 au:Nat
 I:aW->Prop
 μ:aW->Nat
 m:Nat
abbrev cZ:=List LC
def mI(au:Nat):cZ->Option LC
 |[]=>Z
 |x::X=>if x.au=au then U x else mI au X
def XE.to(O:ac)(V:aj):XE->Exit
 |.normal=>.normal
 |.ret=>.ret
 |.exit id=>.exit id
 |.bj v=>.panic [{v:=v.den O V,recovered:=E}]
structure Sp where
 P:Program
 ty:Ty
 S0:aj
 w0:World
 D:bR
 R:Ending->World->Prop
 Q:Exit->Act->World->Prop
def nL(k:Nat)(o:be)(W:bh)(X:am):Bo:=if Y X<=1099511627776 then lJ k o W X else Z
def jE(O:ac):be->Bool->am->Bo
 |.cw k o W,E,X=>nL k o (W.map (IE.den O)) X
 |.cw _ _ [i],J,X=>uf (i.den O) X
 |.cw _ _ _,J,_=>Z
 |V,R,X=>fU V R X
def l9(O:ac):be->Bool->am->Bo
 |.cw _ _ _,E,_=>Z
 |.cw _ _ [i],J,X=>uf (i.den O) X
 |.cw _ _ _,J,_=>Z
 |W,V,X=>fU W V X
def agw{O:ac}{X:be}{W r:am}(h:l9 O X t W=U r):jE O X t W=U r:=by
 cases X with
 |lex R d=>exact h
 |ratio n d=>exact h
 |cw k o V=>
  cases t with
  |false=>simp[l9] at h
  |true=>
   cases V with
   |nil=>simp[l9] at h
   |cons i l=>
    cases l with
    |nil=>exact h
    |cons j l=>simp[l9] at h
def T.aT(p:Sp):T->ac->cZ->Prop
 |.out e s,O,_=>∀y V a W,az p.S0 p.w0 p.D p.ty V (O.at y) s a W->p.Q (e.to (O.at y) V) a W
 |.ret v F M,O,_=>∀y V W,jD p.S0 p.w0 V (O.at y) F p.ty M W->p.R (.returned (v.den (O.at y) V)) W
 |.bj v,O,_=>∀y V W,eV p.S0 p.w0 W->p.R (.panicked [{v:=v.den (O.at y) V,recovered:=E}]) W
 |.node b t f,O,L=>(b.den O=J->t.aT p O L)/\(b.den O=E->f.aT p O L)
 |.aV b t,O,L=>b.den O=J/\t.aT p O L
 |.call f z F M G fG t,O,L=>∀y V W,jD p.S0 p.w0 V (O.at y) F p.ty M W->Calls p.P f (SV.aD (O.at y) V z).toArray W λ
   |.returned v,H=>∃N,dP G N/\v=fG.den ((O.ext N).at y) V/\Below W.heap.size W H/\In p.ty H W.heap.size (O.ow p.ty M) G N/\t.aT p (O.ext N) L
   |.panicked w,H=>Below W.heap.size W H/\p.R (.panicked w) H
   |.outgrown,_=>False
 |.loop au G u t,O,L=>∃X C,X (u.map (SV.xv O))/\∀N,dP G N->X N->t.aT p (O.ext N) (⟨au,X,C,C N⟩::L)
 |.back au x,O,L=>match mI au L with
   |U c=>c.I (x.map (SV.xv O))/\c.μ (x.map (SV.xv O))<c.m
   |none=>False
 |.new e x M _ t,O,L=>∀B,FL p.ty p.S0 p.w0 e x M O B->t.aT p (O.add (.r B)) L
 |.rows _ x _ t,O,L=>t.aT p (O.add (.r (gf x O))) L
 |.fA g h t f,O,L=>(g.den O=J->t.aT p O L)/\(h.den O=J->f.aT p O L)
 |.pick n g h t f,O,L=>(∀j:Int,0<=j->j<n.den O->g.den (O.add (.i j))=J->t.aT p (O.add (.i j)) L)/\(h.den O=J->f.aT p O L)
 |.dw _ _ _ q o r _ t,O,L=>∃A,jE O q o (r.rv O).rows=U A/\t.aT p (O.add (.r (.mk (r.rv O).val A))) L
 |.stuck _,_,_=>False
variable{x:bA}{w:ai}{k:ac}{y:aj}
def agx:∀(a b:Value),Fi a b=J->a=b:=by
 intro a b h;unfold Fi at h;split at h;rename_i a b;have X:a.data.toList=b.data.toList:=by simpa using h
 have W:a.data=b.data:=by simpa using X
 cases a;cases b;simp_all;simp at h;rw[h.1,h.2]
 all_goals first|rfl|cases h
mutual
def IE.bL:∀(a b:IE),IE.same a b=J->a=b
 |.c a,b,h=>by cases b<;>simp[IE.fT] at h;rw[h]
 |.v a,b,h=>by cases b<;>simp[IE.fT] at h;rw[h]
 |.bin o k a b,x,h=>by
  cases x<;>simp[IE.fT,zn] at h;obtain⟨⟨⟨rfl,rfl⟩,X⟩,W⟩:=h;rw[IE.bL _ _ X,IE.bL _ _ W]
 |.conv k a,x,h=>by
  cases x<;>simp[IE.fT] at h;obtain⟨rfl,X⟩:=h;rw[IE.bL _ _ X]
 |.len r,x,h=>by
  cases x<;>simp[IE.fT] at h;rw[RE.bL _ _ h]
 |.mm m a b,x,h=>by
  cases x<;>simp[IE.fT] at h;obtain⟨⟨rfl,X⟩,W⟩:=h;rw[IE.bL _ _ X,IE.bL _ _ W]
 |.cR b a c,x,h=>by
  cases x<;>simp[IE.fT] at h;obtain⟨⟨V,X⟩,W⟩:=h;rw[BE.bL _ _ V,IE.bL _ _ X,IE.bL _ _ W]
 |.cell r i j,x,h=>by
  cases x<;>simp[IE.fT] at h;obtain⟨⟨V,X⟩,rfl⟩:=h;rw[RE.bL _ _ V,IE.bL _ _ X]
 |.mD r i,x,h=>by
  cases x<;>simp[IE.fT] at h;obtain⟨V,X⟩:=h;rw[RE.bL _ _ V,IE.bL _ _ X]
 |.look r n a b c j,x,h=>by
  cases x<;>simp[IE.fT] at h;obtain⟨⟨⟨⟨⟨V,rfl⟩,X⟩,W⟩,R⟩,rfl⟩:=h;rw[RE.bL _ _ V,IE.bL _ _ X,IE.bL _ _ W,IE.bL _ _ R]
def BE.bL:∀(a b:BE),BE.same a b=J->a=b
 |.c a,b,h=>by cases b<;>simp[BE.fT] at h;rw[h]
 |.v a,b,h=>by cases b<;>simp[BE.fT] at h;rw[h]
 |.cmp o a b,x,h=>by
  cases x<;>simp[BE.fT,zn] at h;obtain⟨⟨rfl,X⟩,W⟩:=h;rw[IE.bL _ _ X,IE.bL _ _ W]
 |.not a,x,h=>by
  cases x<;>simp[BE.fT] at h;rw[BE.bL _ _ h]
 |.and a b,x,h=>by
  cases x<;>simp[BE.fT] at h;rw[BE.bL _ _ h.1,BE.bL _ _ h.2]
 |.beq a b,x,h=>by
  cases x<;>simp[BE.fT] at h;rw[BE.bL _ _ h.1,BE.bL _ _ h.2]
 |.cR b a c,x,h=>by
  cases x<;>simp[BE.fT] at h;obtain⟨⟨V,X⟩,W⟩:=h;rw[BE.bL _ _ V,BE.bL _ _ X,BE.bL _ _ W]
 |.cell r i j,x,h=>by
  cases x<;>simp[BE.fT] at h;obtain⟨⟨V,X⟩,rfl⟩:=h;rw[RE.bL _ _ V,IE.bL _ _ X]
 |.seq a b,x,h=>by
  cases x<;>simp[BE.fT] at h;rw[RE.bL _ _ h.1,RE.bL _ _ h.2]
 |.look r n a b c j,x,h=>by
  cases x<;>simp[BE.fT] at h;obtain⟨⟨⟨⟨⟨V,rfl⟩,X⟩,W⟩,R⟩,rfl⟩:=h;rw[RE.bL _ _ V,IE.bL _ _ X,IE.bL _ _ W,IE.bL _ _ R]
 |.has r n a b c,x,h=>by
  cases x<;>simp[BE.fT] at h;obtain⟨⟨⟨⟨V,rfl⟩,X⟩,W⟩,R⟩:=h;rw[RE.bL _ _ V,IE.bL _ _ X,IE.bL _ _ W,IE.bL _ _ R]
def RE.bL:∀(a b:RE),RE.same a b=J->a=b
 |.v a,b,h=>by cases b<;>simp[RE.fT] at h;rw[h]
 |.cell r i j k,x,h=>by
  cases x<;>simp[RE.fT] at h;obtain⟨⟨⟨X,W⟩,rfl⟩,rfl⟩:=h;rw[RE.bL _ _ X,IE.bL _ _ W]
 |.k a,b,h=>by cases b<;>simp[RE.fT] at h;rw[agx _ _ h]
end
mutual
def SV.bL:∀(a b:SV),SV.same a b=J->a=b
 |.int k e,x,h=>by cases x<;>simp[SV.fT] at h;rw[h.1,IE.bL _ _ h.2]
 |.bool b,x,h=>by cases x<;>simp[SV.fT] at h;rw[BE.bL _ _ h]
 |.ref r,x,h=>by cases x<;>simp[SV.fT] at h;rw[RE.bL _ _ h]
 |.loc i o,x,h=>by cases x<;>simp[SV.fT] at h;rw[h.1,h.2]
 |.el r w i o,x,h=>by
  cases x<;>simp[SV.fT] at h;obtain⟨⟨⟨X,rfl⟩,W⟩,rfl⟩:=h;rw[RE.bL _ _ X,IE.bL _ _ W]
 |.gM a b c d,x,h=>by
  cases x<;>simp[SV.fT] at h;obtain⟨⟨⟨rfl,rfl⟩,rfl⟩,rfl⟩:=h;rfl
 |.agg l,x,h=>by cases x<;>simp[SV.fT] at h;rw[SV.qU _ _ h]
 |.bK l,x,h=>by cases x<;>simp[SV.fT] at h;rw[SV.qU _ _ h]
 |.fn f l,x,h=>by cases x<;>simp[SV.fT] at h;rw[h.1,SV.qU _ _ h.2]
 |.eP t y,x,h=>by cases x<;>simp[SV.fT] at h;rw[h.1,SV.bL _ _ h.2]
 |.yl n,x,h=>by cases x<;>simp[SV.fT] at h;rw[h]
 |.any,x,h=>by cases x<;>simp[SV.fT] at h;rfl
 |.mp i,x,h=>by cases x<;>simp[SV.fT] at h;rw[h]
 |.eQ e V R,x,h=>by cases x<;>simp[SV.fT] at h;rw[IE.bL _ _ h.1.1,h.1.2,SV.qU _ _ h.2]
def SV.qU:∀(a b:ai),SV.oY a b=J->a=b
 |[],b,h=>by cases b<;>simp[SV.age] at h;rfl
 |x::X,b,h=>by cases b<;>simp[SV.age] at h;rw[SV.bL _ _ h.1,SV.qU _ _ h.2]
end
structure gI(O O':ac)(ni nb nr:Nat):Prop where
 i:∀k,k<ni->O'.i.getD k 0=O.i.getD k 0
 b:∀k,k<nb->O'.b.getD k E=O.b.getD k E
 r:∀k,k<nr->O'.rv k=O.rv k
 y:O'.y=O.y
mutual
def IE.dj{O W:ac}{V R Q:Nat}(X:gI O W V R Q):∀(e:IE),e.bd V R Q=J->e.den W=e.den O
 |.c n,_=>by simp[IE.den]
 |.v k,h=>by simp[IE.ba] at h;simp only[IE.den];exact X.i k h
 |.bin o k a b,h=>by simp[IE.ba] at h;simp only[IE.den,IE.dj X a h.1,IE.dj X b h.2]
 |.conv k a,h=>by simp[IE.ba] at h;simp only[IE.den,IE.dj X a h]
 |.len r,h=>by simp[IE.ba] at h;simp only[IE.den,RE.pT X r h]
 |.mm m a b,h=>by simp[IE.ba] at h;simp only[IE.den,IE.dj X a h.1,IE.dj X b h.2]
 |.cR b x y,h=>by simp[IE.ba] at h;simp only[IE.den,BE.dj X b h.1.1,IE.dj X x h.1.2,IE.dj X y h.2]
 |.cell r i j,h=>by simp[IE.ba] at h;simp only[IE.den,IE.dj X i h.2,RE.pT X r h.1]
 |.mD r i,h=>by simp[IE.ba] at h;simp only[IE.den,RE.pT X r h.1,IE.dj X i h.2]
 |.look r n a b c j,h=>by simp[IE.ba] at h;simp only[IE.den,RE.pT X r h.1.1.1,IE.dj X a h.1.1.2,IE.dj X b h.1.2,IE.dj X c h.2]
def BE.dj{O W:ac}{V R Q:Nat}(X:gI O W V R Q):∀(e:BE),e.bd V R Q=J->e.den W=e.den O
 |.c n,_=>by simp[BE.den]
 |.v k,h=>by simp[BE.ba] at h;simp only[BE.den];exact X.b k h
 |.cmp o a b,h=>by simp[BE.ba] at h;simp only[BE.den,IE.dj X a h.1,IE.dj X b h.2]
 |.not a,h=>by simp[BE.ba] at h;simp only[BE.den,BE.dj X a h]
 |.and a b,h=>by simp[BE.ba] at h;simp only[BE.den,BE.dj X a h.1,BE.dj X b h.2]
 |.beq a b,h=>by simp[BE.ba] at h;simp only[BE.den,BE.dj X a h.1,BE.dj X b h.2]
 |.cR b x y,h=>by simp[BE.ba] at h;simp only[BE.den,BE.dj X b h.1.1,BE.dj X x h.1.2,BE.dj X y h.2]
 |.cell r i j,h=>by simp[BE.ba] at h;simp only[BE.den,IE.dj X i h.2,RE.pT X r h.1]
 |.seq a b,h=>by simp[BE.ba] at h;simp only[BE.den,RE.pT X a h.1,RE.pT X b h.2]
 |.look r n a b c j,h=>by simp[BE.ba] at h;simp only[BE.den,RE.pT X r h.1.1.1,IE.dj X a h.1.1.2,IE.dj X b h.1.2,IE.dj X c h.2]
 |.has r n a b c,h=>by simp[BE.ba] at h;simp only[BE.den,RE.pT X r h.1.1.1,IE.dj X a h.1.1.2,IE.dj X b h.1.2,IE.dj X c h.2]
def RE.pT{O W:ac}{V R Q:Nat}(X:gI O W V R Q):∀(e:RE),e.bd V R Q=J->e.rv W=e.rv O
 |.v k,h=>by simp[RE.ba] at h;simp only[RE.rv,X.r k h]
 |.cell r i j k,h=>by simp[RE.ba] at h;simp only[RE.rv,IE.dj X i h.2,RE.pT X r h.1]
 |.k v,_=>by simp[RE.rv]
end
def RE.dj{O X:ac}{W V R:Nat}(Q:gI O X W V R)(e:RE)(h:e.bd W V R=J):e.den X=e.den O:=by simp only[RE.den,RE.pT Q e h]
mutual
def SV.dj{O R:ac}{V Q:aj}{P N M:Nat}{L:Nat->Bool}(X:gI O R P N M)(W:∀k,L k=J->ad Q k=ad V k):∀(v:SV),v.bd P N M L=J->v.den R Q=v.den O V
 |.int k e,h=>by simp[SV.ba] at h;simp only[SV.den,IE.dj X e h]
 |.bool e,h=>by simp[SV.ba] at h;simp only[SV.den,BE.dj X e h]
 |.ref e,h=>by simp[SV.ba] at h;simp only[SV.den,RE.dj X e h]
 |.loc i o,h=>by simp[SV.ba] at h;simp only[SV.den,W i h]
 |.el r w i o,h=>by simp[SV.ba] at h;simp only[SV.den,RE.dj X r h.1,IE.dj X i h.2]
 |.gM i o l c,h=>by simp[SV.ba] at h;simp only[SV.den,W i h]
 |.agg l,h=>by simp[SV.ba] at h;simp only[SV.den,SV.Io X W l h]
 |.bK l,h=>by simp[SV.ba] at h;simp only[SV.den,SV.Io X W l h]
 |.fn f l,h=>by simp[SV.ba] at h;simp only[SV.den,SV.Io X W l h]
 |.eP t x,h=>by simp[SV.ba] at h;simp only[SV.den,SV.dj X W x h]
 |.yl n,_=>by simp only[SV.den,X.y]
 |.any,_=>by simp[SV.den]
 |.mp i,h=>by simp[SV.ba] at h;simp only[SV.den,W i h]
 |.eQ e G H,h=>by simp[SV.ba] at h;simp only[SV.den,IE.dj X e h.1,SV.Io X W H h.2]
def SV.Io{O X:ac}{V W:aj}{R Q P:Nat}{N:Nat->Bool}(M:gI O X R Q P)(L:∀k,N k=J->ad W k=ad V k):∀(l:ai),SV.db R Q P N l=J->SV.aD X W l=SV.aD O V l
 |[],_=>rfl
 |x::H,h=>by simp[SV.gz] at h;simp only[SV.aD,SV.dj M L x h.1,SV.Io M L H h.2]
end
def uh{W V R:Nat}{Q:Nat->Bool}:∀{l:ai}{i:Nat}{v:SV},SV.db W V R Q l=J->l[i]?=U v->v.bd W V R Q=J
 |[],i,v,_,h=>by simp at h
 |x::P,0,v,X,h=>by simp[SV.gz] at X;simp at h;exact h▸X.1
 |x::P,i+1,v,X,h=>by simp[SV.gz] at X;simp at h;exact uh X.2 h
def i5{b:TypeId×ai}:bX x R=U b<->x[R]?=U (U b):=by
 simp only[cK];cases h:x[R]? with
 |none=>simp
 |some X=>cases X<;>simp
def qV{V R Q:Nat}{P:Nat->Bool}:∀{l:bA}{i:Nat}{v:TypeId×ai},SV.oZ V R Q P l=J->bX l i=U v->SV.db V R Q P v.2=J
 |[],i,v,_,h=>by simp[cK] at h
 |U x::W,0,v,X,h=>by simp[SV.oZ] at X;simp[cK] at h;exact h▸X.1
 |Z::W,0,v,X,h=>by simp[cK] at h
 |U x::W,i+1,v,X,h=>by simp[SV.oZ] at X;exact qV X.2 (by simpa[cK] using h)
 |Z::W,i+1,v,X,h=>by simp[SV.oZ] at X;exact qV X (by simpa[cK] using h)
def gI.refl(O:ac)(X W V:Nat):gI O O X W V:=⟨λ_ _=>rfl,λ_ _=>rfl,λ_ _=>rfl,rfl⟩
def gI.trans{a b c:ac}{W V R:Nat}(h:gI a b W V R)(k:gI b c W V R):gI a c W V R:=
 ⟨λj X=>(k.i j X).trans (h.i j X),λj X=>(k.b j X).trans (h.b j X),λj X=>(k.r j X).trans (h.r j X),k.y.trans h.y⟩
def gI.mono{a b:ac}{X W V R Q P:Nat}(h:gI a b X W V)(N:R<=X)(M:Q<=W)(L:P<=V):gI a b R Q P:=
 ⟨λj O=>h.i j (by omega),λj O=>h.b j (by omega),λj O=>h.r j (by omega),h.y⟩
def Qa(O:ac)(x:XV):gI O (O.add x) (Y O.i) (Y O.b) (Y O.r):=by
 cases x<;>refine⟨λk X=> ?_,λk X=> ?_,λk X=> ?_,rfl⟩<;>simp[ac.add,ac.rv,aDg,X]
def Da:∀(X:aW)(O:ac),gI O (O.ext X) (Y O.i) (Y O.b) (Y O.r)
 |[],O=>gI.refl _ _ _ _
 |x::X,O=>by
  have W:=Qa O x;have V:=Da X (O.add x);exact W.trans (V.mono (by cases x<;>simp[ac.add]) (by cases x<;>simp[ac.add]) (by cases x<;>simp[ac.add]))
mutual
def Qb{O:ac}{V X:aj}(h:ad X=ad V):∀(v:SV),v.den O X=v.den O V
 |.int k e=>by simp only[SV.den]
 |.bool e=>by simp only[SV.den]
 |.ref e=>by simp only[SV.den]
 |.loc i o=>by simp only[SV.den,h]
 |.el r w i o=>by simp only[SV.den]
 |.gM i o l c=>by simp only[SV.den,h]
 |.agg l=>by simp only[SV.den,Mf h l]
 |.bK l=>by simp only[SV.den,Mf h l]
 |.fn f l=>by simp only[SV.den,Mf h l]
 |.eP t x=>by simp only[SV.den,Qb h x]
 |.yl n=>by simp only[SV.den]
 |.any=>by simp only[SV.den]
 |.mp i=>by simp only[SV.den,h]
 |.eQ e R W=>by simp only[SV.den,Mf h W]
def Mf{O:ac}{V X:aj}(h:ad X=ad V):∀(l:ai),SV.aD O X l=SV.aD O V l
 |[]=>rfl
 |x::W=>by simp only[SV.aD,Qb h x,Mf h W]
end
def arC(O:ac)(V:aj)(v:SV):(v.f8 O V).val=v.den O V:=by
 cases v<;>simp[SV.f8,SV.den,RE.den]
def agy(O:ac)(V:aj)(l:ai):(SV.cN O V l).map RV.val=SV.aD O V l:=by
 rw[nJ,SV.cN,aD7];exact aDC λv _=>arC O V v
def qW(h:oU X=E)(O:ac)(V:aj)(l:ai):kC X (SV.cN O V l)=.cells (SV.aD O V l).toArray X (0,0):=by
 have W:=of_decide_eq_false h;unfold kC;rw[if_neg (λe=>W (by rw[e];exact aDm _)),if_neg (λe=>W (by rw[e];decide)),if_neg (λe=>W (by rw[e];decide)),agy]
def xC(h:kA x R=U (X,w)):bX x R=U (X,w)/\oU X=false:=by
 unfold kA at h;split at h;rename_i Q P W;split at h;cases h;rename_i V;cases h;exact⟨W,by simpa using V⟩;cases h
def Mg{X:bA}{j:Nat}(h:bX X j=bX x R):kA X j=kA x R:=by simp[kA,h]
def X9{O X:ac}{V W:aj}{R Q P:Nat}{N:Nat->Bool}(M:gI O X R Q P)(L:∀k,N k=J->ad W k=ad V k)(v:SV)(h:v.bd R Q P N=J):v.f8 X W=v.f8 O V:=by
 have H:=SV.dj M L v h;cases v<;>simp only[SV.f8]<;>try rw[H]
 simp only[SV.ba] at h;exact RE.pT M _ h
def Mh{O X:ac}{V W:aj}{R Q P:Nat}{N:Nat->Bool}(M:gI O X R Q P)(L:∀k,N k=J->ad W k=ad V k):∀(l:ai),SV.db R Q P N l=J->SV.cN X W l=SV.cN O V l
 |[],_=>rfl
 |x::H,h=>by
  simp only[SV.gz,aDc] at h;have:=Mh M L H h.2;simp only[SV.cN,aDt] at this⊢;rw[X9 M L x h.1,this]
def agz{X:aj}(h:ad X=ad y)(l:ai):SV.cN k X l=SV.cN k y l:=by
 refine aDC λv _=> ?_
 have W:=Qb (O:=k) h v;cases v<;>simp only[SV.f8]<;>rw[W]
def Ya(x:Int):∀(X:bh)(W:eJ),gU (jC x X W)=J
 |[],_=>by simp[jC,gU]
 |_::_,[]=>by simp[jC,gU]
 |k::X,v::W=>by
  simp only[jC];split;split;rename_i h;exact h;rfl;exact Ya x X W
def arD{v:Value}(h:gU v=J):v.cells.toList=[v]:=by
 cases v<;>simp[gU] at h<;>rfl
variable{v:TI}{N:SV}
def pf(c:CT):Value:=match c with
 |.int k=>.int k 0
 |.bool=>.bool E
 |.aH z _=>z
def TD.Ok(P:Program)(t:TypeId)(ae:dN):TD->Prop
 |.struct X=>∃F:Array Field,P.underlying t=U (.struct F)/\F.toList.map (λf=>(f.offset,f.type))=X
 |.arr n e=>P.underlying t=U (.array n e)
 |.slice e=>P.underlying t=U (.slice e)
 |.str=>P.underlying t=U .string
 |.one=>∃d,P.underlying t=U d/\((match d with|.struct _|.array _ _|.slice _|.string|.interface _=>False|_=>True)/\∀k,ae=[.aH .nilFunc k]->∃a b c,d=.func a b c)/\(∀k,ae=[.int k]->d=.int k)/\(ae=[.bool]->d=.bool)
 |.eP=>∃m,P.underlying t=U (.interface m)
 |.map k e _ _=>P.underlying t=U (.map k e)
def Bq:Value->Value->Option Bool
 |.int k a,.int X b=>if k=X then U (a==b) else Z
 |.bool a,.bool b=>U (a==b)
 |.string a,.string b=>U (a.toList==b.toList)
 |_,_=>Z
def Br:CT->Value->Prop
 |.int k,.int X _=>k=X
 |.bool,.bool _=>True
 |.aH _ .str,.string _=>True
 |_,_=>False
def jT:dN->eJ->Prop
 |[],[]=>True
 |c::X,v::R=>Br c v/\jT X R
 |_,_=>False
def i6:eJ->eJ->Option Bool
 |[],[]=>U J
 |x::X,y::R=>match Bq x y,i6 X R with
  |U a,U b=>U (a&&b)
  |_,_=>Z
 |_,_=>Z
def fC(X:Bool)(l:bh):Value:=if X then .agg (l.map (Value.int I)).toArray else .int I (l.headD 0)
def vL:Value->bh
 |.int _ x=>[x]
 |.agg X=>X.toList.map aO
 |_=>[]
def mJ(l:bh):List MapEntry->Nat->Option (Nat×Value)
 |[],_=>Z
 |e::X,i=>if vL e.key=l then U (i,e.val) else mJ l X (i+1)
def sq(P:Program)(k:TypeId)(n:Nat)(X:Bool):Prop:=(X=E->n=1)/\∀(l:bh)(R:List MapEntry)(W:World),Y l=n->(∀e∈R,∃Q:bh,Y Q=n/\e.key=fC X Q)->
 (∀b,(Instr.checkKey b 10000 k (fC X l)).run P W=.ok () W)/\(Instr.findKey k (fC X l) R).run P W=.ok (mJ l R 0) W
def Qc:Value->Bool
 |.agg _=>J
 |_=>E
structure dQ(P:Program)(t:TypeId)(ti:TI):Prop where
 Ip:∃i,P.info? t=U i/\i.size=Y ti.ae/\∃z,i.zero=U z/\z.cells.toList=ti.ae.map pf
 desc:ti.d.Ok P t ti.ae
 bytes:∀i,P.info? t=U i->i.bytes<=131072
 eq:ti.eq=J->∀(xs ys:eJ)(r:Bool)(x y:Operand)(w:World),jT ti.ae xs->jT ti.ae ys->i6 xs ys=U r->
  (do eqGuard .eql t x y (.agg xs.toArray) (.agg ys.toArray);binOp .eql t (.agg xs.toArray) (.agg ys.toArray)).run P w=.ok (.bool r) w/\
  (do eqGuard .neq t x y (.agg xs.toArray) (.agg ys.toArray);binOp .neq t (.agg xs.toArray) (.agg ys.toArray)).run P w=.ok (.bool !r) w
 key:∀k e n ag,ti.d=.map k e n ag->sq P k n ag
 agA:∀i z,P.info? t=U i->i.zero=U z->Qc z=ti.d.isAgg
def gY(P:Program)(o:Ty):Prop:=∀t X,o t=U X->dQ P t X
def et(gl:lC)(O:ac):Prop:=∀x∈gl,x.2.1<Y O.r/\∃X R,(O.rv x.2.1).val=.slice (U ⟨x.1,0,Z⟩) X R
section
variable{P:Program}{o:Ty}{gl:lC}{W:World}
def dQ.f9{d:TypeDesc}(h:P.underlying X=U d):(underlying X).run P W=.ok d W:=by simp[underlying,h]
def dQ.ma(h:dQ P X v):(Go.sizeOf X).run P W=.ok (Y v.ae) W:=by
 obtain⟨i,R,Q,_⟩:=h.Ip;simp[Go.sizeOf,typeInfo,R,Q]
def dQ.agB(h:dQ P X v):(isAgg X).run P W=.ok v.d.isAgg W:=by
 have Q:=h.desc;revert Q;cases v.d<;>simp only[TD.Ok,TD.isAgg];rintro⟨d,R,⟨N,-⟩,-,-⟩;cases d<;>simp[isAgg,underlying,R]<;>simp at N;rintro⟨m,R⟩;simp[isAgg,underlying,R];intro R;simp[isAgg,underlying,R];intro R;simp[isAgg,underlying,R];intro R;simp[isAgg,underlying,R];rintro⟨F,R,-⟩;simp[isAgg,underlying,R];intro R;simp[isAgg,underlying,R]
def vM(b X n:Nat):(⟨b,X,Z⟩:Addr).add n=⟨b,X+n,Z⟩:=by
 unfold Addr.add;split;rename_i h;subst h;rfl;rfl
def Yb(h:dQ P X v)(Q:vA v w R=U N):
  (part X (SV.aD k y w).toArray R).run P W=.ok (N.den k y) W:=by
 unfold vA at Q;simp only[part,Sem.run_bind,h.agB,Result.andThen_ok];by_cases M:v.d.isAgg=J;simp only[M,if_true] at Q⊢;split at Q;rename_i H;cases Q;simp only[SV.den,vy,Sem.run_bind,h.ma,Result.andThen_ok,Sem.run_pure];congr 2;apply aEe;simp only[nJ,List.map_take,List.map_drop,Array.toList_extract,List.extract_eq_take_drop];simp;cases Q;have L:v.d.isAgg=false:=by simpa using M
 simp only[L,aDB,if_false] at Q⊢;have:(SV.aD k y w).toArray[R]?=U (N.den k y):=by simp[qS,Q]
 rw[this];rfl
def Qd(h:dQ P X v){O:ac}{V:aj}{b base:Nat}(Q:vA v w R=U N)
  (H:∀j x,w[j]?=U x->W.cell? ⟨b,base+j,Z⟩=U (x.den O V)):
  (Instr.loadAt X (.pointer (U ⟨b,base+R,Z⟩))).run P W=.ok (N.den O V) W:=by
 unfold vA at Q;simp only[Instr.loadAt,Instr.sureAddr,loadVar,Sem.run_bind,Sem.run_pure,Result.andThen_ok,h.agB];by_cases G:v.d.isAgg=J;simp only[G,if_true] at Q⊢;split at Q;rename_i B;cases Q;simp only[Sem.run_bind,h.ma,Result.andThen_ok,SV.den];have F:(SV.aD O V (vy w R (Y v.ae))).length=Y v.ae:=by simp[vy];omega
 have:=run_loadCells_list (P:=P) W ⟨b,base+R,Z⟩ (SV.aD O V (vy w R (Y v.ae))) (λj N M=>by
  rw[qS] at M;cases L:(vy w R (Y v.ae))[j]? with
  |none=>rw[L] at M;cases M
  |some x=>
   rw[L] at M;simp at M;simp only[vy,aDK,aDZ] at L;split at L;rw[vM,<-M,aEW];exact H _ _ L;cases L)
 rw[F] at this;rw[this];simp;cases Q;have C:v.d.isAgg=false:=by simpa using G
 simp only[C,aDB,if_false] at Q⊢;have:=H R N Q;simp[this]
end
section
variable{p:aj}{q:World}{D:bR}{P:Program}{o:Ty}{gl:lC}{V:aj}{O:ac}{s:S}{a:Act}{W:World}
def arE(v:Value):(HN v).den O V=v:=by unfold HN;split<;>simp[SV.den,IE.den,BE.den,RE.den,RE.rv]
def arF(v:Value):(LG v).den O V=v:=by
 unfold LG;split;simp[SV.den,IE.den];simp[SV.den,BE.den];rename_i X;simp only[SV.den,nJ,aD7];congr 1;have:(SV.den O V∘HN)=id:=by funext v;simp[arE]
 rw[this];simp;simp[SV.den,RE.den,RE.rv]
def cJ(R:az p q D o V O s a W)(L:et gl O)(x:Operand)(h:(s.ev gl x).dL=E):a.eval x=(s.ev gl x).den O V:=by
 cases x with
 |tmp t=>
  simp only[S.ev,vx,aDf] at h⊢;cases X:s.tmps[t]? with
  |none=>rw[X] at h;simp[SV.dL] at h
  |some H=>
   rw[X] at h;simp only[aDS] at h⊢;rcases R.tmps t H X with rfl|Q;simp[SV.dL] at h;simp[Act.eval,Q]
 |const v=>simp only[S.ev,Act.eval,arF]
 |global g=>
  simp only[S.ev] at h⊢;split at h;rename_i k w N;obtain⟨Q,F,C,G⟩:=L _ (aEF N);have M:=aFi N;simp only[beq_iff_eq] at M;simp only[SV.den,RE.den,RE.rv,Act.eval,mH,G,IE.den,M];simp;simp[SV.dL] at h
 |func f=>simp[S.ev,Act.eval,SV.den,SV.aD]
def Mi(X:BinOp)(k:IntKind)(x y:IE):(Fb X k x y).den O=ay X k (x.den O) (y.den O):=by unfold Fb;split<;>simp[IE.den]
def Bs(X:BinOp)(x y:IE):(oo X x y).den O=fQ X (x.den O) (y.den O):=by unfold oo;split<;>simp[IE.den,BE.den]
def Mj(x:BE):(CY x).den O= !(x.den O):=by unfold CY;split<;>simp[BE.den]
def Yc(x y:BE):(tZ x y).den O=(x.den O&&y.den O):=by unfold tZ;split<;>simp[BE.den]
def Yd(x y:BE):(LH x y).den O=(x.den O==y.den O):=by unfold LH;split<;>simp[BE.den,Mj]<;>cases BE.den O _<;>simp
def arG(m:Bool)(x y:IE):(PA m x y).den O=if m then max (x.den O) (y.den O) else min (x.den O) (y.den O):=by unfold PA;split<;>simp[IE.den]
def Iq(i n:IE):(t8 i n).den O=J<->0<=i.den O/\i.den O<n.den O:=by
 rw[t8,Yc,Bs,Bs,aDc];exact and_congr decide_eq_true_iff decide_eq_true_iff
def Ye(X:Bool)(k:IntKind):∀(l:ai)(e r:IE),Fc X k e l=U r->
  ((SV.aD O V l).foldlM (if X then Builtin.max2 else Builtin.min2) (.int k (e.den O)):Sem Value).run P W=.ok (.int k (r.den O)) W
 |[],e,r,h=>by simp[Fc] at h;subst h;simp[SV.aD]
 |.int Q x::l,e,r,h=>by
  simp only[Fc] at h;split at h;have R:=Ye X k l (PA X e x) r h;rw[arG] at R;simp only[SV.aD,SV.den,List.foldlM_cons,Sem.run_bind];cases X;simp only[aDB,if_false] at R⊢;simp only[Builtin.min2,Sem.run_pure,Result.andThen_ok];rw[show(if x.den O<e.den O then x.den O else e.den O)=min (e.den O) (x.den O) by omega];exact R;simp only[if_true] at R⊢;simp only[Builtin.max2,Sem.run_pure,Result.andThen_ok];rw[show(if x.den O>e.den O then x.den O else e.den O)=max (e.den O) (x.den O) by omega];exact R;cases h
 |.bool _::_,_,_,h|.ref _::_,_,_,h|.loc _ _::_,_,_,h|.el _ _ _ _::_,_,_,h|.gM _ _ _ _::_,_,_,h|.agg _::_,_,_,h|.bK _::_,_,_,h|.fn _ _::_,_,_,h|.eP _ _::_,_,_,h|.any::_,_,_,h=>by simp[Fc] at h
end
section
variable{V:aj}{O:ac}
def Qe{R Q:Type}{x:Int}{f:R->Q}:∀{W:bh}{X:List R},dH x W (X.map f)=(dH x W X).map f
 |[],X=>by simp[dH]
 |_::_,[]=>by simp[dH]
 |k::W,v::X=>by
  simp only[aDt,dH];split;rfl;exact Qe
def Ir{W:Type}{x:Int}:∀{R:bh}{X:List W}{v:W},dH x R X=U v->v∈X
 |[],X,v,h=>by simp[dH] at h
 |_::_,[],v,h=>by simp[dH] at h
 |k::R,u::X,v,h=>by
  simp only[dH] at h;split at h;cases h;simp;exact aEn _ (Ir h)
def Yf{e:IE}:∀{R:bh}{Q:ai}{y:IE},zk e R Q=U y->∃w,y.den O=w/\(∀v,dH (e.den O) R Q=U v->∃k z,v=.int k z/\w=z.den O)/\(dH (e.den O) R Q=Z->w=0)
 |[],[],y,h=>by simp[zk] at h;subst h;exact⟨0,rfl,λv h=>by simp[dH] at h,λ_=>rfl⟩
 |k::R,v::Q,y,h=>by
  cases v<;>simp only[zk] at h<;>try cases h
  rename_i N x;cases P:zk e R Q with
  |none=>rw[P] at h;cases h
  |some G=>
   rw[P] at h;simp only[aDn,aDh] at h;subst h;obtain⟨w,M,L,H⟩:=Yf P;simp only[IE.den,BE.den,fQ,dH];by_cases W:e.den O=k;refine⟨x.den O,by simp[W],λv X=> ?_,λX=> ?_⟩;rw[if_pos W] at X;cases X;exact⟨N,x,rfl,rfl⟩;rw[if_pos W] at X;cases X;refine⟨w,by simp[W,M],λv X=> ?_,λX=> ?_⟩;rw[if_neg W] at X;exact L v X;rw[if_neg W] at X;exact H X
 |[],_::_,y,h=>by simp[zk] at h
 |_::_,[],y,h=>by simp[zk] at h
def agC{e:IE}:∀{R:bh}{Q:ai}{y:BE},A7 e R Q=U y->∃w,y.den O=w/\(∀v,dH (e.den O) R Q=U v->∃z,v=.bool z/\w=z.den O)/\(dH (e.den O) R Q=Z->w=E)
 |[],[],y,h=>by simp[A7] at h;subst h;exact⟨E,rfl,λv h=>by simp[dH] at h,λ_=>rfl⟩
 |k::R,v::Q,y,h=>by
  cases v<;>simp only[A7] at h<;>try cases h
  rename_i x;cases P:A7 e R Q with
  |none=>rw[P] at h;cases h
  |some H=>
   rw[P] at h;simp only[aDn,aDh] at h;subst h;obtain⟨w,N,M,L⟩:=agC P;simp only[BE.den,IE.den,fQ,dH];by_cases W:e.den O=k;refine⟨x.den O,by simp[W],λv X=> ?_,λX=> ?_⟩;rw[if_pos W] at X;cases X;exact⟨x,rfl,rfl⟩;rw[if_pos W] at X;cases X;refine⟨w,by simp[W,N],λv X=> ?_,λX=> ?_⟩;rw[if_neg W] at X;exact M v X;rw[if_neg W] at X;exact L X
 |[],_::_,y,h=>by simp[A7] at h
 |_::_,[],y,h=>by simp[A7] at h
def agD{x:Int}:∀{ks:bh}{X:ai},X.all HR=J->(∀v,dH x ks X=U v->jC x ks (SV.aD O V X)=v.den O V)/\(dH x ks X=Z->jC x ks (SV.aD O V X)=.nilFunc)
 |[],X,_=>⟨λv h=>by simp[dH] at h,λ_=>by simp[jC]⟩
 |_::_,[],_=>⟨λv h=>by simp[dH] at h,λ_=>by simp[jC,SV.aD]⟩
 |k::ks,u::X,W=>by
  simp only[aFf,aDc] at W;obtain⟨P,N⟩:=agD (ks:=ks) W.2;simp only[dH,SV.aD,jC];by_cases Q:x=k;simp only[Q,if_true];refine⟨λv R=> ?_,λR=>by cases R⟩;cases R;have M:gU (u.den O V)=true:=by
   have:=W.1;unfold HR at this;split at this;rfl;rfl;cases this
  rw[if_pos M];simp only[Q,if_false];exact⟨P,N⟩
def arH{e:IE}{Q:bh}{H:CT}(h:XC e Q w H=U N):(∀v,dH (e.den O) Q w=U v->N.den O V=v.den O V)/\(dH (e.den O) Q w=Z->N.den O V=pf H):=by
 unfold XC at h;split at h;rename_i k;split at h;rename_i M;cases W:zk e Q w with
 |none=>rw[W] at h;cases h
 |some y=>
  rw[W] at h;simp only[aDn,aDh] at h;subst h;obtain⟨x,R,P,L⟩:=Yf (O:=O) W;refine⟨λv X=> ?_,λX=>by simp only[SV.den,R,L X,pf]⟩;obtain⟨G,z,rfl,rfl⟩:=P v X;have:=aDr.1 M _ (Ir X);simp at this;subst this;simp only[SV.den,R]
 cases h;cases W:A7 e Q w with
 |none=>rw[W] at h;cases h
 |some y=>
  rw[W] at h;simp only[aDn,aDh] at h;subst h;obtain⟨x,R,P,L⟩:=agC (O:=O) W;refine⟨λv X=> ?_,λX=>by simp only[SV.den,R,L X,pf]⟩;obtain⟨z,rfl,rfl⟩:=P v X;simp only[SV.den,R]
 split at h;rename_i M;simp only[aDc] at M;cases h;obtain⟨R,P⟩:=agD (O:=O) (V:=V) (x:=e.den O) (ks:=Q) M.1;exact⟨λv X=>by simp only[SV.den];exact R v X,λX=>by simp only[SV.den,pf];exact P X⟩;cases h;cases h
def Qf{e:IE}{Q:bh}{P:tW}:∀{ae:dN}{j:Nat}{l:ai},A9 e Q P j ae=U l->
  Y l=Y ae/\(∀X,dH (e.den O) Q P=U X->Y X=j+Y ae->SV.aD O V l=SV.aD O V (X.drop j))/\(dH (e.den O) Q P=Z->SV.aD O V l=ae.map pf)
 |[],j,l,h=>by
  simp[A9] at h;subst h;exact⟨rfl,λX _ R=>by rw[aFL (by simp at R;omega)],λ_=>rfl⟩
 |c::ae,j,l,h=>by
  simp only[A9] at h;split at h;rename_i v r H G;cases h;obtain⟨F,D,C⟩:=Qf G;obtain⟨N,M⟩:=arH (O:=O) (V:=V) H;rw[Qe] at N M;refine⟨by simp[F],λX W R=> ?_,λW=> ?_⟩;have L:j<Y X:=by simp at R;omega
  rw[aEf L];simp only[SV.aD];rw[D X W (by simp at R⊢;omega),N _ (by rw[W];rfl)];simp[aDf,L];simp only[SV.aD,aDt];rw[C W,M (by rw[W];rfl)];cases h
def Qg{e:IE}:∀{X:bh}{W:Type}{R:List W},Y X=Y R->(Fh e X).den O=(dH (e.den O) X R).isSome
 |[],W,R,h=>by simp[Fh,BE.den,dH]
 |k::X,W,[],h=>by simp at h
 |k::X,W,v::R,h=>by
  simp only[Fh,BE.den,IE.den,fQ,dH];by_cases Q:e.den O=k;simp[Q];simp only[Q,if_false,beq_iff_eq];exact Qg (by simpa using h)
def Qh(W:∀r:RE,r.E9=J->gU (r.den O)=J)(h:zl v N=J):N.den O V=if v.d.isAgg then .agg (SV.aD O V N.cells).toArray else(SV.aD O V N.cells).headD undef:=by
 simp only[zl,aDc] at h;obtain⟨⟨-,R⟩,X⟩:=h;cases N<;>simp only[aDv] at X<;>rw[X]<;>rfl
def Bt(h:t=E->Y w=1):(qK t w).den O V=if t then .agg (SV.aD O V w).toArray else(SV.aD O V w).headD undef:=by
 cases t;obtain⟨x,rfl⟩:=aDJ.1 (h rfl);rfl;rfl
def Qi{x:Int}:∀{W:bh}{X:ai}{v:SV},dH x W X=U v->gU (v.den O V)=J->jC x W (SV.aD O V X)=v.den O V
 |[],X,v,h,_=>by simp[dH] at h
 |_::_,[],v,h,_=>by simp[dH] at h
 |k::W,u::X,v,h,Q=>by
  simp only[dH] at h;simp only[SV.aD,jC];split at h;rename_i R;cases h;rw[if_pos R,if_pos Q];rename_i R;rw[if_neg R];exact Qi h Q
def arI(h:zl v N=J):(v.d.isAgg=E->Y v.ae=1)/\Y N.cells=Y v.ae:=by
 simp only[zl,aDc,beq_iff_eq] at h;obtain⟨⟨X,Q⟩,W⟩:=h;refine⟨λR=> ?_,X⟩;cases N<;>simp only[SV.cells,aE1] at X<;>first|exact X.symm|(rw[R] at W;cases W)
def agE(M:∀r:RE,r.E9=J->gU (r.den O)=J){e:IE}{X:bh}{p:SV}(h:PE v e X w=U N)(R:dH (e.den O) X w=U p):N.den O V=p.den O V:=by
 unfold PE at h;split at h;rename_i L;cases W:A9 e X (w.map SV.cells) 0 v.ae with
 |none=>rw[W] at h;cases h
 |some l=>
  rw[W] at h;cases h;obtain⟨H,G,-⟩:=Qf (O:=O) (V:=V) W;have F:=Ir R;have Q:=aDr.1 L p F;obtain⟨D,C⟩:=arI Q;have P:=G p.cells (by rw[Qe,R];rfl) (by rw[C,aDM]);rw[aGz] at P;rw[Bt (λB=>by rw[H];exact D B),Qh M Q,P]
 cases h
def agF{X:Type}{x:Int}{f:Nat->X}(L:0<=x)(H:x<(R:Int)):dH x (Ba R) ((aDA R).map f)=U (f x.toNat):=by
 unfold Ba;have W:∀(m k:Nat),(k:Int)<=x->x<((k+m:Nat):Int)->dH x ((aEC k m).map λi:Nat=>(i:Int)) ((aEC k m).map f)=U (f x.toNat):=by
  intro m;induction m with
  |zero=>intro k Q P;omega
  |succ m N=>
   intro k Q P;simp only[aFs,aDt,dH];split;rename_i M;subst M;simp;exact N (k+1) (by omega) (by omega)
 rw[aE9];exact W R 0 (by omega) (by omega)
def Yg{R L:Type}{f:R->Option L}{x:Int}:∀{Q:bh}{vs:List R}{W:List L}{v:R},CZ (vs.map f)=U W->dH x Q vs=U v->∃p,f v=U p/\dH x Q W=U p
 |[],vs,W,v,_,h=>by simp[dH] at h
 |_::_,[],W,v,_,h=>by simp[dH] at h
 |k::Q,u::vs,W,v,X,h=>by
  simp only[aDt] at X;cases P:f u with
  |none=>rw[P] at X;cases X
  |some p=>
   rw[P] at X;simp only[CZ] at X;cases N:CZ (vs.map f) with
   |none=>rw[N] at X;cases X
   |some H=>
    rw[N] at X;simp only[aDn,aDh] at X;subst X;simp only[dH] at h⊢;split at h;rename_i M;cases h;rw[if_pos M];exact⟨p,P,rfl⟩;rename_i M;rw[if_neg M];exact Yg N h
def agG(h:xl w=U R)(W:N∈w):∃X,N=.loc R X:=by
 unfold xl at h;split at h;rename_i j o r;split at h;rename_i Q;cases h;have:=aDr.1 Q N W;split at this;rename_i P X;simp only[beq_iff_eq] at this;subst this;exact⟨X,rfl⟩;cases this;cases h;cases h
end
variable{n:Ty}{F:RK}{L:RV}
def PR.gives(O:ac)(v:SV):PR->Prop
 |.ok x=>v=x
 |.aV b x=>b.den O=J/\v=x
 |_=>False
def agH(h:bz Q n F L):cT F L=L:=by
 cases h with
 |sl e A M H X=>rfl
 |str s=>rfl
 |aH L R=>simp[cT,R]
 |own e N h G=>cases h;rfl
 |dead N h=>simp[cT,h]
 |mr C X=>rfl
def agI(k:RK):bz Q n k (cT k default):=by
 cases k with
 |sl e=>
  refine bz.sl e Z 0 0 [] rfl (aDm _) ?_ ?_ ?_ ?_<;>(intro i;intros;rename_i h;simp at*)
 |str=>exact bz.str _
 |aH=>exact bz.aH _ rfl
 |own e=>
  refine bz.own e _ (bz.sl e Z 0 0 [] rfl (aDm _) ?_ ?_ ?_ ?_) (λl c h=>by cases h;rfl)<;>(intro i;intros;rename_i h;simp at*)
 |dead=>exact bz.dead _ rfl
 |mr X=>
  refine bz.mr X [] ?_ ?_ ?_ ?_<;>(intro i;intros;rename_i h;simp at*)
def arJ(k:RK)(v:RV):gU (cT k v).val=true:=by
 cases k;simp only[cT];split;rename_i h;rw[h];rfl;rfl;simp only[cT];split<;>rfl;simp only[cT];split;rename_i h;exact h;rfl;simp only[cT];split;rename_i h;rw[h];rfl;rfl;simp only[cT];split;rename_i h;exact h;rfl;simp only[cT];split;rename_i h;rw[h];rfl;rfl
def Is(h:bz Q n F L):gU L.val=true:=by
 cases h with
 |sl e A M H X=>rfl
 |str s=>rfl
 |aH L R=>exact R
 |own e N h G=>cases h;rfl
 |dead N h=>exact h
 |mr C X=>rfl
def agJ(h:bz Q n F L):bz Q n F.rd L:=by
 cases h with
 |own e w h u=>exact h
 |sl e A G C X R N M H B z=>exact bz.sl e A G C X R N M H B z
 |str s=>exact bz.str s
 |aH L y=>exact bz.aH L y
 |dead _ h=>exact bz.dead _ h
 |mr x X R N M H=>exact bz.mr x X R N M H
def arK(h:bz Q n (.sl X) L)(i:Int)(j:Nat)(k:RK)(N:Fe (bw n (.sl X))[j]?=k):bz Q n k (cT k (cellAt L.rows i j)):=by
 cases h with
 |sl X A q p y o m x w u t=>
  simp only[RV.lj,cellAt];cases M:y[i.toNat]? with
  |none=>simp only[aDf,M,aFN,List.getElem?_nil];exact agI k
  |some H=>
   simp only[aDf,M,aDS];cases F:H[j]? with
   |none=>simp only[aFN];exact agI k
   |some c=>
    simp only[aDS];have l:j<(bw n (.sl X)).length:=by
     have:=(x _ H M).1;have:=(aDd.1 F).1;omega
    cases G:(bw n (.sl X))[j]? with
    |none=>rw[aD2] at G;omega
    |some r=>
     rw[G] at N;cases r with
     |int C=>
      simp only[Fe] at N;subst N;obtain⟨R,B⟩:=w _ _ H c C M F G;simp only[cT,B,gU,if_true];exact bz.aH _ rfl
     |bool=>
      simp only[Fe] at N;subst N;obtain⟨R,B⟩:=u _ _ H c M F G;simp only[cT,B,gU,if_true];exact bz.aH _ rfl
     |aH z C=>
      simp only[Fe] at N;subst N;have:=t _ _ H c z C M F G;rw[agH this];exact this
section
variable{g:aj}{m:World}{D:bR}{P:Program}{ty:Ty}{B:lC}{V:aj}{O:ac}{s:S}{a:Act}{W:World}
def Yh(X:az g m D ty V O s a W)(h:s.rs[R]?=U F):bz W ty F (O.rv R):=by
 have Q:R<Y O.r:=by rw[X.er];exact(aDd.1 h).1
 have:=(X.mem.ref R F O.r[R] h (aDe Q)).1;simpa[ac.rv,Q] using this
def pU(R:az g m D ty V O s a W):∀{r:RE}{e:RK},e≠ .aH->r.kind ty s=e->bz W ty e (r.rv O)
 |.v k,e,X,h=>by
  simp only[RE.kind,aDf] at h;cases Q:s.rs[k]? with
  |none=>rw[Q] at h;exact absurd (show e=.aH from h.symm) X
  |some q=>rw[Q] at h;simp at h;subst h;exact agJ (Yh R Q)
 |.cell r i j L,e,X,h=>by
  simp only[RE.kind] at h;split at h;rename_i H N;split at h;rename_i M;subst h;exact arK (pU R (by simp) N) (i.den O) j _ M;exact absurd h.symm X;exact absurd h.symm X
 |.k v,e,X,h=>by
  cases v<;>simp only[RE.kind] at h
  case string s=>subst h;exact bz.str s
  all_goals exact absurd h.symm X
def Ml(R:az g m D ty V O s a W){r:RE}(h:r.kind ty s=.sl X):∃x l c,r.den O=.slice x l c:=by
 have:=pU R (by simp) h;unfold RE.den;revert this;generalize r.rv O=v;intro Q;cases Q with
 |sl X A N M L=>exact⟨A,N,M,rfl⟩
def Db(R:az g m D ty V O s a W){r:RE}(h:r.kind ty s=.str):∃x,r.den O=.string x:=by
 have:=pU R (by simp) h;unfold RE.den;revert this;generalize r.rv O=v;intro X;cases X with
 |str s=>exact⟨s,rfl⟩
def arL(R:az g m D ty V O s a W){c:CT}{y:SV}{e:BE}(h:HO ty s c N y=U e):Br c (N.den O V)/\Br c (y.den O V)/\Bq (N.den O V) (y.den O V)=U (e.den O):=by
 unfold HO at h;split at h;split at h;rename_i X;obtain⟨rfl,rfl⟩:=X;cases h;exact⟨rfl,rfl,by simp[SV.den,Bq,Bs,fQ]⟩;cases h;cases h;exact⟨trivial,trivial,by simp[SV.den,Bq,Yd]⟩;split at h;rename_i X;cases h;obtain⟨p,Q⟩:=Db R X.1;obtain⟨q,M⟩:=Db R X.2;simp only[SV.den,Q,M];unfold RE.den at Q M;exact⟨trivial,trivial,by simp[Bq,BE.den,Q,M,ue]⟩;cases h;cases h
def agK(R:az g m D ty V O s a W):∀{X:dN}{x y:ai}{e:BE},pO ty s X x y=U e->jT X (SV.aD O V x)/\jT X (SV.aD O V y)/\i6 (SV.aD O V x) (SV.aD O V y)=U (e.den O)
 |[],[],[],e,h=>by simp[pO] at h;subst h;exact⟨trivial,trivial,by simp[SV.aD,i6,BE.den]⟩
 |c::X,x::B,y::A,e,h=>by
  simp only[pO] at h;split at h;rename_i a b Q N;cases h;obtain⟨M,L,H⟩:=arL R Q;obtain⟨G,F,C⟩:=agK R N;exact⟨⟨M,G⟩,⟨L,F⟩,by simp only[SV.aD,i6,H,C,Yc]⟩;cases h
 |[],[],_::_,e,h=>by simp[pO] at h
 |[],_::_,_,e,h=>by simp[pO] at h
 |_::_,[],_,e,h=>by simp[pO] at h
 |_::_,_::_,[],e,h=>by simp[pO] at h
def agL(R:az g m D ty V O s a W){X:fj}{y:ai}{e:BE}(h:HQ ty s X w y=U e):∃ae d,X=U ⟨d,ae,J⟩/\jT ae (SV.aD O V w)/\jT ae (SV.aD O V y)/\i6 (SV.aD O V w) (SV.aD O V y)=U (e.den O):=by
 unfold HQ at h;split at h;exact⟨_,_,rfl,agK R h⟩;cases h
def agM(C:bz W ty (.sl X) L)(i:Int)(m:0<=i)(B:i<lenOf L.val):
  ∃Q b N,L.rows[i.toNat]?=U Q/\Y Q=(bw ty (.sl X)).length/\(∃l c,L.val=.slice (U ⟨b,N,Z⟩) l c)/\(∀(j:Nat)(c:RV),Q[j]?=U c->W.cell? ⟨b,N+i.toNat*(bw ty (.sl X)).length+j,Z⟩=U c.val)/\
   (∀(j:Nat)(c:RV)(M:CT),Q[j]?=U c->(bw ty (.sl X))[j]?=U M->match M with
    |.int k=>∃n,c.val=.int k n
    |.bool=>∃x,c.val=.bool x
    |.aH _ k=>bz W ty k c):=by
 cases C with
 |sl X A y w H h g v u t r=>
  simp only[RV.lg,lenOf] at B;have q:i.toNat<Y H:=by omega
  have R:H[i.toNat]?=U H[i.toNat]:=aDe q;obtain⟨p,b,N,rfl,f,o⟩:=v i.toNat _ R;refine⟨H[i.toNat],b,N,R,p,⟨y,w,rfl⟩,o,λj c M G F=> ?_⟩;cases M with
  |int k=>exact u _ j _ c k R G F
  |bool=>exact t _ j _ c R G F
  |aH z k=>exact r _ j _ c z k R G F
def arM{r:RE}{i:IE}{M:aF}{j:Nat}{X:CT}(H:(r.rv O).rows[(i.den O).toNat]?=U M)(G:M[j]?=U L)(R:match X with
    |.int k=>∃n,L.val=.int k n
    |.bool=>∃y,L.val=.bool y
    |.aH _ k=>bz W ty k L):
  (CW r i j X).den O V=L.val:=by
 have Q:cellAt (r.rv O).rows (i.den O) j=L:=by simp[cellAt,H,G]
 cases X with
 |int F=>obtain⟨n,N⟩:=R;simp[CW,SV.den,IE.den,Q,aO,N]
 |bool=>obtain⟨n,N⟩:=R;simp[CW,SV.den,BE.den,Q,fm,N]
 |aH z e=>simp only[CW,SV.den,RE.den,RE.rv,Q];rw[agH R]
def ui(R:az g m D ty V O s a W):∀(r:RE),r.E9=J->gU (r.den O)=J
 |.v k,_=>by
  simp only[RE.den,RE.rv];by_cases X:k<Y s.rs;exact Is (Yh R (aDe X));have:O.rv k=default:=by
   have:=R.er;simp[ac.rv,show¬k<Y O.r by omega]
  rw[this];rfl
 |.cell r i j k,_=>arJ k _
 |.k w,h=>h
def arN(R:az g m D ty V O s a W)(f:gY P ty)(hg:et B O)(C:H.op=.load X r)(hk:(s.ev B r).dL=E)
  (h:(bO ty B s (.load X r)).gives O N):(execOp a.eval H).run P W=.ok (.value (N.den O V)) W:=by
 have he:=cJ R hg r hk;simp only[execOp,C,Sem.run_bind,he];simp only[bO] at h;split at h;rename_i d i A p n;rw[n];split at h;rename_i tt k M;split at h;rename_i w L;cases h;have:=Qd (P:=P) (W:=W) (f _ _ p) (O:=O) (V:=V) (b:=ad V i) (base:=0) L (λj y hy=>by
  obtain⟨M,C⟩:=xC M;have:=R.mem.box i tt k M;rw[qW C] at this;simp[World.cell?,this,qS,hy])
 simp only[aDM] at this;simp only[SV.den,this,Result.andThen_ok,Sem.run_pure];exact h.elim;exact h.elim;rename_i d Q w i A p n;rw[n];split at h;rename_i e a3;split at h;exact h.elim;rename_i hw;split at h;rename_i y L;obtain⟨M,rfl⟩:=h;rw[Iq] at M;simp only[IE.den] at M;have hh:=pU R (by simp) a3;have a4:w=(bw ty (.sl e)).length:=by simpa using Eq.symm (by simpa using hw:(bw ty (.sl e)).length=w)
 obtain⟨ab,b,an,h1,bb,⟨l,c,h3⟩,h4,h5⟩:=agM hh (i.den O) M.1 M.2;have:=Qd (P:=P) (W:=W) (f _ _ p) (O:=O) (V:=V) (b:=b) (base:=an+(i.den O).toNat*w) L (λj z F=>by
  simp only[aDj] at F;cases hj:(aDA w)[j]? with
  |none=>rw[hj] at F;cases F
  |some G=>
   have a5:j<w/\G=j:=by
    have:=aDd.1 hj;obtain⟨q1,q2⟩:=this;simp at q1 q2;exact⟨q1,q2.symm⟩
   obtain⟨bd,rfl⟩:=a5;rw[hj] at F;simp only[aDn,aDh] at F;have a6:(bw ty (.sl e))[G]?=U ((bw ty (.sl e)).getD G .bool):=by
    rw[aDf,aDe (by omega)];rfl
   have a7:G<Y ab:=by omega
   have af:ab[G]?=U ab[G]:=aDe a7;rw[<-F,arM (W:=W) (ty:=ty) h1 af (h5 G _ _ af a6)];rw[a4];exact h4 G _ af)
 have hA:mH (RE.den O Q) ((i.den O).toNat*w+A)=⟨b,an+(i.den O).toNat*w+A,Z⟩:=by
  simp only[RE.den,h3,mH,aEW]
 simp only[SV.den,hA,this,Result.andThen_ok,Sem.run_pure];exact h.elim;exact h.elim;rename_i d e ks vs p n;rw[n];split at h;rename_i tt k M;split at h;rename_i w L;split at h;rename_i ap;obtain⟨a0,rfl⟩:=h;simp only[beq_iff_eq] at ap;cases ag:xl vs with
 |none=>rw[ag] at M;cases M
 |some i=>
  rw[ag] at M;simp only[aFt] at M;rw[Qg ap] at a0;obtain⟨u,hu⟩:=aDw.1 a0;obtain⟨A,rfl⟩:=agG ag (Ir hu);cases al:CZ (vs.map (XF d k)) with
  |none=>rw[al] at L;cases L
  |some ps=>
   rw[al] at L;simp only[aFt] at L;obtain⟨q,a1,a8⟩:=Yg al hu;simp only[XF] at a1;have a2:=Qd (P:=P) (W:=W) (f _ _ p) (O:=O) (V:=V) (b:=ad V i) (base:=0) a1 (λj y hy=>by
    obtain⟨M,C⟩:=xC M;have:=R.mem.box i tt k M;rw[qW C] at this;simp[World.cell?,this,qS,hy])
   simp only[aDM] at a2;have a9:(SV.eQ e ks vs).den O V=.pointer (U ⟨ad V i,A,Z⟩):=by
    simp only[SV.den];rw[Qi hu rfl];rfl
   rw[a9,agE (ui R) L a8];simp only[a2,Result.andThen_ok,Sem.run_pure]
 exact h.elim;exact h.elim;exact h.elim;exact h.elim
def arO(Q:az g m D ty V O s a W)(c:gY P ty)(hg:et B O)(ho:H.op=.fieldAddr X r R)(hk:(s.ev B r).dL=E)
  (h:(bO ty B s (.fieldAddr X r R)).gives O N):(execOp a.eval H).run P W=.ok (.value (N.den O V)) W:=by
 have he:=cJ Q hg r hk;have ab:∀(G:List (Nat×TypeId))(ae:dN)(q:Bool)(z:Nat)(u:TypeId)(L:TI)(A:Addr),ty X=U ⟨.struct G,ae,q⟩->G[R]?=U (z,u)->ty u=U L->(Y L.ae==0)=E->A.spot=Z->
   (Instr.fieldAt X (.pointer (U A)) R).run P W=.ok (.pointer (U ⟨A.block,A.off+z,Z⟩)) W:=by
  intro G ae q z u L A h1 y h3 h4 h5;obtain⟨F,hF,af⟩:=(c _ _ h1).desc;rw[<-af,aDj] at y;cases C:F.toList[R]? with
  |none=>rw[C] at y;cases y
  |some fd=>
   rw[C] at y;simp only[aDn,aDh,aEX] at y;obtain⟨rfl,rfl⟩:=y;have ag:F[R]?=U fd:=by simpa using C
   have al:¬Y L.ae=0:=by simpa using h4
   obtain⟨b,of,sp⟩:=A;simp only at h5;subst h5;simp only[Instr.fieldAt,Instr.sureAddr,fieldPlace,Sem.run_bind,dQ.f9 hF,Result.andThen_ok,ag,Sem.run_pure,(c _ _ h3).ma,if_neg al,Sem.run_ite,vM]
 simp only[execOp,ho,Sem.run_bind,he];simp only[bO] at h;split at h;rename_i G ae q i z p l;rw[l];split at h;rename_i k j C;split at h;rename_i L e;split at h;exact h.elim;rename_i d;cases h;simp only[SV.den,ab G ae q k j L ⟨ad V i,z,Z⟩ p C e (by simpa using d) rfl,Result.andThen_ok,Sem.run_pure];exact h.elim;exact h.elim;rename_i G ae q M w i z p l;rw[l];split at h;rename_i k j C;split at h;rename_i L e;split at h;exact h.elim;rename_i d;cases h;have an:∀N n,(mH N n).spot=none:=by intro N n;unfold mH;split<;>rfl
 simp only[SV.den,ab G ae q k j L _ p C e (by simpa using d) (an _ _),Result.andThen_ok,Sem.run_pure];congr 4;unfold mH;split;simp only[Addr.mk.injEq,and_true,true_and];omega;simp only[Addr.mk.injEq,and_true,true_and];omega;exact h.elim;exact h.elim;exact h.elim
end
section
variable{C:aj}{G:World}{D:bR}{P:Program}{u:Ty}{B:lC}{V:aj}{O:ac}{s:S}{a:Act}{W:World}
def arP(Q:az C G D u V O s a W)(A:gY P u)(z:et B O)(w:H.op=.field X r R)(p:(s.ev B r).dL=E)
  (h:(bO u B s (.field X r R)).gives O N):(execOp a.eval H).run P W=.ok (.value (N.den O V)) W:=by
 have n:=cJ Q z r p;simp only[execOp,w,Sem.run_bind,n];simp only[bO] at h;split at h;rename_i b ae q l m k;rw[k];split at h;rename_i o' t' M;split at h;rename_i ti j;split at h;rename_i y i;cases h;obtain⟨F,g,e⟩:=(A _ _ m).desc;rw[<-e,aDj] at M;cases L:F.toList[R]? with
 |none=>rw[L] at M;cases M
 |some d=>
  rw[L] at M;simp only[aDn,aDh,aEX] at M;obtain⟨rfl,rfl⟩:=M;have c:F[R]?=U d:=by simpa using L
  simp only[SV.den,Instr.field,Sem.run_bind,dQ.f9 g,Result.andThen_ok,c,asAgg,Sem.run_pure,Yb (A _ _ j) i]
 exact h.elim;exact h.elim;exact h.elim;exact h.elim
def arQ(R:az C G D u V O s a W)(af:gY P u)(hg:et B O){y:Operand}(ho:H.op=.indexAddr X r y)(hk:(s.ev B r).dL=E)(ap:(s.ev B y).dL=E)
  (h:(bO u B s (.indexAddr X r y)).gives O N):(execOp a.eval H).run P W=.ok (.value (N.den O V)) W:=by
 have he:=cJ R hg r hk;have a0:=cJ R hg y ap;have ag:∀(n:Nat)(e:TypeId)(ae:dN)(q:Bool)(L:TI)(A:Addr)(k:IntKind)(m:Int),u X=U ⟨.arr n e,ae,q⟩->u e=U L->0<=m->m<n->A.spot=Z->
   (Instr.indexAt X (.pointer (U A)) (.int k m)).run P W=.ok (.pointer (U ⟨A.block,A.off+m.toNat*Y L.ae,Z⟩)) W:=by
  intro n e ae q L A k m h1 h2 h3 h4 h5;have hd:P.underlying X=U (.array n e):=(af _ _ h1).desc;obtain⟨b,of,sp⟩:=A;simp only at h5;subst h5;simp only[Instr.indexAt,asIntOf,Sem.run_bind,Sem.run_pure,Result.andThen_ok,dQ.f9 hd,Instr.sureAddr,h3,h4,and_self,if_true,(af _ _ h2).ma,vM]
 simp only[execOp,ho,Sem.run_bind,he,a0];simp only[bO] at h;split at h;rename_i n e ae q i ab k m z f d;rw[f,d];split at h;rename_i L g;split at h;rename_i F;cases h;simp only[aDc,decide_eq_true_eq] at F;simp only[SV.den,IE.den,ag n e ae q L ⟨ad V i,ab,Z⟩ k m z g F.1 F.2 rfl,Result.andThen_ok,Sem.run_pure];exact h.elim;exact h.elim;rename_i n e ae q Q w i ab k m z f d;rw[f,d];have al:∀N n,(mH N n).spot=none:=by intro N n;unfold mH;split<;>rfl
 have an:∀(N:Value)(p q:Nat),(⟨(mH N p).block,(mH N p).off+q,Z⟩:Addr)=mH N (p+q):=by intro N p q;unfold mH;split<;>simp[aEW]
 split at h;rename_i L g;split at h;rename_i hc;obtain⟨M,rfl⟩:=h;rw[Iq] at M;simp only[aDc,beq_iff_eq] at hc;obtain⟨⟨⟨h1,h2⟩,h3⟩,-⟩:=hc;subst h1 h2 h3;simp only[IE.den] at M;simp only[SV.den,ag n e ae q L _ k (m.den O) z g M.1 M.2 (al _ _),Result.andThen_ok,Sem.run_pure,an];simp[IE.den];split at h;rename_i m;split at h;rename_i F;cases h;simp only[aDc,decide_eq_true_eq] at F;simp only[SV.den,IE.den,ag n e ae q L _ k m z g F.1 F.2 (al _ _),Result.andThen_ok,Sem.run_pure,an,aEW];exact h.elim;exact h.elim;exact h.elim;rename_i n e ae q Q w i ab k m a3 z f d;rw[f,d];have al:∀N n,(mH N n).spot=none:=by intro N n;unfold mH;split<;>rfl
 have an:∀(N:Value)(p q:Nat),(⟨(mH N p).block,(mH N p).off+q,Z⟩:Addr)=mH N (p+q):=by intro N p q;unfold mH;split<;>simp[aEW]
 split at h;rename_i L g;split at h;rename_i F;cases h;simp only[aDc,decide_eq_true_eq] at F;simp only[SV.den,IE.den,ag n e ae q L _ k m z g F.1 F.2 (al _ _),Result.andThen_ok,Sem.run_pure,an,aEW];exact h.elim;exact h.elim;rename_i e ae q Q k m z f d;rw[f,d];split at h;rename_i L e' g a1;obtain⟨M,rfl⟩:=h;rw[Iq] at M;simp only[IE.den] at M;have hh:=agM (pU R (by simp) a1) (m.den O) M.1 M.2;obtain⟨a4,b,ab,-,-,⟨l,c,hv⟩,-⟩:=hh;have hd:P.underlying X=U (.slice e):=(af _ _ z).desc;rw[hv] at M;simp only[lenOf] at M;simp only[SV.den,RE.den,hv,Instr.indexAt,asIntOf,Sem.run_bind,Sem.run_pure,Result.andThen_ok,dQ.f9 hd,M.1,M.2,and_self,if_true,(af _ _ g).ma,vM,mH,aEA];exact h.elim;rename_i e ae q i ab a5 a6 k m z f d;rw[f,d];split at h;rename_i L g;split at h;rename_i F;cases h;simp only[aDc,decide_eq_true_eq] at F;have hd:P.underlying X=U (.slice e):=(af _ _ z).desc;simp only[SV.den,IE.den,Instr.indexAt,asIntOf,Sem.run_bind,Sem.run_pure,Result.andThen_ok,dQ.f9 hd,F.1,F.2,and_self,if_true,(af _ _ g).ma,vM];exact h.elim;exact h.elim;rename_i n e ae q i ab k m a7 z f d;rw[f,d];split at h;rename_i L g;obtain⟨M,rfl⟩:=h;rw[Iq] at M;simp only[IE.den] at M;have a2:(SV.eQ m (Ba n) ((aDA n).map λj=>SV.loc i (ab+j*Y L.ae))).den O V=.pointer (U ⟨ad V i,ab+(m.den O).toNat*Y L.ae,Z⟩):=by
  simp only[SV.den];rw[Qi (agF M.1 M.2) rfl];rfl
 rw[a2];simp only[SV.den,ag n e ae q L ⟨ad V i,ab,Z⟩ k (m.den O) z g M.1 M.2 rfl,Result.andThen_ok,Sem.run_pure];exact h.elim;exact h.elim
def arR(R:az C G D u V O s a W)(L:gY P u)(hg:et B O){y:Operand}(ho:H.op=.index X r y)(hk:(s.ev B r).dL=E)(al:(s.ev B y).dL=E)
  (h:(bO u B s (.index X r y)).gives O N):(execOp a.eval H).run P W=.ok (.value (N.den O V)) W:=by
 have he:=cJ R hg r hk;have an:=cJ R hg y al;simp only[execOp,ho,Sem.run_bind,he,an];simp only[bO] at h;split at h;rename_i n e ae q l k m F A w;rw[A,w];split at h;rename_i c i;split at h;rename_i b;split at h;rename_i z hp;cases h;simp only[aDc,decide_eq_true_eq] at b;have g:P.underlying X=U (.array n e):=(L _ _ F).desc;simp only[SV.den,IE.den,Instr.index,asIntOf,Sem.run_bind,Sem.run_pure,Result.andThen_ok,dQ.f9 g,b.1,b.2,and_self,if_true,(L _ _ i).ma,Yb (L _ _ i) hp];exact h.elim;exact h.elim;exact h.elim;rename_i n e ae q l k m a3 F A w;rw[A,w];split at h;rename_i c i;split at h;rename_i z d;obtain⟨M,rfl⟩:=h;rw[Iq] at M;simp only[IE.den] at M;cases ab:CZ ((aDA n).map λj=>vA c l (j*Y c.ae)) with
 |none=>rw[ab] at d;cases d
 |some ps=>
  rw[ab] at d;simp only[aFt] at d;obtain⟨p,ap,a0⟩:=Yg (vs:=aDA n) ab (by have:=agF (f:=λj=>j) M.1 M.2;simpa using this);have g:P.underlying X=U (.array n e):=(L _ _ F).desc;rw[agE (ui R) d a0];simp only[SV.den,Instr.index,asIntOf,Sem.run_bind,Sem.run_pure,Result.andThen_ok,dQ.f9 g,M.1,M.2,and_self,if_true,(L _ _ i).ma,Yb (L _ _ i) ap]
 exact h.elim;exact h.elim;rename_i ae q Q k m F A w;rw[A,w];split at h;rename_i a1;obtain⟨M,rfl⟩:=h;rw[Iq] at M;obtain⟨af,ag⟩:=Db R a1;unfold RE.den at ag;have g:P.underlying X=U .string:=(L _ _ F).desc;simp only[IE.den,ag,lenOf] at M;have a2:(m.den O).toNat<af.size:=by omega
 simp only[SV.den,RE.den,ag,IE.den,Instr.index,asIntOf,Sem.run_bind,Sem.run_pure,Result.andThen_ok,dQ.f9 g,M.1,if_true,C9];have:af[(m.den O).toNat]?=U af[(m.den O).toNat]:=by simp[a2]
 rw[this];rfl;exact h.elim;exact h.elim
def arS(X:BinOp)(R:Pz X=J)(t:TypeId)(k:IntKind)(m n:Int):(binOp X t (.int k m) (.int k n)).run P W=.ok (.bool (fQ X m n)) W:=by
 cases X<;>simp[Pz] at R<;>simp[binOp,Op.intCmp,fQ]
def arT(X:BinOp)(R:Xz X=J)(t:TypeId)(k:IntKind)(m n:Int):(binOp X t (.int k m) (.int k n)).run P W=.ok (.int k (ay X k m n)) W:=by
 cases X<;>simp[Xz] at R<;>simp[binOp,Op.intArith,ay]
def agN(X:BinOp)(R:XA X=J)(t:TypeId)(k:IntKind)(m n:Int)(Q:n≠0):(binOp X t (.int k m) (.int k n)).run P W=.ok (.int k (ay X k m n)) W:=by
 cases X<;>simp[XA] at R<;>simp[binOp,Op.intDiv,ay,Q]
def agO(X:BinOp)(t:TypeId)(x y:Operand)(k:IntKind)(n:Int)(w:Value):(eqGuard X t x y (.int k n) w).run P W=.ok () W:=by cases X<;>rfl
def arU(X:BinOp)(t:TypeId)(x y:Operand)(n:Bool)(w:Value):(eqGuard X t x y (.bool n) w).run P W=.ok () W:=by cases X<;>rfl
def agP(X:BinOp)(t:TypeId)(x y:Operand)(n:ByteArray)(w:Value):(eqGuard X t x y (.string n) w).run P W=.ok () W:=by cases X<;>rfl
def agQ(R:P.underlying X=U .bool)(m n:Bool):(Op.equal X (.bool m) (.bool n)).run P W=.ok (m==n) W:=by
 have:Op.equal X (.bool m) (.bool n)=Op.equalIn (9999+1) X (.bool m) (.bool n):=rfl;rw[this,Op.equalIn,Sem.run_bind,dQ.f9 R];rfl
def arV(R:P.underlying X=U .bool)(m n:Bool):(binOp .eql X (.bool m) (.bool n)).run P W=.ok (.bool (m==n)) W:=by
 show((Op.equal X (.bool m) (.bool n))>>=λb=>(pure (.bool b):Sem Value)).run P W=_;rw[Sem.run_bind,agQ R];rfl
def arW(R:P.underlying X=U .bool)(m n:Bool):(binOp .neq X (.bool m) (.bool n)).run P W=.ok (.bool !(m==n)) W:=by
 show((Op.equal X (.bool m) (.bool n))>>=λb=>(pure (.bool !b):Sem Value)).run P W=_;rw[Sem.run_bind,agQ R];rfl
def Yi(R:gY P u)(h:LI (u X)=J):∃a b c,P.underlying X=U (.func a b c):=by
 unfold LI at h;split at h;rename_i k q Q;obtain⟨d,N,⟨-,M⟩,-,-⟩:=(R _ _ Q).desc;obtain⟨a,b,c,rfl⟩:=M k rfl;exact⟨a,b,c,N⟩;cases h
def Yj{x y:Operand}{Q:_}{N:_}{M:_}(L:P.underlying X=U (.func Q N M))(v:Value)(n:Bool)(R:(v=.nilFunc/\n=J)\/(∃f a b,v=.func f a b)/\n=E):
  (do eqGuard .eql X x y v .nilFunc;binOp .eql X v .nilFunc).run P W=.ok (.bool n) W/\(do eqGuard .neq X x y v .nilFunc;binOp .neq X v .nilFunc).run P W=.ok (.bool !n) W:=by
 have H:(Op.equal X v .nilFunc).run P W=.ok n W:=by
  have G:Op.equal X v .nilFunc=Op.equalIn (9999+1) X v .nilFunc:=rfl;rw[G,Op.equalIn,Sem.run_bind,dQ.f9 L,Result.andThen_ok];rcases R with⟨rfl,rfl⟩|⟨⟨f,a,b,rfl⟩,rfl⟩<;>rfl
 rcases R with⟨rfl,rfl⟩|⟨⟨f,a,b,rfl⟩,rfl⟩<;>constructor<;>simp[eqGuard,binOp,H]
def agR{e:IE}:∀{ks:bh}{vs:ai},vs.all HR=J->Y ks=Y vs->
  (jC (e.den O) ks (SV.aD O V vs)=.nilFunc/\(A8 e ks vs).den O=J)\/((∃f a b,jC (e.den O) ks (SV.aD O V vs)=.func f a b)/\(A8 e ks vs).den O=E)
 |[],[],_,_=>.inl ⟨rfl,rfl⟩
 |[],_::_,_,h=>by simp at h
 |_::_,[],_,h=>by simp at h
 |k::ks,v::vs,R,M=>by
  simp only[aFf,aDc] at R;have N:=agR (e:=e) (ks:=ks) (vs:=vs) R.2 (by simpa using M);have Q:=R.1;unfold HR at Q;split at Q;rename_i g L;simp only[SV.aD,SV.den,jC,A8,BE.den,fQ,IE.den];by_cases X:e.den O=k;right;simp[X,gU];simp only[X,if_false,beq_iff_eq];exact N;simp only[SV.aD,SV.den,jC,A8,BE.den,fQ,IE.den];by_cases X:e.den O=k;left;simp[X,RE.den,RE.rv,gU];simp only[X,if_false,beq_iff_eq];exact N;cases Q
def arX(R:az C G D u V O s a W)(w:gY P u)(hg:et B O){A:BinOp}{t2:TypeId}{y:Operand}(ho:H.op=.binOp A X r y t2)(hk:(s.ev B r).dL=E)(af:(s.ev B y).dL=E)
  (h:(bO u B s (.binOp A X r y t2)).gives O N):(execOp a.eval H).run P W=.ok (.value (N.den O V)) W:=by
 have he:=cJ R hg r hk;have ag:=cJ R hg y af;simp only[execOp,ho];rw[Sem.run_bind,he,ag];simp only[bO] at h;split at h;rename_i k m k' n Q M;rw[Q,M];split at h;rename_i al;have an:A=.shr:=by cases A<;>simp[agc] at al;rfl
 subst an;split at h;rename_i n;split at h;rename_i F;have ab:¬n<0:=by simp only[decide_eq_true_eq] at F;omega
 cases h;simp only[SV.den,Mi,IE.den];rw[Sem.run_bind,agO,Result.andThen_ok];simp[binOp,Op.shift,ay,ab];exact h.elim;exact h.elim;split at h;exact h.elim;rename_i ap;have a0:k=k':=by simpa using ap
 subst a0;simp only[SV.den];rw[Sem.run_bind,agO,Result.andThen_ok];split at h;rename_i b;cases h;simp only[arS A b,Result.andThen_ok,Sem.run_pure,SV.den,Bs];split at h;rename_i b;cases h;simp only[arT A b,Result.andThen_ok,Sem.run_pure,SV.den,Mi];split at h;rename_i b;split at h;rename_i n;split at h;exact h.elim;rename_i F;cases h;have ab:n≠0:=by simpa using F
 simp only[SV.den,Mi,IE.den];rw[agN A b _ _ _ _ ab];rfl;obtain⟨hb,rfl⟩:=h;rw[Bs] at hb;have ab:n.den O≠0:=by simpa[fQ,IE.den] using hb
 simp only[SV.den,Mi];rw[agN A b _ _ _ _ ab];rfl;exact h.elim;rename_i m n Q M;rw[Q,M];simp only[SV.den];rw[Sem.run_bind,arU,Result.andThen_ok];split at h;rename_i q l;cases h;obtain⟨d,L,-,-,hb⟩:=(w _ _ l).desc;rw[hb rfl] at L;rw[arV L];simp[SV.den,Yd];rename_i q l;cases h;obtain⟨d,L,-,-,hb⟩:=(w _ _ l).desc;rw[hb rfl] at L;rw[arW L];simp[SV.den,Yd,Mj];exact h.elim;rename_i Q M;rw[Q,M];split at h;exact h.elim;rename_i z;obtain⟨d1,d2,d3,L⟩:=Yi w (by simpa using z);obtain⟨q1,q2⟩:=Yj (x:=r) (y:=y) (W:=W) L .nilFunc J (.inl ⟨rfl,rfl⟩);have F:SV.den O V (.ref (.k .nilFunc))=.nilFunc:=rfl;rw[F];split at h;cases h;rw[q1];rfl;cases h;rw[q2];rfl;exact h.elim;rename_i m n a3 Q M;rw[Q,M];split at h;rename_i j i;cases h;obtain⟨p,g⟩:=Db R j;obtain⟨q,c⟩:=Db R i;simp only[SV.den,g,c];rw[Sem.run_bind,agP,Result.andThen_ok];unfold RE.den at g c;simp[binOp,Op.stringOp,BE.den,g,c,ue];rename_i j i;cases h;obtain⟨p,g⟩:=Db R j;obtain⟨q,c⟩:=Db R i;simp only[SV.den,g,c];rw[Sem.run_bind,agP,Result.andThen_ok];unfold RE.den at g c;simp[binOp,Op.stringOp,BE.den,g,c,ue];exact h.elim;rename_i f a1 Q M;rw[Q,M];split at h;exact h.elim;rename_i z;obtain⟨d1,d2,d3,L⟩:=Yi w (by simpa using z);obtain⟨q1,q2⟩:=Yj (x:=r) (y:=y) (W:=W) L ((SV.fn f a1).den O V) E (.inr ⟨⟨_,_,_,rfl⟩,rfl⟩);have F:SV.den O V (.ref (.k .nilFunc))=.nilFunc:=rfl;rw[F];split at h;cases h;rw[q1];rfl;cases h;rw[q2];rfl;exact h.elim;rename_i e ks vs Q M;rw[Q,M];split at h;rename_i z;simp only[aDc,beq_iff_eq] at z;obtain⟨d1,d2,d3,L⟩:=Yi w z.2;have a2:=agR (O:=O) (V:=V) (e:=e) z.1.1 z.1.2;obtain⟨q1,q2⟩:=Yj (x:=r) (y:=y) (W:=W) L (jC (e.den O) ks (SV.aD O V vs)) ((A8 e ks vs).den O) a2;have F:SV.den O V (.ref (.k .nilFunc))=.nilFunc:=rfl;rw[F,SV.den];split at h;cases h;rw[q1];rfl;cases h;rw[q2];simp[SV.den,Mj];exact h.elim;exact h.elim;rename_i m n Q M;rw[Q,M];simp only[SV.den];split at h;rename_i e he;cases h;obtain⟨ae,d,l,j,i,h3⟩:=agL R he;have:=((w _ _ l).eq rfl _ _ _ r y W j i h3).1;rw[this];rfl;rename_i e he;cases h;obtain⟨ae,d,l,j,i,h3⟩:=agL R he;have:=((w _ _ l).eq rfl _ _ _ r y W j i h3).2;rw[this];simp[SV.den,Mj];exact h.elim;exact h.elim
end
section
variable{d:aj}{g:World}{D:bR}{P:Program}{b:Ty}{B:lC}{V:aj}{O:ac}{s:S}{a:Act}{W:World}
def Qj(X:∀r:RE,r.E9=J->gU (r.den O)=J)(h:N.Fa=J):(N.den O V).cells.toList=SV.aD O V N.cells:=by
 cases N with
 |agg l=>simp[SV.den,SV.cells,Value.cells]
 |ref r=>
  have:gU (r.den O)=true:=X r (by cases r<;>simp_all[SV.Fa,RE.E9]);simp only[SV.den,SV.cells,SV.aD];revert this;cases r.den O<;>simp[gU,Value.cells]
 |eQ e R Q=>
  simp only[SV.den,SV.cells,SV.aD];exact arD (Ya _ _ _)
 |_=>simp[SV.den,SV.cells,Value.cells,SV.aD,undef]
def agS:∀(M l:ai)(R:Nat),SV.aD O V (j8 l R M)=(SV.aD O V M).zipIdx.foldl (λQ x=>Q.set (R+x.2) x.1) (SV.aD O V l)
 |[],l,R=>by simp[j8,SV.aD]
 |v::M,l,R=>by
  rw[j8,agS M (l.set R v) (R+1)];simp only[SV.aD,List.zipIdx_cons,aEG,aEA,aDM];rw[show SV.aD O V (l.set R v)=(SV.aD O V l).set R (v.den O V) by simp[nJ]];generalize(SV.aD O V l).set R (v.den O V)=X;have:∀(N:eJ)(n:Nat)(X:eJ),(N.zipIdx n).foldl (λQ x=>Q.set (R+1+x.2) x.1) X=(N.zipIdx (n+1)).foldl (λQ x=>Q.set (R+x.2) x.1) X:=by
   intro N;induction N with
   |nil=>intro n X;rfl
   |cons w N L=>intro n X;simp only[List.zipIdx_cons,aEG];rw[L,show R+1+n=R+(n+1) by omega]
  exact this _ 0 X
def agT:∀(l:List (Value×Nat))(R:Nat)(X:jk),(l.foldl (λQ (x:Value×Nat)=>Q.setIfInBounds (R+x.2) x.1) X).toList=l.foldl (λQ x=>Q.set (R+x.2) x.1) X.toList
 |[],_,_=>rfl
 |x::l,R,X=>by simp only[aEG];rw[agT l R];simp
def Mm(R:∀r:RE,r.E9=J->gU (r.den O)=J)(place:Nat->Option (Nat×Nat)):∀(parts:List (Nat×SV))(cells l:ai),xk place cells parts=U l->
  Instr.fill place (SV.aD O V cells).toArray (parts.map λp=>(p.1,p.2.den O V))=U (SV.aD O V l).toArray
 |[],cells,l,h=>by simp[xk] at h;simp[Instr.fill,h]
 |(i,v)::L,cells,l,h=>by
  simp only[xk] at h;cases X:place i with
  |none=>rw[X] at h;cases h
  |some q=>
   obtain⟨Q,H⟩:=q;rw[X] at h;simp only at h;split at h;cases h;rename_i N;simp only[aDE,bne_iff_ne,decide_eq_true_eq,aDv,not_or,aEM,Decidable.not_not,Nat.not_lt] at N;obtain⟨⟨G,z⟩,F⟩:=N;have M:=Qj (V:=V) R F;have C:(v.den O V).cells.size=H:=by rw[<-aEs,M];simp[G]
   simp only[aDt,Instr.fill,X,C];rw[if_neg (by simp;omega)];have B:=Mm R place L _ l h;rw[<-B];congr 1;apply aEe;have e:((v.den O V).cells.zipIdx.foldl (λA (x:Value×Nat)=>A.setIfInBounds (Q+x.2) x.1) (SV.aD O V cells).toArray).toList=SV.aD O V (j8 cells Q v.cells):=by
    rw[<-aGM,agT,agS,Array.toList_zipIdx,M]
   simpa using e
def arY(c:CT):(A6 c).den O V=pf c:=by cases c<;>simp[A6,SV.den,pf,IE.den,BE.den,RE.den,RE.rv]
def agU(X:TI):SV.aD O V (dp X)=X.ae.map pf:=by
 simp only[dp,nJ,aD7];congr 1;funext c;exact arY c
def It(h:dQ P X v):∃z,(zeroValue X).run P W=.ok z W/\z.cells=(SV.aD O V (dp v)).toArray:=by
 obtain⟨i,R,-,z,Q,N⟩:=h.Ip;exact⟨z,by simp[zeroValue,typeInfo,R,Q],by rw[agU,<-N]⟩
def arZ(R:az d g D b V O s a W)(M:gY P b)(hg:et B O){parts:Array (Nat×Operand)}(ho:H.op=.build X parts)(hk:∀p∈parts.toList,(s.ev B p.2).dL=E)
  (h:(bO b B s (.build X parts)).gives O N):(execOp a.eval H).run P W=.ok (.value (N.den O V)) W:=by
 have j:(parts.map λ(i,x)=>(i,a.eval x)).toList=(parts.toList.map λp=>(p.1,s.ev B p.2)).map λp=>(p.1,p.2.den O V):=by
  simp only[aEh,aD7];apply aDC;intro p hp;simp[cJ R hg p.2 (hk p hp)]
 simp only[execOp,ho,Sem.run_bind];simp only[bO] at h;split at h;rename_i A ae q G;split at h;exact h.elim;rename_i w;have w:∀f∈A,(b f.2).isSome=true:=by
  have:(A.all λf=>(b f.2).isSome)=true:=by simpa only[aDv,aEM] using w
  exact aDr.1 this
 split at h;rename_i l Q;cases h;obtain⟨F,hF,c⟩:=(M _ _ G).desc;obtain⟨z,u,r⟩:=It (P:=P) (W:=W) (O:=O) (V:=V) (M _ _ G);have af:∀(L:List Field),(∀f∈L,∃C,b f.type=U C)->(L.mapM (m:=Sem) λf=>do pure (f.offset,<-Go.sizeOf f.type)).run P W=.ok (L.map λf=>(f.offset,((b f.type).map (·.ae.length)).getD 0)) W:=by
  intro L hL;induction L with
  |nil=>rfl
  |cons f L ih=>
   obtain⟨C,y⟩:=hL f (by simp);have:=ih (λf Q=>hL f (by simp[Q]));simp only[aGA,Sem.run_bind,(M _ _ y).ma,Result.andThen_ok,Sem.run_pure,this,aDt,y,aDn,aDS]
 have ab:∀f∈F.toList,∃C,b f.type=U C:=by
  intro f Q;have:(f.offset,f.type)∈A:=by rw[<-c];exact aDF.2 ⟨f,Q,rfl⟩
  have:=w _ this;exact aDw.1 this
 have hm:=af F.toList ab;have k:=Mm (V:=V) (ui R) _ _ _ _ Q;simp only[Instr.build,Sem.run_bind,u,Result.andThen_ok,dQ.f9 hF,aGc,Sem.run_map,hm,j,r];have ag:(λi=>(F.toList.map λf=>(f.offset,((b f.type).map (·.ae.length)).getD 0)).toArray[i]?)=XB b A:=by
  funext i;rw[<-c,XB];simp only[aFQ,aDj];cases hi:F.toList[i]? with
  |none=>simp
  |some f=>
   obtain⟨C,y⟩:=ab f (aDx hi);simp[y]
 rw[ag,k];simp[SV.den];exact h.elim;rename_i n e ae q G;split at h;rename_i te al;split at h;rename_i l Q;cases h;obtain⟨z,u,r⟩:=It (P:=P) (W:=W) (O:=O) (V:=V) (M _ _ G);have hd:P.underlying X=U (.array n e):=(M _ _ G).desc;have k:=Mm (V:=V) (ui R) _ _ _ _ Q;simp only[Instr.build,Sem.run_bind,u,Result.andThen_ok,dQ.f9 hd,(M _ _ al).ma,j,r,k];simp[SV.den];exact h.elim;exact h.elim;exact h.elim
def ar0(R:az d g D b V O s a W)(G:gY P b)(z:et B O){Q L w:Option Operand}(j:H.op=.slice X r Q L w)(f:(s.ev B r).dL=E)(c:∀y,Q=U y->(s.ev B y).dL=E)
  (h:(bO b B s (.slice X r Q L w)).gives O N):(execOp a.eval H).run P W=.ok (.value (N.den O V)) W:=by
 have he:=cJ R z r f;simp only[execOp,j,Sem.run_bind,he];simp only[bO] at h;split at h;rename_i n e ae q i al ht hx;rw[hx];have u:P.underlying X=U (.array n e):=(G _ _ ht).desc;split at h;rename_i te F M C;cases h;have ab:Q=none:=by simpa using M
 have A:L=none:=by simpa using C
 subst ab A;simp[SV.den,Instr.sliceAt,dQ.f9 u,Instr.sureAddr,Instr.sliceBounds,(G _ _ F).ma,vM];rename_i te k l F M C;split at h;rename_i p;cases h;simp only[aDc,decide_eq_true_eq] at p;have A:L=none:=by simpa using C
 subst A;cases Q with
 |none=>cases M
 |some y=>
  simp only[aDn,aDh] at M;have m:=cJ R z y (c y rfl);rw[M] at m;have af:l<=n:=by omega
  have ag:¬n=l.toNat:=by omega
  simp[SV.den,IE.den,Instr.sliceAt,dQ.f9 u,Instr.sureAddr,Instr.sliceBounds,Instr.sliceBound,asIntOf,m,p.1,af,(G _ _ F).ma,vM,ag]
 exact h.elim;exact h.elim;exact h.elim
def ar1(R:az d g D b V O s a W)(z:gY P b)(u:et B O){c:Call}(p:H.op=.call c)(w:c.callee=.builtin .len)(m:∀x∈c.args.toList,(s.ev B x).dL=E)
  (h:(bO b B s (.call c)).gives O N):(execOp a.eval H).run P W=.ok (.value (N.den O V)) W:=by
 have k:c.args.map a.eval=((c.args.toList.map (s.ev B)).map (SV.den O V)).toArray:=by
  apply aEe;simp only[aEh,aD7];exact aDC λx j=>cJ R u x (m x j)
 simp only[execOp,p,resolve,w,Sem.run_bind,Sem.run_pure,Result.andThen_ok,invoke,builtin,k];simp only[bO,w] at h;split at h;rename_i t L G;have M:c.argTypes[0]?=U t:=by have:=congrArg (λl=>l[0]?) L;simpa using this
 rw[G];split at h;rename_i e ae q X;cases h;have Q:P.underlying t=U (.slice e):=(z _ _ X).desc;simp[Builtin.len_,M,SV.den,IE.den,RE.den,RE.rv,dQ.f9 Q,goInt];exact h.elim;rename_i t r f L G;have M:c.argTypes[0]?=U t:=by have:=congrArg (λl=>l[0]?) L;simpa using this
 rw[G];split at h;rename_i e ae q e' X y;cases h;have Q:P.underlying t=U (.slice e):=(z _ _ X).desc;obtain⟨A,l,cc,F⟩:=Ml R y;have C:=F;unfold RE.den at C;simp[Builtin.len_,M,SV.den,IE.den,F,C,dQ.f9 Q,lenOf,goInt];rename_i ae q X y;cases h;have Q:P.underlying t=U .string:=(z _ _ X).desc;obtain⟨ab,F⟩:=Db R y;have C:=F;unfold RE.den at C;simp[Builtin.len_,M,SV.den,IE.den,F,C,dQ.f9 Q,lenOf,goInt];exact h.elim;rename_i t i af n ag L G;have M:c.argTypes[0]?=U t:=by have:=congrArg (λl=>l[0]?) L;simpa using this
 rw[G];split at h;rename_i e ae q X;cases h;have Q:P.underlying t=U (.slice e):=(z _ _ X).desc;simp[Builtin.len_,M,SV.den,IE.den,dQ.f9 Q,goInt];exact h.elim;exact h.elim
def agV(R:az d g D b V O s a W)(F:et B O){c:Call}(L:H.op=.call c)(X:c.callee=.builtin .min\/c.callee=.builtin .max)(C:∀x∈c.args.toList,(s.ev B x).dL=E)
  (h:(bO b B s (.call c)).gives O N):(execOp a.eval H).run P W=.ok (.value (N.den O V)) W:=by
 have G:c.args.map a.eval=((c.args.toList.map (s.ev B)).map (SV.den O V)).toArray:=by
  apply aEe;simp only[aEh,aD7];exact aDC λx A=>cJ R F x (C x A)
 rcases X with X|X;simp only[execOp,L,resolve,X,Sem.run_bind,Sem.run_pure,Result.andThen_ok,invoke,builtin,G];simp only[bO,X] at h;split at h;rename_i k x l Q;rw[Q];split at h;rename_i e M;cases h;have:=Ye (P:=P) (W:=W) (O:=O) (V:=V) E k l x e M;simp only[aDB,if_false] at this;simp only[aDt,SV.den,Builtin.min_,<-nJ,this,Result.andThen_ok];exact h.elim;exact h.elim;simp only[execOp,L,resolve,X,Sem.run_bind,Sem.run_pure,Result.andThen_ok,invoke,builtin,G];simp only[bO,X] at h;split at h;rename_i k x l Q;rw[Q];split at h;rename_i e M;cases h;have:=Ye (P:=P) (W:=W) (O:=O) (V:=V) J k l x e M;simp only[if_true] at this;simp only[aDt,SV.den,Builtin.max_,<-nJ,this,Result.andThen_ok];exact h.elim;exact h.elim
end
section
variable{g:aj}{A:World}{D:bR}{P:Program}{f:Ty}{B:lC}{V:aj}{O:ac}{s:S}{a:Act}{W:World}
def Yk{l:bh}(h:t=E->Y l=1):vL (fC t l)=l:=by
 cases t;obtain⟨x,rfl⟩:=aDJ.1 (h rfl);rfl;simp[fC,vL,Function.comp_def,aO]
def Yl{x y z:IE}(h:Ff R t N=U (x,y,z)):N.den O V=fC t ([x.den O,y.den O,z.den O].take R)/\([x.den O,y.den O,z.den O].take R).length=R:=by
 unfold Ff at h;split at h;split at h;rename_i X;cases h;simp only[aDc,beq_iff_eq,aDv] at X;obtain⟨rfl,rfl⟩:=X;simp[fC,SV.den];cases h;split at h;rename_i X;cases h;simp only[aDc,beq_iff_eq] at X;obtain⟨rfl,rfl⟩:=X;simp[fC,SV.den,SV.aD];cases h;split at h;rename_i X;cases h;simp only[aDc,beq_iff_eq] at X;obtain⟨rfl,rfl⟩:=X;simp[fC,SV.den,SV.aD];cases h;split at h;rename_i X;cases h;simp only[aDc,beq_iff_eq] at X;obtain⟨rfl,rfl⟩:=X;simp[fC,SV.den,SV.aD];cases h;cases h
def Ym:∀{l:qJ}{m:Nat}{e:MapEntry},e∈fe m l->∃p∈l,e.key=p.1
 |[],m,e,h=>by simp[fe] at h
 |x::r,m,e,h=>by
  simp only[fe,aDp] at h;rcases h with rfl|h;exact⟨x,by simp,rfl⟩;obtain⟨p,X,R⟩:=Ym h;exact⟨p,by simp[X],R⟩
def Dc(n:Nat)(X:aF):Prop:=∃l:bh,Y l=n/\X.take n=l.map λx=>.mk (.int I x) []
def Mn{ag:Bool}(M:ag=E->R=1){X:aF}(h:Dc R X):∃l:bh,Y l=R/\pe ag (X.take R)=fC ag l/\(X.take R).map (λc=>aO c.val)=l:=by
 obtain⟨l,Q,N⟩:=h;refine⟨l,Q, ?_,by rw[N];simp[Function.comp_def,aO]⟩;rw[N];cases ag;obtain⟨x,rfl⟩:=aDJ.1 (Q.trans (M rfl));rfl;simp[pe,fC,Function.comp_def]
def agW{n:Nat}{Q va:Bool}(N:Q=E->n=1){R:bh}(H:(R.take n).length=n):∀{rows:am}{m i:Nat},(∀X∈rows,Dc n X)->
  (fJ n R rows=Z/\mJ (R.take n) (fe m (rows.map (ug n Q va))) i=Z)\/∃X j,fJ n R rows=U X/\X∈rows/\mJ (R.take n) (fe m (rows.map (ug n Q va))) i=U (j,pe va (X.drop n))
 |[],m,i,_=>.inl ⟨rfl,rfl⟩
 |X::rows,m,i,h=>by
  obtain⟨l,G,F,C⟩:=Mn (ag:=Q) N (h X (by simp));simp only[fJ,aEN,aDt,fe,mJ,ug,F];rw[Yk (λe=>G.trans (N e))];have B:iB n R X=decide (l=R.take n):=by simp only[iB,C]
  rw[B];by_cases L:l=R.take n;right;simp only[L,decide_true,if_true];exact⟨X,i,rfl,by simp,rfl⟩;simp only[L,decide_false,if_false];rcases agW (rows:=rows) (m:=m+1) (i:=i+1) (va:=va) N H (λr A=>h r (by simp[A])) with M|⟨r,j,M,z,y⟩;exact .inl M;exact .inr ⟨r,j,M,by simp[z],y⟩
def agX(O:ac)(V:aj){k e:TypeId}(F:P.underlying X=U (.map k e))(C:sq P k R t)(B:dQ P e v){l:qJ}(A:W.heap[M]?=U (ov l)){L:bh}(y:Y L=R)
  (u:∀p∈l,∃N:bh,Y N=R/\p.1=fC t N)(H:Bool):
  ∃z,(zeroValue e).run P W=.ok z W/\(Instr.lookup X (.map (U M)) (fC t L) H).run P W=.ok (let r:=match mJ L (fe 0 l) 0 with
   |U (_,Q)=>(Q,J)
   |none=>(z,E);if H then .tuple #[r.1,.bool r.2] else r.1) W:=by
 obtain⟨z,G,ab⟩:=It (P:=P) (W:=W) (O:=O) (V:=V) B;refine⟨z,G, ?_⟩;have q:∀x∈fe 0 l,∃N:bh,Y N=R/\x.key=fC t N:=λx o=>by
  obtain⟨p,m,i⟩:=Ym o;obtain⟨N,h,g⟩:=u p m;exact⟨N,h,i.trans g⟩
 obtain⟨f,d⟩:=C.2 L (fe 0 l) W y q;have c:=MapKept.run_getObj_map (P:=P) (w:=W) A;simp only[Instr.lookup,Sem.run_bind,dQ.f9 F,Result.andThen_ok,c,Sem.run_pure,f,d];cases hf:mJ L (fe 0 l) 0 with
 |none=>simp[G]
 |some p=>obtain⟨j,Q⟩:=p;simp
structure FM(f:Ty)(sh:Sh)(row:aF):Prop where
 len:Y row=(bw f (.mr sh)).length
 int:∀(j:Nat)(c:RV)(k:IntKind),row[j]?=U c->(bw f (.mr sh))[j]?=U (.int k)->∃n,c=.mk (.int k n) []
 bool:∀(j:Nat)(c:RV),row[j]?=U c->(bw f (.mr sh))[j]?=U .bool->∃x,c=.mk (.bool x) []
def ar2{R:Sh}(h:bz W f (.mr R) L):∀X∈L.rows,FM f R X:=by
 cases h with
 |mr R B H G F A=>
  intro X C;obtain⟨i,Q⟩:=aDU C;exact⟨H i X Q,λj c k N M=>G i j X c k Q N M,λj c N M=>F i j X c Q N M⟩
def FN(R:az g A D f V O s a W){X:Sh}{r:RE}(h:r.oV f s X=J):∀Q∈(r.rv O).rows,FM f X Q:=by
 unfold RE.oV at h;rcases aF0.1 h with h|h;exact ar2 (pU R (by simp) (of_decide_eq_true h));unfold RE.nil at h;split at h;intro Q N;simp[RE.rv] at N;cases h
def Iu{e:TypeId}{va:Bool}(Q:qL f X R t=J)(M:f e=U v):∃N:dN,bw f (.mr ⟨X,e,R,t,va⟩)=N++v.ae/\Y N=R/\∀c∈N,c=.int I:=by
 unfold qL at Q;split at Q;rename_i tk L;simp only[aDc,beq_iff_eq] at Q;refine⟨tk.ae,by simp[bw,L,M],Q.1.1,λc H=> ?_⟩;have:=aDr.1 Q.1.2 c H;unfold XD at this;split at this;rfl;cases this;cases Q
def Iv{e:TypeId}{N:Bool}(G:qL f X R t=J)(F:f e=U v){Q:aF}(h:FM f ⟨X,e,R,t,N⟩ Q):Dc R Q:=by
 obtain⟨w,M,C,B⟩:=Iu (va:=N) G F;have A:=h.len;rw[M,aDs,C] at A;refine⟨(Q.take R).map λc=>aO c.val,by simp;omega, ?_⟩;apply aDG;intro j;rw[aDj,aDj,aDK];by_cases L:j<R;rw[if_pos L];have H:j<Y Q:=by omega
 rw[aDe H];have z:(bw f (.mr ⟨X,e,R,t,N⟩))[j]?=U (.int I):=by
  rw[M,aDg (by omega),aDe (by omega)];congr 1;exact B _ (aD3 _)
 obtain⟨x,y⟩:=h.int j _ I (aDe H) z;simp only[aDn,y,RV.lg,aO];rw[if_neg L];rfl
def Yn{r:RE}{n:Nat}{x y z:IE}{R:aF}(L:fJ n [x.den O,y.den O,z.den O] (r.rv O).rows=U R):∀{ae:dN}{j:Nat},ae.all lD=J->Y R=j+Y ae->
  (∀(i:Nat)(k:IntKind),ae[i]?=U (.int k)->∃m,R[j+i]?=U (.mk (.int k m) []))->(∀(i:Nat),ae[i]?=U .bool->∃m,R[j+i]?=U (.mk (.bool m) []))->
  SV.aD O V (oW r n x y z j ae)=(R.drop j).map RV.val
 |[],j,_,Q,_,_=>by rw[aFL (by simp at Q;omega)];rfl
 |.int k::ae,j,N,Q,H,G=>by
  obtain⟨m,X⟩:=H 0 k rfl;have F:=Yn L (ae:=ae) (j:=j+1) (by simpa[lD] using N) (by simp at Q⊢;omega) (λi k h=>by have:=H (i+1) k (by simpa using h);rwa [show j+(i+1)=j+1+i by omega] at this) (λi h=>by have:=G (i+1) (by simpa using h);rwa [show j+(i+1)=j+1+i by omega] at this);have C:R.drop j=.mk (.int k m) []::R.drop (j+1):=by
   rw[aEA] at X;have M:=(aDd.1 X).1;rw[aEf M];congr 1;rw[aDe M] at X;simpa using X
  rw[aEA] at X;simp only[oW,SV.aD,SV.den,IE.den,L,F,C,aDt,RV.lg,aDf,X,aDS,aO]
 |.bool::ae,j,N,Q,H,G=>by
  obtain⟨m,X⟩:=G 0 rfl;have F:=Yn L (ae:=ae) (j:=j+1) (by simpa[lD] using N) (by simp at Q⊢;omega) (λi k h=>by have:=H (i+1) k (by simpa using h);rwa [show j+(i+1)=j+1+i by omega] at this) (λi h=>by have:=G (i+1) (by simpa using h);rwa [show j+(i+1)=j+1+i by omega] at this);have C:R.drop j=.mk (.bool m) []::R.drop (j+1):=by
   rw[aEA] at X;have M:=(aDd.1 X).1;rw[aEf M];congr 1;rw[aDe M] at X;simpa using X
  rw[aEA] at X;simp only[oW,SV.aD,SV.den,BE.den,L,F,C,aDt,RV.lg,aDf,X,aDS,fm]
 |.aH _ _::ae,j,N,_,_,_=>by simp[lD] at N
def Yo{r:RE}{n:Nat}{x y z:IE}(R:fJ n [x.den O,y.den O,z.den O] (r.rv O).rows=Z):∀{ae:dN}{j:Nat},ae.all lD=J->SV.aD O V (oW r n x y z j ae)=ae.map pf
 |[],j,_=>rfl
 |.int k::ae,j,X=>by
  simp only[oW,SV.aD,SV.den,IE.den,R,aDt,pf,Yo R (ae:=ae) (j:=j+1) (by simpa[lD] using X)]
 |.bool::ae,j,X=>by
  simp only[oW,SV.aD,SV.den,BE.den,R,aDt,pf,Yo R (ae:=ae) (j:=j+1) (by simpa[lD] using X)]
 |.aH _ _::ae,j,X=>by simp[lD] at X
def Qk{r:RE}{n:Nat}{x y z:IE}:∀{ae:dN}{j:Nat},(oW r n x y z j ae).length=Y ae
 |[],j=>rfl
 |.int _::ae,j=>by simp[oW,Qk (ae:=ae)]
 |.bool::ae,j=>by simp[oW,Qk (ae:=ae)]
 |.aH _ _::ae,j=>by simp[oW,Qk (ae:=ae)]
def Yq(h:dQ P X v){z:Value}(R:(zeroValue X).run P W=.ok z W):z=if v.d.isAgg then .agg (v.ae.map pf).toArray else(v.ae.map pf).headD undef:=by
 obtain⟨i,Q,-,M,N,L⟩:=h.Ip;have H:z=M:=by simp[zeroValue,typeInfo,Q,N] at R;exact R.symm
 subst H;have G:=h.agA i z Q N;rw[<-G,<-L];cases z<;>simp[Qc,Value.cells]
def zF(h:dQ P X v)(Q:v.d.isAgg=E):Y v.ae=1:=by
 obtain⟨i,N,H,z,M,L⟩:=h.Ip;have:=h.agA i z N M;rw[Q] at this;have R:=congrArg Y L;simp only[aDV] at R;rw[<-R];cases z<;>simp[Qc] at this<;>rfl
def Iw:∀{R:ai}{X:bh},oX R=U X->Bp (SV.aD O V R)=(X.zip (kX R)).map (λp=>(.int I p.1,p.2.den O V))/\Y X=(kX R).length
 |[],X,h=>by simp[oX] at h;subst h;exact⟨rfl,rfl⟩
 |[v],X,h=>by unfold oX at h;split at h<;>simp_all
 |u::v::r,X,h=>by
  unfold oX at h;split at h;rename_i Q;cases Q;rename_i k H G Q;cases Q;cases N:oX r with
  |none=>rw[N] at h;cases h
  |some F=>
   rw[N] at h;simp only[aDn,aDh] at h;subst h;obtain⟨M,L⟩:=Iw N;exact⟨by simp only[SV.aD,SV.den,IE.den,Bp,M,kX,aFj,aDt],by simp[kX,L]⟩
  cases h
def agY{x:Int}:∀{ks:bh}{vs:ai}{m i:Nat},(mJ [x] (fe m ((ks.zip vs).map λp=>(.int I p.1,p.2.den O V))) i).map (·.2)=(dH x ks vs).map (SV.den O V)
 |[],vs,m,i=>by simp[fe,mJ,dH]
 |_::_,[],m,i=>by simp[fe,mJ,dH]
 |k::ks,v::vs,m,i=>by
  simp only[aFj,aDt,fe,mJ,vL,aEg,and_true,dH];by_cases h:x=k;subst h;simp;rw[if_neg (λe=>h e.symm),if_neg h];exact agY
def Dd{r:RE}{X:Bool}:kC tX (SV.cN O V [.ref r,.int I (.c (R:Int)),.bool (.c t),.bool (.c X)])=ov ((r.rv O).rows.map (ug R t X)):=by
 simp[kC,tX,rX,SV.cN,SV.f8,SV.den,IE.den,BE.den]
def De:kC rX (SV.cN O V w)=ov (Bp (SV.aD O V w)):=by
 simp only[kC,if_true,agy]
def ar3(R:az g A D f V O s a W)(a0:gY P f)(hg:et B O){ix:Operand}(ho:H.op=.lookup X r ix t)(hk:(s.ev B r).dL=E)(bk:(s.ev B ix).dL=E)
  (h:(bO f B s (.lookup X r ix t)).gives O N):(execOp a.eval H).run P W=.ok (.value (N.den O V)) W:=by
 have he:=cJ R hg r hk;have bl:=cJ R hg ix bk;simp only[execOp,ho,Sem.run_bind,he,bl];simp only[bO] at h;split at h;rename_i k e n ag ae q i ht hx;rw[hx];have hd:P.underlying X=U (.map k e):=(a0 _ _ ht).desc;have hK:sq P k n ag:=(a0 _ _ ht).key k e n ag rfl;unfold PD at h;split at h;rename_i M G xb xc bt cs g1 g2 g3;have b:=a0 _ _ g1;split at h;exact h.elim;rename_i an;have an:qL f k n ag=true:=by simpa using an
 obtain⟨bo,a1⟩:=Yl (O:=O) (V:=V) g2;have af:=R.mem.box i bt cs g3;simp only[SV.den,bo];split at h;rename_i dR;simp only[beq_iff_eq] at dR;subst dR;split at h;rename_i Q nk ka va;split at h;rename_i a6;simp only[aDc,beq_iff_eq] at a6;obtain⟨⟨⟨⟨⟨c1,c2⟩,c3⟩,c4⟩,c5⟩,-⟩:=a6;subst c2 c3 c4;rw[Dd] at af;have a7:=FN R c1;have a8:∀F∈(Q.rv O).rows,Dc n F:=λF hr=>Iv an g1 (a7 F hr)
 obtain⟨z,hz,a2⟩:=agX O V hd hK b af a1 (λp hp=>by
  obtain⟨F,hr,rfl⟩:=aDF.1 hp;obtain⟨l,q1,q2,-⟩:=Mn hK.1 (a8 F hr);exact⟨l,q1,q2⟩) t
 rw[a2];simp only[PB,PR.gives] at h;subst h;have ap:M.d.isAgg=E->(oW Q n G xb xc n M.ae).length=1:=λha=>by rw[Qk];exact zF b ha
 rcases agW (m:=0) (i:=0) (va:=M.d.isAgg) hK.1 a1 a8 with⟨f1,f2⟩|⟨F,j,f1,f2,f3⟩;have hv:(qK M.d.isAgg (oW Q n G xb xc n M.ae)).den O V=z:=by
  rw[Bt ap,Yo f1 c5];exact(Yq b hz).symm
 simp only[f2];cases t;simp only[aDB,if_false,hv];rfl;simp only[if_true,SV.den,SV.aD,hv,BE.den,f1];rfl;obtain⟨kc,r1,r2,r3⟩:=Iu (va:=M.d.isAgg) an g1;have a3:=a7 F f2;have br:Y F=n+Y M.ae:=by rw[a3.len,r1,aDs,r2]
 have a9:∀(m:Nat)(ct:CT),M.ae[m]?=U ct->(bw f (.mr ⟨k,e,n,_,M.d.isAgg⟩))[n+m]?=U ct:=λm ct hm=>by
  rw[r1,aDk (by omega),r2,show n+m-n=m by omega];exact hm
 have bb:∀(m:Nat)(ct:CT),M.ae[m]?=U ct->∃c,F[n+m]?=U c:=λm ct hm=>by
  have:m<Y M.ae:=(aDd.1 hm).1;exact⟨F[n+m]'(by omega),aDe _⟩
 have bs:=Yn (V:=V) f1 (ae:=M.ae) (j:=n) c5 br (λm kk hm=>by
  obtain⟨c,hc⟩:=bb m _ hm;obtain⟨x',a4⟩:=a3.int (n+m) c kk hc (a9 m _ hm);exact⟨x',by rw[hc,a4]⟩) (λm hm=>by
  obtain⟨c,hc⟩:=bb m _ hm;obtain⟨x',a4⟩:=a3.bool (n+m) c hc (a9 m _ hm);exact⟨x',by rw[hc,a4]⟩)
 have hv:(qK M.d.isAgg (oW Q n G xb xc n M.ae)).den O V=pe M.d.isAgg (F.drop n):=by
  rw[Bt ap,bs,pe];cases bx:M.d.isAgg;have h1:=zF b bx;obtain⟨c,hc⟩:=aDJ.1 (show(F.drop n).length=1 by simp;omega);rw[hc];rfl;rfl
 simp only[f3];cases t;simp only[aDB,if_false,hv];rfl;simp only[if_true,SV.den,SV.aD,hv,BE.den,f1];rfl;exact h.elim;exact h.elim;split at h;rename_i dR;simp only[beq_iff_eq] at dR;subst dR;split at h;rename_i bd;simp only[aDc,beq_iff_eq,aDv] at bd;obtain⟨rfl,rfl⟩:=bd;rw[De] at af;split at h;rename_i v0 y L;simp only[PB,PR.gives] at h;subst h;unfold agd at L;split at L;rename_i ks b0;obtain⟨p1,p2⟩:=Iw (O:=O) (V:=V) b0;rw[p1] at af;obtain⟨z,hz,a2⟩:=agX O V hd hK b af a1 (λp hp=>by
  obtain⟨u,C,rfl⟩:=aDF.1 hp;exact⟨[u.1],rfl,rfl⟩) t
 rw[a2];have ab:=agY (O:=O) (V:=V) (x:=G.den O) (ks:=ks) (vs:=kX cs) (m:=0) (i:=0);have bf:(∀u,dH (G.den O) ks (kX cs)=U u->v0.den O V=u.den O V/\y.den O=J)/\(dH (G.den O) ks (kX cs)=Z->v0.den O V=z/\y.den O=E):=by
  split at L;rename_i x0;simp only[IE.den] at*;split at L;rename_i u C;cases L;exact⟨λu' al=>by rw[C] at al;cases al;exact⟨rfl,rfl⟩,λhn=>by rw[C] at hn;cases hn⟩;rename_i C;cases L;refine⟨λu' al=>(by rw[C] at al;cases al),λ_=>⟨?_,rfl⟩⟩;rw[Bt (λha=>by simp[dp];exact zF b ha),agU];exact(Yq b hz).symm;rename_i b3;split at L;rename_i b1;cases a5:A9 G ks ((kX cs).map SV.cells) 0 M.ae with
  |none=>rw[a5] at L;cases L
  |some l=>
   rw[a5] at L;simp only[aDn,aDh,aEX] at L;obtain⟨rfl,rfl⟩:=L;obtain⟨s0,s1,s2⟩:=Qf (O:=O) (V:=V) a5;rw[Qe] at s1 s2;have ap:M.d.isAgg=E->Y l=1:=λha=>by rw[s0];exact zF b ha
   rw[Bt ap,Qg p2];refine⟨λu C=> ?_,λC=> ?_⟩;have bg:=aDr.1 b1 u (Ir C);have b2:Y u.cells=0+Y M.ae:=by
    simp only[zl,aDc,beq_iff_eq] at bg;omega
   rw[s1 u.cells (by rw[C];rfl) b2,C,Qh (ui R) bg];exact⟨rfl,rfl⟩;rw[s2 (by rw[C];rfl),C];exact⟨(Yq b hz).symm,rfl⟩
  cases L
 have hL:[G.den O,xb.den O,xc.den O].take 1=[G.den O]:=rfl;rw[hL] at*;cases hp:dH (G.den O) ks (kX cs) with
 |some u=>
  rw[hp] at ab;obtain⟨q1,q2⟩:=bf.1 u hp;cases hf:mJ [G.den O] (fe 0 ((ks.zip (kX cs)).map λp=>(.int I p.1,p.2.den O V))) 0 with
  |none=>rw[hf] at ab;cases ab
  |some jv=>
   obtain⟨j,w⟩:=jv;rw[hf] at ab;simp only[aDn,aDh] at ab;subst ab;cases t;simp only[aDB,if_false,q1];rfl;simp only[if_true,SV.den,SV.aD,q1,q2];rfl
 |none=>
  rw[hp] at ab;obtain⟨q1,q2⟩:=bf.2 hp;cases hf:mJ [G.den O] (fe 0 ((ks.zip (kX cs)).map λp=>(.int I p.1,p.2.den O V))) 0 with
  |some jv=>rw[hf] at ab;cases ab
  |none=>
   cases t;simp only[aDB,if_false,q1];rfl;simp only[if_true,SV.den,SV.aD,q1,q2];rfl
 cases L;exact h.elim;exact h.elim;exact h.elim;exact h.elim;exact h.elim
end
section
variable{u:aj}{A:World}{D:bR}{P:Program}{g:Ty}{B:lC}{V:aj}{O:ac}{s:S}{a:Act}{W:World}
def agZ(R:az u A D g V O s a W)(G:gY P g)(M:et B O)(o:Oper)(Q:∀x∈o.op.operands.toList,(s.ev B x).dL=E)
  (h:(bO g B s o.op).gives O N):(execOp a.eval o).run P W=.ok (.value (N.den O V)) W:=by
 cases X:o.op with
 |move x=>
  rw[X] at h Q;have H:=cJ R M x (Q x (by simp[Op.operands]));simp only[bO,PR.gives] at h;simp[execOp,X,H,h]
 |assign x=>
  rw[X] at h Q;have H:=cJ R M x (Q x (by simp[Op.operands]));simp only[bO,PR.gives] at h;simp[execOp,X,H,h]
 |pick c x y=>
  rw[X] at h Q;have C:=cJ R M c (Q c (by simp[Op.operands]));have L:=cJ R M x (Q x (by simp[Op.operands]));have hy:=cJ R M y (Q y (by simp[Op.operands]));simp only[bO] at h;split at h;rename_i al;cases h;rw[al] at C;simp[execOp,X,C,L,SV.den,BE.den,asBool];rename_i al;cases h;rw[al] at C;simp[execOp,X,C,hy,SV.den,BE.den,asBool];exact h.elim
 |load t x=>rw[X] at h Q;exact arN R G M X (Q x (by simp[Op.operands])) h
 |fieldAddr t x f=>rw[X] at h Q;exact arO R G M X (Q x (by simp[Op.operands])) h
 |field t x f=>rw[X] at h Q;exact arP R G M X (Q x (by simp[Op.operands])) h
 |indexAddr t x y=>rw[X] at h Q;exact arQ R G M X (Q x (by simp[Op.operands])) (Q y (by simp[Op.operands])) h
 |index t x y=>rw[X] at h Q;exact arR R G M X (Q x (by simp[Op.operands])) (Q y (by simp[Op.operands])) h
 |binOp op t x y t2=>rw[X] at h Q;exact arX R G M X (Q x (by simp[Op.operands])) (Q y (by simp[Op.operands])) h
 |unOp op t x=>
  rw[X] at h Q;have H:=cJ R M x (Q x (by simp[Op.operands]));simp only[bO] at h;split at h;rename_i b L;cases h;simp[execOp,X,H,L,SV.den,Op.unary,Mj];rename_i k e L;cases h;simp[execOp,X,H,L,SV.den,Op.unary,Op.intArith,Mi,ay,IE.den];exact h.elim
 |convert t1 t2 x=>
  rw[X] at h Q;have H:=cJ R M x (Q x (by simp[Op.operands]));simp only[bO] at h;split at h;rename_i k1 q1 k2 q2 k n j h2 L;cases h;obtain⟨d1,af,-,an,-⟩:=(G _ _ j).desc;obtain⟨d2,ag,-,ap,-⟩:=(G _ _ h2).desc;rw[an _ rfl] at af;rw[ap _ rfl] at ag;simp[execOp,X,H,L,SV.den,convert,dQ.f9 af,dQ.f9 ag,Conv.intToInt,IE.den];rename_i k1 q1 k2 q2 k n hn j h2 L;cases h;obtain⟨d1,af,-,an,-⟩:=(G _ _ j).desc;obtain⟨d2,ag,-,ap,-⟩:=(G _ _ h2).desc;rw[an _ rfl] at af;rw[ap _ rfl] at ag;simp[execOp,X,H,L,SV.den,convert,dQ.f9 af,dQ.f9 ag,Conv.intToInt,IE.den];exact h.elim
 |makeInterface t x=>
  rw[X] at h Q;have H:=cJ R M x (Q x (by simp[Op.operands]));simp only[bO] at h;split at h;exact h.elim;rename_i ti a2 ht;cases h;have hd:=(G _ _ ht).desc;have ab:∀d,P.underlying t=U d->(∀m,d≠ .interface m)->(Instr.makeInterface t (a.eval x)).run P W=.ok (.iface t (a.eval x)) W:=by
   intro d j h2;simp only[Instr.makeInterface,Sem.run_bind,dQ.f9 j,Result.andThen_ok];cases d<;>first|rfl|exact absurd rfl (h2 _)
  have:(Instr.makeInterface t (a.eval x)).run P W=.ok (.iface t (a.eval x)) W:=by
   obtain⟨d,ae,q⟩:=ti;cases d with
   |one=>obtain⟨d,j,⟨h2,-⟩,-⟩:=hd;exact ab d j (λm z=>by rw[z] at h2;exact h2)
   |eP=>exact absurd rfl (a2 _ _)
   |str=>exact ab _ hd (λm z=>by cases z)
   |slice e=>exact ab _ hd (λm z=>by cases z)
   |arr n e=>exact ab _ hd (λm z=>by cases z)
   |struct fs=>obtain⟨F,j,-⟩:=hd;exact ab _ j (λm z=>by cases z)
   |map k e=>exact ab _ hd (λm z=>by cases z)
  rw[H] at this;simp[execOp,X,H,this,SV.den];exact h.elim
 |makeFunc fn first a1=>
  rw[X] at h Q;simp only[bO] at h;split at h;rename_i f hf;cases h;have a3:first= #[]:=by apply aEe;simpa using hf
  subst a3;have a4:a1.map a.eval=(SV.aD O V (a1.toList.map (s.ev B))).toArray:=by
   apply aEe;simp only[aEh,nJ,aD7];exact aDC λx L=>cJ R M x (Q x (by simp[Op.operands];simpa using L))
  simp[execOp,X,Instr.makeFunc,SV.den,a4];exact h.elim
 |extract x i=>
  rw[X] at h Q;have H:=cJ R M x (Q x (by simp[Op.operands]));simp only[bO] at h;split at h;rename_i l L;split at h;rename_i y hy;simp only[PR.gives] at h;subst h;have:(SV.aD O V l).toArray[i]?=U (N.den O V):=by simp[qS,hy]
  simp[execOp,X,H,L,SV.den,Instr.extract,this,-aFQ];exact h.elim;exact h.elim
 |nilCheck x=>
  rw[X] at h Q;have H:=cJ R M x (Q x (by simp[Op.operands]));simp only[bO] at h;split at h;rename_i i a5 L;cases h;simp[execOp,X,H,L,SV.den];rename_i r w i a5 L;cases h;simp[execOp,X,H,L,SV.den];rename_i f l L;cases h;simp[execOp,X,H,L,SV.den];exact h.elim
 |slice t x lo hi mx=>
  rw[X] at h Q;exact ar0 R G M X (Q x (by simp[Op.operands])) (λy hy=>Q y (by subst hy;simp[Op.operands])) h
 |build t parts=>
  rw[X] at h Q;exact arZ R G M X (λp hp=>Q p.2 (by simp[Op.operands];exact⟨p.1,by simpa using hp⟩)) h
 |lookup t x ix ok=>
  rw[X] at h Q;exact ar3 R G M X (Q x (by simp[Op.operands])) (Q ix (by simp[Op.operands])) h
 |call c=>
  rw[X] at h Q;have a0:∀x∈c.args.toList,(s.ev B x).dL=false:=λx L=>Q x (by simp[Op.operands,Call.operands];exact .inr (by simpa using L))
  cases C:c.callee with
  |builtin b=>
   cases b with
   |len=>exact ar1 R G M X C a0 h
   |min=>exact agV R M X (.inl C) a0 h
   |max=>exact agV R M X (.inr C) a0 h
   |_=>simp only[bO,C,PR.gives] at h
  |value f=>simp only[bO,C,PR.gives] at h
  |invoke r m=>simp only[bO,C,PR.gives] at h
 |_=>rw[X] at h;simp only[bO,PR.gives] at h
end
section
variable{p:aj}{q:World}{D:bR}{P:Program}{f:Ty}{B:lC}{V:aj}{O:ac}{s:S}{a:Act}{W:World}
def zG{o:Obj}(h:Q.heap[R]?=U o):R<Q.heap.size:=(aDD.1 h).1
def dE.world{X:rW}{R:zE}{W':World}(h:dE q D X y R Q)(N:∀(b:Nat)(o:Obj),Q.heap[b]?=U o->(∀L t H,o≠ .cells L t H)->W'.heap[b]?=U o):dE q D X y R W':=
 ⟨h.len,h.qT,λn l r G F C=>let⟨a,b,c⟩:=h.dB n l r G F C;⟨a,N _ _ b (λ_ _ _ h=>by cases h),c⟩,h.inj,let⟨B,a,A,b,c⟩:=h.l8;⟨B,a,A,b,λd M=>⟨N _ _ (c d M).1 (λ_ _ _ h=>by cases h),(c d M).2⟩⟩⟩
def Ix:Obj->Bool
 |.loop _|.deferred _=>J
 |_=>E
def ag0{o:Obj}(h:Ix o=J):∀X t R,o≠ .cells X t R:=λX t R e=>by subst e;cases h
def ag1{o:Obj}(h:Ix o=J):∀t l,o≠kC t l:=by
 intro t l e;subst e;unfold kC at h;split at h;cases h;split at h;split at h<;>cases h;split at h;split at h<;>cases h;cases h
def dE.ar4{R:rW}{N:zE}(h:dE q D R y N Q)(M:∀(b:Nat)(o:Obj),Q.heap[b]?=U o->Ix o=J->c.heap[b]?=U o):dE q D R y N c:=
 ⟨h.len,h.qT,λn l r H G F=>let⟨a,b,X⟩:=h.dB n l r H G F;⟨a,M _ _ b rfl,X⟩,h.inj,let⟨C,a,B,b,X⟩:=h.l8;⟨C,a,B,b,λd L=>⟨M _ _ (X d L).1 rfl,(X d L).2⟩⟩⟩
def dE.below{X:rW}{R:zE}(h:dE q D X y R Q)(M:Below Q.heap.size Q c):dE q D X y R c:=
 h.world λb o N _=>(M.block b (zG N)).trans N
def dE.cells{M:rW}{L:zE}(h:dE q D M y L Q){H:jk}{G:Nat×Nat}(F:Q.heap[R]?=U (.cells H X G))(C:∀b,b≠R->b<Q.heap.size->c.heap[b]?=Q.heap[b]?):dE q D M y L c:=
 h.world λb o N B=>(C b (λe=>by subst e;rw[F] at N;cases N;exact B _ _ _ rfl) (zG N)).trans N
def bz.Iy(h:bz Q f F L)(B:∀b,de f F L b->c.heap[b]?=Q.heap[b]?)(hs:Q.heap.size<=c.heap.size):bz c f F L:=by
 induction h with
 |sl e A N q M y x w l g ho u=>
  refine bz.sl e A N q M y x (λi H R=> ?_) l g (λi j H X z p R G o=>u i j H X z p R G o (λb t=>B b (de.deep e _ _ i j H X z p b R G o t)));obtain⟨d,b,n,rfl,⟨jF,t0,ab,q2⟩,q3⟩:=w i H R;have af:0<N:=by have:=(aDd.1 R).1;omega
  obtain⟨r,rfl⟩:∃r,N=r+1:=⟨N-1,by omega⟩;have C:=B b (de.here e ⟨b,n,Z⟩ r q M);refine⟨d,b,n,rfl,⟨jF,t0,ab,C.trans q2⟩,λj X G=> ?_⟩;have m:=q3 j X G;simp only[World.cell?,C] at m⊢;exact m
 |str s=>exact bz.str s
 |aH v hv=>exact bz.aH v hv
 |own e L h hn u=>exact bz.own e L (u λb t=>B b (de.own e L b t)) hn
 |dead L h=>exact bz.dead L h
 |mr sh M y x w C=>exact bz.mr sh M y x w C
def bz.lt(h:bz Q f F L)(X:de f F L R):R<Q.heap.size:=by
 induction h generalizing R with
 |sl e A r q N p o H n m g M=>
  cases X with
  |here e a l c N=>
   have G:0<Y N:=by omega
   obtain⟨-,R,d,C,⟨_,_,_,B⟩,-⟩:=H 0 _ (aDe G);cases C;exact zG B
  |deep e v N i j y c z F R x w u t=>exact M i j y c z F x w u t
 |str s=>cases X
 |aH v hv=>cases X
 |own e L h hn M=>cases X with
  |own e L R X=>exact M X
 |dead L h=>cases X
 |mr sh N=>cases X
def bz.grow(h:bz Q f F L)(y:Below Q.heap.size Q c):bz c f F L:=by
 induction h with
 |sl e A x w R N M H u t ho G=>
  refine bz.sl e A x w R N M (λi r q=> ?_) u t G;obtain⟨p,b,o,rfl,⟨jF,n,m,C⟩,l⟩:=H i r q;have B:=y.block b (zG C);refine⟨p,b,o,rfl,⟨jF,n,m,B.trans C⟩,λj X g=> ?_⟩;have z:=l j X g;simp only[World.cell?,B] at z⊢;exact z
 |str s=>exact bz.str s
 |aH v d=>exact bz.aH v d
 |own e L h hn G=>exact bz.own e L G hn
 |dead L h=>exact bz.dead L h
 |mr sh R N M H h4=>exact bz.mr sh R N M H h4
def jD.lt{Q:aE}(X:jD p q V O x f Q W)(h:aM x R=J):ad V R<W.heap.size:=by
 unfold aM at h;obtain⟨⟨t,N⟩,M⟩:=aDw.1 h;exact(aDD.1 (X.box R t N M)).1
def jD.below{N:aE}(R:jD p q V O x f N W)(X:Below W.heap.size W Q):jD p q V O x f N Q:=by
 refine⟨R.base.call X,R.own,R.inj,λi t M h=> ?_,λk e L H G=> ?_⟩;rw[X.block _ (R.lt (by simp[aM,h]))];exact R.box i t M h;obtain⟨F,C⟩:=R.ref k e L H G;exact⟨F.grow X,C⟩
def xB.lt{Q:aE}(h:xB p q V O x f Q W R X L M):M<W.heap.size:=by
 obtain⟨H,G,F,-,N,-⟩:=h.mem;exact(aDD.1 N).1
def xB.world{Q:aE}{W':World}(h:xB p q V O x f Q W R X L M)(N:W'.heap[M]?=W.heap[M]?):xB p q V O x f Q W' R X L M:=by
 obtain⟨H,G,F,C,B,A⟩:=h.mem;exact⟨h.own,⟨H,G,F,C,N.trans B,A⟩,h.box,h.alone,h.inner⟩
def az.below{Q:World}(R:az p q D f V O s a W)(X:Below W.heap.size W Q):az p q D f V O s a Q:=
 ⟨R.mem.below X,R.fp,R.ei,R.eb,R.er,R.cP.below X,R.size,R.tmps,λk e N b M L H=>let t:=R.dJ k e N b M L H;t.world (X.block b t.lt)⟩
def az.put(R:az p q D f V O s a W)(X:bT)(v:SV):az p q D f V O (s.put X v) (a.put X (v.den O V)) W:=by
 cases X with
 |none=>exact R
 |some d=>
  refine⟨R.mem,R.fp,R.ei,R.eb,R.er,R.cP,by simp[S.put,tY,Act.put,R.size],λt M h=> ?_,R.dJ⟩;simp only[S.put,tY,aD9] at h;simp only[Act.put];split at h;rename_i Q;subst Q;split at h;rename_i L;cases h;right;have:d<a.tmps.size:=by rw[R.size];exact L
  simp[this];cases h;rename_i Q;rcases R.tmps t M h with N|N;exact .inl N;right;rw[aEU Q];exact N
def az.xD(R:az p q D f V O s a W)(X:s.bd=J):SV.db (Y O.i) (Y O.b) (Y O.r) (aM s.boxes) s.tmps=J/\SV.oZ (Y O.i) (Y O.b) (Y O.r) (aM s.boxes) s.boxes=true:=by
 simp only[S.bd,aDc] at X;rw[R.ei,R.eb,R.er];exact X
structure mb(bx:bA)(O O':ac)(V V':aj):Prop where
 agree:gI O O' (Y O.i) (Y O.b) (Y O.r)
 li:Y O.i<=Y O'.i
 lb:Y O.b<=Y O'.b
 lr:Y O.r<=Y O'.r
 ad:∀k,aM bx k=J->ad V' k=ad V k
def mb.refl(X:bA)(O:ac)(V:aj):mb X O O V V:=⟨gI.refl _ _ _ _,aDm _,aDm _,aDm _,λ_ _=>rfl⟩
def mb.trans{X R:bA}{O Q N:ac}{V M L:aj}(h:mb X O Q V M)(k:mb R Q N M L)(G:∀i,aM X i=J->aM R i=J):mb X O N V L:=
 ⟨h.agree.trans (k.agree.mono h.li h.lb h.lr),aDY h.li k.li,aDY h.lb k.lb,aDY h.lr k.lr,λj H=>(k.ad j (G j H)).trans (h.ad j H)⟩
def ar5(O:ac)(x:XV):Y O.i<=(O.add x).i.length/\Y O.b<=(O.add x).b.length/\Y O.r<=(O.add x).r.length:=by cases x<;>simp[ac.add]
def Ql:∀(X:aW)(O:ac),Y O.i<=(O.ext X).i.length/\Y O.b<=(O.ext X).b.length/\Y O.r<=(O.ext X).r.length
 |[],O=>by simp[ac.ext]
 |x::X,O=>by
  have R:=ar5 O x;have Q:=Ql X (O.add x);simp only[ac.ext];omega
def Bu(R:bA)(O:ac)(X:aW)(V:aj):mb R O (O.ext X) V V:=by
 have h:=Ql X O;exact⟨Da X O,h.1,h.2.1,h.2.2,λ_ _=>rfl⟩
def mb.den{X:ac}{R:aj}(h:mb x k X y R)(Q:N.bd (Y k.i) (Y k.b) (Y k.r) (aM x)=J):N.den X R=N.den k y:=SV.dj h.agree h.ad N Q
def mb.aD{X:ac}{R:aj}(h:mb x k X y R)(Q:SV.db (Y k.i) (Y k.b) (Y k.r) (aM x) w=J):SV.aD X R w=SV.aD k y w:=SV.Io h.agree h.ad w Q
def mb.cN{X:ac}{R:aj}(h:mb x k X y R)(Q:SV.db (Y k.i) (Y k.b) (Y k.r) (aM x) w=J):SV.cN X R w=SV.cN k y w:=Mh h.agree h.ad w Q
def et.ext{R:ac}{M:aj}(h:et B k)(Q:mb x k R y M):et B R:=by
 intro X L;obtain⟨N,H⟩:=h X L;exact⟨aFh N Q.lr,by rw[Q.agree.r _ N];exact H⟩
def Bv{V:aj}{n x k:Nat}(h:k≠n):ad (V.set n x) k=ad V k:=by simp[ad,aDP (Ne.symm h)]
def Bw(h:R<Y y):ad (y.set R M) R=M:=by simp[ad,h]
def qX(h:ot x R X=J):eU x R=true:=by simp only[ot,aDc] at h;exact h.1
def Iz(h:ot x R X=J):oU X=false:=by simp only[ot,aDc,aDv] at h;exact h.2
def lK(h:eU x R=J):aM x R=E/\R<Y x:=by
 unfold eU at h;split at h;rename_i X;exact⟨by simp[aM,cK,X],(aDd.1 X).1⟩;cases h
def ag2(h:eU x R=J)(O:ac)(V:aj)(X:Nat):mb x O O V (V.set R X):=
 ⟨gI.refl _ _ _ _,aDm _,aDm _,aDm _,λk Q=>Bv (λe=>by subst e;rw[(lK h).1] at Q;cases Q)⟩
def xE{X:Option (TypeId×ai)}(h:M≠R):bX (x.set R X) M=bX x M:=by simp[cK,aDP (Ne.symm h)]
def FO{X:TypeId×ai}(h:R<Y x):bX (x.set R (U X)) R=U X:=by simp[cK,h]
def nM{X:TypeId×ai}(h:R<Y x):aM (x.set R (U X)) M=J<->M=R\/aM x M=true:=by
 by_cases Q:M=R;subst Q;simp[aM,FO h];simp[aM,xE Q,Q]
def az.alloc(R:az p q D f V O s a W){n:Nat}(w:eU s.boxes n=J)(t:TypeId)(F:ai)(G:s.dV F=J):
  az p q D f (V.set n W.heap.size) O (s.cq n t F) a (W.alloc (kC t (SV.cN O V F))):=by
 simp only[S.dV,aDc] at G;obtain⟨C,G⟩:=G;obtain⟨u,r⟩:=R.xD C;rw[<-R.ei,<-R.eb,<-R.er] at G;obtain⟨o,M⟩:=lK w;have z:=ag2 w O V W.heap.size;have B:Below W.heap.size W (W.alloc (kC t (SV.cN O V F))):=(Below.refl _ _).alloc (aDm _) _;have H:n<Y V:=by rw[R.fp];exact M
 have L:∀i,aM s.boxes i=J->i≠n:=λi Q e=>by subst e;rw[o] at Q;cases Q
 refine⟨⟨R.mem.base.alloc _, ?_, ?_, ?_, ?_⟩,by simp[S.cq,R.fp],R.ei,R.eb,R.er,R.cP.below B,R.size, ?_,λk e y b X N A=> ?_⟩;intro i Q;rcases(nM M).1 Q with rfl|h;rw[Bw H];exact .inl R.mem.base.size;rw[Bv (L i h)];exact R.mem.own i h;intro i j Q v h;rcases(nM M).1 Q with rfl|X;rcases(nM M).1 v with rfl|N;rfl;rw[Bw H,Bv (L j N)] at h;have:=R.mem.lt N;omega;rcases(nM M).1 v with rfl|N;rw[Bw H,Bv (L i X)] at h;have:=R.mem.lt X;omega;rw[Bv (L i X),Bv (L j N)] at h;exact R.mem.inj i j X N h;intro i x m h;by_cases X:i=n;subst X;rw[S.cq,FO M] at h;simp only[aDh,aEX] at h;obtain⟨rfl,rfl⟩:=h;rw[Bw H,z.cN G];exact World.alloc_heap_new W _;rw[S.cq,xE X] at h;rw[Bv X,B.block _ (R.mem.lt (by simp[aM,h])),z.cN (qV r h)];exact R.mem.box i x m h;intro k e y X N;obtain⟨A,l⟩:=R.mem.ref k e y X N;refine⟨A.grow B,λb C i Q=> ?_⟩;rcases(nM M).1 Q with rfl|h;rw[Bw H];have:=A.lt C;omega;rw[Bv (L i h)];exact l b C i h;intro x g h;rcases R.tmps x g h with X|X;exact .inl X;right;rw[z.den (uh u h)];exact X;have t:=R.dJ k e y b X N A;obtain⟨d,c,ab,q1,q2,q3⟩:=t.mem;refine⟨t.own,⟨d,c,ab,q1,(B.block b t.lt).trans q2,q3⟩,λi Q=> ?_,t.alone,t.inner⟩;rcases(nM M).1 Q with rfl|h;rw[Bw H];have:=t.lt;omega;rw[Bv (L i h)];exact t.box i h
def xF(l:eJ)(X:Nat):eJ->eJ
 |[]=>l
 |v::r=>xF (l.set X v) (X+1) r
def Yr:∀(R l:eJ)(X:Nat),(xF l X R).length=Y l
 |[],l,X=>rfl
 |v::R,l,X=>by rw[xF,Yr];simp
def ag3:∀(X l:ai)(R:Nat),SV.aD O V (j8 l R X)=xF (SV.aD O V l) R (SV.aD O V X)
 |[],l,R=>rfl
 |v::X,l,R=>by
  rw[j8,ag3 X,SV.aD,xF];congr 1;simp[nJ]
def ag4{v:Value}(h:gU v=J):v.oneCell'=true:=by cases v<;>simp_all[gU,Value.oneCell']
def Ys(b X:Nat)(t:TypeId):∀(N:eJ)(i:Nat)(R:jk)(W:World),W.heap[b]?=U (.cells R t (0,0))->X+i+Y N<=R.size->(∀v∈N,gU v=J)->
  ∃Q,(storeCells ⟨b,X,Z⟩ N i).run P W=.ok () Q/\Q.heap[b]?=U (.cells (xF R.toList (X+i) N).toArray t (0,0))/\(∀k,k≠b->Q.heap[k]?=W.heap[k]?)/\Q.heap.size=W.heap.size/\Q.os=W.os/\Q.tape=W.tape/\Q.output=W.output
 |[],i,R,W,M,_,_=>⟨W,rfl,by simpa[xF] using M,λ_ _=>rfl,rfl,rfl,rfl,rfl⟩
 |v::N,i,R,W,M,G,L=>by
  simp only[aD4] at G;have F:X+i<R.size:=by omega
  have C:W.cell? ⟨b,X+i,Z⟩=U R[X+i]:=by simp[World.cell?,M,F]
  have B:W.frozen? ⟨b,X+i,Z⟩=false:=by simp[World.frozen?,M]
  have A:(store ((⟨b,X,Z⟩:Addr).add i) v).run P W=.ok () (W.setCell ⟨b,X+i,Z⟩ v):=by
   rw[vM,run_store P W _ v _ (ag4 (L v (by simp))),C];simp[B]
  have z:(W.setCell ⟨b,X+i,Z⟩ v).heap[b]?=U (.cells (R.setIfInBounds (X+i) v) t (0,0)):=by
   simp[World.setCell,aER,M]
  obtain⟨Q,y,w,u,r,q,p,o⟩:=Ys b X t N (i+1) (R.setIfInBounds (X+i) v) (W.setCell ⟨b,X+i,Z⟩ v) z (by simp;omega) (λx n=>L x (by simp[n]));refine⟨Q,by simp only[storeCells,Sem.run_bind,A,Result.andThen_ok,y], ?_,λk H=>(u k H).trans (Below.heap_setCell _ _ _ _ H),r.trans (by simp[World.setCell]),q,p,o⟩;rw[w,xF];simp[aEW]
def ag5(R:az p q D f V O s a W):∀{l:ai},CX l=J->∀v∈SV.aD O V l,gU v=J
 |[],_,v,X=>by simp[SV.aD] at X
 |x::N,h,v,X=>by
  simp only[Py,aDc] at h;simp only[SV.aD,aDp] at X;rcases X with rfl|X;have Q:=h.1;cases x<;>simp[SV.single] at Q<;>try rfl
  rename_i r;exact ui R r (by cases r<;>simp_all[RE.E9]);simp only[SV.den];exact Ya _ _ _;exact ag5 R h.2 v X
def az.store(Q:az p q D f V O s a W){H:TypeId}{A:TI}(l:dQ P X A){off:Nat}{v:SV}(M:bX s.boxes R=U (H,w))(dR:oU H=E)(g:Y v.cells=Y A.ae)(ho:off+Y v.cells<=Y w)(d:CX v.cells=J)(r:(v.den O V).cells.toList=SV.aD O V v.cells):
  ∃G,(Instr.storeAt X (.pointer (U ⟨ad V R,off,Z⟩)) (v.den O V)).run P W=.ok () G/\az p q D f V O (s.cq R H (j8 w off v.cells)) a G:=by
 have z:=Q.mem.box R H w M;rw[qW dR] at z;obtain⟨G,c,h2,F,h4,h5,h6,h7⟩:=Ys (P:=P) (ad V R) off H (SV.aD O V v.cells) 0 _ W z (by simp;omega) (ag5 Q d);have ab:(v.den O V).cells.size=Y A.ae:=by rw[<-aEs,r];simp[g]
 have o:R<Y s.boxes:=(aDd.1 (i5.1 M)).1;have C:aM s.boxes R=true:=by simp[aM,M]
 have B:∀j,aM (s.boxes.set R (U (H,j8 w off v.cells))) j=J->aM s.boxes j=true:=λj N=>by
  rcases(nM o).1 N with rfl|h;exact C;exact h
 refine⟨G, ?_,⟨⟨?_,λj N=>Q.mem.own j (B j N),λj k N y=>Q.mem.inj j k (B j N) (B k y), ?_, ?_⟩,by simpa[S.cq] using Q.fp,Q.ei,Q.eb,Q.er,Q.cP.cells z (λb M _=>F b M),Q.size,Q.tmps,λk e x b q1 q2 q3=> ?_⟩⟩;simp only[Instr.storeAt,Instr.sureAddr,storeVar,Sem.run_bind,Sem.run_pure,Result.andThen_ok,l.ma,ab,r,ne_eq,not_true_eq_false,if_false,c];refine⟨h5.trans Q.mem.base.os,h6.trans Q.mem.base.tape,h7.trans Q.mem.base.output,by rw[h4];exact Q.mem.base.size,λk y n=> ?_⟩;have af:k≠ad V R:=by
  rintro rfl;rcases Q.mem.own R C with h|h;omega;exact n h
 rw[F k af];exact Q.mem.base.block k y n;intro j L ag N;by_cases u:j=R;subst u;rw[S.cq,FO o] at N;simp only[aDh,aEX] at N;obtain⟨rfl,rfl⟩:=N;rw[h2,qW dR,ag3];simp;rw[S.cq,xE u] at N;rw[F _ (λh=>u (Q.mem.inj j R (by simp[aM,N]) C h))];exact Q.mem.box j L ag N;intro k e x al an;obtain⟨ap,m⟩:=Q.mem.ref k e x al an;exact⟨ap.Iy (λb M=>F b (λh=>m b M R C h.symm)) (by omega),λb M j N=>m b M j (B j N)⟩;have X:=Q.dJ k e x b q1 q2 q3;have L:=X.world (W':=G) (F b (λh=>X.box R C h.symm));exact⟨L.own,L.mem,λj N=>L.box j (B j N),L.alone,L.inner⟩
end
def IA(X:aj):∀(l:aE)(n i:Nat),(gV X n l)[i]?=(l[i]?).map λx=>if X.contains (n+i) then .dead else x
 |[],n,i=>by simp[gV]
 |x::R,n,0=>by simp[gV]
 |x::R,n,i+1=>by
  simp only[gV,aDO];rw[IA X R (n+1) i,show n+1+i=n+(i+1) by omega]
def IB(X:aj):∀(l:aE)(n i:Nat),(jz X n l)[i]?=(l[i]?).map (xo (X.contains (n+i)))
 |[],n,i=>by simp[jz]
 |x::R,n,0=>by simp[jz]
 |x::R,n,i+1=>by
  simp only[jz,aDO];rw[IB X R (n+1) i,show n+1+i=n+(i+1) by omega]
def Yt(X:aj):∀(l:aE)(n i:Nat),(Bb X n l)[i]?=(l[i]?).map (LN (X.contains (n+i)))
 |[],n,i=>by simp[Bb]
 |x::R,n,0=>by simp[Bb]
 |x::R,n,i+1=>by
  simp only[Bb,aDO];rw[Yt X R (n+1) i,show n+1+i=n+(i+1) by omega]
def zH(X:aj):∀(l:aE)(n:Nat),(gV X n l).length=Y l
 |[],n=>rfl
 |x::R,n=>by simp[gV,zH X R (n+1)]
def zI(X:aj):∀(l:aE)(n:Nat),(jz X n l).length=Y l
 |[],n=>rfl
 |x::R,n=>by simp[jz,zI X R (n+1)]
def ag6(X:aj):∀(l:aE)(n:Nat),(Bb X n l).length=Y l
 |[],n=>rfl
 |x::R,n=>by simp[Bb,ag6 X R (n+1)]
def pg(e X:RK):Prop:=X=e\/X=.dead\/∃t,e=.own t/\X=.sl t
structure oz(rs rs':aE):Prop where
 len:Y rs'=Y rs
 get:∀(k:Nat)(e':RK),rs'[k]?=U e'->∃e,rs[k]?=U e/\pg e e'
def oz.refl(X:aE):oz X X:=⟨rfl,λk e h=>⟨e,h,.inl rfl⟩⟩
def pg.trans{b c:RK}(h:pg F b)(k:pg b c):pg F c:=by
 rcases k with rfl|rfl|⟨t,rfl,rfl⟩;exact h;exact .inr (.inl rfl);rcases h with h|h|⟨R,Q,X⟩;exact .inr (.inr ⟨t,h.symm,rfl⟩);cases h;cases X
def oz.trans{a b c:aE}(h:oz a b)(k:oz b c):oz a c:=
 ⟨k.len.trans h.len,λi e X=>let⟨R,Q,N⟩:=k.get i e X;let⟨M,L,H⟩:=h.get i R Q;⟨M,L,H.trans N⟩⟩
def ar6(b:Bool)(e:RK):pg e (xo b e):=by
 cases e<;>simp only[xo]
 case own t=>cases b;exact .inl rfl;exact .inr (.inr ⟨t,rfl,rfl⟩)
 all_goals exact .inl rfl
def ag7(b:Bool)(e:RK):pg e (LN b e):=by
 cases e<;>simp only[LN]
 case own t=>cases b;exact .inr (.inl rfl);exact .inr (.inr ⟨t,rfl,rfl⟩)
 all_goals exact .inl rfl
def Qm(Q:aj)(X:aE):oz X (jz Q 0 X):=by
 refine⟨zI _ _ _,λk N h=> ?_⟩;rw[IB] at h;cases R:X[k]? with
 |none=>rw[R] at h;cases h
 |some e=>rw[R] at h;simp only[aDn,aDh] at h;exact⟨e,rfl,h▸ar6 _ e⟩
def ag8(Q:aj)(X:aE):oz X (Bb Q 0 X):=by
 refine⟨ag6 _ _ _,λk N h=> ?_⟩;rw[Yt] at h;cases R:X[k]? with
 |none=>rw[R] at h;cases h
 |some e=>rw[R] at h;simp only[aDn,aDh] at h;exact⟨e,rfl,h▸ag7 _ e⟩
def bz.mc{X:RK}(h:bz Q n F L)(w:pg F X):bz Q n X L:=by
 rcases w with rfl|rfl|⟨t,rfl,rfl⟩;exact h;exact bz.dead L (Is h);exact agJ h
def de.mc{X:RK}(w:pg F X)(h:de n X L R):de n F L R:=by
 rcases w with rfl|rfl|⟨t,rfl,rfl⟩;exact h;cases h;exact de.own _ _ _ h
def xA.mc{d:Ty}{e R:RK}{Q:RV}{b:Nat}(w:pg e R)(h:xA d R Q b):xA d e Q b:=by
 rcases h with h|⟨⟨t,rfl⟩,h⟩;exact .inl (h.mc w);rcases w with rfl|X|⟨N,_,X⟩;exact .inr ⟨⟨t,rfl⟩,h⟩;cases X;cases X
def pg.own(w:pg F (.own X)):F=.own X:=by
 rcases w with h|h|⟨R,_,h⟩;exact h.symm;cases h;cases h
section
variable{p:aj}{q:World}{D:bR}{P:Program}{d:Ty}{B:lC}{V:aj}{O:ac}{s:S}{a:Act}{W:World}
def jD.mc{X:bA}{Q N:aE}(R:jD p q V O X d Q W)(h:oz Q N):jD p q V O X d N W:=
 ⟨R.base,R.own,R.inj,R.box,λk e M C L=>let⟨H,G,F⟩:=h.get k e C;⟨(R.ref k H M G L).1.mc F,λb B i A=>(R.ref k H M G L).2 b (B.mc F) i A⟩⟩
def az.mc(R:az p q D d V O s a W){X:aE}(h:oz s.rs X):az p q D d V O {s with rs:=X} a W:=by
 refine⟨R.mem.mc h,R.fp,R.ei,R.eb,R.er.trans h.len.symm,R.cP,R.size,R.tmps,λk e N b M L H=> ?_⟩;obtain⟨r,G,F⟩:=h.get k _ M;have:=F.own;subst this;have t:=R.dJ k e N b G L H;exact⟨t.own,t.mem,t.box,λQ C B A z y x=>let⟨w,v,u⟩:=h.get Q C z;t.alone Q w B A v y (x.mc u),t.inner⟩
def az.dw(N:az p q D d V O s a W)(j:s.rs[R]?=U (.own X))(hr:O.r[R]?=U L)(C:W.grownBy Q L.jS):
  az p q D d V O {s with rs:=gV [R] 0 s.rs} a Q:=by
 have n:∀M G,(gV [R] 0 s.rs)[M]?=U G->(M=R/\G=.dead)\/(M≠R/\s.rs[M]?=U G):=by
  intro M G h;rw[IA] at h;cases g:s.rs[M]? with
  |none=>rw[g] at h;cases h
  |some x=>
   rw[g] at h;simp only[aDM,aDn,aDh] at h;by_cases F:M=R;subst F;left;simp at h;exact⟨rfl,h.symm⟩;right;simp[F] at h;exact⟨F,by rw[h]⟩
 have z:∀b,L.jS=U b->xB p q V O s.boxes d s.rs W R X L b:=λb H=>N.dJ R X L b j hr H
 have af:eV p q Q:=N.mem.base.grown C (λb H=>((z b H).own).symm);refine⟨⟨af,N.mem.own,N.mem.inj,λi t cs h=> ?_,λM G B m A=> ?_⟩,N.fp,N.ei,N.eb,by simp[zH];exact N.er, ?_,N.size,N.tmps,λM G B b m A y=> ?_⟩;rw[C.block _ (N.mem.lt (by simp[aM,h])) (λH=>(z _ H.symm).box i (by simp[aM,h]) rfl)];exact N.mem.box i t cs h;rcases n M G m with⟨rfl,rfl⟩|⟨w,v⟩;refine⟨bz.dead _ ?_,λb H=>by cases H⟩;exact Is (N.mem.ref M _ B j A).1;obtain⟨y,h4⟩:=N.mem.ref M G B v A;exact⟨y.Iy (λb H=>C.block b (y.lt H) (λF=>(z b F.symm).alone M G B w v A (.inl H))) C.size,h4⟩;cases H:L.jS with
 |none=>exact N.cP.world λb o h _=>(C.block b (zG h) (by rw[H];simp)).trans h
 |some b0=>
  obtain⟨f,c,ab,q1,l,q3⟩:=(z b0 H).mem;exact N.cP.cells l (λb w ag=>C.block b ag (λX=>w (by rw[H] at X;cases X;rfl)))
 rcases n M _ m with⟨-,F⟩|⟨w,v⟩;cases F;have t:=N.dJ M G B b v A y;have hw:Q.heap[b]?=W.heap[b]?:=C.block b t.lt (λF=>(z b F.symm).alone M _ B w v A (.inr ⟨⟨G,rfl⟩,y⟩));obtain⟨f,c,ab,q1,l,q3⟩:=t.mem;refine⟨t.own,⟨f,c,ab,q1,hw.trans l,q3⟩,t.box,λk2 e2 al g1 g2 g3 u=> ?_,t.inner⟩;rcases n k2 e2 g2 with⟨rfl,rfl⟩|⟨_,an⟩;rcases u with u|⟨⟨t',ap⟩,_⟩;cases u;cases ap;exact t.alone k2 e2 al g1 an g3 u
def az.grown(R:az p q D d V O s a W)(X:W.grownBy Q Z):az p q D d V O s a Q:=
 R.below ⟨X.os,X.tape,X.output,X.size,λk N=>X.block k N (by simp)⟩
def pV(X:bA)(O:ac)(x:XV)(V:aj):mb X O (O.add x) V V:=by
 have h:=Bu X O [x] V;exact h
def FP{v:RV}(h:(O.add (.r L)).r[R]?=U v):(R<Y O.r/\O.r[R]?=U v)\/(R=Y O.r/\v=L):=by
 simp only[ac.add] at h;by_cases X:R<Y O.r;rw[aDg X] at h;exact .inl ⟨X,h⟩;have:R=Y O.r:=by have:=(aDd.1 h).1;simp at this;omega
 subst this;simp at h;exact .inr ⟨rfl,h.symm⟩
structure ar7(p:aj)(q:World)(V:aj)(O:ac)(bx:bA)(d:Ty)(rs:aE)(W:World)(e:TypeId)(rv:RV)(b:Nat):Prop where
 own:q.heap.size<=b\/b∈p
 mem:∃len cap cur,rv.val=.slice (U ⟨b,0,Z⟩) len cap/\W.heap[b]?=U (.cells cur e (0,0))/\len<=cap/\cap<=maxLen/\cur.size=cap*(bw d (.sl e)).length
 box:∀i,aM bx i=J->ad V i≠b
 alone:∀(k':Nat)(e':RK)(rv':RV),rs[k']?=U e'->O.r[k']?=U rv'->¬xA d e' rv' b
 inner:¬lZ d e rv.rows b
def az.add(R:az p q D d V O s a W)(u:s.bd=J){N:RK}{rv:RV}(o:bz W d N rv)(n:∀b,de d N rv b->∀i,aM s.boxes i=J->ad V i≠b)
  (m:∀(k:Nat)(e:TypeId)(H:RV)(b:Nat),s.rs[k]?=U (.own e)->O.r[k]?=U H->H.jS=U b->¬xA d N rv b)
  (l:∀e b,N=.own e->rv.jS=U b->ar7 p q V O s.boxes d s.rs W e rv b):az p q D d V (O.add (.r rv)) {s with rs:=s.rs++[N]} a W:=by
 obtain⟨j,g⟩:=R.xD u;have z:=pV s.boxes O (.r rv) V;have bI:∀{k:Nat}{e:RK},(s.rs++[N])[k]?=U e->(k<Y O.r/\s.rs[k]?=U e)\/(k=Y O.r/\e=N):=by
  intro k e h;rw[R.er];by_cases G:k<Y s.rs;rw[aDg G] at h;exact .inl ⟨G,h⟩;have:k=Y s.rs:=by have:=(aDd.1 h).1;simp at this;omega
  subst this;simp at h;exact .inr ⟨rfl,h.symm⟩
 refine⟨⟨R.mem.base,R.mem.own,R.mem.inj,λi t f h=> ?_,λk e v X M=> ?_⟩,R.fp,R.ei,R.eb,by simp[ac.add,R.er],R.cP,R.size,λt c h=> ?_,λk e v b X M F=> ?_⟩;rw[z.cN (qV g h)];exact R.mem.box i t f h;rcases bI X with⟨G,X⟩|⟨rfl,rfl⟩;rcases FP M with⟨_,M⟩|⟨rfl,rfl⟩;exact R.mem.ref k e v X M;omega;rcases FP M with⟨G,_⟩|⟨_,rfl⟩;omega;exact⟨o,n⟩;rcases R.tmps t c h with X|X;exact .inl X;right;rw[z.den (uh j h)];exact X;rcases bI X with⟨G,y⟩|⟨rfl,ab⟩;rcases FP M with⟨_,x⟩|⟨rfl,rfl⟩;have t:=R.dJ k e v b y x F;refine⟨t.own,t.mem,t.box,λC B H A L Q=> ?_,t.inner⟩;rcases bI L with⟨w,L⟩|⟨w,af⟩;rcases FP Q with⟨_,Q⟩|⟨rfl,rfl⟩;exact t.alone C B H A L Q;omega;rcases FP Q with⟨al,_⟩|⟨_,ag⟩;omega;rw[af,ag];exact m k e v b y x F;omega;rcases FP M with⟨G,_⟩|⟨_,rfl⟩;omega;have t:=l e b ab.symm F;refine⟨t.own,t.mem,t.box,λC B H A L Q=> ?_,t.inner⟩;rcases bI L with⟨w,L⟩|⟨rfl,_⟩;rcases FP Q with⟨_,Q⟩|⟨rfl,rfl⟩;exact t.alone C B H L Q;omega;exact absurd rfl A
end
variable{i:am}
structure eG(W:World)(o:Ty)(e:TypeId)(rows:am):Prop where
 len:∀(i:Nat)(row:aF),rows[i]?=U row->Y row=(bw o (.sl e)).length
 int:∀(i j:Nat)(row:aF)(c:RV)(k:IntKind),rows[i]?=U row->row[j]?=U c->(bw o (.sl e))[j]?=U (.int k)->∃n,c.val=.int k n
 bool:∀(i j:Nat)(row:aF)(c:RV),rows[i]?=U row->row[j]?=U c->(bw o (.sl e))[j]?=U .bool->∃x,c.val=.bool x
 aH:∀(i j:Nat)(row:aF)(c:RV)(z:Value)(k:RK),rows[i]?=U row->row[j]?=U c->(bw o (.sl e))[j]?=U (.aH z k)->bz W o k c
def dt(rows:am):eJ:=rows.flatMap λX=>X.map RV.val
def zJ{w:Nat}:∀{rows:am},(∀(i:Nat)(X:aF),rows[i]?=U X->Y X=w)->(dt rows).length=Y rows*w
 |[],_=>by simp[dt]
 |r::Q,h=>by
  have N:=h 0 r rfl;have R:=zJ (rows:=Q) (λi X M=>h (i+1) X (by simpa using M));simp only[dt,aFp,aDs,aDV,aD4,N] at R⊢;rw[R,aEl];omega
def Mo{w:Nat}:∀{rows:am},(∀(i:Nat)(row:aF),rows[i]?=U row->Y row=w)->∀{i j:Nat}{row:aF}{c:RV},rows[i]?=U row->row[j]?=U c->(dt rows)[i*w+j]?=U c.val
 |[],_,i,j,row,c,h,_=>by simp at h
 |r::Q,h,0,j,row,c,X,R=>by
  simp at X;subst X;have L:j<Y r:=(aDd.1 R).1;simp only[dt,aFp,Nat.zero_mul,aDM];rw[aDg (by simpa using L)];simp[R]
 |r::Q,h,i+1,j,row,c,X,R=>by
  have N:=h 0 r rfl;have M:=Mo (rows:=Q) (λi row H=>h (i+1) row (by simpa using H)) (i:=i) (by simpa using X) R;simp only[dt,aFp] at M⊢;rw[aDk (by simp[N,aEl];omega)];rw[<-M];congr 1;simp[N,aEl];omega
def IC{w:Nat}:∀{rows:am},(∀(i:Nat)(X:aF),rows[i]?=U X->Y X=w)->∀{q:Nat}{u:Value},(dt rows)[q]?=U u->∃i j X c,rows[i]?=U X/\X[j]?=U c/\q=i*w+j/\u=c.val
 |[],_,q,u,h=>by simp[dt] at h
 |r::N,h,q,u,R=>by
  have B:=h 0 r rfl;simp only[dt,aFp] at R;by_cases M:q<Y r;rw[aDg (by simpa using M),aDj] at R;cases Q:r[q]? with
  |none=>rw[Q] at R;cases R
  |some c=>rw[Q] at R;simp at R;exact⟨0,q,r,c,rfl,Q,by simp,R.symm⟩
  rw[aDk (by simp;omega)] at R;obtain⟨i,j,X,c,L,H,G,F⟩:=IC (rows:=N) (λi X C=>h (i+1) X (by simpa using C)) R;refine⟨i+1,j,X,c,by simpa using L,H, ?_,F⟩;simp only[aDV] at G;rw[aEl];omega
def Yu(a b:am):dt (a++b)=dt a++dt b:=by simp[dt]
section
variable{W W':World}{o:Ty}{e:TypeId}{rows aC:am}
def eG.vN{v:Value}(h:bz W o (.sl e) (.mk v rows)):eG W o e rows:=by
 cases h with
 |sl e A H G rows F C X R Q N=>exact⟨λi M L=>(X i M L).1,R,Q,N⟩
def qY{A:mC}(h:bz W o (.sl e) (.mk (.slice A R M) rows)):Y rows=R/\R<=M:=by
 cases h with
 |sl e A R M rows X Q N L H G=>exact⟨X,Q⟩
def Mp{A:mC}(h:bz W o (.sl e) (.mk (.slice A R M) rows)):∀(q:Nat)(u:Value),(dt rows)[q]?=U u->∃b X,A=U ⟨b,X,Z⟩/\(∃Q t N,W.heap[b]?=U (.cells Q t N))/\W.cell? ⟨b,X+q,Z⟩=U u:=by
 intro q u L;have H:=eG.vN h;obtain⟨i,j,G,c,F,C,rfl,rfl⟩:=IC H.len L;cases h with
 |sl e A R M rows x w B v r p=>
  obtain⟨-,b,X,rfl,z,y⟩:=B i G F;exact⟨b,X,rfl,z,by rw[<-aEW];exact y j c C⟩
def Yv(h:eG W o e rows){b X R:Nat}(N:∃M t L,W.heap[b]?=U (.cells M t L))(H:∀(q:Nat)(u:Value),(dt rows)[q]?=U u->W.cell? ⟨b,X+q,Z⟩=U u)(G:Y rows<=R):bz W o (.sl e) (.mk (.slice (U ⟨b,X,Z⟩) (Y rows) R) rows):=
 bz.sl e _ _ _ _ rfl G (λi F Q=>⟨h.len i F Q,b,X,rfl,N,λj c C=>by
  have:=H _ _ (Mo h.len Q C)
  rwa [<-aEW] at this⟩) h.int h.bool h.aH
def By(A:mC)(Q:Nat):bz W o (.sl e) (.mk (.slice A 0 Q) []):=
 bz.sl e _ _ _ _ rfl (aD0 _) (λi R X=>by simp at X) (λi j R c k X=>by simp at X) (λi j R c X=>by simp at X) (λi j R c z k X=>by simp at X)
def eG.single(h:eG W o e rows):∀u∈dt rows,gU u=true:=by
 intro u L;obtain⟨q,H⟩:=aDU L;obtain⟨i,j,X,c,R,Q,rfl,rfl⟩:=IC h.len H;have F:j<(bw o (.sl e)).length:=by rw[<-h.len i X R];exact(aDd.1 Q).1
 cases N:(bw o (.sl e))[j]? with
 |none=>rw[aD2] at N;omega
 |some G=>
  cases G with
  |int k=>obtain⟨n,M⟩:=h.int i j X c k R Q N;rw[M];rfl
  |bool=>obtain⟨n,M⟩:=h.bool i j X c R Q N;rw[M];rfl
  |aH z k=>exact Is (h.aH i j X c z k R Q N)
def eG.world(h:eG W o e rows)(M:∀b,lZ o e rows b->W'.heap[b]?=W.heap[b]?)(L:W.heap.size<=W'.heap.size):eG W' o e rows:=
 ⟨h.len,h.int,h.bool,λi j X c z k R Q N=>(h.aH i j X c z k R Q N).Iy (λb H=>M b ⟨i,j,X,c,z,k,R,Q,N,H⟩) L⟩
def eG.lt(h:eG W o e rows){b:Nat}(X:lZ o e rows b):b<W.heap.size:=by
 obtain⟨i,j,R,c,z,k,Q,N,M,L⟩:=X;exact(h.aH i j R c z k Q N M).lt L
def eG.nil:eG W o e []:=⟨λi X h=>by simp at h,λi j X c k h=>by simp at h,λi j X c h=>by simp at h,λi j X c z k h=>by simp at h⟩
def Mq{b:am}{X:aF}(h:(i++b)[R]?=U X):i[R]?=U X\/b[R-Y i]?=U X:=by
 by_cases Q:R<Y i;rw[aDg Q] at h;exact .inl h;rw[aDk (by omega)] at h;exact .inr h
def eG.iG(h:eG W o e rows)(R:eG W o e aC):eG W o e (rows++aC):=
 ⟨λi Q X=>(Mq X).elim (h.len _ _) (R.len _ _),λi j Q c k X=>(Mq X).elim (h.int _ _ _ _ _) (R.int _ _ _ _ _),
  λi j Q c X=>(Mq X).elim (h.bool _ _ _ _) (R.bool _ _ _ _),λi j Q c z k X=>(Mq X).elim (h.aH _ _ _ _ _ _) (R.aH _ _ _ _ _ _)⟩
def ar8(h:lZ o e (rows++aC) R):lZ o e rows R\/lZ o e aC R:=by
 obtain⟨i,j,Q,c,z,k,X,N,M,L⟩:=h;exact(Mq X).imp (λX=>⟨_,j,Q,c,z,k,X,N,M,L⟩) (λX=>⟨_,j,Q,c,z,k,X,N,M,L⟩)
def Mr(h:lZ o e [] R):False:=by
 obtain⟨i,j,Q,c,z,k,X,-⟩:=h;simp at X
def Qn{v:Value}(h:lZ o e rows R):de o (.sl e) (.mk v rows) R:=by
 obtain⟨i,j,X,c,z,k,Q,N,M,L⟩:=h;exact de.deep e v rows i j X c z k R Q N M L
def ag9{v:Value}(h:de o (.sl e) (.mk v rows) R):(∃a X Q,v=.slice (U a) (X+1) Q/\R=a.block)\/lZ o e rows R:=by
 cases h with
 |here e a X Q rows=>exact .inl ⟨a,X,Q,rfl,rfl⟩
 |deep e v rows i j N c z k R M L H G=>exact .inr ⟨i,j,N,c,z,k,M,L,H,G⟩
end
def ar9(h:de n F (cT F L) R):de n F L R:=by
 cases F with
 |sl e=>
  simp only[cT] at h;split at h;exact h;cases h with
  |deep e L rows i j Q c z F R X=>simp at X
 |str=>cases h
 |aH=>cases h
 |own e=>
  simp only[cT] at h;split at h;exact h;cases h with
  |own e M R N=>cases N with
   |deep e L rows i j Q c z F R X=>simp at X
 |dead=>cases h
 |mr H=>cases h
def aha(h:de n F default R):False:=by
 cases h with
 |deep e v rows i j Q c z F R X=>simp at X
 |own e M R N=>cases N with
  |deep e v rows i j Q c z F R X=>simp at X
def Qo(h:de n F.rd L R):de n F L R:=by
 cases F with
 |own t=>exact de.own _ _ _ h
 |_=>exact h
def asa{Q:Int}{j:Nat}(M:Fe (bw n (.sl X))[j]?=F)(L:F≠ .aH)(h:de n F (cT F (cellAt i Q j)) R):lZ n X i R:=by
 have N:=ar9 h;simp only[cellAt,aDf] at N;cases H:i[Q.toNat]? with
 |none=>rw[H] at N;exact(aha (by simpa using N)).elim
 |some B=>
  rw[H] at N;simp only[aDS] at N;cases G:B[j]? with
  |none=>rw[G] at N;exact(aha (by simpa using N)).elim
  |some c=>
   rw[G] at N;cases C:(bw n (.sl X))[j]? with
   |none=>rw[C] at M;exact absurd M.symm L
   |some A=>
    rw[C] at M;subst M;cases A with
    |aH z y=>exact⟨_,j,B,c,z,y,H,G,C,by simpa[Fe] using N⟩
    |int _=>exact absurd rfl L
    |bool=>exact absurd rfl L
def Qp{o:Ty}{O:ac}{s:S}{b:Nat}:∀{r:RE}{e:RK},e≠ .aH->r.kind o s=e->de o e (r.rv O) b->
  ∃R Q,r.root=U R/\s.rs[R]?=U Q/\((r=.v R/\Q.rd=e)\/∃t,Q.rd=.sl t/\lZ o t (O.rv R).rows b)
 |.v k,e,X,h,N=>by
  simp only[RE.kind,aDf] at h;cases H:s.rs[k]? with
  |none=>rw[H] at h;exact absurd (show e=.aH from h.symm) X
  |some q=>rw[H] at h;simp at h;exact⟨k,q,rfl,H,.inl ⟨rfl,h⟩⟩
 |.cell r i j y,e,X,h,N=>by
  simp only[RE.kind] at h;split at h;rename_i G F;split at h;rename_i C;subst h;simp only[RE.rv] at N;have L:=asa C X N;have B:de o (.sl G) (r.rv O) b:=by
   revert L;generalize r.rv O=v;intro L;obtain⟨v,rows⟩:=v;exact Qn L
  obtain⟨R,Q,A,z,M⟩:=Qp (r:=r) (e:=.sl G) (by simp) F B;refine⟨R,Q,A,z,.inr ?_⟩;rcases M with⟨rfl,M⟩|M;exact⟨G,M,by simpa[RE.rv] using L⟩;exact M;exact absurd h.symm X;exact absurd h.symm X
 |.k v,e,X,h,N=>by
  cases v<;>simp only[RE.kind] at h
  case string s=>subst h;cases N
  all_goals exact absurd h.symm X
section
variable{p:aj}{d:World}{D:bR}{P:Program}{o:Ty}{B:lC}{V:aj}{O:ac}{s:S}{a:Act}{W:World}
def sr(X:az p d D o V O s a W)(h:s.rs[R]?=U F):O.r[R]?=U (O.rv R):=by
 have Q:R<Y O.r:=by rw[X.er];exact(aDd.1 h).1
 simp[ac.rv,Q]
def FQ(v:RV):RV.mk v.val v.rows=v:=by cases v;rfl
def ID{e0:RK}(h:e0.rd=.sl X)(Q:lZ o X (O.rv R).rows M):de o e0 (O.rv R) M:=by
 apply Qo;rw[h,<-FQ (O.rv R)];exact Qn Q
def Ms(Q:az p d D o V O s a W)(H:s.rs[R]?=U (.own X))(C:O.r[R]?=U L)(y:L.jS=U M){t:TypeId}(N:s.rs[h]?=U F)(G:F.rd=.sl t)(B:lZ o t (O.rv h).rows M):False:=by
 have A:=Q.dJ R X L M H C y;by_cases z:h=R;subst z;rw[H] at N;cases N;simp only[RK.rd,RK.sl.injEq] at G;subst G;have:=sr Q H;rw[C] at this;cases this;exact A.inner B;exact A.alone h F (O.rv h) z N (sr Q N) (.inl (ID G B))
def Qq(Q:az p d D o V O s a W)(C:s.rs[R]?=U (.own X))(B:O.r[R]?=U L)(A:L.jS=U M){r:RE}(x:F≠ .aH)(h:r.kind o s=F)(z:de o F (r.rv O) M):r=.v R:=by
 obtain⟨H,w,n,G,N⟩:=Qp x h z;rcases N with⟨rfl,N⟩|⟨t,N,u⟩;by_cases y:H=R;rw[y];have q:=Q.dJ R X L M C B A;exact absurd (.inl (Qo (by rw[N];exact z))) (q.alone H w (O.rv H) y G (sr Q G));exact(Ms Q C B A G N u).elim
def IF(X:az p d D o V O s a W){r:RE}(C:F≠ .aH)(h:r.kind o s=F)(H:de o F (r.rv O) R):O.ow o s.rs R/\∀i,aM s.boxes i=J->ad V i≠R:=by
 obtain⟨N,M,A,L,Q⟩:=Qp C h H;have G:de o M (O.rv N) R:=by
  rcases Q with⟨rfl,Q⟩|⟨t,Q,B⟩;exact Qo (by rw[Q];exact H);exact ID Q B
 exact⟨⟨N,M,L,G⟩,(X.mem.ref N M _ L (sr X L)).2 R G⟩
def ahb(R:az p d D o V O s a W){k:RK}{r:RE}(h:r.fits o s k=J):bz W o k (r.rv O):=by
 unfold RE.fits at h;split at h;rename_i e;simp only[aDE,decide_eq_true_eq] at h;rcases h with h|h;exact pU R (by simp) h;unfold RE.isNil at h;split at h;exact By Z 0;cases h;simp only[decide_eq_true_eq] at h;exact pU R (by simp) h;cases h
def Yw{r:RE}(h:r.fits o s F=J)(X:de o F (r.rv O) R):r.kind o s=F/\F≠ .aH:=by
 unfold RE.fits at h;split at h;rename_i e;simp only[aDE,decide_eq_true_eq] at h;rcases h with h|h;exact⟨h,by simp⟩;unfold RE.isNil at h;split at h;simp only[RE.rv] at X;cases X with
 |deep e v rows i j N c z F R Q=>simp at Q
 cases h;simp only[decide_eq_true_eq] at h;exact⟨h,by simp⟩;cases h
def FR:∀{ae:dN}{R:ai},ld o s ae R=J->Y R=Y ae/\∀(j:Nat)(X:CT)(v:SV),ae[j]?=U X->R[j]?=U v->qM o s X v=J
 |[],[],_=>⟨rfl,λj X v h=>by simp at h⟩
 |[],_::_,h=>by simp[ld] at h
 |_::_,[],h=>by simp[ld] at h
 |c::G,v::F,h=>by
  simp only[ld,aDc] at h;obtain⟨M,L⟩:=FR h.2;refine⟨by simp[M],λj X H Q N=> ?_⟩;cases j with
  |zero=>simp at Q N;subst Q N;exact h.1
  |succ j=>exact L j X H (by simpa using Q) (by simpa using N)
def ahc{X:CT}(h:qM o s X N=J):N.den O V=(N.bN O).val:=by
 unfold qM at h;split at h<;>first|rfl|cases h
structure Qr(W:World)(o:Ty)(ae:dN)(row:aF):Prop where
 len:Y row=Y ae
 int:∀(j:Nat)(c:RV)(k:IntKind),row[j]?=U c->ae[j]?=U (.int k)->∃n,c.val=.int k n
 bool:∀(j:Nat)(c:RV),row[j]?=U c->ae[j]?=U .bool->∃x,c.val=.bool x
 aH:∀(j:Nat)(c:RV)(z:Value)(k:RK),row[j]?=U c->ae[j]?=U (.aH z k)->bz W o k c
def eG.of(h:∀(R:Nat)(Q:aF),i[R]?=U Q->Qr W o (bw o (.sl X)) Q):eG W o X i:=
 ⟨λR Q N=>(h R Q N).len,λR j Q c k N=>(h R Q N).int j c k,λR j Q c N=>(h R Q N).bool j c,λR j Q c z k N=>(h R Q N).aH j c z k⟩
def eG.get(h:eG W o X i){Q:aF}(N:i[R]?=U Q):Qr W o (bw o (.sl X)) Q:=
 ⟨h.len R Q N,λj c k=>h.int R j Q c k N,λj c=>h.bool R j Q c N,λj c z k=>h.aH R j Q c z k N⟩
def Yx(R:az p d D o V O s a W){ae:dN}(h:ld o s ae w=J):Qr W o ae (w.map (SV.bN O)):=by
 obtain⟨F,C⟩:=FR h;have H:∀(j:Nat)(c:RV)(L:CT),(w.map (SV.bN O))[j]?=U c->ae[j]?=U L->∃v,qM o s L v=J/\c=v.bN O:=by
  intro j c L N M;rw[aDj] at N;cases G:w[j]? with
  |none=>rw[G] at N;cases N
  |some v=>rw[G] at N;simp at N;exact⟨v,C j L v M G,N.symm⟩
 refine⟨by simpa using F,λj c k N M=> ?_,λj c N M=> ?_,λj c z k N M=> ?_⟩;obtain⟨v,Q,rfl⟩:=H j c _ N M;unfold qM at Q;split at Q;rename_i X;cases X;simp at Q;subst Q;exact⟨_,rfl⟩;rename_i X;cases X;rename_i X;cases X;cases Q;obtain⟨v,Q,rfl⟩:=H j c _ N M;unfold qM at Q;split at Q;rename_i X;cases X;exact⟨_,rfl⟩;rename_i X;cases X;cases Q;obtain⟨v,Q,rfl⟩:=H j c _ N M;unfold qM at Q;split at Q;rename_i X;cases X;rename_i X;cases X;rename_i X;cases X;exact ahb R Q;cases Q
def Yy{ae:dN}(h:ld o s ae w=J){j:Nat}{z:Value}(X:(w.map (SV.bN O))[j]?=U L)(G:ae[j]?=U (.aH z F))(M:de o F L R):
  ∃r:RE,w[j]?=U (.ref r)/\r.kind o s=F/\F≠ .aH/\de o F (r.rv O) R:=by
 obtain⟨B,C⟩:=FR h;rw[aDj] at X;cases H:w[j]? with
 |none=>rw[H] at X;cases X
 |some v=>
  rw[H] at X;simp at X;subst X;have Q:=C j _ v G H;unfold qM at Q;split at Q;rename_i N;cases N;rename_i N;cases N;rename_i r N;cases N;exact⟨r,rfl,(Yw (O:=O) Q M).1,(Yw (O:=O) Q M).2,M⟩;cases Q
def Df:∀{ae:dN}{l:tW},lX o s ae l=J->∀(i:Nat)(X:ai),l[i]?=U X->ld o s ae X=J
 |ae,[],_,i,X,h=>by simp at h
 |ae,r::Q,h,0,X,R=>by simp only[lX,aDc] at h;simp at R;subst R;exact h.1
 |ae,r::Q,h,i+1,X,R=>by simp only[lX,aDc] at h;exact Df h.2 i X (by simpa using R)
def Yz{Q:aE}(h:(jz y 0 Q)[R]?=U (.own X)):Q[R]?=U (.own X)/\R∉y:=by
 rw[IB] at h;cases M:Q[R]? with
 |none=>rw[M] at h;cases h
 |some x=>
  rw[M] at h;simp only[aDM,aDn,aDh] at h;cases x<;>simp[xo] at h
  case own t=>
   by_cases N:R∈y;simp[N] at h;simp[N] at h;exact⟨by rw[h],N⟩
def ahd{Q:aE}(h:(gV y 0 Q)[R]?=U F):(R∈y/\F=.dead)\/(R∉y/\Q[R]?=U F):=by
 rw[IA] at h;cases N:Q[R]? with
 |none=>rw[N] at h;cases h
 |some x=>
  rw[N] at h;simp only[aDM,aDn,aDh] at h;by_cases X:R∈y;simp[X] at h;exact .inl ⟨X,h.symm⟩;simp[X] at h;exact .inr ⟨X,by rw[h]⟩
structure Dg(W W':World)(e:TypeId)(w:Nat)(old:bT)(rows:am)(A:mC)(cap:Nat):Prop where
 le:Y rows<=cap
 nil:A=Z->cap=0
 mem:cap=0\/∃b cur,A=U ⟨b,0,Z⟩/\W'.heap[b]?=U (.cells cur e (0,0))/\cap<=maxLen/\cur.size=cap*w/\cur.toList.take (Y rows*w)=dt rows/\(W.heap.size<=b\/old=U b)
def Bz(o:Ty)(V:aj)(O:ac)(s:S)(e:TypeId)(rows:am)(R:aj):Prop:=
 ∀b,lZ o e rows b->O.ow o s.rs b/\(∀i,aM s.boxes i=J->ad V i≠b)/\∀(k:Nat)(t:TypeId)(X:RV),s.rs[k]?=U (.own t)->O.r[k]?=U X->X.jS=U b->k∈R
def Mt{X:aE}(h:s.bd=J)(R:Y X=Y s.rs):({s with rs:=X}:S).bd=true:=by
 simp only[S.bd,R] at h⊢;exact h
def az.bind(R:az p d D o V O s a W)(hb:s.bd=J){e:TypeId}{rows:am}{kill frz:aj}{old:bT}{W':World}{A:mC}{cap:Nat}
  (hk:(kill=[]/\old=Z)\/∃k t w,kill=[k]/\s.rs[k]?=U (.own t)/\O.r[k]?=U w/\old=w.jS)(a3:∀k∈kill,k∉frz)
  (g:W.grownBy W' old)(af:eG W o e rows)(f:Bz o V O s e rows frz)(B:Dg W W' e (bw o (.sl e)).length old rows A cap):
  az p d D o V (O.add (.r (.mk (.slice A (Y rows) cap) rows))) {s with rs:=jz frz 0 (gV kill 0 s.rs)++[.own e]} a W'/\∀b,de o (.sl e) (.mk (.slice A (Y rows) cap) rows) b->d.heap.size<=b\/b∈p\/O.ow o s.rs b:=by
 have z:∀b,old=U b->(d.heap.size<=b\/b∈p)/\b<W.heap.size/\(∀i,aM s.boxes i=J->ad V i≠b)/\(∀L H M,L∉kill->s.rs[L]?=U H->O.r[L]?=U M->¬xA o H M b)/\¬lZ o e rows b:=by
  intro b m;rcases hk with⟨_,n⟩|⟨k,t,w,rfl,X,F,y⟩;rw[n] at m;cases m;rw[y] at m;have tp:=R.dJ k t w b X F m;refine⟨tp.own,tp.lt,tp.box,λL H M hn=>tp.alone L H M (by simpa using hn),λG=> ?_⟩;exact a3 k (by simp) ((f b G).2.2 k t w X F m)
 have R1:az p d D o V O {s with rs:=gV kill 0 s.rs} a W':=by
  rcases hk with⟨rfl,rfl⟩|⟨k,t,w,rfl,X,F,rfl⟩;have:gV [] 0 s.rs=s.rs:=by
   apply aDG;intro i;rw[IA];cases s.rs[i]?<;>simp
  rw[this];exact R.grown g;exact R.dw X F g
 have R2:=R1.mc (Qm frz _);have a4:eG W' o e rows:=af.world (λb G=>g.block b (af.lt G) (λh=>(z b h.symm).2.2.2.2 G)) g.size;have a5:bz W' o (.sl e) (.mk (.slice A (Y rows) cap) rows):=by
  rcases B.mem with n|⟨b,ag,rfl,X,F,y,h4,Q⟩;have N:=B.le;have:rows=[]:=aDI (by omega);subst this;exact By A cap;refine Yv a4 ⟨_,_,_,X⟩ (λq u hq=> ?_) B.le;rw[<-h4,aDK] at hq;split at hq;simp only[World.cell?,X,aDM];simpa using hq;cases hq
 have al:∀b,xA o (.own e) (.mk (.slice A (Y rows) cap) rows) b->(W.heap.size<=b\/old=U b)\/lZ o e rows b:=by
  intro b N;have a1:∀v,A=U v->cap≠0->v.block=b->(W.heap.size<=b\/old=U b):=by
   intro v hA hc ab;rcases B.mem with n|⟨x,ag,X,_,_,_,_,Q⟩;exact absurd n hc;rw[X] at hA;cases hA;simp only at ab;subst ab;exact Q
  rcases N with N|⟨-,N⟩;cases N with
  |own e w b N=>
   rcases ag9 N with⟨v,bg,bk,X,rfl⟩|X;simp only[Value.slice.injEq] at X;exact .inl (a1 v X.1 (by have:=B.le;omega) rfl);exact .inr X
  simp only[RV.jS,RV.lg] at N;split at N;rename_i v l0 c0 X;cases X;simp at N;exact .inl (a1 v rfl (by omega) N);cases N
 have a6:∀{k:Nat}{H:RK},(jz frz 0 (gV kill 0 s.rs))[k]?=U H->∃e0,(gV kill 0 s.rs)[k]?=U e0/\pg e0 H:=λh=>(Qm frz _).get _ _ h
 constructor;refine R2.add (Mt (Mt hb (zH _ _ _)) (zI _ _ _)) (bz.own e _ a5 (λl c h=>by cases h;exact B.nil rfl)) (λb N i G=> ?_) (λk t M b X F y N=> ?_) (λt b ht a2=> ?_);rcases al b (.inl N) with(h|h)|h;have:=R.mem.lt G;omega;exact(z b h).2.2.1 i G;exact(f b h).2.1 i G;obtain⟨a7,a8⟩:=Yz X;rcases ahd a7 with⟨_,h⟩|⟨a9,an⟩;cases h;rcases al b N with(h|h)|h;have:=(R.dJ k t M b an F y).lt;omega;exact(z b h).2.2.2.1 k _ M a9 an F (.inr ⟨⟨t,rfl⟩,y⟩);exact a8 ((f b h).2.2 k t M an F y);cases ht;have bb:cap≠0:=by
  intro h;subst h;simp[RV.jS] at a2
 rcases B.mem with n|⟨x,ag,rfl,X,F,y,h4,Q⟩;exact absurd n bb;have ab:x=b:=by
  obtain⟨c',rfl⟩:∃c',cap=c'+1:=⟨cap-1,by omega⟩;simpa[RV.jS] using a2
 subst ab;have bf:∀(L:Nat)(H:RK)(M:RV),(gV kill 0 s.rs)[L]?=U H->O.r[L]?=U M->¬xA o H M x:=by
  intro L H M g1 j C;rcases ahd g1 with⟨_,rfl⟩|⟨hn,ap⟩;rcases C with C|⟨⟨t,ht⟩,_⟩;cases C;cases ht;rcases Q with Q|Q;rcases C with C|⟨⟨t,rfl⟩,C⟩;have:=(R.mem.ref L H M ap j).1.lt C;omega;have:=(R.dJ L t M x ap j C).lt;omega;exact(z x Q).2.2.2.1 L H M hn ap j C
 refine⟨?_,⟨Y rows,cap,ag,rfl,X,B.le,F,y⟩,λi G=> ?_,λL H M g1 j C=> ?_,λG=> ?_⟩;rcases Q with Q|Q;exact .inl (aDY R.mem.base.size Q);exact(z x Q).1;rcases Q with Q|Q;have:=R.mem.lt G;omega;exact(z x Q).2.2.1 i G;obtain⟨e0,g4,hw⟩:=a6 g1;exact bf L e0 M g4 j (C.mc hw);rcases Q with Q|Q;have:=af.lt G;omega;exact(z x Q).2.2.2.2 G;intro b N;rcases al b (.inl (de.own _ _ _ N)) with(h|h)|h;exact .inl (aDY R.mem.base.size h);exact(z b h).1.imp id .inl;exact .inr (.inr (f b h).1)
end
section
variable{p:aj}{d:World}{D:bR}{P:Program}{o:Ty}{V:aj}{O:ac}{s:S}{a:Act}{W:World}
def jU(A:mC)(X:Nat):bT:=match A,X with
 |U a,_+1=>U a.block
 |_,_=>Z
def IG(A:mC)(n X:Nat)(R:am):(RV.mk (.slice A n X) R).jS=jU A X:=by
 cases A<;>cases X<;>rfl
structure II(W:World)(e:TypeId)(w:Nat)(A:mC)(cap:Nat):Prop where
 nil:A=Z->cap=0
 mem:cap=0\/∃b cur,A=U ⟨b,0,Z⟩/\W.heap[b]?=U (.cells cur e (0,0))/\cap<=maxLen/\cur.size=cap*w
def YA{e:TypeId}{X:am}{b n N:Nat}{Q:jk}{t:TypeId}{M:Nat×Nat}(h:bz W o (.sl e) (.mk (.slice (U ⟨b,0,Z⟩) n N) X))(L:W.heap[b]?=U (.cells Q t M)):
  Q.toList.take (Y X*(bw o (.sl e)).length)=dt X:=by
 have C:=zJ (eG.vN h).len;have H:∀(q:Nat)(u:Value),(dt X)[q]?=U u->Q[q]?=U u:=by
  intro q u R;obtain⟨B,A,G,z,F⟩:=Mp h q u R;cases G;simpa[World.cell?,L] using F
 apply aDG;intro q;rw[aDK];by_cases R:q<(dt X).length;rw[if_pos (by omega),aDe R];simpa using H q _ (aDe R);rw[if_neg (by omega),aDy (by omega)]
def asb{e t t2 tyR:TypeId}{G:TI}(a4:dQ P e G)(hw:Y G.ae≠0)(af:(bw o (.sl e)).length=Y G.ae)(r:P.underlying t=U (.slice e))(p:P.underlying t2=U (.slice e))
  {L N:am}{H n:mC}{X Q R cap2:Nat}(C:bz W o (.sl e) (.mk (.slice H X Q) L))(hr:II W e (Y G.ae) H Q)
  (ag:Y N=R)(a5:eG W o e N)(a6:∀(q:Nat)(u:Value),(dt N)[q]?=U u->∃m,n=U m/\W.cell? (m.add q)=U u)
  (b5:X<=536870912)(b6:R<=536870912):
  ∃A a7 W',(Builtin.append_ #[t,t2] tyR #[.slice H X Q,.slice n R cap2]).run P W=.ok (.slice A (X+R) a7) W'/\W.grownBy W' (jU H Q)/\Dg W W' e (Y G.ae) (jU H Q) (L++N) A a7:=by
 obtain⟨i,B,y,z,hz,bd⟩:=a4.Ip;have bf:=a4.bytes i B;have bg:z.cells.size=Y G.ae:=by rw[<-aEs,bd];simp
 obtain⟨cU,b7⟩:=qY C;have bk:=eG.vN C;have a8:(dt L).length=X*i.size:=by rw[zJ bk.len,cU,af,y]
 have al:(dt N).length=R*i.size:=by rw[zJ a5.len,ag,af,y]
 have an:(dt (L++N)).length=(X+R)*Y G.ae:=by rw[Yu,aDs,a8,al,y,aEl]
 have l:(L++N).length=X+R:=by simp[cU,ag]
 have ap:∀M:World,(∀x,M.cell? x=W.cell? x)->(Builtin.firstCells i.size R (.slice n R cap2)).run P M=.ok (dt N).toArray M:=by
  intro M g;cases n with
  |none=>
   have:dt N=[]:=by
    cases hq:dt N with
    |nil=>rfl
    |cons x xs=>obtain⟨m,h,_⟩:=a6 0 x (by rw[hq];rfl);cases h
   rw[run_firstCells_none,this]
  |some a2=>
   refine run_firstCells_some M i.size R a2 R cap2 _ al (λj v hj=> ?_);obtain⟨m,h,h'⟩:=a6 j v hj;cases h;rw[g];exact h'
 have bl:∀M:World,(∀x,M.cell? x=W.cell? x)->(Builtin.firstCells i.size X (.slice H X Q)).run P M=.ok (dt L).toArray M:=by
  intro M g;cases H with
  |none=>
   have:dt L=[]:=by
    cases hq:dt L with
    |nil=>rfl
    |cons x xs=>obtain⟨b,bo,h,_⟩:=Mp C 0 x (by rw[hq];rfl);cases h
   rw[run_firstCells_none,this]
  |some f=>
   refine run_firstCells_some M i.size X f X Q _ a8 (λj v hj=> ?_);obtain⟨b,bo,h,_,h'⟩:=Mp C j v hj;cases h;rw[g,vM];exact h'
 by_cases d:X+R<=Q
 
 rcases aEu Q with h0|h0;have e1:X=0:=by omega
 have e2:R=0:=by omega
 subst h0 e1 e2;have r1:L=[]:=aDI cU;have r2:N=[]:=aDI ag;subst r1 r2;refine⟨H,0,W, ?_,⟨rfl,rfl,rfl,aDm _,λ_ _ _=>rfl⟩,⟨aDm _,λ_=>rfl,.inl rfl⟩⟩;have F:=ap W (λ_=>rfl);have ab:∀f:Addr,(storeCells f [] 0).run P W=.ok () W:=λ_=>rfl
 cases H with
 |none=>simp[Builtin.append_,run_underlying r,run_underlying p,Go.sizeOf,typeInfo,B,Builtin.lenOf,F,dt]
 |some f=>simp[Builtin.append_,run_underlying r,run_underlying p,Go.sizeOf,typeInfo,B,Builtin.lenOf,F,dt,ab]
 rcases hr.mem with g|⟨b,w,rfl,hg,a3,br⟩;omega;have bs:X*i.size+(dt N).length<=w.size:=by rw[al,br,<-aEl,y];exact aEv _ d
 have F:=ap W (λ_=>rfl);have ab:=run_storeCells_at P b (X*i.size) e (dt N) 0 w W hg (by simpa using bs) (λu hu=>ag4 (a5.single u hu));simp only[aEA] at ab;have a9:jU (U ⟨b,0,Z⟩) Q=U b:=by cases Q with
  |zero=>omega
  |succ c=>rfl
 refine⟨U ⟨b,0,Z⟩,Q,W.setRow b (w.toList.take (X*i.size)++dt N++w.toList.drop (X*i.size+(dt N).length)).toArray, ?_,⟨rfl,rfl,rfl,by simp[World.setRow],λk _ hk=>setRow_other W b k _ (λh=>hk (by rw[a9,h]))⟩,
  ⟨by rw[l];exact d,by simp,.inr ⟨b,_,rfl,setRow_heap W b w _ e _ hg,a3, ?_, ?_,.inr a9⟩⟩⟩
 simp[Builtin.append_,run_underlying r,run_underlying p,Go.sizeOf,typeInfo,B,Builtin.lenOf,d,F,Addr.add_lit,ab];simp only[aED,aDs,aEQ,aEJ,aEs];omega;have bb:=YA C hg;rw[cU,af,<-y] at bb;rw[l,bb,<-Yu,<-an];exact List.take_left
 
 have bt:X+R<=1073741824:=by omega
 have bx:(X+R)*i.bytes<=140737488355328:=by
  have:(X+R)*i.bytes<=1073741824*131072:=aF2 bt bf;omega
 have b8:=growslice_fits (show Q<X+R by omega) bx;have b0:X+R<=maxLen:=by simp only[maxLen];omega
 have b1:=grownCap_ge W (X+R) Q e;have a3:=grownCap_le_maxLen W (X+R) Q e b0;have F:=ap W.drew (λ_=>by simp);have b2:=bl W.drew (λ_=>by simp);have b3:¬(9223372036854775807<((X:Int)+(R:Int))):=by omega
 have b4:¬(281474976710656<Builtin.nextslicecap (X+R) Q*i.bytes):=by omega
 refine⟨U ⟨W.heap.size,0,Z⟩,grownCap W (X+R) Q e,W.drew.alloc (.cells ((dt (L++N)).toArray++Builtin.zeroCells z.cells (grownCap W (X+R) Q e-(X+R))) e), ?_,
  ⟨rfl,rfl,rfl,by simp,λk hk _=>Below.heap_alloc W.drew _ _ hk⟩,⟨by rw[l];exact b1,by simp,.inr ⟨W.heap.size,_,rfl,World.alloc_heap_new W.drew _,a3, ?_, ?_,.inl (aDm _)⟩⟩⟩
 simp[Builtin.append_,run_underlying r,run_underlying p,Go.sizeOf,typeInfo,zeroValue,B,hz,Builtin.lenOf,d,b3,b4,Question.forced,F,b2,newRow,grownCap];congr 2;apply aEe;simp[aD5,Yu];simp only[Array.size_append,aED,size_zeroCells,bg,an,<-aEl];congr 1;omega;simp only[Array.toList_append,l,<-an];exact List.take_left
end
structure bG(s:S)(O:ac)(V:aj)(s':S)(O':ac)(V':aj):Prop where
 ext:mb s.boxes O O' V V'
 mono:∀i,aM s.boxes i=J->aM s'.boxes i=J
 len:Y s.boxes<=Y s'.boxes
 au:s.au<=s'.au
def bG.refl(s:S)(O:ac)(V:aj):bG s O V s O V:=⟨mb.refl _ _ _,λ_ h=>h,aDm _,aDm _⟩
def bG.trans{s s' X:S}{O R Q:ac}{V N M:aj}(h:bG s O V s' R N)(k:bG s' R N X Q M):bG s O V X Q M:=
 ⟨h.ext.trans k.ext h.mono,λi L=>k.mono i (h.mono i L),aDY h.len k.len,aDY h.au k.au⟩
def bG.put{s s':S}{X:ac}{R:aj}(h:bG s k y s' X R)(d:bT)(v:SV):bG s k y (s'.put d v) X R:=by
 cases d<;>exact⟨h.ext,h.mono,h.len,h.au⟩
def OR.gives(O:ac)(X:S):OR->Prop
 |.ok x=>X=x
 |.aV b x=>b.den O=J/\X=x
 |.split b R Q=>X=if b.den O then R else Q
 |.no _=>False
def qZ(P:Program)(o:Oper)(a:Act)(W:World)(v:Value)(X:World):Prop:=
 (execOp a.eval o).run P W=.ok (.value v) X\/((execOp a.eval o).run P W=.ok .skip X/\v=undef)
def YB{s:S}(h:eU s.boxes R=J)(t:TypeId)(X:ai)(d:bT)(v:SV):bG s k y ((s.cq R t X).put d v) k (y.set R M):=by
 refine bG.put (s':=s.cq R t X) ⟨ag2 h k y M,λi Q=>(nM (lK h).2).2 (.inr Q),by simp[S.cq],by simp[S.cq]⟩ d v
def ahe{s:S}{Q:ai}(h:bX s.boxes R=U (X,w))(d:bT)(v:SV):bG s k y ((s.cq R X Q).put d v) k y:=by
 refine bG.put (s':=s.cq R X Q) ⟨mb.refl _ _ _,λi N=>(nM (aDd.1 (i5.1 h)).1).2 (.inr N),by simp[S.cq],by simp[S.cq]⟩ d v
def bG.lk{s X:S}{R:ac}{Q:aj}(h:bG s k y X R Q)(n:Nat):bG s k y {X with lk:=n} R Q:=⟨h.ext,h.mono,h.len,h.au⟩
section
variable{g:aj}{u:World}{D:bR}{P:Program}{f:bB}{V:aj}{O:ac}{s:S}{a:Act}{W:World}
def az.lk(R:az g u D f.ty V O s a W)(n:Nat):az g u D f.ty V O {s with lk:=n} a W:=⟨R.mem,R.fp,R.ei,R.eb,R.er,R.cP,R.size,R.tmps,R.dJ⟩
def zK{s X:S}{d:bT}{r:PR}(h:(qN s d R r).gives k X):∃v,r.gives k v/\X=s.cH d v R:=by
 cases r with
 |ok v=>exact⟨v,rfl,h⟩
 |aV b v=>
  simp only[qN] at h;split at h;exact⟨v,⟨h.1,rfl⟩,h.2⟩;exact h.elim
 |no w=>exact h.elim
def ahf(n:Nat)(l:ai):(vC n l).length=n*Y l:=by
 induction n with
 |zero=>simp[vC]
 |succ n X=>simp[vC,X,aEl];omega
def YC(l:ai):∀(n k:Nat),k<n*Y l->(vC n l)[k]?=l[k%Y l]?
 |0,k,h=>by simp at h
 |n+1,k,h=>by
  have Q:0<Y l:=by
   rcases aEu (Y l) with X|X;rw[X] at h;simp at h;exact X
  rw[vC];by_cases R:k<Y l;rw[aDg R,Nat.mod_eq_of_lt R];rw[aDk (by omega),YC l n (k-Y l) (by rw[aEl] at h;omega)];congr 1;have:k=(k-Y l)+Y l:=by omega
  conv=>rhs;rw[this,Nat.add_mod_right]
def Mu(R:az g u D f.ty V O s a W)(C:gY P f.ty)(F:et f.gl O)(m:OM){s':S}(h:(fc f m s).gives O s'):
  ∃v W' V',qZ P m.o a W v W'/\az g u D f.ty V' O s' (a.put m.o.dst v) W'/\bG s O V s' O V':=by
 unfold fc at h;split at h;exact h.elim;rename_i Q;have Q:∀x∈m.o.op.operands.toList,(s.ev f.gl x).dL=false:=by
  intro x hx;cases hh:(s.ev f.gl x).dL;rfl;exact absurd (aDL.2 ⟨x,hx,hh⟩) Q
 split at h
 
 rename_i t X;split at h;rename_i ti w;split at h;rename_i N;simp only[aDc] at N;cases h;obtain⟨z,af,ag⟩:=It (P:=P) (W:=W) (O:=O) (V:=V) (C _ _ w);have G:=R.alloc (qX N.2) t (dp ti) N.1;rw[qW (Iz N.2)] at G;have n:=lK (qX N.2);refine⟨.pointer (U ⟨W.heap.size,0,Z⟩),W.alloc (.cells (SV.aD O V (dp ti)).toArray t),V.set m.ix W.heap.size,.inl ?_, ?_,YB (qX N.2) _ _ _ _⟩;rw[<-ag];simp[execOp,X,Instr.alloc,af,newVar,newRow];have:=G.put m.o.dst (.loc m.ix 0);rw[SV.den,Bw (by rw[R.fp];exact n.2)] at this;exact this;exact h.elim;exact h.elim
 
 rename_i t x X;rw[X] at Q;have he:=cJ R F x (Q x (by simp[Op.operands]));split at h;rename_i ti w;split at h;rename_i N;simp only[aDc] at N;cases h;obtain⟨⟨⟨-,j⟩,h2⟩,H⟩:=N;have al:=Qj (O:=O) (V:=V) (ui R) h2;have G:=R.alloc (qX H) t (s.ev f.gl x).cells j;rw[qW (Iz H)] at G;have n:=lK (qX H);refine⟨.pointer (U ⟨W.heap.size,0,Z⟩),W.alloc (.cells (SV.aD O V (s.ev f.gl x).cells).toArray t),V.set m.ix W.heap.size,.inl ?_, ?_,YB (qX H) _ _ _ _⟩;rw[<-al];simp[execOp,X,Instr.box,newVar,newRow,he];have:=G.put m.o.dst (.loc m.ix 0);rw[SV.den,Bw (by rw[R.fp];exact n.2)] at this;exact this;exact h.elim;exact h.elim
 
 rename_i t L parts X;rw[X] at Q;have a2:(parts.map λ(i,x)=>(i,a.eval x)).toList=(parts.toList.map λp=>(p.1,s.ev f.gl p.2)).map λp=>(p.1,p.2.den O V):=by
  simp only[aEh,aD7];apply aDC;intro p hp;have:=cJ R F p.2 (Q p.2 (by simp[Op.operands];exact⟨p.1,by simpa using hp⟩));simp[this]
 split at h;rename_i e ae q w;split at h;rename_i M an;split at h;rename_i l hf;split at h;rename_i N;simp only[aDc,decide_eq_true_eq] at N;cases h;obtain⟨⟨j,h2⟩,H⟩:=N;have hd:P.underlying t=U (.slice e):=(C _ _ w).desc;obtain⟨z,af,ag⟩:=It (P:=P) (W:=W) (O:=O) (V:=V) (C _ _ an);have a3:=Mm (V:=V) (ui R) _ _ _ _ hf;have d:(dp M).length=Y M.ae:=by simp[dp]
 have hzero:((aGs (L*Y M.ae)).map ((if L*Y M.ae=0 then #[] else z.cells)[· %(if L*Y M.ae=0 then #[] else z.cells).size]!))=(SV.aD O V (vC L (dp M))).toArray:=by
  apply aEe;apply aDG;intro k;by_cases ab:k<L*Y M.ae;have a6:¬L*Y M.ae=0:=by omega
  have a7:0<Y M.ae:=by
   rcases aEu (Y M.ae) with B|B;rw[B] at ab;simp at ab;exact B
  have a4:k%Y M.ae<(SV.aD O V (dp M)).length:=by rw[FJ,d];exact aFH _ a7
  simp only[a6,if_false,ag,aEh,aF5,aDj,aEt ab,aDn,qS,YC _ _ _ (by rw[d];exact ab),d];rw[<-qS,aDe a4];simp only[aED,FJ,d];rw[getElem!_pos _ _ (by simpa using a4)];simp;rw[aDy (by simp;omega),aDy (by simp[ahf,d];omega)]
 have G:=R.alloc (qX H) e l j;rw[qW (Iz H)] at G;have n:=lK (qX H);refine⟨.slice (U ⟨W.heap.size,0,Z⟩) L L,W.alloc (.cells (SV.aD O V l).toArray e),V.set m.ix W.heap.size,.inl ?_, ?_,YB (qX H) _ _ _ _⟩;have a5:¬L*Y M.ae>2^24:=by omega
 by_cases B:L*Y M.ae=0;simp only[if_pos B] at hzero;simp only[execOp,X,Instr.buildSlice,Sem.run_bind,dQ.f9 hd,Result.andThen_ok,(C _ _ an).ma,a5,if_false,Sem.run_pure,if_pos B,a2];rw[hzero,a3];simp[newRow];simp only[if_neg B] at hzero;simp only[execOp,X,Instr.buildSlice,Sem.run_bind,dQ.f9 hd,Result.andThen_ok,(C _ _ an).ma,a5,if_false,Sem.run_pure,if_neg B,a2,af];rw[hzero,a3];simp[newRow];have:=G.put m.o.dst (.gM m.ix 0 L L);rw[SV.den,Bw (by rw[R.fp];exact n.2)] at this;exact this;exact h.elim;exact h.elim;exact h.elim;exact h.elim
 
 rename_i t x y X;rw[X] at Q;have ap:=cJ R F x (Q x (by simp[Op.operands]));have a0:=cJ R F y (Q y (by simp[Op.operands]));split at h;rename_i ti i a9 w hx;split at h;rename_i bt cs r;split at h;rename_i N;simp only[aDc,beq_iff_eq,decide_eq_true_eq] at N;cases h;obtain⟨⟨⟨⟨j,h2⟩,H⟩,h4⟩,-⟩:=N;have al:=Qj (O:=O) (V:=V) (ui R) h4;obtain⟨r,a8⟩:=xC r;obtain⟨W',hr,G⟩:=R.store (C _ _ w) r a8 j h2 H al;refine⟨undef,W',V,.inr ⟨?_,rfl⟩,G.put m.o.dst (.bK []),ahe r _ _⟩;simp only[execOp,X,ap,a0,hx,SV.den,Sem.run_bind,hr,Result.andThen_ok,Sem.run_pure];exact h.elim;exact h.elim;exact h.elim
 
 rename_i c x y X;rw[X] at Q;have a1:=cJ R F c (Q c (by simp[Op.operands]));have ap:=cJ R F x (Q x (by simp[Op.operands]));have a0:=cJ R F y (Q y (by simp[Op.operands]));split at h;rename_i b r;simp only[OR.gives] at h;rw[r,SV.den] at a1;cases A:b.den O;simp only[A,aDB,if_false] at h;subst h;refine⟨_,W,V,.inl ?_,R.put _ _,(bG.refl _ _ _).put _ _⟩;simp[execOp,X,a1,A,asBool,a0];simp only[A,if_true] at h;subst h;refine⟨_,W,V,.inl ?_,R.put _ _,(bG.refl _ _ _).put _ _⟩;simp[execOp,X,a1,A,asBool,ap];exact h.elim
 
 rename_i t x X;obtain⟨v,A,rfl⟩:=zK h;exact⟨v.den O V,W,V,.inl (agZ R C F m.o Q (by rw[X];exact A)),(R.lk _).put _ _,((bG.refl _ _ _).lk _).put _ _⟩
 
 obtain⟨v,A,rfl⟩:=zK h;exact⟨v.den O V,W,V,.inl (agZ R C F m.o Q A),(R.lk _).put _ _,((bG.refl _ _ _).lk _).put _ _⟩
def az.room{g:aj}{u:World}{D:bR}{V:aj}{O:ac}{s:S}{a:Act}{W:World}(R:az g u D f.ty V O s a W)(n:Nat):
  az g u D f.ty (V++aDq n 0) O (s.room n) a W/\bG s O V (s.room n) O (V++aDq n 0):=by
 have X:∀k,ad (V++aDq n 0) k=ad V k:=by
  intro k;simp only[ad,aDf];by_cases h:k<Y V;rw[aDg h];rw[aDk (by omega),aDy (l:=V) (by omega),aEm];split<;>rfl
 have G:∀i,bX (s.boxes++aDq n Z) i=bX s.boxes i:=by
  intro i;simp only[cK];by_cases h:i<Y s.boxes;rw[aDg h];rw[aDk (by omega),aDy (l:=s.boxes) (by omega),aEm];split;rename_i N;split at N<;>cases N;rfl
 have M:∀i,aM (s.boxes++aDq n Z) i=aM s.boxes i:=λi=>by simp[aM,G]
 have C:=gI.refl O (Y O.i) (Y O.b) (Y O.r);have F:∀v,SV.den O (V++aDq n 0) v=v.den O V:=by
  intro v;have:ad (V++aDq n 0)=ad V:=funext X;exact Qb this v
 have w:∀l,SV.aD O (V++aDq n 0) l=SV.aD O V l:=λl=>by simp only[nJ];exact aDC λv _=>F v
 refine⟨⟨⟨R.mem.base,λi Q=> ?_,λi j Q B=> ?_,λi t A h=> ?_,λk e L N H=> ?_⟩,by simp[S.room,R.fp],R.ei,R.eb,R.er,R.cP,R.size,λt z h=> ?_,λk e L b N H y=> ?_⟩,⟨⟨C,aDm _,aDm _,aDm _,λk _=>X k⟩,λi Q=> ?_,by simp[S.room],aDm _⟩⟩;rw[X];exact R.mem.own i (by rw[<-M];exact Q);rw[X,X];exact R.mem.inj i j (by rw[<-M];exact Q) (by rw[<-M];exact B);rw[X,agz (funext X)];exact R.mem.box i t A (by rw[<-G];exact h);refine⟨(R.mem.ref k e L N H).1,λb x i Q=> ?_⟩;rw[X];exact(R.mem.ref k e L N H).2 b x i (by rw[<-M];exact Q);rw[F];exact R.tmps t z h;have t:=R.dJ k e L b N H y;exact⟨t.own,t.mem,λi Q=>by rw[X];exact t.box i (by rw[<-M];exact Q),t.alone,t.inner⟩;simp only[S.room];rw[M];exact Q
end
section
variable{p:aj}{f:World}{D:bR}{P:Program}{cf:bB}{V:aj}{O:ac}{s:S}{a:Act}{W:World}
def xG{d:bT}{aV:BE}{x:LE}{R:aj}{b:BI}(h:jl s d aV X F x y R=U b):
  s.bd=J/\(∀F∈y,F∉R)/\b=⟨aV,X,x,({s with rs:=jz R 0 (gV y 0 s.rs)++[F]}:S).put d (.ref (.v (Y s.rs)))⟩:=by
 unfold jl at h;split at h;rename_i Q;cases h;simp only[aDc] at Q;exact⟨Q.1.1.1,λF N=>by have:=aDr.1 Q.1.1.2 F N;simpa using this,rfl⟩;cases h
def FT{X:S}(N:az p f D n V (O.add (.r L)) X a Q)(M:Y O.r=R)(d:bT):az p f D n V (O.add (.r L)) (X.put d (.ref (.v R))) (a.put d L.val) Q:=by
 have:=N.put d (.ref (.v R));have e:SV.den (O.add (.r L)) V (.ref (.v R))=L.val:=by subst M;simp[SV.den,RE.den,RE.rv,ac.rv,ac.add]
 rwa [e] at this
def Dh{rv:RV}(X:aE)(d:bT)(v:SV):bG s O V (({s with rs:=X}:S).put d v) (O.add (.r rv)) V:=
 bG.put (s:=s) (s':={s with rs:=X}) ⟨pV _ _ _ _,λ_ h=>h,aDm _,aDm _⟩ d v
def Qs{n:IE}(h:(HY n).den O=J):n.den O<=536870912:=by
 unfold HY at h;rw[Bs] at h;simp only[fQ,IE.den,HX] at h;exact of_decide_eq_true h
def IJ(P:Program)(p:aj)(f:World)(D:bR)(R:Ty)(V:aj)(O:ac)(s:S)(a:Act)(W:World)(o:Oper)(b:BI):Prop:=
 ∃v Q X,qZ P o a W v Q/\FL R p f b.e b.x s.rs O X/\az p f D R V (O.add (.r X)) b.s (a.put o.dst v) Q/\bG s O V b.s (O.add (.r X)) V
def Mv(Q:az p f D cf.ty V O s a W)(h:s.rs[R]?=U (.own X)):∃A n N,O.rv R=.mk (.slice A n N) (O.rv R).rows/\bz W cf.ty (.sl X) (.mk (.slice A n N) (O.rv R).rows)/\II W X (bw cf.ty (.sl X)).length A N:=by
 have M:=Yh Q h;have x:=sr Q h;have G:=λb F=>Q.dJ R X _ b h x F
 revert M G;generalize O.rv R=w;intro M G;cases M with
 |own X w M B=>
  cases M with
  |sl X A L N z v u t r F q=>
   refine⟨A,L,N,rfl,bz.sl X A L N z v u t r F q,λo=>B L N (by rw[o];rfl), ?_⟩;rcases aEu N with y|y;exact .inl y;right;cases A with
   |none=>have:=B L N rfl;omega
   |some C=>
    have m:(RV.mk (.slice (U C) L N) z).jS=U C.block:=by rw[IG];cases N with
     |zero=>omega
     |succ c=>rfl
    obtain⟨d,c',l,H,j,g3,i,g⟩:=(G _ m).mem;simp only[RV.lg,Value.slice.injEq] at H;obtain⟨H,rfl,rfl⟩:=H;exact⟨C.block,l,H,j,i,g⟩
def asc(R:az p f D cf.ty V O s a W){F:LE}{v:BE}(h:vD s X t N=U (F,v,y))(q:v.den O=J):
  ∃A n M,N.den O V=.slice A n M/\bz W cf.ty (.sl X) (.mk (.slice A n M) (F.rows O))/\II W X (bw cf.ty (.sl X)).length A M/\n<=536870912/\
   ((y=[]/\jU A M=Z)\/∃k Q C,y=[k]/\s.rs[k]?=U (.own Q)/\O.r[k]?=U C/\jU A M=C.jS)/\∀G,Bz cf.ty V O s X (F.rows O) G:=by
 unfold vD at h;split at h;rename_i k;split at h;rename_i o;cases h;have L:=o.1;obtain⟨A,n,M,B,m,l⟩:=Mv R L;have z:=Qs q;refine⟨A,n,M,by simp only[SV.den,RE.den,RE.rv];rw[B];rfl,by simpa[LE.rows,RE.rv] using m,l, ?_,.inr ⟨k,X,O.rv k,rfl,L,sr R L,by rw[B,IG]⟩,λG b H=> ?_⟩;simp only[IE.den,RE.rv] at z;rw[B] at z;simp[lenOf] at z;omega;simp only[LE.rows,RE.rv] at H;have u:=ID (O:=O) (e0:=.own X) rfl H;refine⟨⟨k,_,L,u⟩,(R.mem.ref k _ _ L (sr R L)).2 b u,λd Q C j i g=>(Ms R j i g L rfl H).elim⟩;cases h;rename_i r c;split at h;rename_i w;cases h;unfold RE.isNil at w;split at w;refine⟨Z,0,0,rfl,By _ _,⟨λ_=>rfl,.inl rfl⟩,by omega,.inl ⟨rfl,rfl⟩,λG b H=>(Mr (by simpa[LE.rows] using H)).elim⟩;cases w;cases h;cases h;refine⟨_,0,0,rfl,By _ _,⟨by simp,.inl rfl⟩,by omega,.inl ⟨rfl,rfl⟩,λG b H=>(Mr (by simpa[LE.rows] using H)).elim⟩;cases h
def Qt{w:Nat}:∀{n:Nat}{l:ai}{i:Nat}{X:ai},(iH w n l)[i]?=U X->X=(l.drop (i*w)).take w/\i<n
 |0,l,i,X,h=>by simp[iH] at h
 |n+1,l,0,X,h=>by simp[iH] at h;subst h;exact⟨by simp,by omega⟩
 |n+1,l,i+1,X,h=>by
  simp only[iH,aDO] at h;obtain⟨R,Q⟩:=Qt h;refine⟨?_,by omega⟩;rw[R,aFa];congr 2;rw[aEl];omega
def Qu(w:Nat):∀(n:Nat)(l:ai),(iH w n l).length=n
 |0,l=>rfl
 |n+1,l=>by simp[iH,Qu w n]
def Qv:∀{l:ai}{r:RE}{k:Nat},SV.ref r∈l->r.root=U k->k∈SV.nD l
 |[],r,k,h,_=>by simp at h
 |x::R,r,k,h,X=>by
  simp only[SV.nD,aDo];rcases aDp.1 h with rfl|h;left;simp[SV.XJ,X];right;exact Qv h X
def ahg(R:az p f D cf.ty V O s a W){l:tW}{frz:aj}(C:lX cf.ty s (bw cf.ty (.sl X)) l=J)(B:∀N∈l,∀(r:RE)(k:Nat),SV.ref r∈N->r.root=U k->k∈frz):
  Bz cf.ty V O s X (l.map λN=>N.map (SV.bN O)) frz:=by
 intro b ⟨i,j,N,c,z,k,Q,A,y,x⟩;rw[aDj] at Q;cases M:l[i]? with
 |none=>rw[M] at Q;cases Q
 |some L=>
  rw[M] at Q;simp at Q;subst Q;obtain⟨r,w,H,G,F⟩:=Yy (Df C i L M) A y x;obtain⟨v,u⟩:=IF R G H F;refine⟨v,u,λm t h q o n=> ?_⟩;have:=Qq R q o n G H F;subst this;exact B L (aDx M) _ _ (aDx w) rfl
def YD(R:az p f D cf.ty V O s a W){l:tW}(M:lX cf.ty s (bw cf.ty (.sl X)) l=J):eG W cf.ty X (l.map λN=>N.map (SV.bN O)):=by
 refine eG.of (λi N Q=> ?_);rw[aDj] at Q;cases h:l[i]? with
 |none=>rw[h] at Q;cases Q
 |some L=>rw[h] at Q;simp at Q;subst Q;exact Yx R (Df M i L h)
def YE{e:TypeId}{l:ai}{w n:Nat}(z:(bw cf.ty (.sl e)).length=w)(G:lX cf.ty s (bw cf.ty (.sl e)) (iH w n l)=J){q:Nat}{u:Value}(F:(∀(i:Nat)(R:aF),((iH w n l).map λR=>R.map (SV.bN O))[i]?=U R->Y R=w))
  (h:(dt ((iH w n l).map λR=>R.map (SV.bN O)))[q]?=U u):(SV.aD O V l)[q]?=U u:=by
 obtain⟨i,j,R,c,Q,N,rfl,rfl⟩:=IC F h;rw[aDj] at Q;cases M:(iH w n l)[i]? with
 |none=>rw[M] at Q;cases Q
 |some L=>
  rw[M] at Q;simp at Q;subst Q;rw[aDj] at N;cases X:L[j]? with
  |none=>rw[X] at N;cases N
  |some v=>
   rw[X] at N;simp at N;subst N;obtain⟨y,C⟩:=FR (Df G i L M);have x:j<Y L:=(aDd.1 X).1;obtain⟨H,B⟩:∃H,(bw cf.ty (.sl e))[j]?=U H:=⟨_,aDe (by omega)⟩;rw[qS];have A:=(Qt M).1;have:l[i*w+j]?=U v:=by
    rw[A,aDK] at X;split at X
    rwa [aDZ] at X
    cases X
   rw[this];simp only[aDn,aDh];exact ahc (C j H v B X)
def asd(R:az p f D cf.ty V O s a W)(af:cf.ty X=U v){G:LE}{n2:BE}(h:pQ cf.ty s X v N=U (G,n2,y))(hn:n2.den O=J):
  ∃A n M,N.den O V=.slice A n M/\(G.rows O).length=n/\eG W cf.ty X (G.rows O)/\(∀(q:Nat)(u:Value),(dt (G.rows O))[q]?=U u->∃a0,A=U a0/\W.cell? (a0.add q)=U u)/\n<=536870912/\Bz cf.ty V O s X (G.rows O) y:=by
 have m:bw cf.ty (.sl X)=v.ae:=by simp[bw,af]
 unfold pQ at h;split at h;rename_i r;split at h;rename_i l;cases h;unfold RE.isNil at l;split at l;exact⟨Z,0,0,rfl,rfl,eG.nil,λq u L=>by simp[LE.rows,dt] at L,by omega,λb Q=>(Mr (by simpa[LE.rows] using Q)).elim⟩;cases l;split at h;rename_i F;cases h;have B:=pU R (by simp) F;have z:=Qs hn;simp only[IE.den] at z;have j:Bz cf.ty V O s X (r.rv O).rows []:=by
  intro b Q;have hl:de cf.ty (.sl X) (r.rv O) b:=by rw[<-FQ (r.rv O)];exact Qn Q
  obtain⟨q1,q2⟩:=IF R (by simp) F hl;refine⟨q1,q2,λk' t g x k2 k3=> ?_⟩;have:=Qq R x k2 k3 (by simp) F hl;subst this;simp only[RE.kind,aDf,x,aDS,RK.rd,RK.sl.injEq] at F;subst F;exact(Ms R x k2 k3 x rfl Q).elim
 simp only[SV.den,RE.den,LE.rows];revert B z j;generalize r.rv O=g;intro B z j;have w:=eG.vN (v:=g.val) (rows:=g.rows) (by rw[FQ];exact B);cases B with
 |sl X A H M ag o h2 d hi Q ho=>
  refine⟨A,H,M,rfl,o,w,λq u L=> ?_,by simp[lenOf] at z;omega,j⟩;obtain⟨b,c,g1,g2,g3⟩:=Mp (bz.sl X A H M ag o h2 d hi Q ho) q u L;exact⟨_,g1,by rw[vM];exact g3⟩
 cases h;rename_i i c H M;split at h;rename_i bt cs Q;split at h;rename_i hc;cases h;simp only[aDc,decide_eq_true_eq] at hc;obtain⟨⟨o,h2⟩,d⟩:=hc;have hf:lX cf.ty s (bw cf.ty (.sl X)) (iH (Y v.ae) H (vy cs c (H*Y v.ae)))=true:=by rw[m];exact o
 have w:=YD R hf;refine⟨U ⟨ad V i,c,Z⟩,H,M,rfl,by simp[LE.rows,Qu],by simpa[LE.rows] using w,λq u L=> ?_,by simp[HX] at d;omega, ?_⟩;simp only[LE.rows] at L;have C:=YE (V:=V) (by rw[m]) hf (λi ab hr=>by rw[w.len i ab hr,m]) L;refine⟨_,rfl, ?_⟩;rw[qS,vy,aDK] at C;split at C;rw[aDZ,<-qS] at C;obtain⟨Q,al⟩:=xC Q;have:=R.mem.box i bt cs Q;rw[qW al] at this;rw[vM];simp[World.cell?,this,C];simp at C;refine ahg R hf (λab an r k hr hk=> ?_);obtain⟨ii,ap⟩:=aDU an;have:=(Qt ap).1;subst this;exact Qv (aEj (aEo hr)) hk;cases h;cases h;cases h
end
section
variable{d:aj}{g:World}{D:bR}{P:Program}{f:bB}{V:aj}{O:ac}{s:S}{a:Act}{W:World}
def zL{x y:BE}(h:(tZ x y).den O=J):x.den O=J/\y.den O=true:=by
 rw[Yc] at h;simpa using h
def xH{x y:IE}(h:(oo .leq x y).den O=J):x.den O<=y.den O:=by
 rw[Bs] at h;simp only[fQ] at h;exact of_decide_eq_true h
def ase(R:az d g D f.ty V O s a W)(G:gY P f.ty)(hg:et f.gl O){c:Call}(r:H.op=.call c)(n:c.callee=.builtin .append){dr:Bool}{b:BI}(h:dI f H t dr s=U b)(hn:b.aV.den O=J):
  IJ P d g D f.ty V O s a W H b:=by
 unfold dI at h;simp only[r,n] at h;split at h;rename_i X m x y af F;split at h;rename_i e ae q L a7 q2 ht ag;split at h;rename_i l C;split at h;cases h;rename_i k;have he:e=L:=by by_cases Q:e=L;exact Q;exact absurd (.inl Q) k
 have al:Y l.ae≠0:=λQ=>k (.inr Q)
 subst he;split at h;rename_i N n1 a8 M n2 j i h2;obtain⟨bJ,an,rfl⟩:=xG h;obtain⟨ap,a0⟩:=zL hn;obtain⟨A1,m1,c1,e1,B,g2,g3,g4,g5⟩:=asc (cf:=f) R i ap;obtain⟨A2,m2,c2,L,k1,k2,k3,k4,k5⟩:=asd R C h2 a0;have w:(bw f.ty (.sl e)).length=Y l.ae:=by simp[bw,C]
 obtain⟨A,v,W',r1,r2,r3⟩:=asb (P:=P) (tyR:=H.type) (t:=X) (t2:=m) (cap2:=c2) (G _ _ C) al w (G _ _ ht).desc (G _ _ ag).desc B (by rw[<-w];exact g2) k1 k2 k3 g3 k4;have a1:(LE.iG N M).rows O=N.rows O++M.rows O:=rfl;have ab:(N.rows O++M.rows O).length=m1+m2:=by rw[aDs,(qY B).1,k1]
 have a2:Bz f.ty V O s e (N.rows O++M.rows O) j:=λb hb=>(ar8 hb).elim (g5 j b) (k5 b)
 obtain⟨R',a3⟩:=R.bind bJ (old:=jU A1 c1) g4 an r2 ((eG.vN B).iG k2) a2 (by rw[w];exact r3);refine⟨.slice A (m1+m2) v,W',.mk (.slice A (N.rows O++M.rows O).length v) (N.rows O++M.rows O),.inl ?_,⟨⟨A,_,v,by rw[a1],rfl⟩,a3,λ_ _ _ _ h=>by cases h⟩, ?_,Dh _ _ _⟩;have ha:c.args.toList=[c.args.toList.getD 0 default,c.args.toList.getD 1 default]:=by
  have hl:Y c.args.toList=2:=by have:=congrArg Y F;simpa using this
  match c.args.toList,hl with
  |[p,q],_=>rfl
 have a4:∀z∈c.args.toList,a.eval z=(s.ev f.gl z).den O V:=by
  intro z u;refine cJ R hg z ?_;have:s.ev f.gl z∈[x,y]:=by rw[<-F];exact List.mem_map_of_mem u
  rcases aDp.1 this with Q|Q;rw[Q];cases x<;>first|rfl|(simp[vD] at i)
  rw[aE0.1 Q];cases y<;>first|rfl|(simp[pQ] at h2)
 have a5:c.args.map a.eval= #[x.den O V,y.den O V]:=by
  apply aEe;rw[aEh];have:c.args.toList.map a.eval=(c.args.toList.map (s.ev f.gl)).map (SV.den O V):=by
   rw[aD7];exact aDC λz u=>a4 z u
  rw[this,F];rfl
 have a6:c.argTypes= #[X,m]:=by apply aEe;rw[af]
 simp only[execOp,r,resolve,n,Sem.run_bind,Sem.run_pure,Result.andThen_ok,invoke,builtin,a5,a6,e1,L,r1];have:=FT R' R.er H.dst;rw[RV.lg,ab] at this;rw[ab];exact this;cases h;cases h;cases h;cases h
def asf(X:CT):((A6 X).bN O).val=pf X:=by cases X<;>rfl
def asg(R:az d g D f.ty V O s a W)(ab:gY P f.ty)(hg:et f.gl O){xm:Operand}(ho:H.op=.makeSlice X r xm){dr:Bool}{b:BI}(h:dI f H t dr s=U b)(hn:b.aV.den O=J):
  IJ P d g D f.ty V O s a W H b:=by
 unfold dI at h;simp only[ho] at h;split at h;rename_i e ae q n m ht a1 a2;split at h;rename_i Q y;split at h;rename_i hc;simp only[aDc,bne_iff_ne,ne_eq] at hc;obtain⟨⟨a7,a8⟩,a9⟩:=hc;obtain⟨bJ,b7,rfl⟩:=xG h;obtain⟨af,ag⟩:=zL hn;have af:=xH af;have ag:=Qs ag;simp only[IE.den] at af;obtain⟨N,x⟩:∃N:Nat,n.den O=(N:Int):=⟨(n.den O).toNat,by omega⟩;rw[x] at ag;have bb:N<=536870912:=by omega
 have hw:(bw f.ty (.sl e)).length=Y Q.ae:=by simp[bw,y]
 have u:bw f.ty (.sl e)=Q.ae:=by simp[bw,y]
 have al:=cJ R hg r (by rw[a1];rfl);have an:=cJ R hg xm (by rw[a2];rfl);have bd:m=n:=(IE.bL _ _ a7).symm;rw[a1,SV.den,x] at al;rw[a2,SV.den,bd,x] at an;obtain⟨i,hi,bf,z,hz,a3⟩:=(ab _ _ y).Ip;have bg:=(ab _ _ y).bytes i hi;have a4:z.cells.size=Y Q.ae:=by rw[<-aEs,a3];simp
 have hf:lX f.ty s (bw f.ty (.sl e)) [dp Q]=true:=by rw[u];exact a8
 have bk:Qr W f.ty (bw f.ty (.sl e)) ((dp Q).map (SV.bN O)):=Yx R (Df hf 0 _ rfl);have bl:(LE.rY n (dp Q)).rows O=aDq N ((dp Q).map (SV.bN O)):=by simp[LE.rows,x]
 have C:eG W f.ty e (aDq N ((dp Q).map (SV.bN O))):=eG.of (λi p G=>by
  rw[aEm] at G;split at G;cases G;exact bk;cases G)
 have bo:Bz f.ty V O s e (aDq N ((dp Q).map (SV.bN O))) []:=by
  intro b ⟨i,j,p,c,z,k,F,L,M,hl⟩;rw[aEm] at F;split at F;cases F;exfalso;rw[aDj,dp,aDj] at L;rw[u] at M;rw[M] at L;simp only[aDn,aDh,A6,SV.bN,RE.rv] at L;subst L;cases hl with
  |deep e v br i j p c z k b g1=>simp at g1
  |own e' b8 b hl=>
   have ap:=(FR (Df hf 0 _ rfl)).2 j _ (.ref (.k z)) (by rw[u];exact M) (by simp[dp,M,A6]);simp[qM,RE.fits] at ap
  |here e a0 bs bt br=>
   have ap:=(FR (Df hf 0 _ rfl)).2 j _ (.ref (.k (.slice (U a0) (bs+1) bt))) (by rw[u];exact M) (by simp[dp,M,A6]);simp[qM,RE.fits,RE.kind,RE.isNil] at ap
  cases F
 have bx:(aGs (N*Y Q.ae)).map (z.cells[· %z.cells.size]!)=(dt (aDq N ((dp Q).map (SV.bN O)))).toArray:=by
  apply aEe;apply aDG;intro q;have ca:(dt (aDq N ((dp Q).map (SV.bN O)))).length=N*Y Q.ae:=by rw[zJ C.len,hw];simp
  by_cases hq:q<N*Y Q.ae;have b0:0<Y Q.ae:=by omega
  have b1:q/Y Q.ae<N:=aFS (by rw[aFD];exact hq);have hj:q%Y Q.ae<Y Q.ae:=aFH _ b0;have a5:Q.ae[q%Y Q.ae]?=U Q.ae[q%Y Q.ae]:=aDe hj;have F:(aDq N ((dp Q).map (SV.bN O)))[q/Y Q.ae]?=U ((dp Q).map (SV.bN O)):=by rw[aEm,if_pos b1]
  have L:((dp Q).map (SV.bN O))[q%Y Q.ae]?=U ((A6 Q.ae[q%Y Q.ae]).bN O):=by simp[dp,a5]
  have M:=Mo (w:=Y Q.ae) (λi p G=>by rw[C.len i p G,hw]) F L;have b2:q/Y Q.ae*Y Q.ae+q%Y Q.ae=q:=by rw[aFD];exact aFT q _
  rw[b2,asf] at M;simp only[aEh,aF5,aDj,aEt hq,aDn,a4];rw[M];congr 1;have a6:q%Y Q.ae<z.cells.size:=by rw[a4];exact hj
  rw[getElem!_pos z.cells _ a6];have:z.cells.toList[q%Y Q.ae]?=U (pf Q.ae[q%Y Q.ae]):=by rw[a3,aDj,a5];rfl
  rw[aE2,aFz a6] at this;simpa using this;rw[aDy (by simp;omega),aDy (by rw[aFd];omega)]
 have b3:IntKind.i64.wrap (N:Int)=N:=IntWalk.i64_in _ (by omega);have cc:(i.bytes:Int)*N<=2^46:=by
  have:i.bytes*N<=131072*536870912:=aF2 bg bb;have L:((i.bytes*N:Nat):Int)<=((131072*536870912:Nat):Int):=Int.ofNat_le.2 this;simp only[Int.natCast_mul] at L;omega
 obtain⟨R',b4⟩:=R.bind bJ (old:=Z) (kill:=[]) (frz:=[]) (A:=U ⟨W.heap.size,0,Z⟩) (cap:=N) (W':=W.alloc (.cells (dt (aDq N ((dp Q).map (SV.bN O)))).toArray e)) (.inl ⟨rfl,rfl⟩) (by simp) (World.grownBy_alloc W _ Z) C bo
  ⟨by simp,by simp,by
   rcases aEu N with B|B;exact .inl B;exact .inr ⟨W.heap.size,_,rfl,World.alloc_heap_new W _,by simp only[maxLen];omega,by
    rw[aED,zJ C.len,hw];simp,by
    rw[aFd,aEp];rw[zJ C.len];exact aDm _,.inl (aDm _)⟩⟩
 refine⟨.slice (U ⟨W.heap.size,0,Z⟩) N N,W.alloc (.cells (dt (aDq N ((dp Q).map (SV.bN O)))).toArray e),.mk (.slice (U ⟨W.heap.size,0,Z⟩) (aDq N ((dp Q).map (SV.bN O))).length N) _,.inl ?_,⟨⟨_,_,_,by rw[bl],rfl⟩,b4,λ_ _ _ _ h=>by cases h⟩, ?_,Dh _ _ _⟩;have hd:P.underlying X=U (.slice e):=(ab _ _ ht).desc;rw[<-bx];have c1:¬((N:Int)<0):=by omega
 have c2:¬((i.bytes:Int)*N>2^48):=by omega
 by_cases B:N*Y Q.ae=0;have b5:N=0:=by rcases Nat.mul_eq_zero.1 B with l|l;exact l;exact absurd l a9
 subst b5;have b6:IntKind.i64.wrap 0=0:=IntWalk.i64_in 0 (by omega);simp[execOp,ho,al,an,Instr.makeSlice,dQ.f9 hd,asInt,asIntOf,typeInfo,hi,b6,Go.sizeOf,newRow,askRoom];congr 2;apply aEe;simp[aGs];simp[execOp,ho,al,an,Instr.makeSlice,dQ.f9 hd,asInt,asIntOf,typeInfo,hi,b3,c1,Go.sizeOf,bf,B,zeroValue,hz,newRow];intro l;omega;have:=FT R' R.er H.dst;rw[RV.lg] at this;simp only[List.length_replicate] at this⊢;exact this;cases h;cases h;cases h
def ash(Q:az d g D f.ty V O s a W)(B:gY P f.ty)(hg:et f.gl O){parts:Array (Nat×Operand)}(n:H.op=.buildSlice X R parts){dr:Bool}{b:BI}(h:dI f H t dr s=U b):
  IJ P d g D f.ty V O s a W H b:=by
 unfold dI at h;simp only[n] at h;split at h;cases h;split at h;rename_i e ae q ht;split at h;rename_i N y;split at h;rename_i l hf;split at h;rename_i hc;simp only[aDc,bne_iff_ne,ne_eq,beq_iff_eq,decide_eq_true_eq,aDv] at hc;obtain⟨⟨⟨⟨⟨h1,h2⟩,h3⟩,h4⟩,h5⟩,h6⟩:=hc;obtain⟨bJ,a0,rfl⟩:=xG h;have G:bw f.ty (.sl e)=N.ae:=by simp[bw,y]
 have m:lX f.ty s (bw f.ty (.sl e)) (iH (Y N.ae) R l)=true:=by rw[G];exact h2
 have j:=YD Q m;have a1:(LE.lit (iH (Y N.ae) R l)).rows O=(iH (Y N.ae) R l).map λM=>M.map (SV.bN O):=rfl
 have v:((iH (Y N.ae) R l).map λM=>M.map (SV.bN O)).length=R:=by simp[Qu]
 have a2:=ahg Q m (frz:=SV.nD l) (λM a3 r k F c=>by
  obtain⟨ii,a4⟩:=aDU a3;have:=(Qt a4).1;subst this;exact Qv (aEj (aEo F)) c)
 have u:(dt ((iH (Y N.ae) R l).map λM=>M.map (SV.bN O))).length=R*Y N.ae:=by rw[zJ (w:=Y N.ae) (λi M F=>by rw[j.len i M F,G]),v]
 have a5:dt ((iH (Y N.ae) R l).map λM=>M.map (SV.bN O))=SV.aD O V l:=by
  apply aDG;intro k;by_cases c:k<R*Y N.ae;have ab:k<(dt ((iH (Y N.ae) R l).map λM=>M.map (SV.bN O))).length:=by rw[u];exact c
  have:=YE (V:=V) (by rw[G]) m (λi M F=>by rw[j.len i M F,G]) (aDe ab);rw[this,aDe ab];rw[aDy (by rw[u];omega),aDy (by rw[FJ,h1];omega)]
 have bd:R<=536870912:=by simp only[HX] at h4;omega
 obtain⟨R',a6⟩:=Q.bind bJ (old:=Z) (kill:=[]) (frz:=SV.nD l) (A:=U ⟨W.heap.size,0,Z⟩) (cap:=R) (W':=W.alloc (.cells (dt ((iH (Y N.ae) R l).map λM=>M.map (SV.bN O))).toArray e)) (.inl ⟨rfl,rfl⟩) a0 (World.grownBy_alloc W _ Z) j a2
  ⟨by rw[v];exact aDm _,by simp,by
   rcases aEu R with L|L;exact .inl L;exact .inr ⟨W.heap.size,_,rfl,World.alloc_heap_new W _,by simp only[maxLen];omega,by
    rw[aED,u,G],by
    rw[aFd,aEp];rw[u,v,G];exact aDm _,.inl (aDm _)⟩⟩
 refine⟨.slice (U ⟨W.heap.size,0,Z⟩) R R,W.alloc (.cells (dt ((iH (Y N.ae) R l).map λM=>M.map (SV.bN O))).toArray e),.mk (.slice (U ⟨W.heap.size,0,Z⟩) ((iH (Y N.ae) R l).map λM=>M.map (SV.bN O)).length R) _,.inl ?_,⟨⟨_,_,_,by rw[a1],rfl⟩,a6,λ_ _ _ _ h=>by cases h⟩, ?_,Dh _ _ _⟩;have hd:P.underlying X=U (.slice e):=(B _ _ ht).desc;have af:(parts.map λ(i,x)=>(i,a.eval x)).toList=(parts.toList.map λp=>(p.1,s.ev f.gl p.2)).map λp=>(p.1,p.2.den O V):=by
  simp only[aEh,aD7];apply aDC;intro p hp;have:=cJ Q hg p.2 (by
   cases hh:(s.ev f.gl p.2).dL;rfl;exact absurd (aDL.2 ⟨p,hp,hh⟩) (by rw[h6];simp))
  simp[this]
 obtain⟨z,a7,a8⟩:=It (P:=P) (W:=W) (O:=O) (V:=V) (B _ _ y);have ag:=Mm (V:=V) (ui Q) _ _ _ _ hf;have C:(dp N).length=Y N.ae:=by simp[dp]
 have hzero:((aGs (R*Y N.ae)).map ((if R*Y N.ae=0 then #[] else z.cells)[· %(if R*Y N.ae=0 then #[] else z.cells).size]!))=(SV.aD O V (vC R (dp N))).toArray:=by
  apply aEe;apply aDG;intro k;by_cases al:k<R*Y N.ae;have a9:¬R*Y N.ae=0:=by omega
  have bb:0<Y N.ae:=Nat.pos_of_ne_zero h3;have an:k%Y N.ae<(SV.aD O V (dp N)).length:=by rw[FJ,C];exact aFH _ bb
  simp only[a9,if_false,a8,aEh,aF5,aDj,aEt al,aDn,qS,YC _ _ _ (by rw[C];exact al),C];rw[<-qS,aDe an];simp only[aED,FJ,C];rw[getElem!_pos _ _ (by simpa using an)];simp;rw[aDy (by simp;omega),aDy (by simp[ahf,C];omega)]
 have ap:¬R*Y N.ae>2^24:=by omega
 rw[a5];by_cases L:R*Y N.ae=0;simp only[if_pos L] at hzero;simp only[execOp,n,Instr.buildSlice,Sem.run_bind,dQ.f9 hd,Result.andThen_ok,(B _ _ y).ma,ap,if_false,Sem.run_pure,if_pos L,af];rw[hzero,ag];simp[newRow];simp only[if_neg L] at hzero;simp only[execOp,n,Instr.buildSlice,Sem.run_bind,dQ.f9 hd,Result.andThen_ok,(B _ _ y).ma,ap,if_false,Sem.run_pure,if_neg L,af,a7];rw[hzero,ag];simp[newRow];have:=FT R' Q.er H.dst;rw[RV.lg] at this;rw[v] at this⊢;exact this;cases h;cases h;cases h;cases h
end
section
variable{p:aj}{g:World}{D:bR}{P:Program}{d:bB}{V:aj}{O:ac}{s:S}{a:Act}{W:World}
def Mw{h:Nat}{Q:aF}(X:((i.take h).drop R)[M]?=U Q):i[R+M]?=U Q/\R+M<h:=by
 rw[aDZ,aDK] at X;split at X;exact⟨X,by assumption⟩;cases X
def asi{h:Nat}(N:lZ n X ((i.take h).drop R) M):lZ n X i M:=by
 obtain⟨Q,j,L,c,z,k,H,G,F,C⟩:=N;exact⟨_,j,L,c,z,k,(Mw H).1,G,F,C⟩
def asj{X:Ty}{e:TypeId}{A:mC}{n Q l h:Nat}{R:am}(M:bz W X (.sl e) (.mk (.slice A n Q) R))(g:l<=h)(f:h<=n):
  bz W X (.sl e) (.mk (.slice (if Q=l then A else A.map (·.add (l*(bw X (.sl e)).length))) (h-l) (Q-l)) ((R.take h).drop l)):=by
 obtain⟨F,d⟩:=qY M;have C:((R.take h).drop l).length=h-l:=by simp[F];omega
 have B:=eG.vN M;have L:eG W X e ((R.take h).drop l):=eG.of (λi N z=>B.get (Mw z).1);by_cases y:l=h;have:(R.take h).drop l=[]:=aDI (by omega);rw[this,y,aFU];exact By _ _;have ab:l<h:=by omega
 have x:Q≠l:=by omega
 rw[if_neg x];obtain⟨N,w⟩:∃N,R[l]?=U N:=⟨_,aDe (by omega)⟩;cases M with
 |sl e A af Q R g1 g2 H hi hb ho=>
  obtain⟨-,b,G,rfl,v,-⟩:=H l N w;rw[<-C];simp only[aDn,vM];refine Yv L v (λq u t=> ?_) (by omega);obtain⟨i,j,r,c,p,o,rfl,rfl⟩:=IC L.len t;obtain⟨-,b',ag,m,-,k⟩:=H (l+i) r (Mw p).1;cases m;have:=k j c o;rw[show G+l*(bw X (.sl e)).length+(i*(bw X (.sl e)).length+j)=G+(l+i)*(bw X (.sl e)).length+j by rw[aEl];omega];exact this
def YF(Q:az p g D d.ty V O s a W)(bJ:s.bd=J){r:RE}(G:r.kind d.ty s=.sl X){A:mC}(o:r.den O=.slice A R M){l h:Nat}(m:l<=h)(j:h<=R){F:mC}{C:Nat}
  (L:F=if M=l then A else A.map (·.add (l*(bw d.ty (.sl X)).length)))(f:C=M-l):
  az p g D d.ty V (O.add (.r (.mk (.slice F (h-l) C) (((r.rv O).rows.take h).drop l)))) {s with rs:=jz r.root.toList 0 (gV [] 0 s.rs)++[.sl X]} a W/\
   (((r.rv O).rows.take h).drop l).length=h-l/\∀b,de d.ty (.sl X) (.mk (.slice F (h-l) C) (((r.rv O).rows.take h).drop l)) b->g.heap.size<=b\/b∈p\/O.ow d.ty s.rs b:=by
 have B:=pU Q (by simp) G;have w:r.rv O=.mk (.slice A R M) (r.rv O).rows:=by rw[<-o];exact(FQ _).symm
 rw[w] at B;have c:=asj B m j;have z:∀b,de d.ty (.sl X) (.mk (.slice F (h-l) C) (((r.rv O).rows.take h).drop l)) b->de d.ty (.sl X) (r.rv O) b:=by
  intro b H;rw[w];rcases ag9 H with⟨a0,ap,c0,N,rfl⟩|N;simp only[Value.slice.injEq] at N;obtain⟨N,v,u⟩:=N;obtain⟨y,rfl⟩:∃y,R=y+1:=⟨R-1,by omega⟩;rw[N] at L;have ab:M≠l:=by have:=(qY B).2;omega
  rw[if_neg ab] at L;cases A with
  |none=>simp at L
  |some q=>
   simp only[aDn,aDh] at L;have:a0.block=q.block:=by rw[L];unfold Addr.add;split<;>rfl
   rw[this];exact de.here X q y M _
  exact Qn (asi N)
 have af:gV [] 0 s.rs=s.rs:=by
  apply aDG;intro i;rw[IA];cases s.rs[i]?<;>simp
 rw[af];have R1:=Q.mc (Qm r.root.toList s.rs);refine⟨?_,by have:=(qY B).1;simp;omega,λb H=>.inr (.inr (IF Q (by simp) G (z b H)).1)⟩;refine R1.add (Mt bJ (zI _ _ _)) (by rw[L,f];exact c) (λb H=>(IF Q (by simp) G (z b H)).2) (λk t rv b N v u x=> ?_) (λt b ht=>by cases ht);obtain⟨ag,al⟩:=Yz N;rcases x with x|⟨⟨t',an⟩,_⟩;have:=Qq Q ag v u (by simp) G (z b x);subst this;exact al (by simp[RE.root]);cases an
def Mx{n:Int}(h:0<=n):∃N:Nat,n=(N:Int):=⟨n.toNat,by omega⟩
def asl(R:az p g D d.ty V O s a W)(i:gY P d.ty)(hg:et d.gl O){lo hi mx:Option Operand}(ho:H.op=.slice X r lo hi mx){dr:Bool}{b:BI}(h:dI d H t dr s=U b)(hn:b.aV.den O=J):
  IJ P p g D d.ty V O s a W H b:=by
 unfold dI at h;simp only[ho] at h;split at h;cases h;have ap:∀{y:Option Operand}{v:SV},y.map (s.ev d.gl)=U v->v≠ .any->y.map a.eval=U (v.den O V):=by
  intro y v hy G;cases y with
  |none=>cases hy
  |some z=>
   simp only[aDn,aDh] at hy⊢;rw[<-hy];exact cJ R hg z (by rw[hy];cases v<;>first|rfl|exact absurd rfl G)
 have a0:∀{y:Option Operand},y.map (s.ev d.gl)=Z->y.map a.eval=none:=by
  intro y hy;cases y with
  |none=>rfl
  |some z=>cases hy
 split at h
 
 rename_i e ae q Q k1 k2 ht C af ag al;split at h;rename_i te m;split at h;rename_i hc;obtain⟨bJ,a4,rfl⟩:=xG h;have B:=cJ R hg r (by rw[C];rfl);rw[C,SV.den] at B;have hd:P.underlying X=U (.slice e):=(i _ _ ht).desc;obtain⟨A,n,M,G⟩:∃A n M,Q.den O=.slice A n M:=by
  rcases hc with hc|hc;exact Ml R hc;unfold RE.isNil at hc;split at hc;exact⟨Z,0,0,rfl⟩;cases hc
 obtain⟨R',an⟩:=R.bind bJ (old:=Z) (kill:=[]) (frz:=[]) (rows:=[]) (e:=e) (A:=A) (cap:=0) (W':=W) (.inl ⟨rfl,rfl⟩) (by simp) ⟨rfl,rfl,rfl,aDm _,λ_ _ _=>rfl⟩ eG.nil (λb hb=>(Mr hb).elim) ⟨by simp,λ_=>rfl,.inl rfl⟩;refine⟨.slice A 0 0,W,.mk (.slice A 0 0) [],.inl ?_,⟨⟨A,0,0,rfl,rfl⟩,an,λ_ _ _ _ h=>by cases h⟩,FT R' R.er H.dst,Dh _ _ _⟩;have f:=ap af (by simp);have k:=ap ag (by simp);have j:=a0 al;simp only[SV.den,IE.den] at f k;simp[execOp,ho,B,G,f,k,j,Instr.sliceAt,dQ.f9 hd,Instr.slice,Instr.sliceBounds,Instr.sliceBound,asIntOf,(i _ _ m).ma];cases h;cases h
 
 rename_i e ae q Q ih il ht C af ag al;split at h;rename_i te m;split at h;rename_i w;obtain⟨bJ,a4,rfl⟩:=xG h;obtain⟨F,a3⟩:=zL hn;obtain⟨a3,u⟩:=zL a3;have F:=xH F;have a3:=xH a3;have u:=xH u;have B:=cJ R hg r (by rw[C];rfl);rw[C,SV.den] at B;have hd:P.underlying X=U (.slice e):=(i _ _ ht).desc;obtain⟨A,n,M,G⟩:=Ml R w;have a1:lenOf (Q.rv O).val=n:=by have:=G;unfold RE.den at this;rw[this];rfl
 simp only[IE.den,a1] at F u;obtain⟨L,hL⟩:=Mx F;obtain⟨N,hH⟩:=Mx (show 0<=ih.den O by omega);have a5:n<=M:=by
  have:=pU R (by simp) w;rw[<-FQ (Q.rv O),show(Q.rv O).val=.slice A n M from G] at this;exact(qY this).2
 obtain⟨R',a2,an⟩:=YF R bJ w G (l:=L) (h:=N) (by omega) (by omega) rfl rfl;have ab:(LE.sub (.ref Q) il ih).rows O=((Q.rv O).rows.take N).drop L:=by simp[LE.rows,hL,hH]
 have hw:(bw d.ty (.sl e)).length=Y te.ae:=by simp[bw,m]
 refine⟨.slice (if M=L then A else A.map (·.add (L*(bw d.ty (.sl e)).length))) (N-L) (M-L),W,_,.inl ?_,⟨⟨_,_,_,by rw[ab],by rw[ab];exact a2⟩,an,λ_ _ _ _ h=>by cases h⟩,FT R' R.er H.dst,Dh _ _ _⟩;have f:=a0 af;have k:=ap ag (by simp);have j:=ap al (by simp);simp only[SV.den,hL,hH] at k j;have c1:(N:Int)<=(M:Int):=by omega
 have c2:(L:Int)<=(N:Int):=by omega
 simp[execOp,ho,B,G,f,k,j,Instr.sliceAt,dQ.f9 hd,Instr.slice,Instr.sliceBounds,Instr.sliceBound,asIntOf,(i _ _ m).ma,hw];simp[show N<=M by omega,show L<=N by omega];cases h;cases h
 
 rename_i e ae q Q ih ht C af ag al;split at h;rename_i te m;split at h;rename_i w;obtain⟨bJ,a4,rfl⟩:=xG h;obtain⟨F,u⟩:=zL hn;have F:=xH F;have u:=xH u;have B:=cJ R hg r (by rw[C];rfl);rw[C,SV.den] at B;have hd:P.underlying X=U (.slice e):=(i _ _ ht).desc;obtain⟨A,n,M,G⟩:=Ml R w;have a1:lenOf (Q.rv O).val=n:=by have:=G;unfold RE.den at this;rw[this];rfl
 simp only[IE.den,a1] at F u;obtain⟨N,hH⟩:=Mx F;have a5:n<=M:=by
  have:=pU R (by simp) w;rw[<-FQ (Q.rv O),show(Q.rv O).val=.slice A n M from G] at this;exact(qY this).2
 obtain⟨R',a2,an⟩:=YF R bJ w G (l:=0) (h:=N) (by omega) (by omega) rfl rfl;have ab:(LE.sub (.ref Q) (.c 0) ih).rows O=((Q.rv O).rows.take N).drop 0:=by simp[LE.rows,hH,IE.den]
 have hw:(bw d.ty (.sl e)).length=Y te.ae:=by simp[bw,m]
 refine⟨.slice (if M=0 then A else A.map (·.add (0*(bw d.ty (.sl e)).length))) (N-0) (M-0),W,_,.inl ?_,⟨⟨_,_,_,by rw[ab],by rw[ab];exact a2⟩,an,λ_ _ _ _ h=>by cases h⟩,FT R' R.er H.dst,Dh _ _ _⟩;have f:=a0 af;have k:=ap ag (by simp);have j:=a0 al;simp only[SV.den,hH] at k;simp[execOp,ho,B,G,f,k,j,Instr.sliceAt,dQ.f9 hd,Instr.slice,Instr.sliceBounds,Instr.sliceBound,asIntOf,(i _ _ m).ma,hw];intro hh;omega;cases h;cases h
 
 rename_i e ae q Q il ht C af ag al;split at h;rename_i te m;split at h;rename_i w;obtain⟨bJ,a4,rfl⟩:=xG h;obtain⟨F,u⟩:=zL hn;have F:=xH F;have u:=xH u;have B:=cJ R hg r (by rw[C];rfl);rw[C,SV.den] at B;have hd:P.underlying X=U (.slice e):=(i _ _ ht).desc;obtain⟨A,n,M,G⟩:=Ml R w;have a1:lenOf (Q.rv O).val=n:=by have:=G;unfold RE.den at this;rw[this];rfl
 simp only[IE.den,a1] at F u;obtain⟨L,hL⟩:=Mx F;have a5:n<=M:=by
  have:=pU R (by simp) w;rw[<-FQ (Q.rv O),show(Q.rv O).val=.slice A n M from G] at this;exact(qY this).2
 obtain⟨R',a2,an⟩:=YF R bJ w G (l:=L) (h:=n) (by omega) (by omega) rfl rfl;have ab:(LE.sub (.ref Q) il (.len Q)).rows O=((Q.rv O).rows.take n).drop L:=by simp[LE.rows,hL,IE.den,a1]
 have hw:(bw d.ty (.sl e)).length=Y te.ae:=by simp[bw,m]
 refine⟨.slice (if M=L then A else A.map (·.add (L*(bw d.ty (.sl e)).length))) (n-L) (M-L),W,_,.inl ?_,⟨⟨_,_,_,by rw[ab],by rw[ab];exact a2⟩,an,λ_ _ _ _ h=>by cases h⟩,FT R' R.er H.dst,Dh _ _ _⟩;have f:=a0 af;have k:=a0 ag;have j:=ap al (by simp);simp only[SV.den,hL] at j;simp[execOp,ho,B,G,f,k,j,Instr.sliceAt,dQ.f9 hd,Instr.slice,Instr.sliceBounds,Instr.sliceBound,asIntOf,(i _ _ m).ma,hw];intro hh;omega;cases h;cases h;cases h
mutual
def YG{k n:Nat}(h:(O.rv n).val=(O.rv k).val):∀(v:SV),(v.fZ k n).den O V=v.den O V
 |.int _ _|.bool _|.loc _ _|.gM _ _ _ _|.yl _|.any=>rfl
 |.ref (.v j)=>by
  simp only[SV.fZ];split;rename_i X;simp at X;subst X;simp only[SV.den,RE.den,RE.rv,h];rfl
 |.ref (.cell _ _ _ _)=>rfl
 |.ref (.k _)=>rfl
 |.el (.v j) w i o=>by
  simp only[SV.fZ];split;rename_i X;simp at X;subst X;simp only[SV.den,RE.den,RE.rv,h];rfl
 |.el (.cell _ _ _ _) _ _ _=>rfl
 |.el (.k _) _ _ _=>rfl
 |.agg l=>by simp only[SV.fZ,SV.den,IK h l]
 |.bK l=>by simp only[SV.fZ,SV.den,IK h l]
 |.fn f l=>by simp only[SV.fZ,SV.den,IK h l]
 |.eP t x=>by simp only[SV.fZ,SV.den,YG h x]
 |.mp _=>rfl
 |.eQ e Q R=>by simp only[SV.fZ,SV.den,IK h R]
def IK{k n:Nat}(h:(O.rv n).val=(O.rv k).val):∀(l:ai),SV.aD O V (SV.nE k n l)=SV.aD O V l
 |[]=>rfl
 |x::X=>by simp only[SV.nE,SV.aD,YG h x,IK h X]
end
def asm(v:SV):v.fZ R M=.any<->v=.any:=by
 cases v with
 |ref r=>cases r<;>simp[SV.fZ]<;>split<;>simp
 |el r w i o=>cases r<;>simp[SV.fZ]<;>split<;>simp
 |_=>simp[SV.fZ]
def ahh{k n:Nat}:∀(l:ai)(i:Nat),(SV.nE k n l)[i]?=(l[i]?).map (SV.fZ k n)
 |[],i=>by simp[SV.nE]
 |x::X,0=>by simp[SV.nE]
 |x::X,i+1=>by simp[SV.nE,ahh X i]
def ahi{k n:Nat}:∀(l:ai),(SV.nE k n l).length=Y l
 |[]=>rfl
 |x::X=>by simp[SV.nE,ahi X]
def My{k n:Nat}:∀(l:bA),(sa k n l).length=Y l
 |[]=>rfl
 |Z::X=>by simp[sa,My X]
 |U (t,R)::X=>by simp[sa,My X]
def YI(k n:Nat)(x:TypeId×ai):TypeId×ai:=(x.1,if oU x.1 then x.2 else SV.nE k n x.2)
def Qw{k n:Nat}:∀(l:bA)(i:Nat),bX (sa k n l) i=(bX l i).map (YI k n)
 |[],i=>by simp[sa,cK]
 |Z::X,0=>by simp[sa,cK]
 |U (t,R)::X,0=>by simp[sa,cK,YI]
 |Z::X,i+1=>by have:=Qw X i (k:=k) (n:=n);simpa[sa,cK] using this
 |U (t,R)::X,i+1=>by have:=Qw X i (k:=k) (n:=n);simpa[sa,cK] using this
def FU{k n:Nat}(l:bA)(i:Nat):aM (sa k n l) i=aM l i:=by simp[aM,Qw]
def az.fZ{B:Ty}(R:az p g D B V O s a W){k n:Nat}(h:(O.rv n).val=(O.rv k).val):az p g D B V O (s.fZ k n) a W:=by
 have z:(s.fZ k n).boxes=sa k n s.boxes:=rfl;refine⟨⟨R.mem.base,λi N=>R.mem.own i (by rw[<-FU (k:=k) (n:=n)];exact N),λi j N y=>R.mem.inj i j (by rw[<-FU (k:=k) (n:=n)];exact N) (by rw[<-FU (k:=k) (n:=n)];exact y),λi t u X=> ?_,λH e G Q F=> ?_⟩,
  by simp[S.fZ,My,R.fp],R.ei,R.eb,R.er,R.cP,by simp[S.fZ,ahi,R.size],λt r L=> ?_,λH e G b Q F w=> ?_⟩
 rw[z,Qw] at X;cases M:bX s.boxes i with
 |none=>rw[M] at X;cases X
 |some x=>
  obtain⟨A,jF⟩:=x;rw[M] at X;simp only[aDn,YI,aDh,aEX] at X;obtain⟨rfl,rfl⟩:=X;have C:=R.mem.box i A jF M;cases v:oU A;simp only[aDB,if_false];rw[qW v] at C⊢;rw[IK h];exact C;simp only[if_true];exact C
 exact⟨(R.mem.ref H e G Q F).1,λb X i N=>(R.mem.ref H e G Q F).2 b X i (by rw[<-FU (k:=k) (n:=n)];exact N)⟩;simp only[S.fZ,ahh] at L;cases M:s.tmps[t]? with
 |none=>rw[M] at L;cases L
 |some x=>
  rw[M] at L;simp only[aDn,aDh] at L;subst L;rcases R.tmps t x M with Q|Q;exact .inl ((asm x).2 Q);right;rw[YG h];exact Q
 have t:=R.dJ H e G b Q F w;exact⟨t.own,t.mem,λi N=>t.box i (by rw[<-FU (k:=k) (n:=n)];exact N),t.alone,t.inner⟩

def ahj:∀(Q X:aF)(R:Nat),(fo X R Q).length=Y X
 |[],X,R=>rfl
 |v::Q,X,R=>by rw[fo,ahj];simp
def Qx:∀(R Q:aF)(X j:Nat),X+Y R<=Y Q->(fo Q X R)[j]?=if X<=j/\j<X+Y R then R[j-X]? else Q[j]?
 |[],Q,X,j,_=>by simp[fo];intro M N;omega
 |v::R,Q,X,j,h=>by
  simp only[aD4] at h;rw[fo,Qx R _ (X+1) j (by simp;omega)];by_cases M:j=X;subst M;rw[if_neg (by omega),if_pos (by simp),aEq (by omega)];simp;by_cases N:X+1<=j/\j<X+1+Y R;rw[if_pos N,if_pos (by simp;omega),show j-X=(j-(X+1))+1 by omega];simp;rw[if_neg N,if_neg (by simp;omega),aDP (by omega)]
def ahk:∀(R l:eJ)(X j:Nat),X+Y R<=Y l->(xF l X R)[j]?=if X<=j/\j<X+Y R then R[j-X]? else l[j]?
 |[],l,X,j,_=>by simp[xF];intro N Q;omega
 |v::R,l,X,j,h=>by
  simp only[aD4] at h;rw[xF,ahk R _ (X+1) j (by simp;omega)];by_cases N:j=X;subst N;rw[if_neg (by omega),if_pos (by simp),aEq (by omega)];simp;by_cases Q:X+1<=j/\j<X+1+Y R;rw[if_pos Q,if_pos (by simp;omega),show j-X=(j-(X+1))+1 by omega];simp;rw[if_neg Q,if_neg (by simp;omega),aDP (by omega)]
def IL{f:aF->aF}{Q:aF}(h:(i.modify R f)[M]?=U Q):(M=R/\∃X,i[R]?=U X/\Q=f X)\/(M≠R/\i[M]?=U Q):=by
 rw[aFu] at h;by_cases N:R=M;subst N;simp only[if_true] at h;cases L:i[R]? with
 |none=>rw[L] at h;cases h
 |some X=>rw[L] at h;simp at h;exact .inl ⟨rfl,X,rfl,h.symm⟩
 simp only[N,if_false] at h;exact .inr ⟨λH=>N H.symm,by simpa using h⟩
def asn{w:Nat}{l:eJ}(Q:∀(X:Nat)(R:aF),i[X]?=U R->Y R=w)(M:Y l=Y i*w)(h:∀(X j:Nat)(R:aF)(c:RV),i[X]?=U R->R[j]?=U c->l[X*w+j]?=U c.val):l=dt i:=by
 apply aDG;intro q;by_cases L:q<(dt i).length;have N:=aDe L;obtain⟨X,j,R,c,H,G,F,C⟩:=IC Q N;rw[N,C];subst F;exact h X j R c H G;rw[aDy (l:=dt i) (by omega),aDy];rw[M,<-zJ Q];omega
def aso(R:az p g D d.ty V O s a W)(b8:gY P d.ty)(hg:et d.gl O){y:Operand}(ho:H.op=.store X r y){dr:Bool}{b:BI}(h:dI d H t dr s=U b)(hn:b.aV.den O=J):
  IJ P p g D d.ty V O s a W H b:=by
 unfold dI at h;simp only[ho] at h;split at h;cases h;split at h;rename_i F k w i M ca hx;split at h;rename_i e hk;split at h;rename_i te cc;split at h;rename_i hc;simp only[aDc,beq_iff_eq,decide_eq_true_eq] at hc;obtain⟨⟨⟨⟨ch,a3⟩,cl⟩,ag⟩,cm⟩:=hc;cases hb:jl s Z (t8 i (.len (.v k))) e (.own e) (.set (.ref (.v k)) i M (s.ev d.gl y).cells) [k] (SV.nD (s.ev d.gl y).cells) with
 |none=>rw[hb] at h;cases h
 |some b0=>
  rw[hb] at h;simp only[aDn,aDh] at h;obtain⟨bJ,cp,rfl⟩:=xG hb;subst h;have bl:bw d.ty (.sl e)=te.ae:=by simp[bw,cc]
  have hw:(bw d.ty (.sl e)).length=w:=by rw[bl];exact ch
  obtain⟨A,n,l,g1,g2,g3⟩:=Mv R hk;have a6:=sr R hk;simp only[t8] at hn;obtain⟨a4,al⟩:=zL hn;have a4:=xH a4;rw[Bs] at al;simp only[fQ,IE.den,RE.rv] at a4 al;have al:=of_decide_eq_true al;rw[g1] at al;simp only[RV.lg,lenOf] at al;obtain⟨Q,hI⟩:=Mx a4;have c7:Q<n:=by omega
  obtain⟨bo,br⟩:=qY g2;have a1:=eG.vN g2;obtain⟨bk,a2,hA,bs,cv,a5⟩:∃b a2,A=U ⟨b,0,Z⟩/\W.heap[b]?=U (.cells a2 e (0,0))/\l<=maxLen/\a2.size=l*(bw d.ty (.sl e)).length:=by
   rcases g3.mem with h0|h0;omega;exact h0
  subst hA;have cx:jU (U ⟨bk,0,Z⟩) l=U bk:=by cases l with
   |zero=>omega
   |succ c=>rfl
  have cy:s.ev d.gl y≠ .any:=by
   intro hy;rw[hy] at ag a3;simp only[SV.cells,aE1] at a3;rw[<-a3] at ag;cases hd:(te.ae.drop M).take 1 with
   |nil=>rw[hd] at ag;simp[ld,SV.cells] at ag
   |cons c cs=>rw[hd] at ag;simp[ld,SV.cells,qM] at ag
  have cA:=cJ R hg y (by cases hh:s.ev d.gl y<;>first|rfl|exact absurd hh cy);have cB:=cJ R hg r (by rw[hx];rfl);have cC:=Qj (O:=O) (V:=V) (ui R) cm;obtain⟨f1,f2⟩:=FR ag;have bq:(s.ev d.gl y).cells.length=Y F.ae:=a3;have c8:((te.ae.drop M).take (Y F.ae)).length=Y F.ae:=by simp;omega
  have bt:∀(j:Nat),j<Y F.ae->((te.ae.drop M).take (Y F.ae))[j]?=(bw d.ty (.sl e))[M+j]?:=by
   intro j f;rw[aDK,if_pos f,aDZ,bl]
  have bx:SV.aD O V (s.ev d.gl y).cells=((s.ev d.gl y).cells.map (SV.bN O)).map RV.val:=by
   apply aDG;intro j;rw[qS,aDj,aDj];cases hv:(s.ev d.gl y).cells[j]? with
   |none=>rfl
   |some v=>
    have f:j<Y F.ae:=by rw[<-bq];exact(aDd.1 hv).1
    obtain⟨ct,cD⟩:∃ct,((te.ae.drop M).take (Y F.ae))[j]?=U ct:=⟨_,aDe (by omega)⟩;simp only[aDn];rw[ahc (f2 j ct v cD hv)]
  have an:=Yx R ag;have b1:(LE.set (.ref (.v k)) i M (s.ev d.gl y).cells).rows O=(O.rv k).rows.modify Q λL=>fo L M ((s.ev d.gl y).cells.map (SV.bN O)):=by simp[LE.rows,RE.rv,hI]
  have a7:((s.ev d.gl y).cells.map (SV.bN O)).length=Y F.ae:=by simp[bq]
  generalize cI:(s.ev d.gl y).cells.map (SV.bN O)=vv at*;have a8:∀G:aF,Y G=(bw d.ty (.sl e)).length->M+Y vv<=Y G:=λG h0=>by rw[h0,hw,a7];exact cl
  have a9:eG W d.ty e ((O.rv k).rows.modify Q λL=>fo L M vv):=by
   refine eG.of (λC L hr=> ?_);rcases IL hr with⟨rfl,G,m,rfl⟩|⟨bb,m⟩
   ·have q:=a1.get m;have cO:=a8 G q.len;refine⟨by rw[ahj];exact q.len,λj c kk ab af=> ?_,λj c ab af=> ?_,λj c z kk ab af=> ?_⟩
    all_goals
     rw[Qx _ _ _ _ cO] at ab;split at ab;rename_i f;have bd:j-M<Y F.ae:=by omega
     have ap:=bt _ bd;rw[show M+(j-M)=j by omega,af] at ap
     first
      |exact an.int (j-M) c _ ab ap
      |exact an.bool (j-M) c ab ap
      |exact an.aH (j-M) c _ _ ab ap
     first
      |exact q.int j c _ ab af
      |exact q.bool j c ab af
      |exact q.aH j c _ _ ab af
   exact a1.get m
  have cW:Bz d.ty V O s e ((O.rv k).rows.modify Q λL=>fo L M vv) (SV.nD (s.ev d.gl y).cells):=by
   intro b ⟨C,j,L,c,z,kk,h1,B,h3,hl⟩;have elder:∀G,(O.rv k).rows[C]?=U G->G[j]?=U c->O.ow d.ty s.rs b/\(∀i,aM s.boxes i=J->ad V i≠b)/\∀(k':Nat)(X:TypeId)(rv:RV),s.rs[k']?=U (.own X)->O.r[k']?=U rv->rv.jS=U b->k'∈SV.nD (s.ev d.gl y).cells:=by
    intro G q1 q2;have hi:lZ d.ty e (O.rv k).rows b:=⟨C,j,G,c,z,kk,q1,q2,h3,hl⟩;have b2:=ID (O:=O) (e0:=.own e) rfl hi;exact⟨⟨k,_,hk,b2⟩,(R.mem.ref k _ _ hk a6).2 b b2,λk' X rv q3 q4 q5=>(Ms R q3 q4 q5 hk rfl hi).elim⟩
   rcases IL h1 with⟨rfl,G,m,rfl⟩|⟨bb,m⟩;rw[Qx _ _ _ _ (a8 G (a1.len _ _ m))] at B;split at B;rename_i f;have bd:j-M<Y F.ae:=by omega
   have ap:((te.ae.drop M).take (Y F.ae))[j-M]?=U (.aH z kk):=(bt _ bd).trans (by rw[show M+(j-M)=j by omega];exact h3);rw[<-cI] at B;obtain⟨N,q1,q2,q3,q4⟩:=Yy ag B ap hl;obtain⟨p1,p2⟩:=IF R q3 q2 q4;refine⟨p1,p2,λk' X rv k1 k2 k3=> ?_⟩;have:=Qq R k1 k2 k3 q3 q2 q4;subst this;exact Qv (aDx q1) rfl;exact elder G m B;exact elder L m B
  have bf:(SV.aD O V (s.ev d.gl y).cells).length=Y F.ae:=by simp[bq]
  have c0:Q*w+M+Y F.ae<=l*w:=by
   have:(Q+1)*w<=l*w:=aEv _ (by omega);rw[aEl] at this;omega
  obtain⟨W',r1,r2,r3,r4,r5,r6,r7⟩:=Ys (P:=P) bk (Q*w+M) e (SV.aD O V (s.ev d.gl y).cells) 0 a2 W bs (by rw[bf,a5,hw];omega) (λu hu=>by
   rw[bx] at hu;obtain⟨c,c1,rfl⟩:=aDF.1 hu;obtain⟨j,f⟩:=aDU c1;have c9:j<Y F.ae:=by rw[<-a7];exact(aDd.1 f).1
   obtain⟨ct,af⟩:∃ct,((te.ae.drop M).take (Y F.ae))[j]?=U ct:=⟨_,aDe (by omega)⟩;cases ct with
   |int kk=>obtain⟨n',bg⟩:=an.int j c kk f af;rw[bg];rfl
   |bool=>obtain⟨n',bg⟩:=an.bool j c f af;rw[bg];rfl
   |aH z kk=>exact Is (an.aH j c z kk f af))
  have a0:((O.rv k).rows.modify Q λL=>fo L M vv).length=n:=by simp[bo]
  have b3:=YA g2 bs;rw[bo,hw] at b3;obtain⟨R',c2⟩:=R.bind bJ (old:=U bk) (kill:=[k]) (frz:=SV.nD (s.ev d.gl y).cells) (A:=U ⟨bk,0,Z⟩) (cap:=l) (W':=W') (.inr ⟨k,e,_,rfl,hk,a6,by rw[g1,IG,cx]⟩) cp
   ⟨r5,r6,r7,by omega,λq _ hq=>r3 q (λh=>hq (by rw[h]))⟩ a9 cW
   ⟨by rw[a0];exact br,by simp,.inr ⟨bk,_,rfl,r2,cv,by rw[hw,aED,Yr,aEs,a5,hw],by
    rw[a0,hw];refine asn (w:=w) (λC L hr=>by rw[a9.len C L hr,hw]) ?_ (λC j L c h1 B=> ?_);rw[a0,aEQ,aFd,Yr,aEs,a5,hw];exact aFA (aEv _ br);have dc:C<n:=by rw[<-a0];exact(aDd.1 h1).1
    have dd:j<w:=by rw[<-hw,<-a9.len C L h1];exact(aDd.1 B).1
    have b4:C*w+j<n*w:=by
     have:(C+1)*w<=n*w:=aEv _ (by omega);rw[aEl] at this;omega
    rw[aDK,if_pos b4,aFd,aEA,ahk _ _ _ _ (by rw[bf,aEs,a5,hw];exact c0),bf];have b5:∀G:aF,(O.rv k).rows[C]?=U G->G[j]?=U c->a2.toList[C*w+j]?=U c.val:=by
     intro G q1 q2;have:=Mo (w:=w) (λi L hr=>by rw[a1.len i L hr,hw]) q1 q2;rw[<-b3,aDK,if_pos b4] at this;exact this
    rcases IL h1 with⟨rfl,G,m,rfl⟩|⟨bb,m⟩;rw[Qx _ _ _ _ (a8 G (a1.len _ _ m)),a7] at B;by_cases f:M<=j/\j<M+Y F.ae;rw[if_pos f] at B;rw[if_pos (by omega),bx,show C*w+j-(C*w+M)=j-M by omega,aDj,B];rfl;rw[if_neg f] at B;rw[if_neg (by omega)];exact b5 G m B;have c3:¬(Q*w+M<=C*w+j/\C*w+j<Q*w+M+Y F.ae):=by
     rintro⟨q1,q2⟩;rcases aGN bb with df|dk;have:(C+1)*w<=Q*w:=aEv _ (by omega);rw[aEl] at this;omega;have:(Q+1)*w<=C*w:=aEv _ (by omega);rw[aEl] at this;omega
    rw[if_neg c3];exact b5 L m B,.inr rfl⟩⟩
  have c4:k<Y O.r:=(aDd.1 a6).1;have R2:=R'.fZ (k:=k) (n:=Y s.rs) (by
   rw[<-R.er];have e1:(O.add (.r (.mk (.slice (U ⟨bk,0,Z⟩) ((O.rv k).rows.modify Q λL=>fo L M vv).length l) ((O.rv k).rows.modify Q λL=>fo L M vv)))).rv (Y O.r)=.mk (.slice (U ⟨bk,0,Z⟩) ((O.rv k).rows.modify Q λL=>fo L M vv).length l) ((O.rv k).rows.modify Q λL=>fo L M vv):=by simp[ac.rv,ac.add]
   have e2:(O.add (.r (.mk (.slice (U ⟨bk,0,Z⟩) ((O.rv k).rows.modify Q λL=>fo L M vv).length l) ((O.rv k).rows.modify Q λL=>fo L M vv)))).rv k=O.rv k:=by simp[ac.rv,ac.add,aDg,c4]
   rw[e1,e2,RV.lg,a0];have:=congrArg RV.val g1;exact this.symm)
  refine⟨undef,W',_,.inr ⟨?_,rfl⟩,⟨⟨_,_,_,by rw[b1],by rw[b1]⟩,c2,λk' _ _ _ hx=>by
   cases hx;rw[RV.lg,a0];exact(congrArg RV.val g1).symm⟩,R2.put H.dst (.bK []), ?_⟩
  have c5:(O.rv k).val=.slice (U ⟨bk,0,Z⟩) n l:=by rw[g1];rfl
  have b6:((s.ev d.gl y).den O V).cells.toList=SV.aD O V (s.ev d.gl y).cells:=cC;have c6:((s.ev d.gl y).den O V).cells.size=Y F.ae:=by rw[<-aEs,b6];simp[bq]
  simp only[execOp,ho,cB,cA,hx,SV.den,RE.den,RE.rv,c5,mH,hI,aEa,aDM,Instr.storeAt,Instr.sureAddr,storeVar,Sem.run_bind,Sem.run_pure,Result.andThen_ok,(b8 _ _ ca).ma,c6,b6,ne_eq,not_true_eq_false,if_false,r1];have b7:bG s O V ({s with rs:=jz (SV.nD (s.ev d.gl y).cells) 0 (gV [k] 0 s.rs)++[.own e]}:S) _ V:=Dh (rv:=.mk (.slice (U ⟨bk,0,Z⟩) ((O.rv k).rows.modify Q λL=>fo L M vv).length l) ((O.rv k).rows.modify Q λL=>fo L M vv)) _ Z (.bK []);refine bG.put (s:=s) (s':=(({s with rs:=jz (SV.nD (s.ev d.gl y).cells) 0 (gV [k] 0 s.rs)++[.own e]}:S).put Z (.ref (.v (Y s.rs)))).fZ k (Y s.rs)) ⟨b7.ext,λq hq=> ?_,by simp[S.put,S.fZ,My],b7.au⟩ _ _;simp only[S.put,S.fZ,FU];exact hq
 cases h;cases h;cases h;cases h
def YJ(R:az p g D d.ty V O s a W)(N:gY P d.ty)(M:et d.gl O){F:Bool}{b:BI}(h:dI d H t F s=U b)(L:b.aV.den O=J):IJ P p g D d.ty V O s a W H b:=by
 cases Q:H.op with
 |call c=>
  cases G:c.callee with
  |builtin C=>cases C with
   |append=>exact ase R N M Q G h L
   |_=>simp[dI,Q,G] at h
  |_=>simp[dI,Q,G] at h
 |makeSlice X n m=>exact asg R N M Q h L
 |buildSlice X B parts=>exact ash R N M Q h
 |slice X x A z w=>exact asl R N M Q h L
 |store X x y=>exact aso R N M Q h L
 |_=>simp[dI,Q] at h
end
