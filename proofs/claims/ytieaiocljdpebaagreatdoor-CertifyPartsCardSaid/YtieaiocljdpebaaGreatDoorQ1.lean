/- Part 1 of the proof; the last part says what is shown. -/
import GoSem.Step
import Derived.Below
import Derived.Laws.AppendOwn
import Derived.Deep.Draws
import Derived.RangeFuncRecord
import Derived.CallsIn
import Derived.OrdersIn
import Derived.Sort.LoopGhostIn
import Derived.RangeFuncCalls
import Derived.Laws.Cells
import Derived.MapKept
set_option linter.all false
open Bool renaming and_eq_true->ayz,not_eq_true'->ayS,false_eq_true->ayV,or_eq_true->ay2,eq_iff_iff->azJ,not_eq_false->az4,rec->aA2,or_eq_true_iff->aBh,and_assoc->aBR,true_or->aB6
open List renaming getElem?_eq_some_iff->ayA,getElem?_eq_getElem->ayB,getD_eq_getElem?_getD->ayC,getElem?_append_left->ayD,getElem?_map->ayF,getElem?_append_right->ayG,replicate->ayJ,mem_cons->ayK,all_eq_true->ayM,length_append->ayN,map_cons->ayO,range->ayQ,mem_of_getElem?->ayW,map_congr_left->ayZ,mem_map->ay1,ext_getElem?->ay3,length_eq_one_iff->ay5,getElem?_take->ay7,getElem?_cons_succ->azb,getElem?_set_ne->azc,length_map->azg,getElem?_of_mem->azh,getElem?_drop->azj,getElem?_eq_none_iff->azm,length_cons->azn,map_map->azo,getElem?_set->azr,drop_eq_getElem_cons->azx,mem_cons_of_mem->azG,getElem_mem->azR,range'->azW,mem_of_find?_eq_some->azZ,foldl_cons->az0,length_singleton->aAg,rec->aAl,range_eq_range'->aAo,all_cons->aAv,find?_some->aAx,zip_cons_cons->aAy,range'_succ->aAI,length->aAM,find?_cons->aAP,drop_eq_nil_of_le->aA0,getElem?_toArray->aA7,drop_zero->aBS,mapM_cons->aBT
open Option.some renaming injEq->ayE
open Nat renaming le_refl->ayH,lor->ayR,zero_add->ay9,shiftLeft->aze,beq->azq,le_trans->azF,add_zero->azU,testBit_or->az3,add_assoc->aAd,testBit_add_one->aAf,lt_of_lt_of_le->aAw,rec->aA5,testBit_shiftLeft->aA6,one_shiftLeft->aBs,testBit_zero->aBz,eq_of_beq_eq_true->aBQ,beq_eq->aBZ,testBit_two_pow->aB4,gcd->aCh
open Option renaming map_some->ayI,isSome_iff_exists->ayT,getD_some->azf,bind_some->aAJ,getD_none->aA3
open Array renaming getElem?_eq_some_iff->ay0,ext'->azv,toList_map->azy,length_toList->azL,getElem?_modify->az7,getElem?_setIfInBounds_ne->aAa,mapM_eq_mapM_toList->aBw,getElem?_eq_none->aBL,foldl_toList->aB7
open List.cons renaming injEq->azK
open Prod.mk renaming injEq->aAe
namespace Go.Proofs.YtieaiocljdpebaaGreatDoor.Y
variable{X I e:Nat}{r:Nat→Bool}
structure Sh where
 kt:TypeId
 vt:TypeId
 nk:Nat
 ka:Bool
 va:Bool
 deriving DecidableEq
inductive RK where
 |sl (e:TypeId)
 |str
 |ax
 |own (e:TypeId)
 |dead
 |mr (sh:Sh)
 deriving DecidableEq
def RK.rd:RK->RK
 |.own e=>.sl e
 |k=>k
inductive CT where
 |int (k:IntKind)
 |bool
 |ax (z:Value) (k:RK)
inductive TD where
 |one
 |dD
 |str
 |slice (e:TypeId)
 |arr (n:Nat) (e:TypeId)
 |struct (fs:List (Nat×TypeId))
 |map (k e:TypeId) (n:Nat) (ag:Bool)
structure TI where
 d:TD
 ae:List CT
 eq:Bool:=false
mutual
inductive IE where
 |c (n:Int)
 |v (k:Nat)
 |bin (op:BinOp) (k:IntKind) (a b:IE)
 |conv(k:IntKind) (a:IE)
 |len (r:RE)
 |mm (mx:Bool) (a b:IE)
 |b9 (b:BE) (x y:IE)
 |cell (r:RE) (i:IE) (j:Nat)
 |j6 (r:RE) (i:IE)
 |look (r:RE) (n:Nat) (a b c:IE) (j:Nat)
inductive BE where
 |c (b:Bool)
 |v (k:Nat)
 |cmp (op:BinOp) (a b:IE)
 |not (a:BE)
 |and (a b:BE)
 |beq (a b:BE)
 |b9 (b x y:BE)
 |cell (r:RE) (i:IE) (j:Nat)
 |seq (a b:RE)
 |look (r:RE) (n:Nat) (a b c:IE) (j:Nat)
 |has (r:RE) (n:Nat) (a b c:IE)
inductive RE where
 |v (k:Nat)
 |cell (r:RE) (i:IE) (j:Nat) (k:RK)
 |k (v:Value)
end
inductive SV where
 |int (k:IntKind) (e:IE)
 |bool (b:BE)
 |ref (r:RE)
 |loc (i off:Nat)
 |el (r:RE) (w:Nat) (i:IE) (off:Nat)
 |fo (i off len cap:Nat)
 |agg (l:List SV)
 |bh (l:List SV)
 |fn (f:FuncId) (caps:List SV)
 |dD (t:TypeId) (x:SV)
 |yl (n:Nat)
 |any
 |mp (i:Nat)
 |dE (e:IE) (ks:List Int) (vs:List SV)
inductive PX where
 |ret
 |exit (id:Nat)
 deriving DecidableEq
inductive kw where
 |ready
 |busy
 |done (e:PX)
 deriving DecidableEq
abbrev aX:=List (Option (TypeId×List SV))
structure S where
 tmps:List SV
 boxes:aX
 ni:Nat
 nb:Nat
 rs:List RK
 ao:Nat
 lk:Nat
 pd:List kw
noncomputable def bD(l:aX)(i:Nat):Option (TypeId×List SV):=aAl (motive:=λ_=>Nat->Option (TypeId×List SV)) (λ_=>none) (λx _ Z t=>aA5 (motive:=λ_=>Option (TypeId×List SV)) x (λm _=>Z m) t) l i
def bS:∀(l:aX)(i:Nat),bD l i=(match l[i]? with
  |some (some b)=>some b
  |_=>none)
 |[],_=>rfl
 |none::_,0=>rfl
 |some _::_,0=>rfl
 |_::l,i+1=>by rw[azb];exact bS l i
noncomputable section
def pj:TypeId:=1099511627776
def qr:TypeId:=1099511627777
def rU:TypeId:=1099511627778
def mw(t:TypeId):Bool:=decide (pj<=t)
def iQ(l:aX)(i:Nat):Option (TypeId×List SV):=match bD l i with
 |some (t,Z)=>if mw t then none else some (t,Z)
 |none=>none
inductive LK where
 |int (k:IntKind)
 |bool
 |ref (k:RK)
 deriving DecidableEq
inductive XE where
 |normal
 |ret
 |exit (id:Nat)
 |aR (v:SV)
inductive LE where
 |ref (r:RE)
 |lit (l:List (List SV))
 |jH (a b:LE)
 |pl (n:IE) (row:List SV)
 |set (a:LE) (i:IE) (off:Nat) (cs:List SV)
 |sub (a:LE) (lo hi:IE)
 |ins (a:LE) (n:Nat) (cs:List SV)
inductive aU where
 |lex (cs:List Nat) (desc:Bool)
 |ratio (n d:Nat)
 |bN (k:Nat) (o:aU) (as:List IE)
inductive T where
 |out (e:XE) (s:S)
 |ret (v:SV) (bx:aX) (rs:List RK)
 |aR (v:SV)
 |node (b:BE) (t f:T)
 |aF (b:BE) (t:T)
 |call (f:FuncId) (args:List SV) (bx:aX) (rs:List RK) (ks:List LK) (fe:SV) (t:T)
 |loop (ao:Nat) (ks:List LK) (x0:List SV) (t:T)
 |back (ao:Nat) (x:List SV)
 |new (e:TypeId) (x:LE) (rs rsn:List RK) (t:T)
 |rows (k:RK) (x:LE) (rs:List RK) (t:T)
 |dW (g h:BE) (t f:T)
 |pick (n:IE) (g h:BE) (t f:T)
 |cA (f g:FuncId) (e:TypeId) (sp:aU) (st:Bool) (r:RE) (rs:List RK) (t:T)
 |stuck (msg:String)
def EE:Value->SV
 |.int k n=>.int k (.c n)
 |.bool b=>.bool (.c b)
 |v=>.ref (.k v)
def IB:Value->SV
 |.int k n=>.int k (.c n)
 |.bool b=>.bool (.c b)
 |.agg Z=>.agg (Z.toList.map EE)
 |v=>.ref (.k v)
def TL(l:List SV)(t:Nat):SV:=aAl (motive:=λ_=>Nat->SV) (λ_=>.any) (λx _ Z t=>aA5 (motive:=λ_=>SV) x (λm _=>Z m) t) l t
def ack(l:List SV)(d:Nat)(v:SV):List SV:=aAl (motive:=λ_=>Nat->List SV) (λ_=>[]) (λx Z X d=>aA5 (motive:=λ_=>List SV) (v::Z) (λm _=>x::X m) d) l d
@[simp] def rV:∀(l:List SV)(t:Nat),TL l t=l.getD t .any
 |[],_=>rfl
 |_::_,0=>rfl
 |_::Z,t+1=>rV Z t
@[simp] def qu:∀(l:List SV)(d:Nat)(v:SV),ack l d v=l.set d v
 |[],_,_=>rfl
 |_::_,0,_=>rfl
 |x::Z,d+1,v=>congrArg (x::·) (qu Z d v)
def S.ev(Z:List (Nat×Nat×Nat))(s:S):Operand->SV
 |.tmp t=>TL s.tmps t
 |.const v=>IB v
 |.global g=>match Z.find? (λx=>x.1==g) with
  |some (_,k,w)=>.el (.v k) w (.c 0) 0
  |none=>.any
 |.func f=>.fn f []
def S.put(s:S)(Z:Option Nat)(v:SV):S:=
 match Z with
 |some d=>{s with tmps:=ack s.tmps d v}
 |none=>s
def zL(r:RE)(i:IE)(j:Nat):CT->SV
 |.int k=>.int k (.cell r i j)
 |.bool=>.bool (.cell r i j)
 |.ax _ k=>.ref (.cell r i j k)
def xF:CT->SV
 |.int k=>.int k (.c 0)
 |.bool=>.bool (.c false)
 |.ax z _=>.ref (.k z)
def TD.isAgg:TD->Bool
 |.arr _ _|.struct _=>true
 |_=>false
def SV.cells:SV->List SV
 |.agg l=>l
 |v=>[v]
def fu:Value->Bool
 |.agg _|.tuple _=>false
 |_=>true
def RE.B8:RE->Bool
 |.k w=>fu w
 |_=>true
def SV.B9:SV->Bool
 |.ref (.k w)=>fu w
 |_=>true
def SV.single:SV->Bool
 |.ref (.k w)=>fu w
 |.agg _|.bh _|.any=>false
 |_=>true
noncomputable def zM(l:List SV):Bool:=aAl (motive:=λ_=>Bool) true (λx _ Z=>aA2 (motive:=λ_=>Bool) false Z x.single) l
def Mt:(zM []=true)/\(∀x Z,zM (x::Z)=(x.single&&zM Z)):=⟨rfl,λx Z=>by
 show aA2 (motive:=λ_=>Bool) false (zM Z) x.single=_;cases x.single<;>rfl⟩
def rW(l:List SV)(Z n:Nat):List SV:=(l.drop Z).take n
def rX(Z:TI)(l:List SV)(X:Nat):Option SV:=
 if Z.d.isAgg then(if X+Z.ae.length<=l.length then some (.agg (rW l X Z.ae.length)) else none) else l[X]?
def iD(l:List SV)(Z:Nat):List SV->List SV
 |[]=>l
 |v::r=>iD (l.set Z v) (Z+1) r
def tT(place:Nat->Option (Nat×Nat))(cells:List SV):List (Nat×SV)->Option (List SV)
 |[]=>some cells
 |(i,v)::W=>
  match place i with
  |none=>none
  |some (Z,X)=>if v.cells.length !=X||decide (cells.length<Z+X)|| !v.B9 then none else tT place (iD cells Z v.cells) W
def co(Z:TI):List SV:=Z.ae.map xF
def rY(n:Nat)(l:List SV):List SV:=match n with
 |0=>[]
 |n+1=>l++rY n l
def Mu:BinOp->Bool
 |.eql|.neq|.lss|.leq|.gtr|.geq=>true
 |_=>false
def ey:BinOp->Int->Int->Bool
 |.eql,x,y=>x==y
 |.neq,x,y=>x !=y
 |.lss,x,y=>decide (x<y)
 |.leq,x,y=>decide (x<=y)
 |.gtr,x,y=>decide (x>y)
 |.geq,x,y=>decide (x>=y)
 |_,_,_=>false
def aP:BinOp->IntKind->Int->Int->Int
 |.add,k,x,y=>k.wrap (x+y)
 |.sub,k,x,y=>k.wrap (x-y)
 |.mul,k,x,y=>k.wrap (x*y)
 |.quo,k,x,y=>k.wrap (x.tdiv y)
 |.rem,_,x,y=>x.tmod y
 |.shr,k,x,y=>x.fdiv (2^min y.toNat k.bits)
 |_,_,_,_=>0
def TN:BinOp->Bool
 |.add|.sub|.mul=>true
 |_=>false
def TO:BinOp->Bool
 |.quo|.rem=>true
 |_=>false
def acl:BinOp->Bool
 |.shr=>true
 |_=>false
inductive PR where
 |ok (v:SV)
 |aF (b:BE) (v:SV)
 |no (why:String)
def Ca(Z:BinOp)(k:IntKind):IE->IE->IE
 |.c x,.c y=>.c (aP Z k x y)
 |a,b=>.bin Z k a b
def lL(Z:BinOp):IE->IE->BE
 |.c x,.c y=>.c (ey Z x y)
 |a,b=>.cmp Z a b
def zN:BE->BE
 |.c b=>.c (!b)
 |b=>.not b
def qw:BE->BE->BE
 |.c true,b=>b
 |.c false,_=>.c false
 |a,.c true=>a
 |a,b=>.and a b
def IC:BE->BE->BE
 |.c a,.c b=>.c (a==b)
 |.c true,b=>b
 |.c false,b=>zN b
 |a,.c true=>a
 |a,.c false=>zN a
 |a,b=>.beq a b
def qy(i:IE)(n:IE):BE:=qw (lL .leq (.c 0) i) (lL .lss i n)
def Mv(Z:Bool):IE->IE->IE
 |.c x,.c y=>.c (if Z then max x y else min x y)
 |a,b=>.mm Z a b
def Cb(Z:Bool)(k:IntKind):IE->List SV->Option IE
 |e,[]=>some e
 |e,.int X x::r=>if k=X then Cb Z k (Mv Z e x) r else none
 |_,_=>none
abbrev Ty:=TypeId->Option TI
def aV(X:Ty):RK->List CT
 |.sl e=>match X e with
  |some Z=>Z.ae
  |none=>[]
 |.mr W=>(match X W.kt with
  |some Z=>Z.ae
  |none=>[])++(match X W.vt with
  |some Z=>Z.ae
  |none=>[])
 |_=>[]
def Cc:Option CT->RK
 |some (.ax _ k)=>k
 |_=>.ax
def RE.kind(Z:Ty)(s:S):RE->RK
 |.v n=>(s.rs.getD n .ax).rd
 |.cell r _ j X=>match RE.kind Z s r with
  |.sl e=>if Cc (aV Z (.sl e))[j]?=X then X else .ax
  |_=>.ax
 |.k (.string _)=>.str
 |.k _=>.ax
def EF(Z:Ty)(s:S):CT->SV->SV->Option BE
 |.int k,.int X a,.int W b=>if X=k/\W=k then some (lL .eql a b) else none
 |.bool,.bool a,.bool b=>some (IC a b)
 |.ax _ .str,.ref a,.ref b=>if a.kind Z s=.str/\b.kind Z s=.str then some (.seq a b) else none
 |_,_,_=>none
def m8(Z:Ty)(s:S):List CT->List SV->List SV->Option BE
 |[],[],[]=>some (.c true)
 |c::X,x::W,y::V=>match EF Z s c x y,m8 Z s X W V with
  |some a,some b=>some (qw a b)
  |_,_=>none
 |_,_,_=>none
def EG(Z:Ty)(s:S)(X:Option TI)(a b:List SV):Option BE:=match X with
 |some ⟨_,ae,true⟩=>m8 Z s ae a b
 |_=>none
def TP(Z:Ty)(X:List (Nat×TypeId))(i:Nat):Option (Nat×Nat):=match X[i]? with
 |some (o,W)=>(Z W).map λf=>(o,f.ae.length)
 |none=>none
def RE.nil:RE->Bool
 |.k (.slice none 0 0)=>true
 |_=>false
def RE.my(Z:Ty)(s:S)(X:Sh)(r:RE):Bool:=decide (r.kind Z s=.mr X)||r.nil
def Cd(n:Nat)(Z:Bool):SV->Option (IE×IE×IE)
 |.int .i64 a=>if n==1&& !Z then some (a,.c 0,.c 0) else none
 |.agg [.int .i64 a]=>if n==1&&Z then some (a,.c 0,.c 0) else none
 |.agg [.int .i64 a,.int .i64 b]=>if n==2&&Z then some (a,b,.c 0) else none
 |.agg [.int .i64 a,.int .i64 b,.int .i64 c]=>if n==3&&Z then some (a,b,c) else none
 |_=>none
def jx:CT->Bool
 |.ax _ _=>false
 |_=>true
def mz(r:RE)(n:Nat)(a b c:IE):Nat->List CT->List SV
 |_,[]=>[]
 |j,.int k::Z=>.int k (.look r n a b c j)::mz r n a b c (j+1) Z
 |j,.bool::Z=>.bool (.look r n a b c j)::mz r n a b c (j+1) Z
 |j,.ax z _::Z=>.ref (.k z)::mz r n a b c (j+1) Z
def n9(Z:Bool)(l:List SV):SV:=if Z then .agg l else l.getD 0 .any
def mA:List SV->Option (List Int)
 |[]=>some []
 |.int .i64 (.c k)::_::r=>(mA r).map (k::·)
 |_=>none
def jc:List SV->List SV
 |_::v::r=>v::jc r
 |_=>[]
def vz(e:IE):List Int->List SV->Option IE
 |k::Z,.int _ x::X=>(vz e Z X).map λy=>.b9 (.cmp .eql e (.c k)) x y
 |[],[]=>some (.c 0)
 |_,_=>none
def xG(e:IE):List Int->List SV->Option BE
 |k::Z,.bool x::X=>(xG e Z X).map λy=>.b9 (.cmp .eql e (.c k)) x y
 |[],[]=>some (.c false)
 |_,_=>none
def EH:SV->Bool
 |.fn _ _=>true
 |.ref (.k .nilFunc)=>true
 |_=>false
def ID:Option TI->Bool
 |some ⟨.one,[.ax .nilFunc _],_⟩=>true
 |_=>false
def xH(e:IE):List Int->List SV->BE
 |k::Z,.fn _ _::X=>.b9 (.cmp .eql e (.c k)) (.c false) (xH e Z X)
 |k::Z,_::X=>.b9 (.cmp .eql e (.c k)) (.c true) (xH e Z X)
 |_,_=>.c true
def TQ(e:IE)(X:List Int)(Z:List SV):CT->Option SV
 |.int k=>if Z.all λv=>match v with|.int W _=>decide (k=W)|_=>false then(vz e X Z).map (.int k) else none
 |.bool=>(xG e X Z).map .bool
 |.ax .nilFunc _=>if Z.all EH&&X.length==Z.length then some (.dE e X Z) else none
 |_=>none
def xI(e:IE)(Z:List Int)(X:List (List SV)):Nat->List CT->Option (List SV)
 |_,[]=>some []
 |j,c::W=>match TQ e Z (X.map λr=>r.getD j .any) c,xI e Z X (j+1) W with
  |some v,some r=>some (v::r)
  |_,_=>none
def Ce(e:IE):List Int->BE
 |[]=>.c false
 |k::Z=>.b9 (.cmp .eql e (.c k)) (.c true) (Ce e Z)
def cJ{Z:Type}(x:Int):List Int->List Z->Option Z
 |k::X,v::W=>if x=k then some v else cJ x X W
 |_,_=>none
def vA(Z:TI)(v:SV):Bool:=v.cells.length==Z.ae.length&&v.B9&&(match v with
 |.agg _=>Z.d.isAgg
 |_=> !Z.d.isAgg)
def acm(Z:TI)(e:IE)(X:List SV):Option (SV×BE):=match mA X with
 |some W=>match e with
  |.c x=>match cJ x W (jc X) with
   |some v=>some (v,.c true)
   |none=>some (n9 Z.d.isAgg (co Z),.c false)
  |e=>if(jc X).all (vA Z) then(xI e W ((jc X).map SV.cells) 0 Z.ae).map λl=>(n9 Z.d.isAgg l,Ce e W) else none
 |none=>none
def TR:CT->Bool
 |.int .i64=>true
 |_=>false
def oa(Z:Ty)(k:TypeId)(n:Nat)(X:Bool):Bool:=match Z k with
 |some tk=>tk.ae.length==n&&tk.ae.all TR&&tk.d.isAgg==X
 |none=>false
def Mw(Z:Bool)(v:SV)(b:BE):PR:=.ok (if Z then .bh [v,.bool b] else v)
def Mx(W:Ty)(s:S)(k e:TypeId)(n:Nat)(X V:Bool)(i:Nat)(Q:SV):PR:=match W e,Cd n X Q,bD s.boxes i with
 |some Z,some (a,b,c),some (U,R)=>if !oa W k n X then .no "" else
  if U==qr then(match R with
   |[.ref r,.int .i64 (.c P),.bool (.c O),.bool (.c N)]=>if r.my W s ⟨k,e,n,X,Z.d.isAgg⟩&&P==(n:Int)&&O==X&&N==Z.d.isAgg&&Z.ae.all jx&&Z.ae.length !=0 then Mw V (n9 Z.d.isAgg (mz r n a b c n Z.ae)) (.has r n a b c) else .no ""
   |_=>.no "")
  else if U==pj then(if n==1&& !X then(match acm Z a R with
   |some (v,x)=>Mw V v x
   |none=>.no "") else .no "")
  else .no ""
 |_,_,_=>.no ""
def xJ(n:Nat):List Int:=(ayQ n).map λ(i:Nat)=>(i:Int)
def My(Z:TI)(e:IE)(W:List Int)(X:List SV):Option SV:=if X.all (vA Z) then(xI e W (X.map SV.cells) 0 Z.ae).map (n9 Z.d.isAgg) else none
def tU(Z:List SV):Option Nat:=match Z with
 |.loc i _::_=>if Z.all λv=>match v with
  |.loc j _=>i==j
  |_=>false then some i else none
 |_=>none
def zO{Z:Type}:List (Option Z)->Option (List Z)
 |[]=>some []
 |some x::r=>(zO r).map (x::·)
 |none::_=>none
def TS(Z:TI)(X:List SV):SV->Option SV
 |.loc _ W=>rX Z X W
 |_=>none
def bv(Z:Ty)(X:List (Nat×Nat×Nat))(s:S):Op->PR
 |.move x|.assign x=>.ok (s.ev X x)
 |.pick c a b=>match s.ev X c with
  |.bool (.c true)=>.ok (s.ev X a)
  |.bool (.c false)=>.ok (s.ev X b)
  |_=>.no ""
 |.load t a=>match Z t,s.ev X a with
  |some R,.loc i W=>match iQ s.boxes i with
   |some (_,M)=>match rX R M W with
    |some v=>.ok v
    |none=>.no ""
   |none=>.no ""
  |some R,.el r w i W=>match r.kind Z s with
   |.sl e=>
    if(aV Z (.sl e)).length !=w then .no "" else
    match rX R ((ayQ w).map λj=>zL r i j ((aV Z (.sl e)).getD j .bool)) W with
    |some v=>.aF (qy i (.len r)) v
    |none=>.no ""
   |_=>.no ""
  |some R,.dE e O P=>match(tU P).bind λi=>iQ s.boxes i with
   |some (_,M)=>match(zO (P.map (TS R M))).bind (My R e O) with
    |some v=>if O.length==P.length then .aF (Ce e O) v else .no ""
    |none=>.no ""
   |none=>.no ""
  |_,_=>.no ""
 |.fieldAddr L x f=>match Z L,s.ev X x with
  |some ⟨.struct Q,_,_⟩,.loc i W=>match Q[f]? with
   |some (o,t)=>match Z t with
    |some R=>if R.ae.length==0 then .no "" else .ok (.loc i (W+o))
    |none=>.no ""
   |none=>.no ""
  |some ⟨.struct Q,_,_⟩,.el r w i W=>match Q[f]? with
   |some (o,t)=>match Z t with
    |some R=>if R.ae.length==0 then .no "" else .ok (.el r w i (W+o))
    |none=>.no ""
   |none=>.no ""
  |_,_=>.no ""
 |.field L x f=>match Z L,s.ev X x with
  |some ⟨.struct Q,_,_⟩,.agg l=>match Q[f]? with
   |some (o,t)=>match Z t with
    |some R=>match rX R l o with
     |some v=>.ok v
     |none=>.no ""
    |none=>.no ""
   |none=>.no ""
  |_,_=>.no ""
 |.indexAddr t x N=>match Z t,s.ev X x,s.ev X N with
  |some ⟨.arr n e,_,_⟩,.loc i W,.int _ (.c m)=>match Z e with
   |some V=>if decide (0<=m)&&decide (m<(n:Int)) then .ok (.loc i (W+m.toNat*V.ae.length)) else .no ""
   |none=>.no ""
  |some ⟨.arr n e,_,_⟩,.el r w (.c i) W,.int _ m=>match Z e with
   |some V=>if V.ae.length==w&&i==0&&W==0&&V.ae.length !=0 then .aF (qy m (.c n)) (.el r w m 0) else
    match m with
    |.c m=>if decide (0<=m)&&decide (m<(n:Int)) then .ok (.el r w (.c i) (W+m.toNat*V.ae.length)) else .no ""
    |_=>.no ""
   |none=>.no ""
  |some ⟨.arr n e,_,_⟩,.el r w i W,.int _ (.c m)=>match Z e with
   |some V=>if decide (0<=m)&&decide (m<(n:Int)) then .ok (.el r w i (W+m.toNat*V.ae.length)) else .no ""
   |none=>.no ""
  |some ⟨.slice e,_,_⟩,.ref r,.int _ m=>match Z e,r.kind Z s with
   |some V,.sl _=>.aF (qy m (.len r)) (.el r V.ae.length m 0)
   |_,_=>.no ""
  |some ⟨.slice e,_,_⟩,.fo i W I _,.int _ (.c m)=>match Z e with
   |some V=>if decide (0<=m)&&decide (m<(I:Int)) then .ok (.loc i (W+m.toNat*V.ae.length)) else .no ""
   |none=>.no ""
  |some ⟨.arr n e,_,_⟩,.loc i W,.int _ m=>match Z e with
   |some V=>.aF (qy m (.c n)) (.dE m (xJ n) ((ayQ n).map λj=>.loc i (W+j*V.ae.length)))
   |none=>.no ""
  |_,_,_=>.no ""
 |.index t x N=>match Z t,s.ev X x,s.ev X N with
  |some ⟨.arr n e,_,_⟩,.agg l,.int _ (.c m)=>match Z e with
   |some V=>if decide (0<=m)&&decide (m<(n:Int)) then(match rX V l (m.toNat*V.ae.length) with
    |some v=>.ok v
    |none=>.no "") else .no ""
   |none=>.no ""
  |some ⟨.arr n e,_,_⟩,.agg l,.int _ m=>match Z e with
   |some V=>match(zO ((ayQ n).map λj=>rX V l (j*V.ae.length))).bind (My V m (xJ n)) with
    |some v=>.aF (qy m (.c n)) v
    |none=>.no ""
   |none=>.no ""
  |some ⟨.str,_,_⟩,.ref r,.int _ m=>match r.kind Z s with
   |.str=>.aF (qy m (.len r)) (.int .u8 (.j6 r m))
   |_=>.no ""
  |_,_,_=>.no ""
 |.binOp U t x y _=>match s.ev X x,s.ev X y with
  |.int k a,.int H b=>
   if acl U then(match b with
    |.c n=>if decide (0<=n) then .ok (.int k (Ca U k a (.c n))) else .no ""
    |_=>.no "") else
   if k≠H then .no "" else
   if Mu U then .ok (.bool (lL U a b)) else
   if TN U then .ok (.int k (Ca U k a b)) else
   if TO U then(match b with
    |.c n=>if n==0 then .no "" else .ok (.int k (Ca U k a b))
    |_=>.aF (lL .neq b (.c 0)) (.int k (Ca U k a b))) else .no ""
  |.bool a,.bool b=>match Z t,U with
   |some ⟨.one,[.bool],_⟩,.eql=>.ok (.bool (IC a b))
   |some ⟨.one,[.bool],_⟩,.neq=>.ok (.bool (zN (IC a b)))
   |_,_=>.no ""
  |.ref (.k .nilFunc),.ref (.k .nilFunc)=>if !ID (Z t) then .no "" else match U with
   |.eql=>.ok (.bool (.c true))
   |.neq=>.ok (.bool (.c false))
   |_=>.no ""
  |.ref a,.ref b=>match a.kind Z s,b.kind Z s,U with
   |.str,.str,.eql=>.ok (.bool (.seq a b))
   |.str,.str,.neq=>.ok (.bool (.not (.seq a b)))
   |_,_,_=>.no ""
  |.fn _ _,.ref (.k .nilFunc)=>if !ID (Z t) then .no "" else match U with
   |.eql=>.ok (.bool (.c false))
   |.neq=>.ok (.bool (.c true))
   |_=>.no ""
  |.dE e O P,.ref (.k .nilFunc)=>if P.all EH&&O.length==P.length&&ID (Z t) then(match U with
   |.eql=>.ok (.bool (xH e O P))
   |.neq=>.ok (.bool (zN (xH e O P)))
   |_=>.no "") else .no ""
  |.agg a,.agg b=>match U,EG Z s (Z t) a b with
   |.eql,some e=>.ok (.bool e)
   |.neq,some e=>.ok (.bool (zN e))
   |_,_=>.no ""
  |_,_=>.no ""
 |.unOp U _ x=>match U,s.ev X x with
  |.not,.bool b=>.ok (.bool (zN b))
  |.neg,.int k e=>.ok (.int k (Ca .sub k (.c 0) e))
  |_,_=>.no ""
 |.convert G F x=>match Z G,Z F,s.ev X x with
  |some ⟨.one,[.int _],_⟩,some ⟨.one,[.int k],_⟩,.int _ (.c n)=>.ok (.int k (.c (k.wrap n)))
  |some ⟨.one,[.int _],_⟩,some ⟨.one,[.int k],_⟩,.int _ e=>.ok (.int k (.conv k e))
  |_,_,_=>.no ""
 |.makeInterface t x=>match Z t with
  |some ⟨.dD,_,_⟩=>.no ""
  |some _=>.ok (.dD t (s.ev X x))
  |none=>.no ""
 |.makeFunc E first J=>match E,first.toList with
  |.func f,[]=>.ok (.fn f (J.toList.map (s.ev X)))
  |_,_=>.no ""
 |.extract x i=>match s.ev X x with
  |.bh l=>match l[i]? with
   |some v=>.ok v
   |none=>.no ""
  |_=>.no ""
 |.nilCheck x=>match s.ev X x with
  |.loc i W=>.ok (.loc i W)
  |.el r w i W=>.ok (.el r w i W)
  |.fn f J=>.ok (.fn f J)
  |_=>.no ""
 |.slice t x D C B=>match Z t,s.ev X x,B with
  |some ⟨.arr n e,_,_⟩,.loc i W,none=>match Z e,D.map (s.ev X),C.map (s.ev X) with
   |some _,none,none=>.ok (.fo i W n n)
   |some V,some (.int _ (.c l)),none=>if decide (0<=l)&&decide (l<(n:Int)) then .ok (.fo i (W+l.toNat*V.ae.length) (n-l.toNat) (n-l.toNat)) else .no ""
   |_,_,_=>.no ""
  |_,_,_=>.no ""
 |.build t parts=>match Z t with
  |some ⟨.struct Q,ae,q⟩=>if !(Q.all λf=>(Z f.2).isSome) then .no "" else match tT (TP Z Q) (co ⟨.struct Q,ae,q⟩) (parts.toList.map λp=>(p.1,s.ev X p.2)) with
   |some l=>.ok (.agg l)
   |none=>.no ""
  |some ⟨.arr n e,ae,q⟩=>match Z e with
   |some V=>match tT (λi=>some (i*V.ae.length,V.ae.length)) (co ⟨.arr n e,ae,q⟩) (parts.toList.map λp=>(p.1,s.ev X p.2)) with
    |some l=>.ok (.agg l)
    |none=>.no ""
   |none=>.no ""
  |_=>.no ""
 |.call c=>match c.callee with
  |.builtin .len=>match c.argTypes.toList,c.args.toList.map (s.ev X) with
   |[t],[.ref (.k (.slice none 0 0))]=>match Z t with
    |some ⟨.slice _,_,_⟩=>.ok (.int .i64 (.c 0))
    |_=>.no ""
   |[t],[.ref r]=>match Z t,r.kind Z s with
    |some ⟨.slice _,_,_⟩,.sl _=>.ok (.int .i64 (.len r))
    |some ⟨.str,_,_⟩,.str=>.ok (.int .i64 (.len r))
    |_,_=>.no ""
   |[t],[.fo _ _ n _]=>match Z t with
    |some ⟨.slice _,_,_⟩=>.ok (.int .i64 (.c n))
    |_=>.no ""
   |_,_=>.no ""
  |.builtin .min=>match c.args.toList.map (s.ev X) with
   |.int k x::r=>match Cb false k x r with
    |some e=>.ok (.int k e)
    |none=>.no ""
   |_=>.no ""
  |.builtin .max=>match c.args.toList.map (s.ev X) with
   |.int k x::r=>match Cb true k x r with
    |some e=>.ok (.int k e)
    |none=>.no ""
   |_=>.no ""
  |_=>.no ""
 |.lookup t x N A=>match Z t,s.ev X x with
  |some ⟨.map k e n z,_,_⟩,.mp i=>Mx Z s k e n z A i (s.ev X N)
  |_,_=>.no ""
 |_=>.no ""
def vC(Z:List (Nat×Nat×Nat))(s:S):Op->Option Nat
 |.load _ x=>match s.ev Z x with
  |.loc i _=>some i
  |.dE _ _ X=>tU X
  |_=>none
 |.lookup _ x _ _=>match s.ev Z x with
  |.mp i=>some i
  |_=>none
 |_=>none
def Cf:Value->Value->Bool
 |.string a,.string b=>a.data.toList==b.data.toList
 |.slice none a b,.slice none c d=>a==c&&b==d
 |.pointer none,.pointer none=>true
 |.nilFunc,.nilFunc=>true
 |.nilIface,.nilIface=>true
 |.map none,.map none=>true
 |_,_=>false
def vD(a b:BinOp):Bool:=decide (a=b)
noncomputable def IE.same(e:IE):IE->Bool:=IE.rec (motive_1:=λ_=>IE->Bool) (motive_2:=λ_=>BE->Bool) (motive_3:=λ_=>RE->Bool) (λn e=>match e with|IE.c P=>n==P|_=>false) (λk e=>match e with|IE.v Q=>k==Q|_=>false) (λo k _ _ Z X e=>match e with|IE.bin I Q W V=>vD o I&&decide (k=Q)&&Z W&&X V|_=>false) (λk _ Z e=>match e with|IE.conv Q W=>decide (k=Q)&&Z W|_=>false) (λ_ U e=>match e with|IE.len R=>U R|_=>false) (λm _ _ Z X e=>match e with|IE.mm D W V=>m==D&&Z W&&X V|_=>false) (λ_ _ _ X H G e=>match e with|IE.b9 V F E=>X V&&H F&&G E|_=>false) (λ_ _ j U N e=>match e with|IE.cell R M O=>U R&&N M&&j==O|_=>false) (λ_ _ U N e=>match e with|IE.j6 R M=>U R&&N M|_=>false) (λ_ n _ _ _ j U Z X L e=>match e with|IE.look R P W V J O=>U R&&n==P&&Z W&&X V&&L J&&j==O|_=>false) (λn e=>match e with|BE.c P=>n==P|_=>false) (λk e=>match e with|BE.v Q=>k==Q|_=>false) (λo _ _ Z X e=>match e with|BE.cmp I W V=>vD o I&&Z W&&X V|_=>false) (λ_ Z e=>match e with|BE.not W=>Z W|_=>false) (λ_ _ Z X e=>match e with|BE.and W V=>Z W&&X V|_=>false) (λ_ _ Z X e=>match e with|BE.beq W V=>Z W&&X V|_=>false) (λ_ _ _ X H G e=>match e with|BE.b9 V F E=>X V&&H F&&G E|_=>false) (λ_ _ j U N e=>match e with|BE.cell R M O=>U R&&N M&&j==O|_=>false) (λ_ _ Z X e=>match e with|BE.seq W V=>Z W&&X V|_=>false) (λ_ n _ _ _ j U Z X L e=>match e with|BE.look R P W V J O=>U R&&n==P&&Z W&&X V&&L J&&j==O|_=>false) (λ_ n _ _ _ U Z X L e=>match e with|BE.has R P W V J=>U R&&n==P&&Z W&&X V&&L J|_=>false) (λk e=>match e with|RE.v Q=>k==Q|_=>false) (λ_ _ j k U N e=>match e with|RE.cell R M O Q=>U R&&N M&&j==O&&decide (k=Q)|_=>false) (λv e=>match e with|RE.k C=>Cf v C|_=>false) e
noncomputable def BE.same(e:BE):BE->Bool:=BE.rec (motive_1:=λ_=>IE->Bool) (motive_2:=λ_=>BE->Bool) (motive_3:=λ_=>RE->Bool) (λn e=>match e with|IE.c P=>n==P|_=>false) (λk e=>match e with|IE.v Q=>k==Q|_=>false) (λo k _ _ Z X e=>match e with|IE.bin I Q W V=>vD o I&&decide (k=Q)&&Z W&&X V|_=>false) (λk _ Z e=>match e with|IE.conv Q W=>decide (k=Q)&&Z W|_=>false) (λ_ U e=>match e with|IE.len R=>U R|_=>false) (λm _ _ Z X e=>match e with|IE.mm D W V=>m==D&&Z W&&X V|_=>false) (λ_ _ _ X H G e=>match e with|IE.b9 V F E=>X V&&H F&&G E|_=>false) (λ_ _ j U N e=>match e with|IE.cell R M O=>U R&&N M&&j==O|_=>false) (λ_ _ U N e=>match e with|IE.j6 R M=>U R&&N M|_=>false) (λ_ n _ _ _ j U Z X L e=>match e with|IE.look R P W V J O=>U R&&n==P&&Z W&&X V&&L J&&j==O|_=>false) (λn e=>match e with|BE.c P=>n==P|_=>false) (λk e=>match e with|BE.v Q=>k==Q|_=>false) (λo _ _ Z X e=>match e with|BE.cmp I W V=>vD o I&&Z W&&X V|_=>false) (λ_ Z e=>match e with|BE.not W=>Z W|_=>false) (λ_ _ Z X e=>match e with|BE.and W V=>Z W&&X V|_=>false) (λ_ _ Z X e=>match e with|BE.beq W V=>Z W&&X V|_=>false) (λ_ _ _ X H G e=>match e with|BE.b9 V F E=>X V&&H F&&G E|_=>false) (λ_ _ j U N e=>match e with|BE.cell R M O=>U R&&N M&&j==O|_=>false) (λ_ _ Z X e=>match e with|BE.seq W V=>Z W&&X V|_=>false) (λ_ n _ _ _ j U Z X L e=>match e with|BE.look R P W V J O=>U R&&n==P&&Z W&&X V&&L J&&j==O|_=>false) (λ_ n _ _ _ U Z X L e=>match e with|BE.has R P W V J=>U R&&n==P&&Z W&&X V&&L J|_=>false) (λk e=>match e with|RE.v Q=>k==Q|_=>false) (λ_ _ j k U N e=>match e with|RE.cell R M O Q=>U R&&N M&&j==O&&decide (k=Q)|_=>false) (λv e=>match e with|RE.k C=>Cf v C|_=>false) e
noncomputable def RE.same(e:RE):RE->Bool:=RE.rec (motive_1:=λ_=>IE->Bool) (motive_2:=λ_=>BE->Bool) (motive_3:=λ_=>RE->Bool) (λn e=>match e with|IE.c P=>n==P|_=>false) (λk e=>match e with|IE.v Q=>k==Q|_=>false) (λo k _ _ Z X e=>match e with|IE.bin I Q W V=>vD o I&&decide (k=Q)&&Z W&&X V|_=>false) (λk _ Z e=>match e with|IE.conv Q W=>decide (k=Q)&&Z W|_=>false) (λ_ U e=>match e with|IE.len R=>U R|_=>false) (λm _ _ Z X e=>match e with|IE.mm D W V=>m==D&&Z W&&X V|_=>false) (λ_ _ _ X H G e=>match e with|IE.b9 V F E=>X V&&H F&&G E|_=>false) (λ_ _ j U N e=>match e with|IE.cell R M O=>U R&&N M&&j==O|_=>false) (λ_ _ U N e=>match e with|IE.j6 R M=>U R&&N M|_=>false) (λ_ n _ _ _ j U Z X L e=>match e with|IE.look R P W V J O=>U R&&n==P&&Z W&&X V&&L J&&j==O|_=>false) (λn e=>match e with|BE.c P=>n==P|_=>false) (λk e=>match e with|BE.v Q=>k==Q|_=>false) (λo _ _ Z X e=>match e with|BE.cmp I W V=>vD o I&&Z W&&X V|_=>false) (λ_ Z e=>match e with|BE.not W=>Z W|_=>false) (λ_ _ Z X e=>match e with|BE.and W V=>Z W&&X V|_=>false) (λ_ _ Z X e=>match e with|BE.beq W V=>Z W&&X V|_=>false) (λ_ _ _ X H G e=>match e with|BE.b9 V F E=>X V&&H F&&G E|_=>false) (λ_ _ j U N e=>match e with|BE.cell R M O=>U R&&N M&&j==O|_=>false) (λ_ _ Z X e=>match e with|BE.seq W V=>Z W&&X V|_=>false) (λ_ n _ _ _ j U Z X L e=>match e with|BE.look R P W V J O=>U R&&n==P&&Z W&&X V&&L J&&j==O|_=>false) (λ_ n _ _ _ U Z X L e=>match e with|BE.has R P W V J=>U R&&n==P&&Z W&&X V&&L J|_=>false) (λk e=>match e with|RE.v Q=>k==Q|_=>false) (λ_ _ j k U N e=>match e with|RE.cell R M O Q=>U R&&N M&&j==O&&decide (k=Q)|_=>false) (λv e=>match e with|RE.k C=>Cf v C|_=>false) e
def IE.ez:(∀n e,IE.same (.c n) e=match e with|IE.c U=>n==U|_=>false)/\(∀k e,IE.same (.v k) e=match e with|IE.v V=>k==V|_=>false)/\(∀o k a b e,IE.same (.bin o k a b) e=match e with|IE.bin P V Z X=>vD o P&&decide (k=V)&&IE.same a Z&&IE.same b X|_=>false)/\(∀k a e,IE.same (.conv k a) e=match e with|IE.conv V Z=>decide (k=V)&&IE.same a Z|_=>false)/\(∀r e,IE.same (.len r) e=match e with|IE.len W=>RE.same r W|_=>false)/\(∀m a b e,IE.same (.mm m a b) e=match e with|IE.mm O Z X=>m==O&&IE.same a Z&&IE.same b X|_=>false)/\(∀b x y e,IE.same (.b9 b x y) e=match e with|IE.b9 X N M=>BE.same b X&&IE.same x N&&IE.same y M|_=>false)/\(∀r i j e,IE.same (.cell r i j) e=match e with|IE.cell W R Q=>RE.same r W&&IE.same i R&&j==Q|_=>false)/\(∀r i e,IE.same (.j6 r i) e=match e with|IE.j6 W R=>RE.same r W&&IE.same i R|_=>false)/\(∀r n a b c j e,IE.same (.look r n a b c j) e=match e with|IE.look W U Z X L Q=>RE.same r W&&n==U&&IE.same a Z&&IE.same b X&&IE.same c L&&j==Q|_=>false):=⟨λ_ _=>rfl,λ_ _=>rfl,λ_ _ _ _ _=>rfl,λ_ _ _=>rfl,λ_ _=>rfl,λ_ _ _ _=>rfl,λ_ _ _ _=>rfl,λ_ _ _ _=>rfl,λ_ _ _=>rfl,λ_ _ _ _ _ _ _=>rfl⟩
def BE.ez:(∀n e,BE.same (.c n) e=match e with|BE.c W=>n==W|_=>false)/\(∀k e,BE.same (.v k) e=match e with|BE.v Q=>k==Q|_=>false)/\(∀o a b e,BE.same (.cmp o a b) e=match e with|BE.cmp P Z X=>vD o P&&IE.same a Z&&IE.same b X|_=>false)/\(∀a e,BE.same (.not a) e=match e with|BE.not Z=>BE.same a Z|_=>false)/\(∀a b e,BE.same (.and a b) e=match e with|BE.and Z X=>BE.same a Z&&BE.same b X|_=>false)/\(∀a b e,BE.same (.beq a b) e=match e with|BE.beq Z X=>BE.same a Z&&BE.same b X|_=>false)/\(∀b x y e,BE.same (.b9 b x y) e=match e with|BE.b9 X O N=>BE.same b X&&BE.same x O&&BE.same y N|_=>false)/\(∀r i j e,BE.same (.cell r i j) e=match e with|BE.cell V M U=>RE.same r V&&IE.same i M&&j==U|_=>false)/\(∀a b e,BE.same (.seq a b) e=match e with|BE.seq Z X=>RE.same a Z&&RE.same b X|_=>false)/\(∀r n a b c j e,BE.same (.look r n a b c j) e=match e with|BE.look V W Z X R U=>RE.same r V&&n==W&&IE.same a Z&&IE.same b X&&IE.same c R&&j==U|_=>false)/\(∀r n a b c e,BE.same (.has r n a b c) e=match e with|BE.has V W Z X R=>RE.same r V&&n==W&&IE.same a Z&&IE.same b X&&IE.same c R|_=>false):=⟨λ_ _=>rfl,λ_ _=>rfl,λ_ _ _ _=>rfl,λ_ _=>rfl,λ_ _ _=>rfl,λ_ _ _=>rfl,λ_ _ _ _=>rfl,λ_ _ _ _=>rfl,λ_ _ _=>rfl,λ_ _ _ _ _ _ _=>rfl,λ_ _ _ _ _ _=>rfl⟩
def RE.ez:(∀k e,RE.same (.v k) e=match e with|RE.v Z=>k==Z|_=>false)/\(∀r i j k e,RE.same (.cell r i j k) e=match e with|RE.cell X W V Z=>RE.same r X&&IE.same i W&&j==V&&decide (k=Z)|_=>false)/\(∀v e,RE.same (.k v) e=match e with|RE.k U=>Cf v U|_=>false):=⟨λ_ _=>rfl,λ_ _ _ _ _=>rfl,λ_ _=>rfl⟩
noncomputable def SV.same(v:SV):SV->Bool:=SV.rec (motive_1:=λ_=>SV->Bool) (motive_2:=λ_=>List SV->Bool) (λk e v=>match v with|SV.int Q W=>decide (k=Q)&&e.same W|_=>false) (λb v=>match v with|SV.bool V=>b.same V|_=>false) (λr v=>match v with|SV.ref U=>r.same U|_=>false) (λi o v=>match v with|SV.loc Z R=>i==Z&&o==R|_=>false) (λr w i o v=>match v with|SV.el U w' Z R=>r.same U&&w==w'&&i.same Z&&o==R|_=>false) (λa b c d v=>match v with|SV.fo P V O N=>a==P&&b==V&&c==O&&d==N|_=>false) (λ_ h v=>match v with|SV.agg X=>h X|_=>false) (λ_ h v=>match v with|SV.bh X=>h X|_=>false) (λf _ h v=>match v with|SV.fn M X=>f==M&&h X|_=>false) (λt _ h v=>match v with|SV.dD L J=>t==L&&h J|_=>false) (λn v=>match v with|SV.yl I=>n==I|_=>false) (λv=>match v with|SV.any=>true|_=>false) (λi v=>match v with|SV.mp Z=>i==Z|_=>false) (λe H _ h v=>match v with|SV.dE W G F=>e.same W&&H==G&&h F|_=>false) (λl=>match l with|[]=>true|_=>false) (λ_ _ h E l=>match l with|y::D=>h y&&E D|_=>false) v
noncomputable def SV.mB(l:List SV):List SV->Bool:=SV.rec_1 (motive_1:=λ_=>SV->Bool) (motive_2:=λ_=>List SV->Bool) (λk e v=>match v with|SV.int Q W=>decide (k=Q)&&e.same W|_=>false) (λb v=>match v with|SV.bool V=>b.same V|_=>false) (λr v=>match v with|SV.ref U=>r.same U|_=>false) (λi o v=>match v with|SV.loc Z R=>i==Z&&o==R|_=>false) (λr w i o v=>match v with|SV.el U w' Z R=>r.same U&&w==w'&&i.same Z&&o==R|_=>false) (λa b c d v=>match v with|SV.fo P V O N=>a==P&&b==V&&c==O&&d==N|_=>false) (λ_ h v=>match v with|SV.agg X=>h X|_=>false) (λ_ h v=>match v with|SV.bh X=>h X|_=>false) (λf _ h v=>match v with|SV.fn M X=>f==M&&h X|_=>false) (λt _ h v=>match v with|SV.dD L J=>t==L&&h J|_=>false) (λn v=>match v with|SV.yl I=>n==I|_=>false) (λv=>match v with|SV.any=>true|_=>false) (λi v=>match v with|SV.mp Z=>i==Z|_=>false) (λe H _ h v=>match v with|SV.dE W G F=>e.same W&&H==G&&h F|_=>false) (λl=>match l with|[]=>true|_=>false) (λ_ _ h E l=>match l with|y::D=>h y&&E D|_=>false) l
def SV.ez:(∀k e v,SV.same (.int k e) v=match v with|SV.int O W=>decide (k=O)&&e.same W|_=>false)/\(∀b v,SV.same (.bool b) v=match v with|SV.bool V=>b.same V|_=>false)/\(∀r v,SV.same (.ref r) v=match v with|SV.ref U=>r.same U|_=>false)/\(∀i o v,SV.same (.loc i o) v=match v with|SV.loc Z R=>i==Z&&o==R|_=>false)/\(∀r w i o v,SV.same (.el r w i o) v=match v with|SV.el U w' Z R=>r.same U&&w==w'&&i.same Z&&o==R|_=>false)/\(∀a b c d v,SV.same (.fo a b c d) v=match v with|SV.fo N V M L=>a==N&&b==V&&c==M&&d==L|_=>false)/\(∀l v,SV.same (.agg l) v=match v with|SV.agg X=>SV.mB l X|_=>false)/\(∀l v,SV.same (.bh l) v=match v with|SV.bh X=>SV.mB l X|_=>false)/\(∀f l v,SV.same (.fn f l) v=match v with|SV.fn J X=>f==J&&SV.mB l X|_=>false)/\(∀t x v,SV.same (.dD t x) v=match v with|SV.dD I H=>t==I&&SV.same x H|_=>false)/\(∀n v,SV.same (.yl n) v=match v with|SV.yl G=>n==G|_=>false)/\(∀v,SV.same (.any) v=match v with|SV.any=>true|_=>false)/\(∀i v,SV.same (.mp i) v=match v with|SV.mp Z=>i==Z|_=>false)/\(∀e Q P v,SV.same (.dE e Q P) v=match v with|SV.dE W F E=>e.same W&&Q==F&&SV.mB P E|_=>false):=⟨λ_ _ _=>rfl,λ_ _=>rfl,λ_ _=>rfl,λ_ _ _=>rfl,λ_ _ _ _ _=>rfl,λ_ _ _ _ _=>rfl,λ_ _=>rfl,λ_ _=>rfl,λ_ _ _=>rfl,λ_ _ _=>rfl,λ_ _=>rfl,λ_=>rfl,λ_ _=>rfl,λ_ _ _ _=>rfl⟩
def SV.acn:(∀l,SV.mB [] l=match l with|[]=>true|_=>false)/\(∀x Z l,SV.mB (x::Z) l=match l with|y::X=>SV.same x y&&SV.mB Z X|_=>false):=⟨λ_=>rfl,λ_ _ _=>rfl⟩
def aco:∀n:Nat,∃q,8^n=7*q+1
 |0=>⟨0,rfl⟩
 |n+1=>by
  obtain⟨q,h⟩:=aco n;exact⟨8*q+1,by rw[Nat.pow_succ,h];omega⟩
def A3(n:Nat):Nat:=Nat.div (Nat.sub (Nat.pow 8 n) 1) 7
def acp(n:Nat):8^n=7*A3 n+1:=by
 obtain⟨q,h⟩:=aco n;have:A3 n=q:=by
  show(8^n-1)/7=q;rw[h];omega
 rw[this];exact h
def Mz(n:Nat):A3 (n+1)=8*A3 n+1:=by
 have Z:=acp n;have X:=acp (n+1);rw[Nat.pow_succ,Z] at X;omega
def acq:∀(n j:Nat),(A3 n).testBit j=(decide (j%3=0)&&decide (j/3<n))
 |0,j=>by simp[show A3 0=0 from rfl]
 |n+1,0=>by rw[Mz,aBz];simp;omega
 |n+1,1=>by rw[Mz,aAf,show(8*A3 n+1)/2=4*A3 n by omega,aBz];simp;omega
 |n+1,2=>by rw[Mz,aAf,aAf,show(8*A3 n+1)/2/2=2*A3 n by omega,aBz];simp
 |n+1,j+3=>by
  rw[Mz,aAf,aAf,aAf,show(8*A3 n+1)/2/2/2=A3 n by omega,acq n j,Nat.add_mod_right,Nat.add_div_right _ (by omega)];simp
def jd(Z X W:Nat):Nat:=ayR (A3 Z) (ayR (aze (A3 X) 1) (aze (A3 W) 2))
def TU(Z X W j:Nat):(jd Z X W).testBit j=if j%3=0 then decide (j/3<Z) else if j%3=1 then decide (j/3<X) else decide (j/3<W):=by
 change(A3 Z|||(A3 X<<<1|||A3 W<<<2)).testBit j=_;simp only[az3,aA6,acq];rw[azJ];simp only[ay2,ayz,decide_eq_true_eq];split;simp only[decide_eq_true_eq];omega;split;simp only[decide_eq_true_eq];omega;simp only[decide_eq_true_eq];omega
def IF:azq (ayR X I) I=true<->∀j,X.testBit j=true->I.testBit j=true:=by
 rw[aBZ];constructor;intro h j Z;have:(X|||I).testBit j=I.testBit j:=congrArg (λx=>Nat.testBit x j) h;rw[<-this,az3,Z,aB6];intro h;refine Nat.eq_of_testBit_eq λj=> ?_
 change(X|||I).testBit j=_;rw[az3];cases W:X.testBit j with
 |true=>rw[h j W];rfl
 |false=>simp
def iE(a b A:Nat):azq (ayR (ayR a b) A) A=(azq (ayR a A) A&&azq (ayR b A) A):=by
 rw[azJ,ayz,IF,IF,IF];change(∀j,(a|||b).testBit j=true->_)<->_;simp only[az3,ay2];exact⟨λh=>⟨λj k=>h j (.inl k),λj k=>h j (.inr k)⟩,λh j k=>k.elim (h.1 j) (h.2 j)⟩
def TV(k A:Nat):azq (ayR (aze 1 k) A) A=A.testBit k:=by
 rw[azJ,IF];change(∀j,(1<<<k).testBit j=true->_)<->_;simp only[aBs,aB4,decide_eq_true_eq];exact⟨λh=>h k rfl,λh j e=>e▸h⟩
def Cg(A:Nat):azq (ayR 0 A) A=true:=IF.2 λj h=>by simp at h
noncomputable def IE.jf(e:IE):Nat:=IE.rec (motive_1:=λ_=>Nat) (motive_2:=λ_=>Nat) (motive_3:=λ_=>Nat) (λ_=>0) (λk=>aze 1 (3*k)) (λ_ _ _ _ a b=>ayR a b) (λ_ _ a=>a) (λ_ r=>r) (λ_ _ _ a b=>ayR a b) (λ_ _ _ b x y=>ayR (ayR b x) y) (λ_ _ _ r i=>ayR r i) (λ_ _ r i=>ayR r i) (λ_ _ _ _ _ _ r a b c=>ayR (ayR (ayR r a) b) c) (λ_=>0) (λk=>aze 1 (3*k+1)) (λ_ _ _ a b=>ayR a b) (λ_ a=>a) (λ_ _ a b=>ayR a b) (λ_ _ a b=>ayR a b) (λ_ _ _ b x y=>ayR (ayR b x) y) (λ_ _ _ r i=>ayR r i) (λ_ _ a b=>ayR a b) (λ_ _ _ _ _ _ r a b c=>ayR (ayR (ayR r a) b) c) (λ_ _ _ _ _ r a b c=>ayR (ayR (ayR r a) b) c) (λk=>aze 1 (3*k+2)) (λ_ _ _ _ r i=>ayR r i) (λ_=>0) e
noncomputable def BE.jf(e:BE):Nat:=BE.rec (motive_1:=λ_=>Nat) (motive_2:=λ_=>Nat) (motive_3:=λ_=>Nat) (λ_=>0) (λk=>aze 1 (3*k)) (λ_ _ _ _ a b=>ayR a b) (λ_ _ a=>a) (λ_ r=>r) (λ_ _ _ a b=>ayR a b) (λ_ _ _ b x y=>ayR (ayR b x) y) (λ_ _ _ r i=>ayR r i) (λ_ _ r i=>ayR r i) (λ_ _ _ _ _ _ r a b c=>ayR (ayR (ayR r a) b) c) (λ_=>0) (λk=>aze 1 (3*k+1)) (λ_ _ _ a b=>ayR a b) (λ_ a=>a) (λ_ _ a b=>ayR a b) (λ_ _ a b=>ayR a b) (λ_ _ _ b x y=>ayR (ayR b x) y) (λ_ _ _ r i=>ayR r i) (λ_ _ a b=>ayR a b) (λ_ _ _ _ _ _ r a b c=>ayR (ayR (ayR r a) b) c) (λ_ _ _ _ _ r a b c=>ayR (ayR (ayR r a) b) c) (λk=>aze 1 (3*k+2)) (λ_ _ _ _ r i=>ayR r i) (λ_=>0) e
noncomputable def RE.jf(e:RE):Nat:=RE.rec (motive_1:=λ_=>Nat) (motive_2:=λ_=>Nat) (motive_3:=λ_=>Nat) (λ_=>0) (λk=>aze 1 (3*k)) (λ_ _ _ _ a b=>ayR a b) (λ_ _ a=>a) (λ_ r=>r) (λ_ _ _ a b=>ayR a b) (λ_ _ _ b x y=>ayR (ayR b x) y) (λ_ _ _ r i=>ayR r i) (λ_ _ r i=>ayR r i) (λ_ _ _ _ _ _ r a b c=>ayR (ayR (ayR r a) b) c) (λ_=>0) (λk=>aze 1 (3*k+1)) (λ_ _ _ a b=>ayR a b) (λ_ a=>a) (λ_ _ a b=>ayR a b) (λ_ _ a b=>ayR a b) (λ_ _ _ b x y=>ayR (ayR b x) y) (λ_ _ _ r i=>ayR r i) (λ_ _ a b=>ayR a b) (λ_ _ _ _ _ _ r a b c=>ayR (ayR (ayR r a) b) c) (λ_ _ _ _ _ r a b c=>ayR (ayR (ayR r a) b) c) (λk=>aze 1 (3*k+2)) (λ_ _ _ _ r i=>ayR r i) (λ_=>0) e
noncomputable def IE.bd(Z X W:Nat)(e:IE):Bool:=azq (ayR e.jf (jd Z X W)) (jd Z X W)
noncomputable def BE.bd(Z X W:Nat)(e:BE):Bool:=azq (ayR e.jf (jd Z X W)) (jd Z X W)
noncomputable def RE.bd(Z X W:Nat)(e:RE):Bool:=azq (ayR e.jf (jd Z X W)) (jd Z X W)
def am2(Z X W k:Nat):(jd Z X W).testBit (3*k)=decide (k<Z):=by
 rw[TU,if_pos (by omega),show 3*k/3=k by omega]
def am3(X Z W k:Nat):(jd X Z W).testBit (3*k+1)=decide (k<Z):=by
 rw[TU,if_neg (by omega),if_pos (by omega),show(3*k+1)/3=k by omega]
def am4(X W Z k:Nat):(jd X W Z).testBit (3*k+2)=decide (k<Z):=by
 rw[TU,if_neg (by omega),if_neg (by omega),show(3*k+2)/3=k by omega]
def IE.aL:(∀n,IE.bd X I e (.c n)=true)/\(∀k,IE.bd X I e (.v k)=decide (k<X))/\(∀o k a b,IE.bd X I e (.bin o k a b)=(IE.bd X I e a&&IE.bd X I e b))/\(∀k a,IE.bd X I e (.conv k a)=(IE.bd X I e a))/\(∀r,IE.bd X I e (.len r)=(RE.bd X I e r))/\(∀m a b,IE.bd X I e (.mm m a b)=(IE.bd X I e a&&IE.bd X I e b))/\(∀b x y,IE.bd X I e (.b9 b x y)=(BE.bd X I e b&&IE.bd X I e x&&IE.bd X I e y))/\(∀r i j,IE.bd X I e (.cell r i j)=(RE.bd X I e r&&IE.bd X I e i))/\(∀r i,IE.bd X I e (.j6 r i)=(RE.bd X I e r&&IE.bd X I e i))/\(∀r n a b c j,IE.bd X I e (.look r n a b c j)=(RE.bd X I e r&&IE.bd X I e a&&IE.bd X I e b&&IE.bd X I e c)):=⟨λ_=>Cg _,λ_=>(TV _ _).trans (am2 _ _ _ _),λ_ _ _ _=>iE _ _ _,λ_ _=>rfl,λ_=>rfl,λ_ _ _=>iE _ _ _,λ_ _ _=>(iE _ _ _).trans (congrArg (· &&_) (iE _ _ _)),λ_ _ _=>iE _ _ _,λ_ _=>iE _ _ _,λ_ _ _ _ _ _=>(iE _ _ _).trans (congrArg (· &&_) ((iE _ _ _).trans (congrArg (· &&_) (iE _ _ _))))⟩
def BE.aL:(∀n,BE.bd X I e (.c n)=true)/\(∀k,BE.bd X I e (.v k)=decide (k<I))/\(∀o a b,BE.bd X I e (.cmp o a b)=(IE.bd X I e a&&IE.bd X I e b))/\(∀a,BE.bd X I e (.not a)=(BE.bd X I e a))/\(∀a b,BE.bd X I e (.and a b)=(BE.bd X I e a&&BE.bd X I e b))/\(∀a b,BE.bd X I e (.beq a b)=(BE.bd X I e a&&BE.bd X I e b))/\(∀b x y,BE.bd X I e (.b9 b x y)=(BE.bd X I e b&&BE.bd X I e x&&BE.bd X I e y))/\(∀r i j,BE.bd X I e (.cell r i j)=(RE.bd X I e r&&IE.bd X I e i))/\(∀a b,BE.bd X I e (.seq a b)=(RE.bd X I e a&&RE.bd X I e b))/\(∀r n a b c j,BE.bd X I e (.look r n a b c j)=(RE.bd X I e r&&IE.bd X I e a&&IE.bd X I e b&&IE.bd X I e c))/\(∀r n a b c,BE.bd X I e (.has r n a b c)=(RE.bd X I e r&&IE.bd X I e a&&IE.bd X I e b&&IE.bd X I e c)):=⟨λ_=>Cg _,λ_=>(TV _ _).trans (am3 _ _ _ _),λ_ _ _=>iE _ _ _,λ_=>rfl,λ_ _=>iE _ _ _,λ_ _=>iE _ _ _,λ_ _ _=>(iE _ _ _).trans (congrArg (· &&_) (iE _ _ _)),λ_ _ _=>iE _ _ _,λ_ _=>iE _ _ _,λ_ _ _ _ _ _=>(iE _ _ _).trans (congrArg (· &&_) ((iE _ _ _).trans (congrArg (· &&_) (iE _ _ _)))),λ_ _ _ _ _=>(iE _ _ _).trans (congrArg (· &&_) ((iE _ _ _).trans (congrArg (· &&_) (iE _ _ _))))⟩
def RE.aL:(∀k,RE.bd X I e (.v k)=decide (k<e))/\(∀r i j k,RE.bd X I e (.cell r i j k)=(RE.bd X I e r&&IE.bd X I e i))/\(∀v,RE.bd X I e (.k v)=true):=⟨λ_=>(TV _ _).trans (am4 _ _ _ _),λ_ _ _ _=>iE _ _ _,λ_=>Cg _⟩
noncomputable def SV.jf(v:SV):Nat:=SV.rec (motive_1:=λ_=>Nat) (motive_2:=λ_=>Nat) (λ_ e=>e.jf) (λb=>b.jf) (λr=>r.jf) (λ_ _=>0) (λr _ i _=>ayR r.jf i.jf) (λ_ _ _ _=>0) (λ_ l=>l) (λ_ l=>l) (λ_ _ l=>l) (λ_ _ x=>x) (λ_=>0) 0 (λ_=>0) (λe _ _ l=>ayR e.jf l) 0 (λ_ _ a b=>ayR a b) v
noncomputable def SV.EI(l:List SV):Nat:=SV.rec_1 (motive_1:=λ_=>Nat) (motive_2:=λ_=>Nat) (λ_ e=>e.jf) (λb=>b.jf) (λr=>r.jf) (λ_ _=>0) (λr _ i _=>ayR r.jf i.jf) (λ_ _ _ _=>0) (λ_ l=>l) (λ_ l=>l) (λ_ _ l=>l) (λ_ _ x=>x) (λ_=>0) 0 (λ_=>0) (λe _ _ l=>ayR e.jf l) 0 (λ_ _ a b=>ayR a b) l
noncomputable def SV.vE(v:SV):Nat:=SV.rec (motive_1:=λ_=>Nat) (motive_2:=λ_=>Nat) (λ_ _=>0) (λ_=>0) (λ_=>0) (λi _=>aze 1 i) (λ_ _ _ _=>0) (λi _ _ _=>aze 1 i) (λ_ l=>l) (λ_ l=>l) (λ_ _ l=>l) (λ_ _ x=>x) (λ_=>0) 0 (λi=>aze 1 i) (λ_ _ _ l=>l) 0 (λ_ _ a b=>ayR a b) v
noncomputable def SV.Ch(l:List SV):Nat:=SV.rec_1 (motive_1:=λ_=>Nat) (motive_2:=λ_=>Nat) (λ_ _=>0) (λ_=>0) (λ_=>0) (λi _=>aze 1 i) (λ_ _ _ _=>0) (λi _ _ _=>aze 1 i) (λ_ l=>l) (λ_ l=>l) (λ_ _ l=>l) (λ_ _ x=>x) (λ_=>0) 0 (λi=>aze 1 i) (λ_ _ _ l=>l) 0 (λ_ _ a b=>ayR a b) l
noncomputable def SV.EJ(Z:Nat->Bool)(v:SV):Bool:=SV.rec (motive_1:=λ_=>Bool) (motive_2:=λ_=>Bool) (λ_ _=>true) (λ_=>true) (λ_=>true) (λi _=>Z i) (λ_ _ _ _=>true) (λi _ _ _=>Z i) (λ_ l=>l) (λ_ l=>l) (λ_ _ l=>l) (λ_ _ x=>x) (λ_=>true) true (λi=>Z i) (λ_ _ _ l=>l) true (λ_ _ a b=>a&&b) v
noncomputable def SV.EK(Z:Nat->Bool)(l:List SV):Bool:=SV.rec_1 (motive_1:=λ_=>Bool) (motive_2:=λ_=>Bool) (λ_ _=>true) (λ_=>true) (λ_=>true) (λi _=>Z i) (λ_ _ _ _=>true) (λi _ _ _=>Z i) (λ_ l=>l) (λ_ l=>l) (λ_ _ l=>l) (λ_ _ x=>x) (λ_=>true) true (λi=>Z i) (λ_ _ _ l=>l) true (λ_ _ a b=>a&&b) l
noncomputable def SV.bd(Z X W:Nat)(V:Nat->Bool)(v:SV):Bool:=aA2 (motive:=λ_=>Bool) false (aA2 (motive:=λ_=>Bool) (v.EJ V) true (azq v.vE 0)) (azq (ayR v.jf (jd Z X W)) (jd Z X W))
def SV.acr(Z X W:Nat)(V:Nat->Bool)(v:SV):SV.bd Z X W V v=(azq (ayR v.jf (jd Z X W)) (jd Z X W)&&(azq v.vE 0||v.EJ V)):=by
 unfold SV.bd;cases azq (ayR v.jf (jd Z X W)) (jd Z X W)<;>cases azq v.vE 0<;>rfl
noncomputable def SV.ck(Z X W:Nat)(V:Nat->Bool)(l:List SV):Bool:=aAl (motive:=λ_=>Bool) true (λx _ U=>aA2 (motive:=λ_=>Bool) false U (SV.bd Z X W V x)) l
def SV.eU:(SV.ck X I e r []=true)/\(∀x Z,SV.ck X I e r (x::Z)=(SV.bd X I e r x&&SV.ck X I e r Z)):=⟨rfl,λx Z=>by
 show aA2 (motive:=λ_=>Bool) false (SV.ck X I e r Z) (SV.bd X I e r x)=_;cases SV.bd X I e r x<;>rfl⟩
def acs:azq (ayR X I) 0=(azq X 0&&azq I 0):=by
 rw[azJ,ayz,aBZ,aBZ,aBZ];exact Nat.or_eq_zero_iff
def MA(i:Nat):azq (aze 1 i) 0=false:=by
 have:aze 1 i≠0:=by
  change 1<<<i≠0;rw[aBs];exact Nat.ne_of_gt (Nat.two_pow_pos i)
 cases h:azq (aze 1 i) 0 with
 |false=>rfl
 |true=>exact absurd (aBQ h) this
mutual
def TW(Z:Nat->Bool):∀v:SV,azq v.vE 0=true->v.EJ Z=true
 |.int _ _,_=>rfl
 |.bool _,_=>rfl
 |.ref _,_=>rfl
 |.loc i _,h=>by rw[show(SV.loc i _).vE=aze 1 i from rfl,MA] at h;cases h
 |.el _ _ _ _,_=>rfl
 |.fo i _ _ _,h=>by rw[show(SV.fo i _ _ _).vE=aze 1 i from rfl,MA] at h;cases h
 |.agg l,h=>EL Z l h
 |.bh l,h=>EL Z l h
 |.fn _ l,h=>EL Z l h
 |.dD _ x,h=>TW Z x h
 |.yl _,_=>rfl
 |.any,_=>rfl
 |.mp i,h=>by rw[show(SV.mp i).vE=aze 1 i from rfl,MA] at h;cases h
 |.dE _ _ l,h=>EL Z l h
def EL(Z:Nat->Bool):∀l:List SV,azq (SV.Ch l) 0=true->SV.EK Z l=true
 |[],_=>rfl
 |x::X,h=>by
  rw[show SV.Ch (x::X)=ayR x.vE (SV.Ch X) from rfl,acs,ayz] at h;show(x.EJ Z&&SV.EK Z X)=true;rw[TW Z x h.1,EL Z X h.2];rfl
end
def IG(W V U:Nat)(X:Nat->Bool):∀l:List SV,(azq (ayR (SV.EI l) (jd W V U)) (jd W V U)&&(azq (SV.Ch l) 0||SV.EK X l))=SV.ck W V U X l
 |[]=>by rw[show SV.EI []=0 from rfl,Cg];rfl
 |x::Z=>by
  rw[SV.eU.2,<-IG W V U X Z,SV.acr,show SV.EI (x::Z)=ayR x.jf (SV.EI Z) from rfl,show SV.Ch (x::Z)=ayR x.vE (SV.Ch Z) from rfl,iE,acs,show SV.EK X (x::Z)=(x.EJ X&&SV.EK X Z) from rfl];have R:=TW X x;have Q:=EL X Z;cases P:azq x.vE 0<;>cases O:azq (SV.Ch Z) 0<;>cases N:x.EJ X<;>cases M:SV.EK X Z<;>cases azq (ayR x.jf (jd W V U)) (jd W V U)<;>cases azq (ayR (SV.EI Z) (jd W V U)) (jd W V U)<;>simp_all
def SV.aL:(∀k Z,SV.bd X I e r (.int k Z)=Z.bd X I e)/\(∀b,SV.bd X I e r (.bool b)=b.bd X I e)/\(∀W,SV.bd X I e r (.ref W)=W.bd X I e)/\(∀i o,SV.bd X I e r (.loc i o)=r i)/\(∀i a b c,SV.bd X I e r (.fo i a b c)=r i)/\(∀W w i o,SV.bd X I e r (.el W w i o)=(W.bd X I e&&i.bd X I e))/\(∀l,SV.bd X I e r (.agg l)=SV.ck X I e r l)/\(∀l,SV.bd X I e r (.bh l)=SV.ck X I e r l)/\(∀f l,SV.bd X I e r (.fn f l)=SV.ck X I e r l)/\(∀t x,SV.bd X I e r (.dD t x)=SV.bd X I e r x)/\(∀n,SV.bd X I e r (.yl n)=true)/\(SV.bd X I e r .any=true)/\(∀i,SV.bd X I e r (.mp i)=r i)/\(∀Z Q R,SV.bd X I e r (.dE Z Q R)=(Z.bd X I e&&SV.ck X I e r R)):=by
 have V:∀b:Bool,(b&&(azq 0 0||true))=b:=λb=>by cases b<;>rfl
 have U:∀i,(azq (ayR 0 (jd X I e)) (jd X I e)&&(azq (aze 1 i) 0||r i))=r i:=λi=>by rw[Cg,MA];rfl
 simp only[SV.acr];refine⟨λ_ _=>V _,λ_=>V _,λ_=>V _,λ_ _=>U _,λ_ _ _ _=>U _,λW _ i _=> ?_,λl=>IG _ _ _ _ l,λl=>IG _ _ _ _ l,λ_ l=>IG _ _ _ _ l,λ_ _=>rfl,λ_=>(V _).trans (Cg _),(V _).trans (Cg _),λ_=>U _,λZ _ l=> ?_⟩;exact(V _).trans (iE _ _ _);rw[<-IG];show(azq (ayR (ayR Z.jf (SV.EI l)) _) _&&_)=_;rw[iE,aBR];rfl
def SV.mC(Z X W:Nat)(V:Nat->Bool):aX->Bool
 |[]=>true
 |some x::U=>SV.ck Z X W V x.2&&SV.mC Z X W V U
 |none::U=>SV.mC Z X W V U
def aE(l:aX)(i:Nat):Bool:=(bD l i).isSome
def S.bd(s:S):Bool:=SV.ck s.ni s.nb s.rs.length (aE s.boxes) s.tmps&&SV.mC s.ni s.nb s.rs.length (aE s.boxes) s.boxes
def S.cV(s:S)(l:List SV):Bool:=s.bd&&SV.ck s.ni s.nb s.rs.length (aE s.boxes) l
structure dq where
 tm:List (Nat×LK)
 cl:List (Nat×Nat×LK)
inductive am5 where
 |am6
 |inv (a:dq)
inductive FK where
 |box
 |slot (t:Nat) (vs:List Int)
structure aY where
 ty:Ty
 gl:List (Nat×Nat×Nat)
 inl:FuncId->Option (Code×Nat×List ResultVar)
 sig:FuncId->Option (List TypeId)
 loop:FuncId->Nat->am5
 acu:TypeId:=3
 vF:FuncId->FuncId->Option (TypeId×aU×Bool):=λ_ _=>none
 kX:Bool:=false
 II:FuncId->Nat->Bool:=λ_ _=>false
 frk:FuncId->Nat->Option FK:=λ_ _=>none
def S.fresh(s:S):LK->SV×S
 |.int k=>(.int k (.v s.ni),{s with ni:=s.ni+1})
 |.bool=>(.bool (.v s.nb),{s with nb:=s.nb+1})
 |.ref e=>(.ref (.v s.rs.length),{s with rs:=s.rs++[e]})
def pm:CT->LK
 |.int k=>.int k
 |.bool=>.bool
 |.ax _ k=>.ref k
def S.bB(s:S):List LK->List SV×S
 |[]=>([],s)
 |k::Z=>let r:=s.fresh k;let q:=r.2.bB Z;(r.1::q.1,q.2)
def vG(X:Ty):List TypeId->List SV->Option (List SV)
 |[],_=>some []
 |t::W,l=>match X t with
  |some Z=>match vG X W (l.drop Z.ae.length) with
   |some r=>some ((if Z.d.isAgg then .agg (l.take Z.ae.length) else l.getD 0 .any)::r)
   |none=>none
  |none=>none
def eV(Z:Ty):List TypeId->Option (List LK)
 |[]=>some []
 |t::X=>match Z t,eV Z X with
  |some W,some r=>some (W.ae.map pm++r)
  |_,_=>none
def one(l:List SV):SV:=match l with
 |[v]=>v
 |l=>.bh l
def Code.ky:Code->List Nat
 |.region _ Z _=>Z.toList.filterMap (·.dst)
 |.seq a b=>Code.ky a++Code.ky b
 |.cond _ a b=>Code.ky a++Code.ky b
 |.block _ c=>Code.ky c
 |.loop c=>Code.ky c
 |.scope c=>Code.ky c
 |.rangeFunc _ X a b=>X.toList++Code.ky a++Code.ky b
 |_=>[]
def Code.first:Code->Option Nat
 |.region id _ _=>some id
 |.seq a b=>match Code.first a with
  |some i=>some i
  |none=>Code.first b
 |.cond _ a b=>match Code.first a with
  |some i=>some i
  |none=>Code.first b
 |.block _ c=>Code.first c
 |.loop c=>Code.first c
 |.scope c=>Code.first c
 |_=>none
mutual
def SV.Ci:SV->List Nat
 |.loc i _=>[i]
 |.fo i _ _ _=>[i]
 |.agg l=>SV.kY l
 |.bh l=>SV.kY l
 |.fn _ l=>SV.kY l
 |.dD _ x=>SV.Ci x
 |.mp i=>[i]
 |.dE _ _ Z=>SV.kY Z
 |_=>[]
def SV.kY:List SV->List Nat
 |[]=>[]
 |x::Z=>SV.Ci x++SV.kY Z
end
def m9(Z:List Nat):Nat->aX->aX
 |_,[]=>[]
 |n,x::X=>(if Z.contains n then x else none)::m9 Z (n+1) X
def qz:aX->aX
 |[]=>[]
 |x::Z=>match x,qz Z with
  |none,[]=>[]
  |x,r=>x::r
def SV.cM:SV->Bool
 |.any=>true
 |_=>false
inductive Cj where
 |fn (g:FuncId)
 |yl (n:Nat)
abbrev lM:=Cj->List SV->S->(SV->S->T)->(SV->S->T)->T
abbrev YH:=Nat->List SV->S->(SV->S->T)->(SV->S->T)->T
def fD:YH:=λ_ _ _ _ _=>.stuck ""
structure OM where
 o:Oper
 ix:Nat
 aZ:Bool
 j:Nat
 dr:Bool
 so:Bool
inductive OR where
 |ok (s:S)
 |aF (b:BE) (s:S)
 |split(b:BE) (s1 s2:S)
 |no (why:String)
def RE.isNil:RE->Bool
 |.k (.slice none 0 0)=>true
 |_=>false
def RE.fits(Z:Ty)(s:S)(k:RK)(r:RE):Bool:=match k with
 |.sl e=>decide (r.kind Z s=.sl e)||r.isNil
 |.str=>decide (r.kind Z s=.str)
 |_=>false
def oc(Z:Ty)(s:S):CT->SV->Bool
 |.int k,.int X _=>decide (k=X)
 |.bool,.bool _=>true
 |.ax _ k,.ref r=>r.fits Z s k
 |_,_=>false
def jg(Z:Ty)(s:S):List CT->List SV->Bool
 |[],[]=>true
 |c::X,v::W=>oc Z s c v&&jg Z s X W
 |_,_=>false
def jI(Z:Ty)(s:S)(ae:List CT):List (List SV)->Bool
 |[]=>true
 |r::X=>jg Z s ae r&&jI Z s ae X
def fJ(w:Nat):Nat->List SV->List (List SV)
 |0,_=>[]
 |n+1,l=>l.take w::fJ w n (l.drop w)
def LE.bd(Z X W:Nat):LE->Bool
 |.ref r=>r.bd Z X W
 |.lit l=>l.all (SV.ck Z X W λ_=>false)
 |.jH a b=>LE.bd Z X W a&&LE.bd Z X W b
 |.pl n U=>n.bd Z X W&&SV.ck Z X W (λ_=>false) U
 |.set a i _ V=>LE.bd Z X W a&&i.bd Z X W&&SV.ck Z X W (λ_=>false) V
 |.sub a R Q=>LE.bd Z X W a&&R.bd Z X W&&Q.bd Z X W
 |.ins a _ V=>LE.bd Z X W a&&SV.ck Z X W (λ_=>false) V
def RE.root:RE->Option Nat
 |.v n=>some n
 |.cell r _ _ _=>r.root
 |.k _=>none
mutual
def SV.TX:SV->List Nat
 |.ref r=>r.root.toList
 |.el r _ _ _=>r.root.toList
 |.agg l=>SV.kZ l
 |.bh l=>SV.kZ l
 |.fn _ l=>SV.kZ l
 |.dD _ x=>SV.TX x
 |.dE _ _ Z=>SV.kZ Z
 |_=>[]
def SV.kZ:List SV->List Nat
 |[]=>[]
 |x::Z=>SV.TX x++SV.kZ Z
end
def tV(b:Bool):RK->RK
 |.own e=>if b then .sl e else .own e
 |x=>x
def IJ(b:Bool):RK->RK
 |.own e=>if b then .sl e else .dead
 |x=>x
def gJ(Z:List Nat):Nat->List RK->List RK
 |_,[]=>[]
 |n,x::X=>tV (Z.contains n) x::gJ Z (n+1) X
def fw(Z:List Nat):Nat->List RK->List RK
 |_,[]=>[]
 |n,x::X=>(if Z.contains n then .dead else x)::fw Z (n+1) X
def xK(Z:List Nat):Nat->List RK->List RK
 |_,[]=>[]
 |n,x::X=>IJ (Z.contains n) x::xK Z (n+1) X
mutual
def SV.eC(k n:Nat):SV->SV
 |.ref (.v j)=>if j==k then .ref (.v n) else .ref (.v j)
 |.el (.v j) w i o=>if j==k then .el (.v n) w i o else .el (.v j) w i o
 |.agg l=>.agg (SV.lc k n l)
 |.bh l=>.bh (SV.lc k n l)
 |.fn f l=>.fn f (SV.lc k n l)
 |.dD t x=>.dD t (SV.eC k n x)
 |.dE e Z X=>.dE e Z (SV.lc k n X)
 |v=>v
def SV.lc(k n:Nat):List SV->List SV
 |[]=>[]
 |x::Z=>SV.eC k n x::SV.lc k n Z
end
def pn(k n:Nat):aX->aX
 |[]=>[]
 |none::Z=>none::pn k n Z
 |some (t,X)::Z=>some (t,if mw t then X else SV.lc k n X)::pn k n Z
def S.eC(s:S)(k n:Nat):S:={s with tmps:=SV.lc k n s.tmps,boxes:=pn k n s.boxes}
structure BI where
 aF:BE
 e:TypeId
 x:LE
 s:S
def EM:Int:=536870912
def EN(n:IE):BE:=lL .leq n (.c EM)
def nc(U:Ty)(s:S)(e:TypeId)(Z:TI):SV->Option (LE×BE×List Nat)
 |.ref r=>if r.isNil then some (.lit [],.c true,[]) else if r.kind U s=.sl e then some (.ref r,EN (.len r),[]) else none
 |.fo i W X _=>match iQ s.boxes i with
  |some (_,V)=>if jI U s Z.ae (fJ Z.ae.length X (rW V W (X*Z.ae.length)))&&decide (W+X*Z.ae.length<=V.length)&&decide ((X:Int)<=EM) then some (.lit (fJ Z.ae.length X (rW V W (X*Z.ae.length))),.c true,SV.kZ (rW V W (X*Z.ae.length))) else none
  |none=>none
 |_=>none
def rZ(s:S)(e:TypeId)(aZ:Bool):SV->Option (LE×BE×List Nat)
 |.ref (.v k)=>if s.rs[k]?=some (.own e)/\ !(aZ&&s.lk.testBit (2*k+1)) then some (.ref (.v k),EN (.len (.v k)),[k]) else none
 |.ref r=>if r.isNil then some (.lit [],.c true,[]) else none
 |.fo _ _ 0 0=>some (.lit [],.c true,[])
 |_=>none
def gu(s:S)(d:Option Nat)(aF:BE)(e:TypeId)(k:RK)(x:LE)(Z X:List Nat):Option BI:=
 if s.bd&&Z.all (λk=> !X.contains k)&&LE.bd s.ni s.nb s.rs.length x&&aF.bd s.ni s.nb s.rs.length then some ⟨aF,e,x,{s with rs:=gJ X 0 (fw Z 0 s.rs)++[k]}.put d (.ref (.v s.rs.length))⟩ else none
def cK(Z:aY)(o:Oper)(aZ V:Bool)(s:S):Option BI:=match o.op with
 |.call c=>match c.callee with
  |.builtin .append=>match c.argTypes.toList,c.args.toList.map (s.ev Z.gl) with
   |[t,Q],[x,y]=>match Z.ty t,Z.ty Q with
    |some ⟨.slice e,_,_⟩,some ⟨.slice P,_,_⟩=>match Z.ty e with
     |some X=>if e≠P\/X.ae.length=0 then none else match rZ s e aZ x,nc Z.ty s e X y with
      |some (a,O,N),some (b,M,L)=>gu s o.dst (qw O M) e (.own e) (.jH a b) N L
      |_,_=>none
     |none=>none
    |_,_=>none
   |_,_=>none
  |_=>none
 |.makeSlice t n m=>match Z.ty t,s.ev Z.gl n,s.ev Z.gl m with
  |some ⟨.slice e,_,_⟩,.int .i64 n,.int .i64 m=>match Z.ty e with
   |some X=>if n.same m&&jI Z.ty s X.ae [co X]&&X.ae.length !=0 then gu s o.dst (qw (lL .leq (.c 0) n) (EN n)) e (.own e) (.pl n (co X)) [] [] else none
   |none=>none
  |_,_,_=>none
 |.buildSlice t W parts=>if V|| !Z.kX then none else match Z.ty t with
  |some ⟨.slice e,_,_⟩=>match Z.ty e with
   |some X=>match tT (λi=>some (i*X.ae.length,X.ae.length)) (rY W (co X)) (parts.toList.map λp=>(p.1,s.ev Z.gl p.2)) with
    |some l=>if(l.length==W*X.ae.length&&jI Z.ty s X.ae (fJ X.ae.length W l)&&X.ae.length !=0&&decide ((W:Int)<=EM)&&decide (W*X.ae.length<=16777216)&& !(parts.toList.any λp=>(s.ev Z.gl p.2).cM)) then gu s o.dst (.c true) e (.own e) (.lit (fJ X.ae.length W l)) [] (SV.kZ l) else none
    |none=>none
   |none=>none
  |_=>none
 |.slice t x J I H=>if V then none else match Z.ty t,s.ev Z.gl x,H.map (s.ev Z.gl),I.map (s.ev Z.gl),J.map (s.ev Z.gl) with
  |some ⟨.slice e,_,_⟩,.ref r,some (.int _ (.c 0)),some (.int _ (.c 0)),none=>match Z.ty e with
   |some _=>if r.kind Z.ty s=.sl e\/r.isNil then gu s o.dst (.c true) e (.own e) (.lit []) [] [] else none
   |none=>none
  |some ⟨.slice e,_,_⟩,.ref r,none,some (.int .i64 h),some (.int .i64 l)=>match Z.ty e with
   |some _=>if r.kind Z.ty s=.sl e then gu s o.dst (qw (lL .leq (.c 0) l) (qw (lL .leq l h) (lL .leq h (.len r)))) e (.sl e) (.sub (.ref r) l h) [] r.root.toList else none
   |none=>none
  |some ⟨.slice e,_,_⟩,.ref r,none,some (.int .i64 h),none=>match Z.ty e with
   |some _=>if r.kind Z.ty s=.sl e then gu s o.dst (qw (lL .leq (.c 0) h) (lL .leq h (.len r))) e (.sl e) (.sub (.ref r) (.c 0) h) [] r.root.toList else none
   |none=>none
  |some ⟨.slice e,_,_⟩,.ref r,none,none,some (.int .i64 l)=>match Z.ty e with
   |some _=>if r.kind Z.ty s=.sl e then gu s o.dst (qw (lL .leq (.c 0) l) (lL .leq l (.len r))) e (.sl e) (.sub (.ref r) l (.len r)) [] r.root.toList else none
   |none=>none
  |_,_,_,_,_=>none
 |.store t a x=>if V then none else match Z.ty t,s.ev Z.gl a with
  |some U,.el (.v k) w i R=>match s.rs[k]? with
   |some (.own e)=>match Z.ty e with
    |some X=>if(X.ae.length==w&&(s.ev Z.gl x).cells.length==U.ae.length&&decide (R+U.ae.length<=w)&&jg Z.ty s ((X.ae.drop R).take U.ae.length) (s.ev Z.gl x).cells&&(s.ev Z.gl x).B9) then
      (gu s none (qy i (.len (.v k))) e (.own e) (.set (.ref (.v k)) i R (s.ev Z.gl x).cells) [k] (SV.kZ (s.ev Z.gl x).cells)).map λb=>{b with s:=(b.s.eC k s.rs.length).put o.dst (.bh [])} else none
    |none=>none
   |_=>none
  |_,_=>none
 |_=>none
def S.bM(s:S)(n:Nat)(t:TypeId)(Z:List SV):S:={s with boxes:=s.boxes.set n (some (t,Z))}
def IK(aZ:Bool):SV->Nat
 |.loc i _=>if aZ then 1<<<(2*i) else 0
 |.el r _ _ _=>if aZ then(match r.root with
  |some k=>1<<<(2*k+1)
  |none=>0) else 0
 |.dE _ _ Z=>if aZ then(match tU Z with
  |some i=>1<<<(2*i)
  |none=>0) else 0
 |_=>0
def S.bP(s:S)(d:Option Nat)(v:SV)(l:Nat):S:={s with lk:=s.lk|||l}.put d v
def od(s:S)(d:Option Nat)(l:Nat):PR->OR
 |.ok v=>.ok (s.bP d v l)
 |.aF b v=>if b.bd s.ni s.nb s.rs.length then .aF b (s.bP d v l) else .no ""
 |.no w=>.no w
def dH(l:aX)(n:Nat):Bool:=match l[n]? with
 |some none=>true
 |_=>false
def lN(l:aX)(n:Nat)(t:TypeId):Bool:=dH l n&& !mw t
def dN(Z:aY)(m:OM)(s:S):OR:=
 if m.o.op.operands.toList.any λx=>(s.ev Z.gl x).cM then .no (""++toString m.j++ ""++toString m.o.dst) else
 match m.o.op with
 |.alloc t=>match Z.ty t with
  |some X=>if s.cV (co X)&&lN s.boxes m.ix t then .ok ((s.bM m.ix t (co X)).put m.o.dst (.loc m.ix 0)) else .no ""
  |none=>.no ""
 |.box t x=>match Z.ty t with
  |some X=>if(s.ev Z.gl x).cells.length==X.ae.length&&s.cV (s.ev Z.gl x).cells&&(s.ev Z.gl x).B9&&lN s.boxes m.ix t then .ok ((s.bM m.ix t (s.ev Z.gl x).cells).put m.o.dst (.loc m.ix 0)) else .no ""
  |none=>.no ""
 |.buildSlice t W parts=>match Z.ty t with
  |some ⟨.slice e,_,_⟩=>match Z.ty e with
   |some V=>match tT (λi=>some (i*V.ae.length,V.ae.length)) (rY W (co V)) (parts.toList.map λp=>(p.1,s.ev Z.gl p.2)) with
    |some l=>if s.cV l&&decide (W*V.ae.length<=16777216)&&lN s.boxes m.ix e then .ok ((s.bM m.ix e l).put m.o.dst (.fo m.ix 0 W W)) else .no ""
    |none=>.no ""
   |none=>.no ""
  |_=>.no ""
 |.store t a x=>match Z.ty t,s.ev Z.gl a with
  |some X,.loc i U=>match iQ s.boxes i with
   |some (Q,R)=>if(s.ev Z.gl x).cells.length==X.ae.length&&decide (U+(s.ev Z.gl x).cells.length<=R.length)&&zM (s.ev Z.gl x).cells&&(s.ev Z.gl x).B9&& !(m.aZ&&s.lk.testBit (2*i)) then .ok ((s.bM i Q (iD R U (s.ev Z.gl x).cells)).put m.o.dst (.bh [])) else .no ""
   |none=>.no ""
  |_,_=>.no ""
 |.pick c x y=>match s.ev Z.gl c with
  |.bool b=>.split b (s.put m.o.dst (s.ev Z.gl x)) (s.put m.o.dst (s.ev Z.gl y))
  |_=>.no ""
 |.load t a=>od s m.o.dst (IK m.aZ (s.ev Z.gl a)) (bv Z.ty Z.gl s (.load t a))
 |op=>od s m.o.dst 0 (bv Z.ty Z.gl s op)
inductive MR where
 |ok (s:S)
 |rows (k:RK) (x:LE) (s:S)
def Ck(Z:TI)(n:Nat)(X:Bool):TypeId×List SV:=if Z.ae.all jx&&Z.ae.length !=0 then(qr,[.ref (.k (.slice none 0 0)),.int .i64 (.c n),.bool (.c X),.bool (.c Z.d.isAgg)]) else(pj,[])
def S.tW(s:S)(b:TypeId×List SV):S:={s with boxes:=s.boxes++[some b]}
def Cl(W:aY)(s:S)(k e:TypeId)(n:Nat)(X:Bool)(Z:TI):List SV->Option RE
 |[.ref r,.int .i64 (.c V),.bool (.c U),.bool (.c R)]=>if r.my W.ty s ⟨k,e,n,X,Z.d.isAgg⟩&&V==(n:Int)&&U==X&&R==Z.d.isAgg&&Z.ae.all jx then some r else none
 |_=>none
def MB(W:aY)(d:Option Nat)(s:S)(t:TypeId)(Q V v:SV):Option MR:=match W.ty t,Q with
 |some ⟨.map k e n Z,_,_⟩,.mp i=>match W.ty e,Cd n Z V,bD s.boxes i with
  |some X,some (P,_,_),some (R,U)=>if !oa W.ty k n Z|| !s.cV [V,v]|| !vA X v then none else
   if R==qr then(match Cl W s k e n Z X U with
    |some r=>if jg W.ty s X.ae v.cells then
      some (.rows (RK.mr ⟨k,e,n,Z,X.d.isAgg⟩) (.ins (.ref r) n (V.cells++v.cells)) (S.put {s with rs:=s.rs++[RK.mr ⟨k,e,n,Z,X.d.isAgg⟩],boxes:=s.boxes.set i (some (qr,[.ref (.v s.rs.length),.int .i64 (.c n),.bool (.c Z),.bool (.c X.d.isAgg)]))} d (.bh []))) else none
    |none=>none)
   else if R==pj&&n==1&& !Z then(match P,mA U with
    |.c x,some O=>if O.contains x then none else some (.ok ((s.bM i pj (U++[.int .i64 (.c x),v])).put d (.bh [])))
    |_,_=>none)
   else none
  |_,_,_=>none
 |_,_=>none
def MC(Z:aY)(d:Option Nat)(s:S)(t:TypeId):Option S:=match Z.ty t with
 |some ⟨.map k e n X,_,_⟩=>match Z.ty e with
  |some W=>if s.bd&&oa Z.ty k n X then some ((s.tW (Ck W n X)).put d (.mp s.boxes.length)) else none
  |none=>none
 |_=>none
def sa(Z:aY):Sh:=⟨Z.acu,rU,1,false,false⟩
def Cm(Z:aY):Bool:=oa Z.ty Z.acu 1 false&&(Z.ty rU).isNone
def TY(V:aY)(s:S)(k e:TypeId)(n:Nat)(Z:Bool)(U:TI)(i:Nat):Option IE:=match bD s.boxes i with
 |some (X,W)=>if X==qr then(Cl V s k e n Z U W).map .len
  else if X==pj&&n==1&& !Z then(mA W).map λR=>.c R.length else none
 |none=>none
def MD(Z:aY)(d:Option Nat)(s:S)(t:TypeId)(X:SV):Option S:=match Z.ty t,X with
 |some ⟨.map k e n W,_,_⟩,.mp i=>match Z.ty e with
  |some V=>match TY Z s k e n W V i with
   |some c=>if s.bd&&c.bd s.ni s.nb s.rs.length&&aE s.boxes i then some ((s.tW (rU,[.mp i,.int .i64 (.c t),.int .i64 c,.ref (.k (.slice none 0 0))])).put d (.loc s.boxes.length 0)) else none
   |none=>none
  |none=>none
 |_,_=>none
def po(r:RE)(i:IE):Nat->List CT->List SV
 |_,[]=>[]
 |j,c::Z=>zL r i j c::po r i (j+1) Z
def EO(r:RE)(i:IE)(n:Nat)(Z:Bool):SV:=n9 Z ((ayQ n).map λj=>.int .i64 (.cell r i j))
def TZ(Z:aY)(d:Option Nat)(s:S)(q X:Nat)(i t:Nat)(c:IE)(W v:SV):S:=
 S.put {s with ni:=X,rs:=s.rs++[RK.mr (sa Z)],boxes:=s.boxes.set q (some (rU,[.mp i,.int .i64 (.c t),.int .i64 c,.ref (.v s.rs.length)]))} d (.bh [.bool (.c true),W,v])
def ME(Z:RE)(j:IE):BE:=.not (.has Z 1 j (.c 0) (.c 0))
def MF(Z:TI)(e:IE)(X:List Int)(W:List SV):Option (SV×SV):=if W.all (vA Z) then(match vz e (xJ X.length) (X.map λk=>.int .i64 (.c k)),xI e (xJ X.length) (W.map SV.cells) 0 Z.ae with
 |some a,some l=>some (.int .i64 a,n9 Z.d.isAgg l)
 |_,_=>none) else none
def MG(X:aY)(s:S)(c:IE)(Z:RE)(t W:T):T:=
 .pick c (ME Z (.v s.ni)) (.cmp .leq c (.len Z)) (.rows (.mr (sa X)) (.ins (.ref Z) 1 [.int .i64 (.v s.ni)]) s.rs t) W
def T1(Z:aY)(d:Option Nat)(s:S)(N:SV)(R Q:S->T):Option T:=match N with
 |.loc q 0=>match bD s.boxes q with
  |some (M,[.mp i,.int .i64 (.c t),.int .i64 c,.ref V])=>if !(M==rU&&Cm Z&&V.my Z.ty s (sa Z)&&s.bd&&({s with ni:=s.ni+1}:S).bd&&decide (0<=t)) then none else match Z.ty t.toNat,bD s.boxes i with
   |some ⟨.map k e n W,_,_⟩,some (P,U)=>match Z.ty e with
    |some X=>if !oa Z.ty k n W then none else
     if P==qr then(match Cl Z s k e n W X U with
      |some r=>if c.same (.len r)&&X.ae.length !=0 then some (MG Z s c V (R (TZ Z d s q (s.ni+1) i t.toNat c (EO r (.v s.ni) n W) (n9 X.d.isAgg (po r (.v s.ni) n X.ae)))) (Q (s.put d (.bh [.bool (.c false)])))) else none
      |none=>none)
     else if P==pj&&n==1&& !W then(match mA U with
      |some O=>if c.same (.c O.length) then(match MF X (.v s.ni) O (jc U) with
       |some (L,v)=>some (MG Z s c V (R (TZ Z d s q (s.ni+1) i t.toNat c L v)) (Q (s.put d (.bh [.bool (.c false)]))))
       |none=>none) else none
      |none=>none)
     else none
    |none=>none
   |_,_=>none
  |_=>none
 |_=>none
def qA(Z:RE):IE:=.cell Z (.bin .sub .i64 (.len Z) (.c 1)) 0
def T2(c:IE)(Z:RE):BE:=qw (qw (lL .leq (.c 1) (.len Z)) (EN (.len Z))) (qy (qA Z) c)
def T3(Z:aY)(d:Option Nat)(s:S)(O:SV)(R:S->T):Option T:=match O with
 |.loc q 0=>match bD s.boxes q with
  |some (N,[.mp i,.int .i64 (.c t),.int .i64 c,.ref X])=>if !(N==rU&&Cm Z&&X.my Z.ty s (sa Z)&&s.bd&&decide (0<=t)) then none else match Z.ty t.toNat,bD s.boxes i with
   |some ⟨.map k e n W,_,_⟩,some (Q,U)=>match Z.ty e with
    |some V=>if !oa Z.ty k n W then none else
     if Q==qr then(match Cl Z s k e n W V U with
      |some r=>if c.same (.len r) then some (.aF (T2 c X) (R (s.put d (.bh [EO r (qA X) n W,n9 V.d.isAgg (po r (qA X) n V.ae)])))) else none
      |none=>none)
     else if Q==pj&&n==1&& !W then(match mA U with
      |some P=>if c.same (.c P.length) then(match MF V (qA X) P (jc U) with
       |some (M,v)=>some (.aF (T2 c X) (R (s.put d (.bh [M,v]))))
       |none=>none) else none
      |none=>none)
     else none
    |none=>none
   |_,_=>none
  |_=>none
 |_=>none
def MH(Z:aY)(d:Option Nat)(s:S)(t:TypeId)(X:Bool)(x y:SV)(W:S->T):Option T:=match Z.ty t,x,y with
 |some ⟨.slice e,_,_⟩,.ref r,.ref (.k (.slice none 0 0))=>if r.kind Z.ty s=.sl e then some (.dW (.c true) (.cmp .leq (.len r) (.c 0)) (W (s.put d (.bool (.c X)))) (W (s.put d (.bool (.c (!X)))))) else none
 |_,_,_=>none
abbrev Fx:=List (BE×Bool)
def IL(Z:Fx):BE->Option Bool
 |.c v=>some v
 |b=>(Z.find? λx=>x.1.same b).map (·.2)
def xL(s:S)(Z:Fx)(b:BE)(t f:Fx->T):T:=match IL Z b with
 |some true=>t Z
 |some false=>f Z
 |none=>if b.bd s.ni s.nb s.rs.length then .node b (t ((b,true)::Z)) (f ((b,false)::Z)) else .stuck ""
inductive CK where
 |call (g:Cj) (args:List SV)
 |aR (v:SV)
 |op
 |no
def cB(Z:aY)(s:S)(o:Oper):CK:=
 match o.op with
 |.panic x=>match s.ev Z.gl x with
  |.dD t y=>.aR (.dD t y)
  |_=>.no
 |.call c=>match c.callee with
  |.value f=>match s.ev Z.gl f with
   |.fn g X=>if c.args.toList.any λx=>(s.ev Z.gl x).cM then .no else .call (.fn g) (c.args.toList.map (s.ev Z.gl)++X)
   |.yl n=>if c.args.toList.any λx=>(s.ev Z.gl x).cM then .no else .call (.yl n) (c.args.toList.map (s.ev Z.gl))
   |_=>.no
  |.invoke _ _=>.no
  |.builtin .panic=>match c.args.toList with
   |[x]=>match s.ev Z.gl x with
    |.dD t y=>.aR (.dD t y)
    |_=>.no
   |_=>.no
  |.builtin _=>.op
 |_=>.op
def ld(s:S)(Z:Fx):Fx:=Z.filter λx=>x.1.bd s.ni s.nb s.rs.length
def T4(b:BE):SV->SV->Option SV
 |.int k x,.int Z y=>if k=Z then some (.int k (.b9 b x y)) else none
 |.bool x,.bool y=>some (.bool (.b9 b x y))
 |_,_=>none
def IM(b:BE):List SV->Nat->List SV->Option (List SV)
 |[],_,Z=>some Z
 |x::W,X,Z=>match Z[X]? with
  |some V=>match T4 b x V with
   |some c=>IM b W (X+1) (Z.set X c)
   |none=>none
  |none=>none
def Cn(e:IE)(X:List SV):List Int->List SV->List SV->Option (List SV)
 |[],[],Z=>some Z
 |k::W,.loc _ V::U,Z=>match IM (.cmp .eql e (.c k)) X V Z with
  |some R=>Cn e X W U R
  |none=>none
 |_,_,_=>none
def MI:List Int->Bool
 |[]=>true
 |x::Z=> !Z.contains x&&MI Z
def IN:SV->Bool
 |.int _ _|.bool _=>true
 |_=>false
def EP:List SV->Bool
 |[]=>false
 |[x]=>IN x
 |x::Z=>IN x&&EP Z
def T5(d:Option Nat)(s:S)(V:TI)(e:IE)(Z:List Int)(X:List SV)(W:SV)(k:S->T):Option T:=match tU X with
 |some i=>match iQ s.boxes i with
  |some (U,R)=>match Cn e W.cells Z X R with
   |some Q=>if V.ae.length==W.cells.length&&Z.length==X.length&&MI Z&&EP W.cells then some (.aF (Ce e Z) (k ((s.bM i U Q).put d (.bh [])))) else none
   |none=>none
  |none=>none
 |none=>none
def vH(Z:aY)(m:OM)(s:S)(W:S->Fx->T)(V:Fx):Option T:=if m.dr||m.o.op.operands.toList.any λx=>(s.ev Z.gl x).cM then none else match m.o.op with
 |.makeMap t none=>(MC Z m.o.dst s t).map λX=>W X V
 |.mapUpdate t x y z=>match MB Z m.o.dst s t (s.ev Z.gl x) (s.ev Z.gl y) (s.ev Z.gl z) with
  |some (.ok X)=>some (W X V)
  |some (.rows k x X)=>some (.rows k x s.rs (W X (ld s V)))
  |none=>none
 |.insert t x y z=>match MB Z m.o.dst s t (s.ev Z.gl x) (s.ev Z.gl y) (s.ev Z.gl z) with
  |some (.ok X)=>some (W X V)
  |some (.rows k x X)=>some (.rows k x s.rs (W X (ld s V)))
  |none=>none
 |.range t x=>(MD Z m.o.dst s t (s.ev Z.gl x)).map λX=>W X V
 |.next U false=>T1 Z m.o.dst s (s.ev Z.gl U) (λX=>W X (ld s V)) (λX=>W X V)
 |.entry U=>T3 Z m.o.dst s (s.ev Z.gl U) λX=>W X V
 |.store t a x=>match Z.ty t,s.ev Z.gl a with
  |some R,.dE e Q P=>T5 m.o.dst s R e Q P (s.ev Z.gl x) λX=>W X V
  |_,_=>none
 |.binOp O t x y _=>match O with
  |.eql=>MH Z m.o.dst s t false (s.ev Z.gl x) (s.ev Z.gl y) λX=>W X V
  |.neq=>MH Z m.o.dst s t true (s.ev Z.gl x) (s.ev Z.gl y) λX=>W X V
  |_=>none
 |_=>none
def vI(Z:aY)(m:OM)(s:S):Option (IE×List Int×List SV×List SV):=if m.dr then none else match m.o.op with
 |.call c=>match c.callee with
  |.value f=>match s.ev Z.gl f with
   |.dE e X W=>if(c.args.toList.any λx=>(s.ev Z.gl x).cM)|| !e.bd s.ni s.nb s.rs.length then none else some (e,X,W,c.args.toList.map (s.ev Z.gl))
   |_=>none
  |_=>none
 |_=>none
def zP(e:IE)(Z:FuncId->List SV->T):List Int->List SV->T
 |k::X,.fn g V::W=>.node (.cmp .eql e (.c k)) (Z g V) (zP e Z X W)
 |k::X,.ref (.k .nilFunc)::W=>.node (.cmp .eql e (.c k)) (.stuck "") (zP e Z X W)
 |_,_=>.stuck ""
structure vJ where
 f:FuncId
 g:FuncId
 e:TypeId
 sp:aU
 st:Bool
 r:RE
 s:S
def IP:List SV->Option (List IE×FuncId)
 |[.fn g []]=>some ([],g)
 |.int .i64 e::r=>match IP r with
  |some x=>some (e::x.1,x.2)
  |none=>none
 |_=>none
def aU.fill:aU->List IE->Option aU
 |.bN k o _,Z=>some (.bN k o Z)
 |X,[]=>some X
 |_,_::_=>none
def Ua(W:aY)(f:FuncId)(V:List SV)(s:S)(d:Option Nat):Option vJ:=match V with
 |.ref r::U=>match IP U with
  |some (R,g)=>match(if f==g then none else W.vF f g) with
   |some (e,Q,Z)=>match Q.fill R with
    |some X=>match r with
     |.v k=>if s.rs[k]?=some (.own e) then some ⟨f,g,e,X,Z,.v k,(({s with rs:=gJ [] 0 (fw [k] 0 s.rs)++[.own e]}:S).eC k s.rs.length).put d (.bh [])⟩ else none
     |.k (.slice none 0 0)=>some ⟨f,g,e,X,Z,.k (.slice none 0 0),({s with rs:=gJ [] 0 (fw [] 0 s.rs)++[.own e]}:S).put d (.bh [])⟩
     |_=>none
    |none=>none
   |none=>none
  |none=>none
 |_=>none
def Co(W:aY)(f:FuncId)(V:List SV)(s:S)(d:Option Nat):Option vJ:=match V with
 |[.int .i64 i,.loc Z 0,.loc X 0]=>match W.vF f f with
  |some (e,.bN 0 o _,true)=>match bD s.boxes Z,bD s.boxes X with
   |some (U,[.ref (.v k)]),some (R,[.fn Q [.loc P 0,.loc O 0]])=>if i.bd s.ni s.nb s.rs.length&&Q==f&&P==Z&&O==X&& !mw U&& !mw R&&decide (s.rs[k]?=some (.own e)) then some ⟨f,f,e,.bN 0 o [i],true,.v k,(({s with rs:=gJ [] 0 (fw [k] 0 s.rs)++[.own e]}:S).eC k s.rs.length).put d (.int .i64 (.cell (.v s.rs.length) i 0))⟩ else none
   |_,_=>none
  |_=>none
 |_=>none
def xM(Z:aY)(m:OM)(s:S):Option vJ:=if m.dr|| !s.bd then none else match cB Z s m.o with
 |.call (.fn f) X=>match Ua Z f X s m.o.dst with
  |some u=>some u
  |none=>Co Z f X s m.o.dst
 |_=>none
def Cp(Z:aY)(o:Oper)(s:S):Option vJ:=if !s.bd then none else match cB Z s o with
 |.call (.fn f) X=>Co Z f X s o.dst
 |_=>none
def vK(V:aY)(Q:lM)(m:OM)(s:S)(Z:S->Fx->T)(R:SV->S->T)(X:Fx):T:=
 match vI V m s with
 |some (e,P,O,U)=>zP e (λg N=>Q (.fn g) (U++N) s (λv W=>Z (W.put m.o.dst v) (ld s X)) R) P O
 |none=>
 match xM V m s with
 |some u=>.cA u.f u.g u.e u.sp u.st u.r s.rs (Z u.s (ld s X))
 |none=>
 match cB V s m.o with
 |.call (.fn g) U=>Q (.fn g) U s (λv W=>Z (W.put m.o.dst v) (ld s X)) R
 |.call (.yl n) U=>if m.so then Q (.yl n) U s (λv W=>Z (W.put m.o.dst v) (ld s X)) R else .stuck ""
 |.aR v=>R v s
 |.no=>.stuck ""
 |.op=>match vH V m s Z X with
  |some t=>t
  |none=>match cK V m.o m.aZ m.dr s with
  |some b=>.aF b.aF (.new b.e b.x s.rs b.s.rs (Z b.s (ld s X)))
  |none=>match dN V m s with
  |.ok W=>Z W X
  |.aF b W=>.aF b (Z W X)
  |.split b M L=>xL s X b (Z M) (Z L)
  |.no J=>.stuck J
def MJ(V:Array Oper)(m:OM)(s:S)(Z:Fx)(X W:Fx->T):T:=
 match m.o.guard with
 |none=>X Z
 |some (j,U)=>match(V[j]?).bind (·.dst) with
  |some d=>match s.tmps[d]? with
   |some (.bool b)=>if U then xL s Z b X W else xL s Z b W X
   |some (.bh [])=>W Z
   |_=>.stuck ""
  |none=>.stuck ""
def j7(Z:aY)(X:lM)(W:Array Oper)(k:S->T)(V:SV->S->T):List OM->S->Fx->T
 |[],s,_=>k s
 |m::U,s,R=>MJ W m s R (vK Z X m s (j7 Z X W k V U) V) (j7 Z X W k V U (s.put m.o.dst (.bh [])))
def dR:Op->Bool
 |.alloc _|.box _ _|.buildSlice _ _ _=>true
 |_=>false
def jy(l:List Oper):Nat:=(l.filter λo=>dR o.op).length
def eo(aZ:Nat->Bool)(Z X:Bool):Nat->Nat->List Oper->List OM
 |_,_,[]=>[]
 |j,n,o::r=>⟨o,n,aZ j,j,X,Z⟩::eo aZ Z X (j+1) (if dR o.op then n+1 else n) r
def S.room(s:S)(n:Nat):S:={s with boxes:=s.boxes++ayJ n none,lk:=0}
def pu(Z:aY)(s:S):List ResultVar->Option (List SV)
 |[]=>some []
 |.tmp t::X=>match pu Z s X with
  |some l=>if(s.tmps.getD t .any).cM then none else some (s.tmps.getD t .any::l)
  |none=>none
 |.cell a t::X=>match pu Z s X,s.tmps.getD a .any,Z.ty t with
  |some l,.loc i W,some V=>match iQ s.boxes i with
   |some (_,U)=>match rX V U W with
    |some v=>some (v::l)
    |none=>none
   |none=>none
  |_,_,_=>none
def qB(n:Nat):List (Nat×LK)->List SV->Option SV
 |(t,_)::r,v::Z=>if t==n then some v else qB n r Z
 |_,_=>none
def vL(b n:Nat):List (Nat×Nat×LK)->List SV->Option SV
 |(Z,X,_)::r,v::W=>if Z==b&&X==n then some v else vL b n r W
 |_,_=>none
def acw(l:aX)(x:Nat×Nat×LK):SV:=match bD l x.1 with
 |some (_,Z)=>Z.getD x.2.1 .any
 |none=>.any
def dq.ks(a:dq):List LK:=a.tm.map (·.2)++a.cl.map (·.2.2)
def gK(a:dq)(s:S):List SV:=a.tm.map (λx=>s.tmps.getD x.1 .any)++a.cl.map (acw s.boxes)
def MK:LK->SV->List Nat
 |.ref (.own _),.ref (.v k)=>[k]
 |_,_=>[]
def xN:List LK->List SV->List Nat
 |k::Z,v::X=>MK k v++xN Z X
 |_,_=>[]
def Cq(a:dq)(s:S):List Nat:=xN a.ks (gK a s)
def fy(a:dq)(s:S):List RK:=fw (Cq a s) 0 s.rs
def tX:List RK->List RK->Bool
 |[],_=>true
 |x::Z,y::X=>(decide (x=.dead)||decide (x=y))&&tX Z X
 |_::_,[]=>false
def jz:List Nat->Bool
 |[]=>true
 |x::Z=> !Z.contains x&&jz Z
def Cr(Z:List RK)(l:List Nat):Bool:=jz l&&l.all λk=>decide (Z.length<=k)||decide (Z[k]?=some .dead)
def vM(a:dq)(Z:List Nat)(X:List SV):Nat->List SV->List SV
 |_,[]=>[]
 |n,x::W=>(qB n a.tm X).getD (if Z.contains n then .any else x)::vM a Z X (n+1) W
def Cs(a:dq)(Z:List SV)(b:Nat):Nat->List SV->List SV
 |_,[]=>[]
 |n,x::X=>(vL b n a.cl Z).getD x::Cs a Z b (n+1) X
def pw(a:dq)(Z:List SV):Nat->aX->aX
 |_,[]=>[]
 |n,none::X=>none::pw a Z (n+1) X
 |n,some (t,W)::X=>some (t,Cs a Z n 0 W)::pw a Z (n+1) X
def mD(a:dq)(Z:List Nat)(s:S):S:=
 let r:List SV×S:=S.bB {s with ao:=s.ao+1,rs:=fy a s} a.ks
 {r.2 with tmps:=vM a Z r.1 0 s.tmps,boxes:=pw a (r.1.drop a.tm.length) 0 s.boxes}
def tY(a:dq)(Z:List Nat):Nat->List SV->List SV->Bool
 |_,[],[]=>true
 |n,x::X,y::W=>(a.tm.any (·.1==n)||Z.contains n||SV.same x y)&&tY a Z (n+1) X W
 |_,_,_=>false
def Ct(a:dq)(b:Nat):Nat->List SV->List SV->Bool
 |_,[],[]=>true
 |n,x::Z,y::X=>(a.cl.any (λc=>c.1==b&&c.2.1==n)||SV.same x y)&&Ct a b (n+1) Z X
 |_,_,_=>false
def oe(a:dq):Nat->aX->aX->Bool
 |_,[],_=>true
 |n,none::Z,_::X=>oe a (n+1) Z X
 |n,some x::Z,some y::X=>x.1==y.1&&Ct a n 0 x.2 y.2&&oe a (n+1) Z X
 |_,_,_=>false
def xO(s:S):LK->SV->Bool
 |.int k,.int Z _=>decide (k=Z)
 |.bool,.bool _=>true
 |.ref e,.ref (.v k)=>s.rs[k]?==some e
 |.ref (.sl _),.ref (.k (.slice none 0 0))=>true
 |.ref (.own _),.ref (.k (.slice none 0 0))=>true
 |.ref (.mr _),.ref (.k (.slice none 0 0))=>true
 |_,_=>false
def og(s:S):List LK->List SV->Bool
 |[],[]=>true
 |k::Z,v::X=>xO s k v&&og s Z X
 |_,_=>false
def Cu:LK->Bool
 |.ref (.own _)=>false
 |_=>true
def lO:List LK->Bool
 |[]=>true
 |k::Z=>Cu k&&lO Z
def IQ:List LK->Bool
 |[]=>false
 |.ref _::_=>true
 |_::Z=>IQ Z
def IR(Z:List SV)(n:Nat):List Nat:=if(SV.kY Z).isEmpty then SV.kZ Z else ayQ n
def IS(X:List SV)(Z:List RK):List RK:=xK (IR X Z.length) 0 Z
def xP(X:List SV)(W:List LK)(Z:List RK):List RK:=if IQ W then gJ (IR X Z.length) 0 Z else Z
def S.cut(s:S)(Z:List SV)(X:List LK):S:={s with rs:=xP Z X s.rs}
def tZ(W:aY)(f:FuncId)(Z:List SV)(s:S)(k:SV->S->T):T:=
 match W.sig f with
 |some V=>match eV W.ty V with
  |some X=>match vG W.ty V ((s.cut Z X).bB X).1 with
   |some l=>if s.cV Z&&lO X then .call f Z (qz (m9 (SV.kY Z) 0 s.boxes)) (IS Z s.rs) X (one l) (k (one l) ((s.cut Z X).bB X).2) else .stuck ""
   |none=>.stuck ""
  |none=>.stuck ""
 |none=>.stuck (""++toString f)
def iF(o:Oper):List Nat:=(o.after.toList.filter λe=>Region.binds .any e).map (·.on)
def lf(Z:List Oper):List Nat:=Z.foldl (λacc o=>acc++[(iF o).foldl (λl e=>l|||(1<<<e)|||acc.getD e 0) 0]) []
def vN:Op->Bool
 |.load _ _=>true
 |_=>false
def t6:Op->Bool
 |.store _ _ _=>true
 |_=>false
def jJ:Op->Bool
 |.call c=>match c.callee with
  |.builtin .len|.builtin .min|.builtin .max=>true
  |_=>false
 |.move _|.assign _|.pick _ _ _|.load _ _|.fieldAddr _ _ _|.field _ _ _|.indexAddr _ _ _|.index _ _ _|.binOp _ _ _ _ _|.unOp _ _ _|.convert _ _ _|.makeInterface _ _|.makeFunc _ _ _|.extract _ _|.nilCheck _|.slice _ _ _ _ _|.build _ _|.lookup _ _ _ _=>true
 |_=>false
def ge(Z:Array Oper)(o:Oper):List Nat:=o.op.operands.toList.filterMap (λx=>match x with
  |.tmp t=>some t
  |_=>none)++(match o.guard with
  |some (j,_)=>((Z[j]?).bind (·.dst)).toList
  |none=>[])
def EQ:Op->Bool
 |.panic _=>true
 |.call c=>match c.callee with
  |.builtin .panic=>true
  |_=>false
 |_=>false
def xQ:Op->Bool
 |.call c=>match c.callee with
  |.builtin .append=>true
  |_=>false
 |_=>false
def pz:Op->Bool
 |.call c=>match c.callee with
  |.builtin .append=>true
  |_=>false
 |.makeSlice _ _ _=>true
 |_=>false
def looks:Op->Bool
 |.call _|.load _ _|.indexAddr _ _ _|.index _ _ _|.lookup _ _ _ _=>true
 |.binOp Z _ _ _ _=>Mu Z
 |_=>false
def ML(Z:Array Oper)(x y:OM):Bool:=
 x.dr&&y.dr&&jJ x.o.op&& !EQ y.o.op&&(match x.o.dst with
  |some d=> !(ge Z y.o).contains d&&y.o.dst !=some d&& !(ge Z x.o).contains d
  |none=>false)&&(match y.o.dst with
  |some d=> !(ge Z x.o).contains d
  |none=>true)&&(!(t6 y.o.op)|| !(vN x.o.op)||(x.aZ&&y.aZ))&&(!(xQ y.o.op)|| !(looks x.o.op)||(vN x.o.op&&x.aZ&&y.aZ))
def sc:Operand->Bool
 |.global _=>false
 |_=>true
def t8:Op->Bool
 |.call c=>match c.callee with
  |.value _=>true
  |_=>false
 |_=>false
def Cv:Op->Bool
 |.alloc _=>true
 |_=>false
def MM(Z:Array Oper)(x y:OM):Bool:=(match x.o.dst with
  |some d=> !(ge Z y.o).contains d&&y.o.dst !=some d
  |none=>true)&&(match y.o.dst with
  |some d=> !(ge Z x.o).contains d
  |none=>true)
def ER:Op->Bool
 |.call c=>match c.callee with
  |.value (.func _)=>c.args.toList.isEmpty
  |_=>false
 |_=>false
def MN(Z:Array Oper):Bool:=(ayQ Z.size).all λi=>(ayQ Z.size).all λj=>match Z[i]?,Z[j]? with
 |some x,some y=> !(t8 x.op)|| !(dR y.op||pz y.op)||((lf Z.toList).getD i 0).testBit j||((lf Z.toList).getD j 0).testBit i||(ER x.op&&Cv y.op)
 |_,_=>true
def ES(Z:Array Oper)(x y:OM):Bool:=
 x.dr&&y.dr&&Cv y.o.op&&y.o.guard.isNone&&(dR x.o.op||pz x.o.op||t8 x.o.op)&&(!dR x.o.op||x.ix !=y.ix)&&x.o.op.operands.toList.all sc&&MM Z x y&&(!t8 x.o.op|| !MN Z||ER x.o.op)
def zQ:Op->Bool
 |.move _|.assign _|.fieldAddr _ _ _=>true
 |_=>false
def IT(Z:Array Oper)(x y:OM):Bool:=
 x.dr&&y.dr&&dR x.o.op&& !Cv x.o.op&&x.o.guard.isNone&&x.o.op.operands.toList.all sc&&y.o.op.operands.toList.all sc&&(dR y.o.op||pz y.o.op||t8 y.o.op||zQ y.o.op||t6 y.o.op)&&(!dR y.o.op||x.ix !=y.ix)&&MM Z x y&&(!t8 y.o.op|| !MN Z)
def pA(Z:Array Oper)(x y:OM):Bool:= !x.so&& !y.so&&(ML Z x y||ES Z x y||IT Z x y)
def IU(Z:List Oper):Nat->List Nat->List Nat
 |0,acc=>acc
 |n+1,acc=>
  let X:=(ayQ Z.length).filter λi=> !acc.contains i&&(match Z[i]? with
   |some o=>(iF o).all acc.contains
   |none=>false)
  match X.find? λi=>match Z[i]? with
   |some o=>jJ o.op
   |none=>false with
  |some i=>IU Z n (acc++[i])
  |none=>match(X.find? λi=>match Z[i]? with
   |some o=>dR o.op&& !Cv o.op
   |none=>false).or (X.find? λi=>match Z[i]? with
   |some o=> !Cv o.op
   |none=>false) with
   |some i=>IU Z n (acc++[i])
   |none=>match X with
   |i::_=>IU Z n (acc++[i])
   |[]=>acc
def zR(Z:Array Oper)(X:List Nat):List OM->Bool
 |[]=>true
 |x::r=>(r.all λy=>(X.getD y.j 0).testBit x.j||pA Z x y)&&zR Z X r
def zS(Z:Array Oper):List Nat->List OM->Bool
 |_,[]=>true
 |done,x::r=>(match Z[x.j]? with
  |some o=>(iF o).all done.contains
  |none=>false)&&zS Z (x.j::done) r
def MO(Z:List Oper)(X:List Nat):Bool:=(ayQ Z.length).all λj=>match Z[j]? with
 |some o=>(iF o).all (λe=>decide (e<j))&&(ayQ Z.length).all λi=> !(X.getD j 0).testBit i||(iF o).contains i||(iF o).any λe=>(X.getD e 0).testBit i
 |none=>false
def IW(Z:List Oper)(X:List Nat)(j:Nat):Bool:=match Z[j]? with
 |some o=>(vN o.op&&(ayQ Z.length).any λi=>(match Z[i]? with
   |some q=>t6 q.op||xQ q.op
   |none=>false)&& !(X.getD i 0).testBit j&& !(X.getD j 0).testBit i)||
  ((t6 o.op||xQ o.op)&&(ayQ Z.length).any λi=>(match Z[i]? with
   |some q=>vN q.op
   |none=>false)&& !(X.getD i 0).testBit j&& !(X.getD j 0).testBit i)
 |none=>false
def vO(Z:List Nat):List OM->Bool
 |[]=>true
 |x::r=>(r.all λy=>(Z.getD y.j 0).testBit x.j)&&vO Z r
def am7:Op->Bool
 |.call c=>match c.callee with
  |.value (.tmp _)=>true
  |_=>false
 |_=>false
def pB(Z:List Nat):List OM->List OM->List OM
 |_,[]=>[]
 |X,m::r=>{m with so:=am7 m.o.op&&vO Z (m::r)&&X.all (λx=>(Z.getD m.j 0).testBit x.j)}::pB Z (X++[m]) r
def oh(Z:List Nat):Nat->List SV->List SV
 |_,[]=>[]
 |n,x::X=>(if Z.contains n then .any else x)::oh Z (n+1) X
def S.plus(s:S)(Z:aX):S:={s with boxes:=s.boxes++Z}
abbrev sd:=FuncId->List SV->S->Option (SV×aX)
def ua(X:aY)(W:sd)(V:YH):lM
 |.fn f,Z,s,k,_=>match W f Z s with
  |some (v,U)=>if s.bd then k v (s.plus U) else .stuck ""
  |none=>tZ X f Z s k
 |.yl n,Z,s,k,R=>V n Z s k R
def ET(l:List OM)(Z:List Nat):List OM:=Z.filterMap λi=>l[i]?
def zT(l:List Oper):List Nat:=l.filterMap (·.dst)
def EU(Z:Array Oper)(n:Nat):Option (List OM):=
 let W:=lf Z.toList;let X:=pB W [] (ET (eo (IW Z.toList W) false true 0 n Z.toList) (IU Z.toList Z.size []))
 if MO Z.toList W&&zS Z [] X&&zR Z W X&&jz (X.filterMap (·.o.dst))&&jz (X.map (·.j))&&jz ((X.filter λm=>dR m.o.op).map (·.ix))&&X.length==Z.size&&(ayQ Z.size).all (λi=>X.any λm=>m.j==i) then some X else none
def Cw(Z:aY)(t:TypeId):Bool:=(Z.ty t).isSome&& !mw t
def EV(Z:aY):List Oper->Bool
 |[]=>true
 |o::r=>(match o.op with
  |.alloc t=>Cw Z t
  |_=>true)&&EV Z r
def acx(s:S)(Z:List Nat):List Nat:=Z.filter λd=>match s.tmps[d]? with
 |some w=> !(w.bd s.ni s.nb s.rs.length (aE s.boxes))
 |none=>true
def S.vP(s:S)(Z:Array Oper)(X:List OM):S:={s.room (jy Z.toList) with tmps:=oh (acx s (zT (X.dropLast.map (·.o)))) 0 s.tmps}
def MP(Z:S->T)(k:XE->S->T):XE->S->T
 |.normal,s=>Z s
 |e,s=>k e s
def Ub(id:Nat)(k:XE->S->T):XE->S->T
 |.exit j,s=>if j==id then k .normal s else k (.exit j) s
 |e,s=>k e s
def EW(X:aY)(s:S)(W:List ResultVar)(k V:SV->S->T):XE->S->T
 |.normal,Z=>match pu X Z W with
  |some l=>k (one l) {Z with tmps:=s.tmps}
  |none=>.stuck ""
 |.ret,Z=>match pu X Z W with
  |some l=>k (one l) {Z with tmps:=s.tmps}
  |none=>.stuck ""
 |.aR v,Z=>V v {Z with tmps:=s.tmps}
 |.exit _,_=>.stuck ""
def gL(X:aY)(V:FuncId->Code->S->(XE->S->T)->T)(U:YH):lM
 |.fn f,Z,s,k,W=>match X.inl f with
  |some (c,R,Q)=>if s.cV Z then V f c {s with tmps:=Z++ayJ (R-Z.length) (.bh [])} (EW X s Q k W) else .stuck ""
  |none=>tZ X f Z s k
 |.yl n,Z,s,k,W=>U n Z s k W
def Uc(b:Bool)(V:aY)(W:lM):lM
 |.fn f,Z,s,k,X=>if b then tZ V f Z s k else W (.fn f) Z s k X
 |.yl n,Z,s,k,X=>W (.yl n) Z s k X
def am8:T:=.dW (.c false) (.c false) (.stuck "") (.stuck "")
def Ud:T->Bool
 |.dW (.c false) (.c false) _ _=>true
 |_=>false
mutual
def SV.vQ:SV->Bool
 |.agg l=>SV.se l
 |.bh l=>SV.se l
 |.fn _ l=>SV.se l
 |.dD _ x=>SV.vQ x
 |.yl _=>false
 |.dE _ _ Z=>SV.se Z
 |_=>true
def SV.se:List SV->Bool
 |[]=>true
 |x::Z=>SV.vQ x&&SV.se Z
end
def zU:aX->Bool
 |[]=>true
 |none::Z=>zU Z
 |some x::Z=>SV.se x.2&&zU Z
def jA:aX->aX->Bool
 |[],[]=>true
 |none::Z,none::X=>jA Z X
 |some x::Z,some y::X=>x.1==y.1&&SV.mB x.2 y.2&&jA Z X
 |_,_=>false
def j8(X:List SV)(Z:aX):aX:=if X.isEmpty then Z.map (λ_=>none) else Z
def pC(Z:List SV)(s:S):S:=⟨[],j8 Z s.boxes,s.ni,s.nb,s.rs.map RK.rd,0,0,[]⟩
def acy(X W Z:S):Bool:=jA Z.boxes W.boxes&&Z.ni==X.ni&&Z.nb==X.nb&&decide (Z.rs=X.rs)
def EX(W:aY)(V:FuncId->Code->S->(XE->S->T)->T)(g:FuncId)(X:List SV)(s:S):Option (SV×aX):=
 match gL W V fD (.fn g) X (pC X s) (λv Z=>.out .normal {Z with tmps:=[v]}) (λ_ _=>.stuck "") with
 |.out .normal Z=>match Z.tmps with
  |[v]=>if SV.se X&&zU (j8 X s.boxes)&&v.vQ&&zU Z.boxes&&jA (Z.boxes.take s.boxes.length) (j8 X s.boxes)&&v.bd s.ni s.nb s.rs.length (aE Z.boxes)&&SV.mC s.ni s.nb s.rs.length (aE Z.boxes) Z.boxes&&Ud (gL W V fD (.fn g) X (pC X s) (λU R=>if U.same v&&acy (pC X s) Z R then am8 else .stuck "") (λ_ _=>.stuck "")) then some (v,Z.boxes.drop s.boxes.length) else none
  |_=>none
 |_=>none
def zV(Z:aY)(X:Array Oper)(W:FuncId->Code->S->(XE->S->T)->T):sd:=λg V s=>if MN X&&(Z.inl g).isSome then EX Z W g V s else none
def Ue:Op->Bool
 |.pick _ _ _=>true
 |_=>false
def acz:Op->Bool
 |.buildSlice _ _ _=>true
 |_=>false
def IX:Op->Bool
 |.buildSlice _ _ _|.alloc _|.box _ _|.store _ _ _=>true
 |_=>false
def vR(Z:aY)(s:S)(o:Oper):Option (BE×SV):=
 if(o.op.operands.toList.any λx=>(s.ev Z.gl x).cM)||Ue o.op then none else match bv Z.ty Z.gl s o.op with
 |.ok v=>some (.c true,v)
 |.aF b v=>if b.bd s.ni s.nb s.rs.length then some (b,v) else none
 |.no _=>none
def BE.Uf:BE->Bool
 |.c b=>b
 |_=>false
def zW(Z:aY):List OM->S->Option (S×List BE)
 |[],s=>some (s,[])
 |q::r,s=>match vR Z s q.o with
  |some (b,v)=>(zW Z r (s.put q.o.dst v)).map λx=>(x.1,if b.Uf then x.2 else b::x.2)
  |none=>none
def Ug(Z:aY)(jh:List BE)(s:S)(X:List OM):Bool:=X.all λq=>match q.o.dst,vR Z s q.o with
 |some d,some (b,v)=>(match s.tmps[d]? with
  |some w=>v.same w&&(b.Uf||jh.any λx=>x.same b)
  |none=>false)
 |_,_=>false
def MQ:List BE->T->T
 |[],t=>t
 |b::r,t=>.aF b (MQ r t)
def S.bq(s:S)(Z:List Nat):S:={s with tmps:=oh Z 0 s.tmps}
def EY{Z:Type}:List Z->List (Z×List Z)
 |[]=>[]
 |x::r=>(x,r)::(EY r).map λy=>(y.1,x::y.2)
def Uh(Z:List Nat)(x:OM×List OM):Bool:=x.2.all λy=> !(Z.getD x.1.j 0).testBit y.j
def EZ:List (List SV)->List (List SV)->Bool
 |[],[]=>true
 |x::Z,y::X=>SV.mB x y&&EZ Z X
 |_,_=>false
def LE.same:LE->LE->Bool
 |.ref r,.ref U=>r.same U
 |.lit l,.lit R=>EZ l R
 |.jH a b,.jH Z Q=>LE.same a Z&&LE.same b Q
 |.pl n P,.pl X O=>n.same X&&SV.mB P O
 |.set a i N W,.set Z M L V=>LE.same a Z&&i.same M&&N==L&&SV.mB W V
 |.sub a J I,.sub Z H G=>LE.same a Z&&J.same H&&I.same G
 |.ins a n W,.ins Z X V=>LE.same a Z&&n==X&&SV.mB W V
 |_,_=>false
def S.same(s Z:S):Bool:=SV.mB s.tmps Z.tmps&&jA s.boxes Z.boxes&&s.ni==Z.ni&&s.nb==Z.nb&&decide (s.rs=Z.rs)&&s.ao==Z.ao&&s.lk==Z.lk&&decide (s.pd=Z.pd)
def T.same:T->T->Bool
 |.ret v R X,.ret Q P W=>v.same Q&&jA R P&&decide (X=W)
 |.aR v,.aR Q=>v.same Q
 |.node b t f,.node O Z V=>b.same O&&T.same t Z&&T.same f V
 |.aF b t,.aF O Z=>b.same O&&T.same t Z
 |.call f H R X N fe t,.call V G P W M F Z=>f==V&&SV.mB H G&&jA R P&&decide (X=W)&&decide (N=M)&&fe.same F&&T.same t Z
 |.loop ao N E t,.loop L M D Z=>ao==L&&decide (N=M)&&SV.mB E D&&T.same t Z
 |.back ao x,.back L U=>ao==L&&SV.mB x U
 |.new e x X C t,.new B U W A Z=>e==B&&LE.same x U&&decide (X=W)&&decide (C=A)&&T.same t Z
 |.rows k x X t,.rows z U W Z=>decide (k=z)&&LE.same x U&&decide (X=W)&&T.same t Z
 |.dW g h t f,.dW J I Z V=>g.same J&&h.same I&&T.same t Z&&T.same f V
 |.pick n g h t f,.pick y J I Z V=>n.same y&&g.same J&&h.same I&&T.same t Z&&T.same f V
 |.out .normal s,.out .normal w=>S.same s w
 |_,_=>false
def Cx:List T->List T
 |[]=>[]
 |t::Z=>if Z.any (T.same t) then Cx Z else t::Cx Z
def xR:List T->T
 |[]=>.stuck ""
 |[t]=>t
 |t::Z=>.dW (.c true) (.c true) t (xR Z)
def E0:Op->Bool
 |.call c=>match c.callee with
  |.builtin .append=>true
  |_=>false
 |.makeSlice _ _ _|.buildSlice _ _ _|.slice _ _ _ _ _|.store _ _ _=>true
 |_=>false
def zX(Z:aY)(V:lM)(U:List Nat)(R:SV->S->T)(m:OM)(X:S->T)(s:S):T:=match Cp Z m.o s with
 |some u=>.cA u.f u.g u.e u.sp u.st u.r s.rs (X u.s)
 |none=>match cB Z s m.o with
  |.call (.fn g) Q=>V (.fn g) Q s (λv W=>X (W.put m.o.dst v)) (λv W=>R v (W.bq U))
  |.op=>match(if E0 m.o.op then cK Z m.o m.aZ false s else none) with
   |some b=>.aF b.aF (.new b.e b.x s.rs b.s.rs (X b.s))
   |none=>if jJ m.o.op then(match vR Z s m.o with
    |some (b,v)=>.aF b (X (s.put m.o.dst v))
    |none=>.stuck "") else
   if IX m.o.op then(match dN Z m s with
    |.ok W=>X W
    |_=>.stuck "") else .stuck ""
  |_=>.stuck ""
def E1(Z:List Nat)(m:OM)(X:List OM):List OM:=X.filter λq=> !(Z.getD m.j 0).testBit q.j
def lg(Z:aY)(V:lM)(X:List Nat)(jh:List BE)(W:List OM)(U:List Nat)(k:S->T)(R:SV->S->T):Nat->List OM->S->T
 |_,[],s=>if Ug Z jh s W then k s else .stuck ""
 |0,_::_,_=>.stuck ""
 |n+1,m::r,s=>if !Ug Z jh s W then .stuck "" else xR (Cx (((EY (m::r)).filter (Uh X)).map λx=>zX Z V U R x.1 (λQ=>lg Z V X jh (E1 X x.1 W) U k R n x.2 Q) s))
def T.j9(k:S->T)(Z:SV->S->T):T->T
 |.out .normal s=>k s
 |.out (.aR v) s=>Z v s
 |.node b t f=>.node b (t.j9 k Z) (f.j9 k Z)
 |.aF b t=>.aF b (t.j9 k Z)
 |.call f a W X V fe t=>.call f a W X V fe (t.j9 k Z)
 |.new e x X U t=>.new e x X U (t.j9 k Z)
 |.cA f g e R Q r X t=>.cA f g e R Q r X (t.j9 k Z)
 |.dW g h t f=>.dW g h (t.j9 k Z) (f.j9 k Z)
 |t=>t
def MS(Z:aY):lM
 |.fn g,X,s,k,_=>if(Z.inl g).isNone then tZ Z g X s k else .stuck ""
 |_,_,_,_,_=>.stuck ""
def am9:Op->Bool
 |.slice _ _ _ _ _=>true
 |_=>false
def ana:Op->Bool
 |.indexAddr .. =>true
 |_=>false
def anb:Op->Bool
 |.store _ _ _=>true
 |_=>false
def MT(X:Bool)(Z:Array Oper):List Nat:=(ayQ Z.size).foldl (λacc i=>match Z[i]? with
 |some o=>if jJ o.op&&(X|| !am9 o.op)&& !(ana o.op&&(ayQ i).any λj=>match Z[j]? with
   |some x=>anb x.op
   |none=>false)&&((ayQ Z.size).all λj=>match(Z[j]?).bind (·.dst) with
   |some d=> !(ge Z o).contains d||acc.contains j
   |none=>true) then acc++[i] else acc
 |none=>acc) []
structure IY where
 qs:List OM
 ch:List OM
 s:S
 jh:List BE
def Ui(Z:aY)(s:S)(X:List Oper):Bool:=X.any λo=>match o.op with
 |.call c=>(match c.callee with
  |.value (.func g)=>(Z.inl g).isSome
  |.value (.tmp t)=>(zT X).contains t||(match s.tmps[t]? with
   |some (.fn g _)=>(Z.inl g).isSome
   |_=>false)
  |_=>false)
 |_=>false
def Uj(Z:Array Oper)(U:List Nat)(X W V:List OM):Bool:=
 MO Z.toList U&&X.all (λm=>m.o.guard.isNone&& !m.aZ)&&jz (X.filterMap (·.o.dst))&&
 X.all (λm=>X.all λx=>match x.o.dst with
  |some d=> !(ge Z m.o).contains d||(U.getD m.j 0).testBit x.j
  |none=>true)&&W.all (λq=>jJ q.o.op&&q.o.dst.isSome)&&(ayQ Z.size).all (λi=>(W++V).any λm=>m.j==i)&&(W++V).length==Z.size&&jz ((W++V).map (·.j))&&
 V.all (λm=>jJ m.o.op||IX m.o.op||E0 m.o.op||(match m.o.op with
  |.call _=>true
  |_=>false))
def xS(X:Bool)(Z:Array Oper)(n:Nat):List OM:=(eo (λ_=>false) false true 0 n Z.toList).filter λm=>(MT X Z).contains m.j
def xT(X:Bool)(Z:Array Oper)(n:Nat):List OM:=(eo (λ_=>false) false true 0 n Z.toList).filter λm=> !(MT X Z).contains m.j
def E2(X:Bool)(Z:Array Oper)(n:Nat):Bool:=Uj Z (lf Z.toList) (eo (λ_=>false) false true 0 n Z.toList) (xS X Z n) (xT X Z n)
def anc:CK->Bool
 |.call (.yl _) _=>true
 |_=>false
def Uk(X:aY)(W Z:List OM)(x:S×List BE):Option IY:=if Z.any λm=>anc (cB X x.1 m.o) then none else some ⟨W,Z,x.1,x.2⟩
def E3(W:aY)(X:Bool)(Z:Array Oper)(s:S):Option IY:=
 if(!X||(Ui W s Z.toList||(W.kX&&Z.toList.any λo=>acz o.op))&&vO (lf Z.toList) (xT X Z s.boxes.length))&&E2 X Z s.boxes.length then(zW W (xS X Z s.boxes.length) (s.room (jy Z.toList))).bind (Uk W (xS X Z s.boxes.length) (xT X Z s.boxes.length)) else none
def acA(Z:dq)(s X:S):String:= ""
def MU(X:dq)(W:List Nat)(s:S)(k:XE->S->T):XE->S->T
 |.normal,Z=>if tY X W 0 s.tmps Z.tmps&&oe X 0 s.boxes Z.boxes&&og Z X.ks (gK X Z)&&tX (fy X s) Z.rs&&Cr (fy X s) (Cq X Z)&&decide (Z.pd=s.pd) then .back s.ao (gK X Z) else .stuck (acA X s Z)
 |e,Z=>k e Z
mutual
def SV.sf(n:Nat):SV->Bool
 |.agg l=>SV.mE n l
 |.bh l=>SV.mE n l
 |.fn _ l=>SV.mE n l
 |.dD _ x=>SV.sf n x
 |.yl m=>m==n
 |.dE _ _ Z=>SV.mE n Z
 |_=>false
def SV.mE(n:Nat):List SV->Bool
 |[]=>false
 |x::Z=>SV.sf n x||SV.mE n Z
end
def si(n:Nat):aX->Bool
 |[]=>false
 |none::Z=>si n Z
 |some x::Z=>SV.mE n x.2||si n Z
def S.sf(s:S)(n:Nat):Bool:=SV.mE n s.tmps||si n s.boxes
def Cy:List Nat->List SV->List SV->List SV
 |p::Z,v::X,l=>Cy Z X (l.set p v)
 |_,_,l=>l
def S.xU(s Z:S):S:={Z with tmps:=s.tmps,pd:=Z.pd.take s.pd.length}
def Cz(s:S)(k:XE->S->T):XE->S->T
 |.aR v,Z=>if v.sf s.pd.length||si s.pd.length Z.boxes then .stuck "" else k (.aR v) (s.xU Z)
 |.exit _,_=>.stuck ""
 |_,Z=>if si s.pd.length Z.boxes then .stuck "" else match Z.pd[s.pd.length]? with
  |some .ready=>k .normal (s.xU Z)
  |some (.done .ret)=>k .ret (s.xU Z)
  |some (.done (.exit id))=>k (.exit id) (s.xU Z)
  |_=>.stuck ""
def gf:Code->Bool
 |.seq a b=>gf a||gf b
 |.cond _ a b=>gf a||gf b
 |.block _ c=>gf c
 |.loop c=>gf c
 |.scope c=>gf c
 |.rangeFunc _ _ _ _=>true
 |_=>false
def MV(n:Nat)(X:S)(k W:SV->S->T):XE->S->T
 |.normal,Z=>k (.bool (.c true)) {Z with tmps:=X.tmps,pd:=Z.pd.set n .ready}
 |.ret,Z=>k (.bool (.c false)) {Z with tmps:=X.tmps,pd:=Z.pd.set n (.done .ret)}
 |.exit id,Z=>k (.bool (.c false)) {Z with tmps:=X.tmps,pd:=Z.pd.set n (.done (.exit id))}
 |.aR v,Z=>W v {Z with tmps:=X.tmps}
def IZ(n:Nat)(k:S->T):XE->S->T
 |.normal,Z=>if decide (Z.pd[n]?=some .ready) then k Z else .stuck ""
 |_,_=>.stuck ""
def E4(s:S)(X:Nat)(Z:List SV):S:={s with tmps:=(.yl s.pd.length::Z)++ayJ (X-(SV.yl s.pd.length::Z).length) (.bh []),pd:=s.pd++[.ready]}
def I0(n W:Nat)(V:List SV->S->(SV->S->T)->(SV->S->T)->T):YH:=λm X Z U R=>
 if m==n&&decide (Z.pd.length=n+1)&&decide (Z.pd[n]?=some .ready)&&X.length==W&&Z.cV X then V X Z U R else .stuck ""
def xV(Z s:S)(X:List Nat)(W:List SV):S:={Z with tmps:=Cy X W s.tmps}
def S.CA(s:S)(n:Nat)(x:kw):S:={s with pd:=s.pd.set n x}
def acB(Z:dq)(X:List Nat)(s:S):String:= ""
def dq.at(a:dq)(s:S):dq:=⟨a.tm,a.cl.filterMap λx=>match bD s.boxes (x.1%1000) with
 |some (t,Z)=>(match Z[x.2.1]? with
  |some v=>if xO s x.2.2 v&&(!mw t||(match x.2.2 with
   |.ref _=>true
   |_=>false))&&(x.1/1000==0||decide (s.boxes.length<=x.1/1000)) then some (x.1%1000,x.2) else none
  |none=>none)
 |none=>none⟩
def acC:List SV->Option (IE×List Int)
 |[]=>none
 |.dE e Z _::_=>some (e,Z)
 |_::r=>acC r
def MW:aX->Option (IE×List Int)
 |[]=>none
 |some x::r=>match acC x.2 with
  |some y=>some y
  |none=>MW r
 |none::r=>MW r
def CB(k:Int):List Int->List SV->Option SV
 |Z::X,.fn f l::W=>if k=Z then some (.fn f l) else CB k X W
 |Z::X,.ref (.k .nilFunc)::W=>if k=Z then some (.ref (.k .nilFunc)) else CB k X W
 |_,_=>none
def I1(e:IE)(k:Int):Nat->BE->BE
 |0,b=>b
 |n+1,.b9 (.cmp .eql Z (.c X)) x y=>if IE.same e Z then(if k=X then I1 e k n x else I1 e k n y) else .b9 (.cmp .eql Z (.c X)) x y
 |_,b=>b
def I2(e:IE)(k:Int):Nat->IE->IE
 |0,b=>b
 |n+1,.b9 (.cmp .eql Z (.c X)) x y=>if IE.same e Z then(if k=X then I2 e k n x else I2 e k n y) else .b9 (.cmp .eql Z (.c X)) x y
 |_,b=>b
def Ul(e:IE)(k:Int):SV->SV
 |.bool b=>.bool (I1 e k 20 b)
 |.int t b=>.int t (I2 e k 20 b)
 |.dE Z X W=>if IE.same e Z then(match CB k X W with
  |some v=>v
  |none=>.dE Z X W) else .dE Z X W
 |v=>v
def MX(e:IE)(W:List Int):SV->SV
 |.dE Z X V=>if IE.same e Z&&X.all W.contains then .ref (.k .nilFunc) else .dE Z X V
 |v=>v
def CC(f:SV->SV)(l:aX):aX:=l.map λx=>match x with
 |some y=>some (y.1,y.2.map f)
 |none=>none
def S.fix(f:SV->SV)(s:S):S:={s with boxes:=CC f s.boxes}
def E5(e:IE)(dW:Int->S)(ax:T)(g:S->T):List Int->T
 |[]=>ax
 |k::Z=>.node (.cmp .eql e (.c k)) (g (dW k)) (E5 e dW ax g Z)
def MY(X:aY)(W id:Nat)(s:S):Option (IE×List Int×(Int->S)×Option S):=match X.frk W id with
 |some .box=>match MW s.boxes with
  |some (e,Z)=>some (e,Z,λk=>s.fix (Ul e k),match MW (CC (MX e Z) s.boxes) with
   |none=>some (s.fix (MX e Z))
   |some _=>none)
  |none=>none
 |some (.slot t V)=>match TL s.tmps t with
  |.int _ (.c _)=>none
  |.int k e=>some (e,V,λv=>{s with tmps:=s.tmps.set t (.int k (.c v))},none)
  |_=>none
 |none=>none
def Um(g:S->T):Option S->T
 |some s=>g s
 |none=>.stuck ""
def I3(X:aY)(W:lM)(Z:Array Oper)(k:XE->S->T)(c:IY):T:=MQ c.jh (if vO (lf Z.toList) c.ch||Ui X c.s Z.toList then lg X W (lf Z.toList) c.jh c.qs (zT Z.toList) (k .normal) (λv=>k (.aR v)) c.ch.length c.ch c.s
 else(lg X (MS X) (lf Z.toList) c.jh c.qs (zT Z.toList) (.out .normal) (λv=>.out (.aR v)) c.ch.length c.ch c.s).j9 (k .normal) λv=>k (.aR v))
def dF(Z:aY):Nat->FuncId->Code->S->YH->(XE->S->T)->T
 |0,_,_,_,_,_=>.stuck ""
 |n+1,W,c,s,X,k=>
  match c with
  |.skip=>k .normal s
  |.label _=>k .normal s
  |.ret=>k .ret s
  |.exit id=>k (.exit id) s
  |.seq a b=>dF Z n W a s X (MP (λR=>dF Z n W b R X k) k)
  |.block id a=>dF Z n W a s X (Ub id k)
  |.scope a=>dF Z n W a s X k
  |.cond c a b=>match s.ev Z.gl c with
   |.bool (.c true)=>dF Z n W a s X k
   |.bool (.c false)=>dF Z n W b s X k
   |.bool x=>match c with
    |.tmp t=>.node x (dF Z n W a {s with tmps:=s.tmps.set t (.bool (.c true))} X k) (dF Z n W b {s with tmps:=s.tmps.set t (.bool (.c false))} X k)
    |_=>.stuck ""
   |_=>.stuck ""
  |.region id V Q=>match MY Z W id s with
   |some (e,L,dW,ax)=>E5 e dW (Um (λR=>dF Z n W (.region id V Q) R X k) ax) (λR=>dF Z n W (.region id V Q) R X k) L
   |none=>if Q then
    match E3 Z (!Z.II W id) V s with
    |some c=>I3 Z (gL Z (λf c s k=>dF Z n f c s X k) X) V k c
    |none=>match EU V s.boxes.length with
    |some O=>if !EV Z V.toList then .stuck "" else j7 Z (ua Z (zV Z V λf c s k=>dF Z n f c s fD k) X) V (k .normal) (λv=>k (.aR v)) O (s.vP V O) []
    |none=>match E3 Z false V s with
     |some c=>I3 Z (gL Z (λf c s k=>dF Z n f c s X k) X) V k c
     |none=>.stuck ""
   else
   j7 Z (Uc (Z.II W (id+1000000)) Z (gL Z (λf c s k=>dF Z n f c s X k) X)) V (k .normal) (λv=>k (.aR v)) (eo (λ_=>false) true false 0 s.boxes.length V.toList) (s.room (jy V.toList)) []
  |.loop a=>match(Code.first a).map (Z.loop W) with
   |some (.inv U)=>
    if !s.bd|| !og s (U.at s).ks (gK (U.at s) s)|| !tY (U.at s) (Code.ky a) 0 s.tmps s.tmps|| !oe (U.at s) 0 s.boxes s.boxes|| !tX (fy (U.at s) s) s.rs|| !Cr (fy (U.at s) s) (Cq (U.at s) s) then .stuck (acB (U.at s) (Code.ky a) s) else
    .loop s.ao (U.at s).ks (gK (U.at s) s) (dF Z n W a (mD (U.at s) (Code.ky a) s) X (MU (U.at s) (Code.ky a) s k))
   |_=>dF Z n W a s X (MP (λR=>dF Z n W (.loop a) R X k) k)
  |.rangeFunc f N assign body=>match s.ev Z.gl f with
   |.fn g P=>match Z.inl g with
    |some (c,J,[])=>
     if !s.cV P||s.sf s.pd.length||SV.mE s.pd.length P||gf assign||gf body then .stuck "" else
     dF Z n g c (E4 s J P)
      (I0 s.pd.length N.size λI M H G=>
       dF Z n W assign (xV M s N.toList I) fD (IZ s.pd.length λF=>
        dF Z n W body (F.CA s.pd.length .busy) fD (MV s.pd.length M H G))) (Cz s k)
    |_=>.stuck ""
   |_=>.stuck ""
  |_=>.stuck ""
def E6{Z:Type}(f:SV->List RK->(SV->List RK->Z)->Z):List SV->List RK->(List SV->List RK->Z)->Z
 |[],X,k=>k [] X
 |x::W,X,k=>f x X λV U=>E6 f W U λR Q=>k (V::R) Q
def S.ep(Z:List RK):S:=⟨[],[],0,0,Z,0,0,[]⟩
def E7(V:aY)(R:aX):Nat->SV->List RK->(SV->List RK->T)->T
 |0,_,_,_=>.stuck ""
 |n+1,.fo i P U O,Z,k=>match iQ R i with
  |some (e,N)=>match V.ty e with
   |some W=>E6 (E7 V R n) N Z λQ X=>if jI V.ty (.ep X) W.ae (fJ W.ae.length U Q)&&Q.length==U*W.ae.length&&P==0&&decide (U<=O)&&W.ae.length !=0 then .new e (.lit (fJ W.ae.length U Q)) X (X++[.sl e]) (k (.ref (.v X.length)) (X++[.sl e])) else .stuck ""
   |none=>.stuck ""
  |none=>.stuck ""
 |n+1,.agg l,Z,k=>E6 (E7 V R n) l Z λM X=>k (.agg M) X
 |_+1,.int q e,Z,k=>k (.int q e) Z
 |_+1,.bool e,Z,k=>k (.bool e) Z
 |_+1,.ref r,Z,k=>k (.ref r) Z
 |_+1,_,_,_=>.stuck ""
mutual
def SV.ane:SV->Bool
 |.fo _ _ _ _=>true
 |.agg l=>SV.Un l
 |_=>false
def SV.Un:List SV->Bool
 |[]=>false
 |x::Z=>SV.ane x||SV.Un Z
end
def I4(W:aY)(X:Nat)(l:List SV)(Z:S):T:=if X==0&&SV.Un l&&Z.bd&&SV.ck Z.ni Z.nb Z.rs.length (aE Z.boxes) l then E6 (E7 W Z.boxes 9) l (Z.rs.map RK.rd) λV U=>.ret (one V) [] U else .ret (one l) (qz (Z.boxes.take X)) (Z.rs.map RK.rd)
def MZ(X:aY)(W:Nat)(V:List ResultVar):XE->S->T
 |.normal,Z=>match pu X Z V with
  |some l=>I4 X W l Z
  |none=>.stuck ""
 |.ret,Z=>match pu X Z V with
  |some l=>I4 X W l Z
  |none=>.stuck ""
 |.aR v,_=>.aR v
 |.exit _,_=>.stuck ""
def I5(Z:aY)(n:Nat)(W:FuncId)(c:Code)(V:Nat)(U:List ResultVar)(X:List SV)(s:S):T:=
 dF Z n W c {s with tmps:=X++ayJ (V-X.length) (.bh [])} fD (MZ Z s.boxes.length U)
structure DI where
 oj:Array Oper
 rest:Code
 g:FuncId
 te:Nat
 tf:Nat
def acD(oj:Array Oper)(U:Code):List Oper->Option DI
 |[Z,X]=>match Z.op,Z.dst,Z.guard,X.op,X.guard,X.dst with
  |.makeFunc (.func g) first R,some W,none,.defer V,none,none=>match first.toList,R.toList,V.callee,V.args.toList with
   |[],[.tmp Q],.value (.tmp P),[]=>if W==P then some ⟨oj,U,g,Q,W⟩ else none
   |_,_,_,_=>none
  |_,_,_,_,_,_=>none
 |_=>none
def qC:Code->Option DI
 |.seq (.region _ oj false) (.seq (.region _ Z false) X)=>acD oj X Z.toList
 |_=>none
def E8(X:aY)(W:Nat)(V:List ResultVar)(Z:S):T:=match pu X Z V with
 |some l=>.ret (one l) (qz (Z.boxes.take W)) (Z.rs.map RK.rd)
 |none=>.stuck ""
def Uo(X:aY)(W:Nat)(V:TypeId)(R:Nat)(U:List ResultVar):XE->S->T
 |.normal,Z=>E8 X W U Z
 |.ret,Z=>E8 X W U Z
 |.aR v,Z=>match v with
  |.dD t (.int .i64 x)=>match bD Z.boxes R with
   |some (Q,[.int .i64 _])=>if t==V&&Q==V then E8 X W U {Z with boxes:=Z.boxes.set R (some (V,[.int .i64 x]))} else .stuck ""
   |_=>.stuck ""
  |_=>.stuck ""
 |.exit _,_=>.stuck ""
def Uq(X:aY)(n:Nat)(V:FuncId)(d:DI)(W:TypeId)(U:Nat)(R:List ResultVar)(Z:S):T:=match Z.tmps[d.te]? with
 |some (.loc i 0)=>if !mw W&&aE Z.boxes i&&decide (d.tf<Z.tmps.length) then dF X n V d.rest (Z.put (some d.tf) (.fn d.g [.loc i 0])) fD (Uo X U W i R) else .stuck ""
 |_=>.stuck ""
def I6(Z:aY)(n:Nat)(W:FuncId)(c:Code)(V:Nat)(U:List ResultVar)(R:TypeId)(X:List SV)(s:S):T:=match qC c with
 |some d=>j7 Z (gL Z (λf c s k=>dF Z n f c s fD k) fD) d.oj (Uq Z n W d R s.boxes.length U) (λ_ _=>.stuck "") (eo (λ_=>false) true false 0 s.boxes.length d.oj.toList) (({s with tmps:=X++ayJ (V-X.length) (SV.bh [])}:S).room (jy d.oj.toList)) []
 |none=>.stuck ""
end
end Go.Proofs.YtieaiocljdpebaaGreatDoor.Y
namespace Go.Proofs.YtieaiocljdpebaaGreatDoor
open Go.RowKit
variable{U l:List Nat}{Q w:World}
structure dI(S:List Nat)(w w':World):Prop where
 os:w'.os=w.os
 tape:w'.tape=w.tape
 output:w'.output=w.output
 size:w.heap.size<=w'.heap.size
 block:∀k,k<w.heap.size->k∉S->w'.heap[k]?=w.heap[k]?
def dI.refl(S:List Nat)(w:World):dI S w w:=⟨rfl,rfl,rfl,ayH _,λ_ _ _=>rfl⟩
def dI.trans{S:List Nat}{a b c:World}(h:dI S a b)(k:dI S b c):dI S a c:=
 ⟨k.os.trans h.os,k.tape.trans h.tape,k.output.trans h.output,azF h.size k.size,λi Z X=>(k.block i (aAw Z h.size) X).trans (h.block i Z X)⟩
def dI.mono(h:dI U Q w)(Z:∀x,x∈U->x∈l):dI l Q w:=
 ⟨h.os,h.tape,h.output,h.size,λi X W=>h.block i X (λm=>W (Z i m))⟩
def dI.alloc(h:dI U Q w)(o:Obj):dI U Q (w.alloc o):=
 h.trans ⟨rfl,rfl,rfl,by simp,λk Z _=>Below.heap_alloc _ _ _ Z⟩
def dI.drew(h:dI U Q w):dI U Q w.drew:=⟨h.os,h.tape,h.output,h.size,h.block⟩
def dI.drewN(h:dI U Q w)(n:Nat):dI U Q (w.drewN n):=⟨h.os,h.tape,h.output,h.size,h.block⟩
def dI.setCell{S:List Nat}{a w:World}(h:dI S a w){p:Addr}(Z:p.block∈S)(u:Value):dI S a (w.setCell p u):=
 h.trans ⟨rfl,rfl,rfl,by simp[World.setCell],λk _ X=>Below.heap_setCell _ _ _ _ (λe=>X (e▸Z))⟩
def dI.putObj{S:List Nat}{a w:World}(h:dI S a w){r:Nat}(Z:r∈S)(o:Obj):dI S a (w.putObj r o):=
 h.trans ⟨rfl,rfl,rfl,by simp[World.putObj],λk _ X=>World.putObj_heap_other (λe=>X (e▸Z))⟩
def dI.anf{w':World}(h:Below Q.heap.size Q w'):dI U Q w':=⟨h.os,h.tape,h.output,h.size,λk Z _=>h.block k Z⟩
def dI.call{w':World}(h:dI U Q w)(k:Below w.heap.size w w'):dI U Q w':=h.trans (dI.anf k)
def dI.grown{w':World}{X:Option Nat}(h:dI U Q w)(Z:w.grownBy w' X)(P:∀k,X=some k->k∈U\/Q.heap.size<=k):dI U Q w':=
 ⟨Z.os.trans h.os,Z.tape.trans h.tape,Z.output.trans h.output,azF h.size Z.size,λk W V=>(Z.block k (aAw W h.size) (λe=>by rcases P k e.symm with R|R;exact V R;omega)).trans (h.block k W V)⟩
def dI.heap{S:List Nat}{w w':World}(h:dI S w w'){b:Nat}{o:Obj}(Z:w.heap[b]?=some o)(W:b∉S):w'.heap[b]?=some o:=by
 have X:b<w.heap.size:=by
  by_cases X:b<w.heap.size;exact X;rw[aBL (by omega)] at Z;cases Z
 exact(h.block b X W).trans Z
end Go.Proofs.YtieaiocljdpebaaGreatDoor
namespace Go.Proofs.YtieaiocljdpebaaGreatDoor.Y
open Go.RowKit
noncomputable section
variable{y:Bool}
inductive RV where
 |mk (val:Value) (rows:List (List RV))
def RV.val:RV->Value
 |.mk v _=>v
def RV.rows:RV->List (List RV)
 |.mk _ r=>r
@[simp] def RV.ji (v:Value) (r:List (List RV)):(RV.mk v r).val=v:=rfl
@[simp] def RV.jk (v:Value) (r:List (List RV)):(RV.mk v r).rows=r:=rfl
instance:Inhabited RV:=⟨.mk (.pointer none) []⟩
structure aa where
 i:List Int
 b:List Bool
 r:List RV
 y:List Nat
def aa.at(O:aa)(y:List Nat):aa:={O with y:=y}
def aa.rv(O:aa)(k:Nat):RV:=O.r.getD k default
def bc:Value->Int
 |.int _ n=>n
 |_=>0
def gv:Value->Bool
 |.bool b=>b
 |_=>false
def lenOf:Value->Int
 |.slice _ n _=>n
 |.string s=>s.size
 |_=>0
def zY(v:Value)(i:Int):Int:=match v with
 |.string s=>match s[i.toNat]? with
  |some b=>b.toNat
  |none=>0
 |_=>0
def qD:Value->Value->Bool
 |.string a,.string b=>a.toList==b.toList
 |_,_=>false
def jl(n:Nat)(Z:List Int)(X:List RV):Bool:=decide ((X.take n).map (λc=>bc c.val)=Z.take n)
def fY(n:Nat)(Z:List Int)(X:List (List RV)):Option (List RV):=X.find? (jl n Z)
def fg(n:Nat)(Z:List RV):List (List RV)->List (List RV)
 |[]=>[Z]
 |r::X=>if jl n ((Z.take n).map λc=>bc c.val) r then Z::X else r::fg n Z X
def gM(x:Int):List Int->List Value->Value
 |k::Z,v::X=>if x=k then(if fu v then v else .nilFunc) else gM x Z X
 |_,_=>.nilFunc
def cellAt(Z:List (List RV))(i:Int)(j:Nat):RV:=(Z.getD i.toNat []).getD j default
def cN:RK->RV->RV
 |.sl _,v|.own _,v=>match v.val with
  |.slice _ _ _=>v
  |_=>.mk (.slice none 0 0) []
 |.str,v=>match v.val with
  |.string s=>.mk (.string s) []
  |_=>.mk (.string ⟨#[]⟩) []
 |.ax,v=>if fu v.val then .mk v.val [] else .mk (.pointer none) []
 |.dead,v=>if fu v.val then v else .mk (.pointer none) []
 |.mr _,v=>match v.val with
  |.slice _ _ _=>v
  |_=>.mk (.slice none 0 0) []
mutual
def IE.den(O:aa):IE->Int
 |.c n=>n
 |.v k=>O.i.getD k 0
 |.bin Z k a b=>aP Z k (a.den O) (b.den O)
 |.conv k a=>k.wrap (a.den O)
 |.len r=>lenOf (r.rv O).val
 |.mm X a b=>if X then max (a.den O) (b.den O) else min (a.den O) (b.den O)
 |.b9 b x y=>if b.den O then x.den O else y.den O
 |.cell r i j=>bc (cellAt (r.rv O).rows (i.den O) j).val
 |.j6 r i=>zY (r.rv O).val (i.den O)
 |.look r n a b c j=>match fY n [a.den O,b.den O,c.den O] (r.rv O).rows with
  |some W=>bc (W.getD j default).val
  |none=>0
def BE.den(O:aa):BE->Bool
 |.c b=>b
 |.v k=>O.b.getD k false
 |.cmp Z a b=>ey Z (a.den O) (b.den O)
 |.not a=> !(a.den O)
 |.and a b=>a.den O&&b.den O
 |.beq a b=>a.den O==b.den O
 |.b9 b x y=>if b.den O then x.den O else y.den O
 |.cell r i j=>gv (cellAt (r.rv O).rows (i.den O) j).val
 |.seq a b=>qD (a.rv O).val (b.rv O).val
 |.look r n a b c j=>match fY n [a.den O,b.den O,c.den O] (r.rv O).rows with
  |some X=>gv (X.getD j default).val
  |none=>false
 |.has r n a b c=>(fY n [a.den O,b.den O,c.den O] (r.rv O).rows).isSome
def RE.rv(O:aa):RE->RV
 |.v k=>O.rv k
 |.cell r i j k=>cN k (cellAt (r.rv O).rows (i.den O) j)
 |.k v=>.mk v []
end
def RE.den(O:aa)(r:RE):Value:=(r.rv O).val
def SV.bu(O:aa):SV->RV
 |.int k e=>.mk (.int k (e.den O)) []
 |.bool b=>.mk (.bool (b.den O)) []
 |.ref r=>r.rv O
 |_=>default
def dJ(Z:List RV)(X:Nat):List RV->List RV
 |[]=>Z
 |v::r=>dJ (Z.set X v) (X+1) r
def LE.rows(O:aa):LE->List (List RV)
 |.ref r=>(r.rv O).rows
 |.lit l=>l.map λZ=>Z.map (SV.bu O)
 |.jH a b=>a.rows O++b.rows O
 |.pl n Z=>ayJ (n.den O).toNat (Z.map (SV.bu O))
 |.set a i W X=>(a.rows O).modify (i.den O).toNat λZ=>dJ Z W (X.map (SV.bu O))
 |.sub a V U=>((a.rows O).take (U.den O).toNat).drop (V.den O).toNat
 |.ins a n X=>fg n (X.map (SV.bu O)) (a.rows O)
def eK(x:LE)(O:aa):RV:=.mk (.slice none (x.rows O).length (x.rows O).length) (x.rows O)
def aD(c:Nat)(Z:List RV):Int:=bc (Z.getD c default).val
def fZ(Z:Bool):List Nat->List RV->List RV->Bool
 |[],_,_=>false
 |c::X,x,y=>if aD c x=aD c y then fZ Z X x y else if Z then decide (aD c y<aD c x) else decide (aD c x<aD c y)
def aU.lt:aU->List RV->List RV->Bool
 |.lex Z d,x,y=>fZ d Z x y
 |.ratio n d,x,y=>decide (aD n x*aD d y<aD n y*aD d x)
 |.bN _ _ _,_,_=>false
def iG(n d:Int):Bool:=decide (1<=d)&&decide (d<=1073741824)&&decide (-1073741824<=n)&&decide (n<=1073741824)&&aCh n.natAbs d.toNat==1
def aU.ok:aU->List RV->Bool
 |.lex _ _,_=>true
 |.ratio n d,x=>iG (aD n x) (aD d x)
 |.bN _ _ _,_=>false
def cQ(lt:List RV->List RV->Bool)(x:List RV):List (List RV)->List (List RV)
 |[]=>[x]
 |y::r=>if lt x y then x::y::r else y::cQ lt x r
def bp(lt:List RV->List RV->Bool)(l:List (List RV)):List (List RV):=l.foldl (λacc x=>cQ lt x acc) []
def sj(lt:List RV->List RV->Bool):List (List RV)->Bool
 |[]=>true
 |x::r=>r.all (λy=>lt x y||lt y x)&&sj lt r
def fh:aU->Bool->List (List RV)->Option (List (List RV))
 |.bN _ _ _,_,_=>none
 |X,W,Z=>if decide (Z.length<=1099511627776)&&(Z.all X.ok&&(W||sj X.lt Z)) then some (bp X.lt Z) else none
def iR(Z:List (List RV)):Bool:=(ayQ Z.length).all λk=>decide (0<=aD 0 (Z.getD k []))&&decide (aD 0 (Z.getD k [])<=k)
def mF:Nat->Int->List (List RV)->List (List RV)
 |0,_,Z=>Z
 |n+1,i,Z=>if aD 0 (Z.getD i.toNat [])=i then Z else(mF n (aD 0 (Z.getD i.toNat [])) Z).set i.toNat ((mF n (aD 0 (Z.getD i.toNat [])) Z).getD (aD 0 (Z.getD i.toNat [])).toNat [])
def qE(i:Int)(Z:List (List RV)):Option (List (List RV)):=if decide (Z.length<=1099511627776)&&decide (0<=i)&&decide (i<Z.length)&&iR Z then some (mF Z.length i Z) else none
def aK(Z:List (List RV))(a b:Nat):List (List RV):=(Z.drop a).take (b-a)
def sk(lt:List RV->List RV->Bool):List (List RV)->Bool
 |[]=>true
 |x::r=>r.all (λy=> !lt y x)&&sk lt r
def jB(k:Nat)(o:aU)(X:List Int)(Z:List (List RV)):Option (List (List RV)):=match k,X with
 |0,[a,b,n]=>if decide (0<=a)&&decide (0<=n)&&decide (a+n<=b)&&decide (b+n<=Z.length) then some (Z.take a.toNat++(aK Z b.toNat (b+n).toNat++(aK Z (a+n).toNat b.toNat++(aK Z a.toNat (a+n).toNat++Z.drop (b+n).toNat)))) else none
 |1,[a,m,b]=>if decide (0<=a)&&decide (a<m)&&decide (m<b)&&decide (b<=Z.length) then some (Z.take a.toNat++(aK Z m.toNat b.toNat++(aK Z a.toNat m.toNat++Z.drop b.toNat))) else none
 |2,[a,b]=>if decide (0<=a)&&decide (a<=b)&&decide (b<=Z.length)&&Z.all o.ok then some (Z.take a.toNat++(bp o.lt (aK Z a.toNat b.toNat)++Z.drop b.toNat)) else none
 |n+3,[a,m,b]=>if decide (0<=a)&&decide (a<m)&&decide (m<b)&&decide (b<=Z.length)&&decide (b-a<n)&&Z.all o.ok&&sk o.lt (aK Z a.toNat m.toNat)&&sk o.lt (aK Z m.toNat b.toNat) then some (Z.take a.toNat++(bp o.lt (aK Z a.toNat b.toNat)++Z.drop b.toNat)) else none
 |_,_=>none
def ad(V:List Nat)(i:Nat):Nat:=V.getD i 0
def kb(v:Value)(n:Nat):Addr:=match v with
 |.slice (some a) _ _=>⟨a.block,a.off+n,none⟩
 |_=>⟨0,n,none⟩
mutual
def SV.den(O:aa)(V:List Nat):SV->Value
 |.int k e=>.int k (e.den O)
 |.bool b=>.bool (b.den O)
 |.ref r=>r.den O
 |.loc i Z=>.pointer (some ⟨ad V i,Z,none⟩)
 |.el r w i Z=>.pointer (some (kb (r.den O) ((i.den O).toNat*w+Z)))
 |.fo i Z X W=>.slice (some ⟨ad V i,Z,none⟩) X W
 |.agg l=>.agg (SV.au O V l).toArray
 |.bh l=>.tuple (SV.au O V l).toArray
 |.fn f l=>.func (.func f) #[] (SV.au O V l).toArray
 |.dD t x=>.iface t (SV.den O V x)
 |.yl n=>.func (.yield (O.y.getD n 0)) #[] #[]
 |.any=>undef
 |.mp i=>.map (some (ad V i))
 |.dE e U R=>gM (e.den O) U (SV.au O V R)
def SV.au(O:aa)(V:List Nat):List SV->List Value
 |[]=>[]
 |x::Z=>SV.den O V x::SV.au O V Z
end
def lj(O:aa)(V:List Nat):∀l,SV.au O V l=l.map (SV.den O V)
 |[]=>rfl
 |x::Z=>by rw[SV.au,lj O V Z];rfl
@[simp] def CD (O:aa) (V:List Nat) (l:List SV):(SV.au O V l).length=l.length:=by rw[lj];simp
def ol(O:aa)(V:List Nat)(l:List SV)(i:Nat):(SV.au O V l)[i]?=(l[i]?).map (SV.den O V):=by rw[lj];simp
def M0(O:aa)(V:List Nat)(l m:List SV):SV.au O V (l++m)=SV.au O V l++SV.au O V m:=by simp[lj]
inductive aW(W:World)(ty:Ty):RK->RV->Prop where
 |sl (e:TypeId) (A:Option Addr) (len cap:Nat) (rows:List (List RV)) (h1:rows.length=len) (h2:len<=cap)
   (h3:∀(i:Nat)(row:List RV),rows[i]?=some row->row.length=(aV ty (.sl e)).length/\∃b off,A=some ⟨b,off,none⟩/\(∃cs t fr,W.heap[b]?=some (.cells cs t fr))/\
    ∀(j:Nat)(c:RV),row[j]?=some c->W.cell? ⟨b,off+i*(aV ty (.sl e)).length+j,none⟩=some c.val)
   (hi:∀(i j:Nat)(row:List RV)(c:RV)(k:IntKind),rows[i]?=some row->row[j]?=some c->(aV ty (.sl e))[j]?=some (.int k)->∃n,c.val=.int k n)
   (hb:∀(i j:Nat)(row:List RV)(c:RV),rows[i]?=some row->row[j]?=some c->(aV ty (.sl e))[j]?=some .bool->∃x,c.val=.bool x)
   (ho:∀(i j:Nat)(row:List RV)(c:RV)(z:Value)(k:RK),rows[i]?=some row->row[j]?=some c->(aV ty (.sl e))[j]?=some (.ax z k)->aW W ty k c):
   aW W ty (.sl e) (.mk (.slice A len cap) rows)
 |str (s:ByteArray):aW W ty .str (.mk (.string s) [])
 |ax (v:Value) (h:fu v=true):aW W ty .ax (.mk v [])
 |own (e:TypeId) (rv:RV) (h:aW W ty (.sl e) rv) (hn:∀l c,rv.val=.slice none l c->c=0):aW W ty (.own e) rv
 |dead (rv:RV) (h:fu rv.val=true):aW W ty .dead rv
 |mr (sh:Sh) (rows:List (List RV)) (h1:∀(i:Nat)(row:List RV),rows[i]?=some row->row.length=(aV ty (.mr sh)).length)
   (hi:∀(i j:Nat)(row:List RV)(c:RV)(k:IntKind),rows[i]?=some row->row[j]?=some c->(aV ty (.mr sh))[j]?=some (.int k)->∃n,c=.mk (.int k n) [])
   (hb:∀(i j:Nat)(row:List RV)(c:RV),rows[i]?=some row->row[j]?=some c->(aV ty (.mr sh))[j]?=some .bool->∃x,c=.mk (.bool x) [])
   (ho:∀(i j:Nat)(row:List RV)(c:RV)(z:Value)(k:RK),rows[i]?=some row->row[j]?=some c->(aV ty (.mr sh))[j]?≠some (.ax z k)):
   aW W ty (.mr sh) (.mk (.slice none rows.length rows.length) rows)
inductive cm(ty:Ty):RK->RV->Nat->Prop where
 |here (e:TypeId) (a:Addr) (len cap:Nat) (rows:List (List RV)):cm ty (.sl e) (.mk (.slice (some a) (len+1) cap) rows) a.block
 |deep (e:TypeId) (v:Value) (rows:List (List RV)) (i j:Nat) (row:List RV) (c:RV) (z:Value) (k:RK) (b:Nat):rows[i]?=some row->row[j]?=some c->(aV ty (.sl e))[j]?=some (.ax z k)->cm ty k c b->cm ty (.sl e) (.mk v rows) b
 |own (e:TypeId) (rv:RV) (b:Nat):cm ty (.sl e) rv b->cm ty (.own e) rv b
def RV.hU(Z:RV):Option Nat:=match Z.val with
 |.slice (some a) _ (_+1)=>some a.block
 |_=>none
def ub(X:Ty)(e:RK)(Z:RV)(b:Nat):Prop:=cm X e Z b\/(∃t,e=.own t)/\Z.hU=some b
def jK(Z:Ty)(e:TypeId)(W:List (List RV))(b:Nat):Prop:=∃(i j:Nat)(X:List RV)(c:RV)(z:Value)(k:RK),W[i]?=some X/\X[j]?=some c/\(aV Z (.sl e))[j]?=some (.ax z k)/\cm Z k c b
structure uc(S0:List Nat)(w0:World)(V:List Nat)(O:aa)(bx:aX)(ty:Ty)(rs:List RK)(W:World)(k:Nat)(e:TypeId)(rv:RV)(b:Nat):Prop where
 own:w0.heap.size<=b\/b∈S0
 mem:∃len cap cur,rv.val=.slice (some ⟨b,0,none⟩) len cap/\W.heap[b]?=some (.cells cur e (0,0))/\len<=cap/\cap<=maxLen/\cur.size=cap*(aV ty (.sl e)).length
 box:∀i,aE bx i=true->ad V i≠b
 alone:∀(k':Nat)(e':RK)(rv':RV),k'≠k->rs[k']?=some e'->O.r[k']?=some rv'->¬ub ty e' rv' b
 inner:¬jK ty e rv.rows b
def SV.eD(O:aa)(V:List Nat)(v:SV):RV:=match v with
 |.ref r=>r.rv O
 |v=>.mk (v.den O V) []
def SV.bX(O:aa)(V:List Nat)(l:List SV):List RV:=l.map (SV.eD O V)
def dO:Nat->List (Value×Value)->List MapEntry
 |_,[]=>[]
 |n,x::r=>⟨x.1,x.2,n⟩::dO (n+1) r
def lQ(l:List (Value×Value)):Obj:=.map (dO 0 l).toArray l.length
def xW:List Value->List (Value×Value)
 |k::v::r=>(k,v)::xW r
 |_=>[]
def mG(a:Bool)(l:List RV):Value:=if a then .agg (l.map RV.val).toArray else(l.headD default).val
def qF(n:Nat)(X W:Bool)(Z:List RV):Value×Value:=(mG X (Z.take n),mG W (Z.drop n))
def acE:Value->Option Nat
 |.map a=>a
 |_=>none
def ll(Z:List RV):Nat:=(bc (Z.headD default).val).toNat
def iS(t:TypeId)(l:List RV):Obj:=
 if t=pj then lQ (xW (l.map RV.val)) else
 if t=qr then(match l with
  |[Z,.mk (.int _ n) _,.mk (.bool X) _,.mk (.bool W) _]=>lQ (Z.rows.map (qF n.toNat X W))
  |_=>lQ []) else
 if t=rU then(match l with
  |[V,_,.mk (.int _ n) _,U]=>.mapIter (acE V.val) n.toNat (U.rows.map ll).toArray n.toNat
  |_=>lQ []) else
 .cells (l.map RV.val).toArray t (0,0)
structure gN(S0:List Nat)(w0:World)(V:List Nat)(O:aa)(bx:aX)(ty:Ty)(rs:List RK)(W:World):Prop where
 base:dI S0 w0 W
 own:∀i,aE bx i=true->w0.heap.size<=ad V i\/ad V i∈S0
 inj:∀i j,aE bx i=true->aE bx j=true->ad V i=ad V j->i=j
 box:∀(i:Nat)(t:TypeId)(cs:List SV),bD bx i=some (t,cs)->W.heap[ad V i]?=some (iS t (SV.bX O V cs))
 ref:∀(k:Nat)(e:RK)(rv:RV),rs[k]?=some e->O.r[k]?=some rv->aW W ty e rv/\∀b,cm ty e rv b->∀i,aE bx i=true->ad V i≠b
structure bz where
 out:List Nat
 cC:List (Nat×Loop)
 rd:Bool
 base:List Deferred
def bz.none:bz:=⟨[],[],false,[]⟩
def iT(r:Nat):Deferred:={target:=.collected r,args:= #[]}
def PX.code:PX->Code
 |.ret=>.ret
 |.exit id=>.exit id
def nf(r:Loop):kw->Loop
 |.ready=>{r with state:=.ready,pending:=none}
 |.busy=>{r with state:=.busy,pending:=none}
 |.done e=>{r with state:=.done,pending:=some e.code}
structure cG(w0:World)(D:bz)(pd:List kw)(y:List Nat)(dfr:List Deferred)(W:World):Prop where
 len:D.cC.length=pd.length
 oo:y.length=pd.length
 cC:∀(n l:Nat)(r:Loop)(st:kw),D.cC[n]?=some (l,r)->pd[n]?=some st->y[n]?=some l/\W.heap[l]?=some (.loop (nf r st))/\w0.heap.size<=l
 inj:∀(n n' l:Nat)(r r':Loop),D.cC[n]?=some (l,r)->D.cC[n']?=some (l,r')->n=n'
 jL:∃ms:List Nat,dfr=ms.map iT++D.base/\(D.rd=true->ms=[])/\(ms++D.out).Nodup/\∀d∈ms++D.out,W.heap[d]?=some (.deferred (some []))/\w0.heap.size<=d
structure ap(S0:List Nat)(w0:World)(D:bz)(ty:Ty)(V:List Nat)(O:aa)(s:S)(a:Act)(W:World):Prop where
 mem:gN S0 w0 V O s.boxes ty s.rs W
 dS:V.length=s.boxes.length
 ei:O.i.length=s.ni
 eb:O.b.length=s.nb
 er:O.r.length=s.rs.length
 bY:cG w0 D s.pd O.y a.defers W
 size:a.tmps.size=s.tmps.length
 tmps:∀(t:Nat)(sv:SV),s.tmps[t]?=some sv->sv=.any\/a.tmps[t]?=some (sv.den O V)
 dK:∀(k:Nat)(e:TypeId)(rv:RV)(b:Nat),s.rs[k]?=some (.own e)->O.r[k]?=some rv->rv.hU=some b->uc S0 w0 V O s.boxes ty s.rs W k e rv b
def aa.lR(Z:Ty)(O:aa)(X:List RK)(b:Nat):Prop:=∃(k:Nat)(e:RK),X[k]?=some e/\cm Z e (O.rv k) b
inductive XV where
 |i (n:Int)
 |b (x:Bool)
 |r (v:RV)
def aa.add(O:aa):XV->aa
 |.i n=>{O with i:=O.i++[n]}
 |.b x=>{O with b:=O.b++[x]}
 |.r v=>{O with r:=O.r++[v]}
def aa.ext(O:aa):List XV->aa
 |[]=>O
 |x::Z=>(O.add x).ext Z
def SV.xv(O:aa):SV->XV
 |.int _ e=>.i (e.den O)
 |.bool b=>.b (b.den O)
 |.ref r=>.r (r.rv O)
 |_=>.i 0
def ng:LK->XV->Prop
 |.int _,.i _=>True
 |.bool,.b _=>True
 |.ref _,.r _=>True
 |_,_=>False
def cR:List LK->List XV->Prop
 |[],[]=>True
 |k::Z,x::X=>ng k x/\cR Z X
 |_,_=>False
def ang(Z:Ty)(W:World)(B:Nat)(V:Nat->Prop):LK->XV->Prop
 |.ref e,.r X=>aW W Z e X/\∀b,cm Z e X b->B<=b\/V b
 |_,_=>True
def E9(Z:Ty)(W:World)(B:Nat)(X:Nat->Prop):List LK->List XV->Prop
 |k::V,x::U=>ang Z W B X k x/\E9 Z W B X V U
 |_,_=>True
structure CE(ty:Ty)(S0:List Nat)(w0:World)(e:TypeId)(x:LE)(rs:List RK)(O:aa)(rv:RV):Prop where
 val:∃A n c,rv=.mk (.slice A n c) (x.rows O)/\(x.rows O).length=n
 lR:∀b,cm ty (.sl e) rv b->w0.heap.size<=b\/b∈S0\/O.lR ty rs b
 Ur:∀(k:Nat)(i:IE)(off:Nat)(cs:List SV),x=.set (.ref (.v k)) i off cs->rv.val=(O.rv k).val
structure LC where
 ao:Nat
 I:List XV->Prop
 μ:List XV->Nat
 m:Nat
def ke(ao:Nat):List LC->Option LC
 |[]=>none
 |x::Z=>if x.ao=ao then some x else ke ao Z
def XE.to(O:aa)(V:List Nat):XE->Exit
 |.normal=>.normal
 |.ret=>.ret
 |.exit id=>.exit id
 |.aR v=>.panic [{v:=v.den O V,recovered:=false}]
structure Sp where
 P:Program
 ty:Ty
 S0:List Nat
 w0:World
 D:bz
 R:Ending->World->Prop
 Q:Exit->Act->World->Prop
def ln(k:Nat)(o:aU)(X:List Int)(Z:List (List RV)):Option (List (List RV)):=if Z.length<=1099511627776 then jB k o X Z else none
def gO(O:aa):aU->Bool->List (List RV)->Option (List (List RV))
 |.bN k o X,false,Z=>ln k o (X.map (IE.den O)) Z
 |.bN _ _ [i],true,Z=>qE (i.den O) Z
 |.bN _ _ _,true,_=>none
 |W,V,Z=>fh W V Z
def jM(O:aa):aU->Bool->List (List RV)->Option (List (List RV))
 |.bN _ _ _,false,_=>none
 |.bN _ _ [i],true,Z=>qE (i.den O) Z
 |.bN _ _ _,true,_=>none
 |X,W,Z=>fh X W Z
def acF{O:aa}{Z:aU}{X r:List (List RV)}(h:jM O Z y X=some r):gO O Z y X=some r:=by
 cases Z with
 |lex V d=>exact h
 |ratio n d=>exact h
 |bN k o W=>
  cases y with
  |false=>simp[jM] at h
  |true=>
   cases W with
   |nil=>simp[jM] at h
   |cons i l=>
    cases l with
    |nil=>exact h
    |cons j l=>simp[jM] at h
def T.aH(p:Sp):T->aa->List LC->Prop
 |.out e s,O,_=>∀y V a W,ap p.S0 p.w0 p.D p.ty V (O.at y) s a W->p.Q (e.to (O.at y) V) a W
 |.ret v M X,O,_=>∀y V W,gN p.S0 p.w0 V (O.at y) M p.ty X W->p.R (.returned (v.den (O.at y) V)) W
 |.aR v,O,_=>∀y V W,dI p.S0 p.w0 W->p.R (.panicked [{v:=v.den (O.at y) V,recovered:=false}]) W
 |.node b t f,O,L=>(b.den O=true->t.aH p O L)/\(b.den O=false->f.aH p O L)
 |.aF b t,O,L=>b.den O=true/\t.aH p O L
 |.call f F M X N fe t,O,L=>∀y V W,gN p.S0 p.w0 V (O.at y) M p.ty X W->Calls p.P f (SV.au (O.at y) V F).toArray W λ
   |.returned v,U=>∃Z,cR N Z/\v=fe.den ((O.ext Z).at y) V/\Below W.heap.size W U/\E9 p.ty U W.heap.size (O.lR p.ty X) N Z/\t.aH p (O.ext Z) L
   |.panicked E,U=>Below W.heap.size W U/\p.R (.panicked E) U
   |.outgrown,_=>False
 |.loop ao N C t,O,L=>∃I J,I (C.map (SV.xv O))/\∀Z,cR N Z->I Z->t.aH p (O.ext Z) (⟨ao,I,J,J Z⟩::L)
 |.back ao x,O,L=>match ke ao L with
   |some c=>c.I (x.map (SV.xv O))/\c.μ (x.map (SV.xv O))<c.m
   |none=>False
 |.new e x X _ t,O,L=>∀H,CE p.ty p.S0 p.w0 e x X O H->t.aH p (O.add (.r H)) L
 |.rows _ x _ t,O,L=>t.aH p (O.add (.r (eK x O))) L
 |.dW g h t f,O,L=>(g.den O=true->t.aH p O L)/\(h.den O=true->f.aH p O L)
 |.pick n g h t f,O,L=>(∀j:Int,0<=j->j<n.den O->g.den (O.add (.i j))=true->t.aH p (O.add (.i j)) L)/\(h.den O=true->f.aH p O L)
 |.cA _ _ _ B A r _ t,O,L=>∃G,gO O B A (r.rv O).rows=some G/\t.aH p (O.add (.r (.mk (r.rv O).val G))) L
 |.stuck _,_,_=>False
variable{n c:aa}{X I e:Nat}{N:aX}{x:TypeId×List SV}{Z:TypeId}{M:List SV}{U l:List Nat}{r:Nat→Bool}
def acG:∀(a b:Value),Cf a b=true->a=b:=by
 intro a b h;unfold Cf at h;split at h;rename_i a b;have Z:a.data.toList=b.data.toList:=by simpa using h
 have X:a.data=b.data:=by simpa using Z
 cases a;cases b;simp_all;simp at h;rw[h.1,h.2]
 all_goals first|rfl|cases h
mutual
def IE.bi:∀(a b:IE),IE.same a b=true->a=b
 |.c a,b,h=>by cases b<;>simp[IE.ez] at h;rw[h]
 |.v a,b,h=>by cases b<;>simp[IE.ez] at h;rw[h]
 |.bin o k a b,x,h=>by
  cases x<;>simp[IE.ez,vD] at h;obtain⟨⟨⟨rfl,rfl⟩,Z⟩,X⟩:=h;rw[IE.bi _ _ Z,IE.bi _ _ X]
 |.conv k a,x,h=>by
  cases x<;>simp[IE.ez] at h;obtain⟨rfl,Z⟩:=h;rw[IE.bi _ _ Z]
 |.len r,x,h=>by
  cases x<;>simp[IE.ez] at h;rw[RE.bi _ _ h]
 |.mm m a b,x,h=>by
  cases x<;>simp[IE.ez] at h;obtain⟨⟨rfl,Z⟩,X⟩:=h;rw[IE.bi _ _ Z,IE.bi _ _ X]
 |.b9 b a c,x,h=>by
  cases x<;>simp[IE.ez] at h;obtain⟨⟨W,Z⟩,X⟩:=h;rw[BE.bi _ _ W,IE.bi _ _ Z,IE.bi _ _ X]
 |.cell r i j,x,h=>by
  cases x<;>simp[IE.ez] at h;obtain⟨⟨W,Z⟩,rfl⟩:=h;rw[RE.bi _ _ W,IE.bi _ _ Z]
 |.j6 r i,x,h=>by
  cases x<;>simp[IE.ez] at h;obtain⟨W,Z⟩:=h;rw[RE.bi _ _ W,IE.bi _ _ Z]
 |.look r n a b c j,x,h=>by
  cases x<;>simp[IE.ez] at h;obtain⟨⟨⟨⟨⟨W,rfl⟩,Z⟩,X⟩,V⟩,rfl⟩:=h;rw[RE.bi _ _ W,IE.bi _ _ Z,IE.bi _ _ X,IE.bi _ _ V]
def BE.bi:∀(a b:BE),BE.same a b=true->a=b
 |.c a,b,h=>by cases b<;>simp[BE.ez] at h;rw[h]
 |.v a,b,h=>by cases b<;>simp[BE.ez] at h;rw[h]
 |.cmp o a b,x,h=>by
  cases x<;>simp[BE.ez,vD] at h;obtain⟨⟨rfl,Z⟩,X⟩:=h;rw[IE.bi _ _ Z,IE.bi _ _ X]
 |.not a,x,h=>by
  cases x<;>simp[BE.ez] at h;rw[BE.bi _ _ h]
 |.and a b,x,h=>by
  cases x<;>simp[BE.ez] at h;rw[BE.bi _ _ h.1,BE.bi _ _ h.2]
 |.beq a b,x,h=>by
  cases x<;>simp[BE.ez] at h;rw[BE.bi _ _ h.1,BE.bi _ _ h.2]
 |.b9 b a c,x,h=>by
  cases x<;>simp[BE.ez] at h;obtain⟨⟨W,Z⟩,X⟩:=h;rw[BE.bi _ _ W,BE.bi _ _ Z,BE.bi _ _ X]
 |.cell r i j,x,h=>by
  cases x<;>simp[BE.ez] at h;obtain⟨⟨W,Z⟩,rfl⟩:=h;rw[RE.bi _ _ W,IE.bi _ _ Z]
 |.seq a b,x,h=>by
  cases x<;>simp[BE.ez] at h;rw[RE.bi _ _ h.1,RE.bi _ _ h.2]
 |.look r n a b c j,x,h=>by
  cases x<;>simp[BE.ez] at h;obtain⟨⟨⟨⟨⟨W,rfl⟩,Z⟩,X⟩,V⟩,rfl⟩:=h;rw[RE.bi _ _ W,IE.bi _ _ Z,IE.bi _ _ X,IE.bi _ _ V]
 |.has r n a b c,x,h=>by
  cases x<;>simp[BE.ez] at h;obtain⟨⟨⟨⟨W,rfl⟩,Z⟩,X⟩,V⟩:=h;rw[RE.bi _ _ W,IE.bi _ _ Z,IE.bi _ _ X,IE.bi _ _ V]
def RE.bi:∀(a b:RE),RE.same a b=true->a=b
 |.v a,b,h=>by cases b<;>simp[RE.ez] at h;rw[h]
 |.cell r i j k,x,h=>by
  cases x<;>simp[RE.ez] at h;obtain⟨⟨⟨Z,X⟩,rfl⟩,rfl⟩:=h;rw[RE.bi _ _ Z,IE.bi _ _ X]
 |.k a,b,h=>by cases b<;>simp[RE.ez] at h;rw[acG _ _ h]
end
mutual
def SV.bi:∀(a b:SV),SV.same a b=true->a=b
 |.int k e,x,h=>by cases x<;>simp[SV.ez] at h;rw[h.1,IE.bi _ _ h.2]
 |.bool b,x,h=>by cases x<;>simp[SV.ez] at h;rw[BE.bi _ _ h]
 |.ref r,x,h=>by cases x<;>simp[SV.ez] at h;rw[RE.bi _ _ h]
 |.loc i o,x,h=>by cases x<;>simp[SV.ez] at h;rw[h.1,h.2]
 |.el r w i o,x,h=>by
  cases x<;>simp[SV.ez] at h;obtain⟨⟨⟨Z,rfl⟩,X⟩,rfl⟩:=h;rw[RE.bi _ _ Z,IE.bi _ _ X]
 |.fo a b c d,x,h=>by
  cases x<;>simp[SV.ez] at h;obtain⟨⟨⟨rfl,rfl⟩,rfl⟩,rfl⟩:=h;rfl
 |.agg l,x,h=>by cases x<;>simp[SV.ez] at h;rw[SV.oq _ _ h]
 |.bh l,x,h=>by cases x<;>simp[SV.ez] at h;rw[SV.oq _ _ h]
 |.fn f l,x,h=>by cases x<;>simp[SV.ez] at h;rw[h.1,SV.oq _ _ h.2]
 |.dD t y,x,h=>by cases x<;>simp[SV.ez] at h;rw[h.1,SV.bi _ _ h.2]
 |.yl n,x,h=>by cases x<;>simp[SV.ez] at h;rw[h]
 |.any,x,h=>by cases x<;>simp[SV.ez] at h;rfl
 |.mp i,x,h=>by cases x<;>simp[SV.ez] at h;rw[h]
 |.dE e W V,x,h=>by cases x<;>simp[SV.ez] at h;rw[IE.bi _ _ h.1.1,h.1.2,SV.oq _ _ h.2]
def SV.oq:∀(a b:List SV),SV.mB a b=true->a=b
 |[],b,h=>by cases b<;>simp[SV.acn] at h;rfl
 |x::Z,b,h=>by cases b<;>simp[SV.acn] at h;rw[SV.bi _ _ h.1,SV.oq _ _ h.2]
end
structure fj(O O':aa)(ni nb nr:Nat):Prop where
 i:∀k,k<ni->O'.i.getD k 0=O.i.getD k 0
 b:∀k,k<nb->O'.b.getD k false=O.b.getD k false
 r:∀k,k<nr->O'.rv k=O.rv k
 y:O'.y=O.y
mutual
def IE.cn{O X:aa}{W V U:Nat}(Z:fj O X W V U):∀(e:IE),e.bd W V U=true->e.den X=e.den O
 |.c n,_=>by simp[IE.den]
 |.v k,h=>by simp[IE.aL] at h;simp only[IE.den];exact Z.i k h
 |.bin o k a b,h=>by simp[IE.aL] at h;simp only[IE.den,IE.cn Z a h.1,IE.cn Z b h.2]
 |.conv k a,h=>by simp[IE.aL] at h;simp only[IE.den,IE.cn Z a h]
 |.len r,h=>by simp[IE.aL] at h;simp only[IE.den,RE.nh Z r h]
 |.mm m a b,h=>by simp[IE.aL] at h;simp only[IE.den,IE.cn Z a h.1,IE.cn Z b h.2]
 |.b9 b x y,h=>by simp[IE.aL] at h;simp only[IE.den,BE.cn Z b h.1.1,IE.cn Z x h.1.2,IE.cn Z y h.2]
 |.cell r i j,h=>by simp[IE.aL] at h;simp only[IE.den,IE.cn Z i h.2,RE.nh Z r h.1]
 |.j6 r i,h=>by simp[IE.aL] at h;simp only[IE.den,RE.nh Z r h.1,IE.cn Z i h.2]
 |.look r n a b c j,h=>by simp[IE.aL] at h;simp only[IE.den,RE.nh Z r h.1.1.1,IE.cn Z a h.1.1.2,IE.cn Z b h.1.2,IE.cn Z c h.2]
def BE.cn{O X:aa}{W V U:Nat}(Z:fj O X W V U):∀(e:BE),e.bd W V U=true->e.den X=e.den O
 |.c n,_=>by simp[BE.den]
 |.v k,h=>by simp[BE.aL] at h;simp only[BE.den];exact Z.b k h
 |.cmp o a b,h=>by simp[BE.aL] at h;simp only[BE.den,IE.cn Z a h.1,IE.cn Z b h.2]
 |.not a,h=>by simp[BE.aL] at h;simp only[BE.den,BE.cn Z a h]
 |.and a b,h=>by simp[BE.aL] at h;simp only[BE.den,BE.cn Z a h.1,BE.cn Z b h.2]
 |.beq a b,h=>by simp[BE.aL] at h;simp only[BE.den,BE.cn Z a h.1,BE.cn Z b h.2]
 |.b9 b x y,h=>by simp[BE.aL] at h;simp only[BE.den,BE.cn Z b h.1.1,BE.cn Z x h.1.2,BE.cn Z y h.2]
 |.cell r i j,h=>by simp[BE.aL] at h;simp only[BE.den,IE.cn Z i h.2,RE.nh Z r h.1]
 |.seq a b,h=>by simp[BE.aL] at h;simp only[BE.den,RE.nh Z a h.1,RE.nh Z b h.2]
 |.look r n a b c j,h=>by simp[BE.aL] at h;simp only[BE.den,RE.nh Z r h.1.1.1,IE.cn Z a h.1.1.2,IE.cn Z b h.1.2,IE.cn Z c h.2]
 |.has r n a b c,h=>by simp[BE.aL] at h;simp only[BE.den,RE.nh Z r h.1.1.1,IE.cn Z a h.1.1.2,IE.cn Z b h.1.2,IE.cn Z c h.2]
def RE.nh{O X:aa}{W V U:Nat}(Z:fj O X W V U):∀(e:RE),e.bd W V U=true->e.rv X=e.rv O
 |.v k,h=>by simp[RE.aL] at h;simp only[RE.rv,Z.r k h]
 |.cell r i j k,h=>by simp[RE.aL] at h;simp only[RE.rv,IE.cn Z i h.2,RE.nh Z r h.1]
 |.k v,_=>by simp[RE.rv]
end
def RE.cn(W:fj n c X I e)(Z:RE)(h:Z.bd X I e=true):Z.den c=Z.den n:=by simp only[RE.den,RE.nh W Z h]
mutual
def SV.cn{O W:aa}{V U:List Nat}{R Q P:Nat}{N:Nat->Bool}(Z:fj O W R Q P)(X:∀k,N k=true->ad U k=ad V k):∀(v:SV),v.bd R Q P N=true->v.den W U=v.den O V
 |.int k e,h=>by simp[SV.aL] at h;simp only[SV.den,IE.cn Z e h]
 |.bool e,h=>by simp[SV.aL] at h;simp only[SV.den,BE.cn Z e h]
 |.ref e,h=>by simp[SV.aL] at h;simp only[SV.den,RE.cn Z e h]
 |.loc i o,h=>by simp[SV.aL] at h;simp only[SV.den,X i h]
 |.el r w i o,h=>by simp[SV.aL] at h;simp only[SV.den,RE.cn Z r h.1,IE.cn Z i h.2]
 |.fo i o l c,h=>by simp[SV.aL] at h;simp only[SV.den,X i h]
 |.agg l,h=>by simp[SV.aL] at h;simp only[SV.den,SV.Fa Z X l h]
 |.bh l,h=>by simp[SV.aL] at h;simp only[SV.den,SV.Fa Z X l h]
 |.fn f l,h=>by simp[SV.aL] at h;simp only[SV.den,SV.Fa Z X l h]
 |.dD t x,h=>by simp[SV.aL] at h;simp only[SV.den,SV.cn Z X x h]
 |.yl n,_=>by simp only[SV.den,Z.y]
 |.any,_=>by simp[SV.den]
 |.mp i,h=>by simp[SV.aL] at h;simp only[SV.den,X i h]
 |.dE e L M,h=>by simp[SV.aL] at h;simp only[SV.den,IE.cn Z e h.1,SV.Fa Z X M h.2]
def SV.Fa{O Z:aa}{V X:List Nat}{W U R:Nat}{Q:Nat->Bool}(P:fj O Z W U R)(N:∀k,Q k=true->ad X k=ad V k):∀(l:List SV),SV.ck W U R Q l=true->SV.au Z X l=SV.au O V l
 |[],_=>rfl
 |x::M,h=>by simp[SV.eU] at h;simp only[SV.au,SV.cn P N x h.1,SV.Fa P N M h.2]
end
def qG{X W V:Nat}{U:Nat->Bool}:∀{l:List SV}{i:Nat}{v:SV},SV.ck X W V U l=true->l[i]?=some v->v.bd X W V U=true
 |[],i,v,_,h=>by simp at h
 |x::R,0,v,Z,h=>by simp[SV.eU] at Z;simp at h;exact h▸Z.1
 |x::R,i+1,v,Z,h=>by simp[SV.eU] at Z;simp at h;exact qG Z.2 h
def gg:bD N X=some x<->N[X]?=some (some x):=by
 simp only[bS];cases h:N[X]? with
 |none=>simp
 |some Z=>cases Z<;>simp
def ot{W V U:Nat}{R:Nat->Bool}:∀{l:aX}{i:Nat}{v:TypeId×List SV},SV.mC W V U R l=true->bD l i=some v->SV.ck W V U R v.2=true
 |[],i,v,_,h=>by simp[bS] at h
 |some x::X,0,v,Z,h=>by simp[SV.mC] at Z;simp[bS] at h;exact h▸Z.1
 |none::X,0,v,Z,h=>by simp[bS] at h
 |some x::X,i+1,v,Z,h=>by simp[SV.mC] at Z;exact ot Z.2 (by simpa[bS] using h)
 |none::X,i+1,v,Z,h=>by simp[SV.mC] at Z;exact ot Z (by simpa[bS] using h)
def fj.refl(O:aa)(Z X W:Nat):fj O O Z X W:=⟨λ_ _=>rfl,λ_ _=>rfl,λ_ _=>rfl,rfl⟩
def fj.trans{a b c:aa}{X W V:Nat}(h:fj a b X W V)(k:fj b c X W V):fj a c X W V:=
 ⟨λj Z=>(k.i j Z).trans (h.i j Z),λj Z=>(k.b j Z).trans (h.b j Z),λj Z=>(k.r j Z).trans (h.r j Z),k.y.trans h.y⟩
def fj.mono{Z W V:Nat}(h:fj n c X I e)(R:Z<=X)(Q:W<=I)(P:V<=e):fj n c Z W V:=
 ⟨λj U=>h.i j (by omega),λj U=>h.b j (by omega),λj U=>h.r j (by omega),h.y⟩
def M1(O:aa)(x:XV):fj O (O.add x) O.i.length O.b.length O.r.length:=by
 cases x<;>refine⟨λk Z=> ?_,λk Z=> ?_,λk Z=> ?_,rfl⟩<;>simp[aa.add,aa.rv,ayD,Z]
def zZ:∀(Z:List XV)(O:aa),fj O (O.ext Z) O.i.length O.b.length O.r.length
 |[],O=>fj.refl _ _ _ _
 |x::Z,O=>by
  have X:=M1 O x;have W:=zZ Z (O.add x);exact X.trans (W.mono (by cases x<;>simp[aa.add]) (by cases x<;>simp[aa.add]) (by cases x<;>simp[aa.add]))
mutual
def M2{O:aa}{V Z:List Nat}(h:ad Z=ad V):∀(v:SV),v.den O Z=v.den O V
 |.int k e=>by simp only[SV.den]
 |.bool e=>by simp only[SV.den]
 |.ref e=>by simp only[SV.den]
 |.loc i o=>by simp only[SV.den,h]
 |.el r w i o=>by simp only[SV.den]
 |.fo i o l c=>by simp only[SV.den,h]
 |.agg l=>by simp only[SV.den,I7 h l]
 |.bh l=>by simp only[SV.den,I7 h l]
 |.fn f l=>by simp only[SV.den,I7 h l]
 |.dD t x=>by simp only[SV.den,M2 h x]
 |.yl n=>by simp only[SV.den]
 |.any=>by simp only[SV.den]
 |.mp i=>by simp only[SV.den,h]
 |.dE e W X=>by simp only[SV.den,I7 h X]
def I7{O:aa}{V Z:List Nat}(h:ad Z=ad V):∀(l:List SV),SV.au O Z l=SV.au O V l
 |[]=>rfl
 |x::X=>by simp only[SV.au,M2 h x,I7 h X]
end
def anh(O:aa)(V:List Nat)(v:SV):(v.eD O V).val=v.den O V:=by
 cases v<;>simp[SV.eD,SV.den,RE.den]
def acH(O:aa)(V:List Nat)(l:List SV):(SV.bX O V l).map RV.val=SV.au O V l:=by
 rw[lj,SV.bX,azo];exact ayZ λv _=>anh O V v
def ou(h:mw Z=false)(O:aa)(V:List Nat)(l:List SV):iS Z (SV.bX O V l)=.cells (SV.au O V l).toArray Z (0,0):=by
 have X:=of_decide_eq_false h;unfold iS;rw[if_neg (λe=>X (by rw[e];exact ayH _)),if_neg (λe=>X (by rw[e];decide)),if_neg (λe=>X (by rw[e];decide)),acH]
def ud(h:iQ N X=some (Z,M)):bD N X=some (Z,M)/\mw Z=false:=by
 unfold iQ at h;split at h;rename_i U R W;split at h;cases h;rename_i V;cases h;exact⟨W,by simpa using V⟩;cases h
def I8{Z:aX}(h:bD Z I=bD N X):iQ Z I=iQ N X:=by simp[iQ,h]
def Us(Z:fj n c X I e)(W:∀k,r k=true->ad l k=ad U k)(v:SV)(h:v.bd X I e r=true):v.eD c l=v.eD n U:=by
 have R:=SV.cn Z W v h;cases v<;>simp only[SV.eD]<;>try rw[R]
 simp only[SV.aL] at h;exact RE.nh Z _ h
def I9{O Z:aa}{V X:List Nat}{W U R:Nat}{Q:Nat->Bool}(P:fj O Z W U R)(N:∀k,Q k=true->ad X k=ad V k):∀(l:List SV),SV.ck W U R Q l=true->SV.bX Z X l=SV.bX O V l
 |[],_=>rfl
 |x::M,h=>by
  simp only[SV.eU,ayz] at h;have:=I9 P N M h.2;simp only[SV.bX,ayO] at this⊢;rw[Us P N x h.1,this]
def acI(h:ad l=ad U)(Z:List SV):SV.bX n l Z=SV.bX n U Z:=by
 refine ayZ λv _=> ?_
 have X:=M2 (O:=n) h v;cases v<;>simp only[SV.eD]<;>rw[X]
def Ut(x:Int):∀(Z:List Int)(X:List Value),fu (gM x Z X)=true
 |[],_=>by simp[gM,fu]
 |_::_,[]=>by simp[gM,fu]
 |k::Z,v::X=>by
  simp only[gM];split;split;rename_i h;exact h;rfl;exact Ut x Z X
def ani{v:Value}(h:fu v=true):v.cells.toList=[v]:=by
 cases v<;>simp[fu] at h<;>rfl
variable{J:TI}{R:SV}
section
def mH(c:CT):Value:=match c with
 |.int k=>.int k 0
 |.bool=>.bool false
 |.ax z _=>z
def TD.Ok(P:Program)(t:TypeId)(ae:List CT):TD->Prop
 |.struct Z=>∃F:Array Field,P.underlying t=some (.struct F)/\F.toList.map (λf=>(f.offset,f.type))=Z
 |.arr n e=>P.underlying t=some (.array n e)
 |.slice e=>P.underlying t=some (.slice e)
 |.str=>P.underlying t=some .string
 |.one=>∃d,P.underlying t=some d/\((match d with|.struct _|.array _ _|.slice _|.string|.interface _=>False|_=>True)/\∀k,ae=[.ax .nilFunc k]->∃a b c,d=.func a b c)/\(∀k,ae=[.int k]->d=.int k)/\(ae=[.bool]->d=.bool)
 |.dD=>∃m,P.underlying t=some (.interface m)
 |.map k e _ _=>P.underlying t=some (.map k e)
def xX:Value->Value->Option Bool
 |.int k a,.int Z b=>if k=Z then some (a==b) else none
 |.bool a,.bool b=>some (a==b)
 |.string a,.string b=>some (a.toList==b.toList)
 |_,_=>none
def xY:CT->Value->Prop
 |.int k,.int Z _=>k=Z
 |.bool,.bool _=>True
 |.ax _ .str,.string _=>True
 |_,_=>False
def ij:List CT->List Value->Prop
 |[],[]=>True
 |c::Z,v::X=>xY c v/\ij Z X
 |_,_=>False
def gh:List Value->List Value->Option Bool
 |[],[]=>some true
 |x::Z,y::X=>match xX x y,gh Z X with
  |some a,some b=>some (a&&b)
  |_,_=>none
 |_,_=>none
def dX(Z:Bool)(l:List Int):Value:=if Z then .agg (l.map (Value.int .i64)).toArray else .int .i64 (l.headD 0)
def sn:Value->List Int
 |.int _ x=>[x]
 |.agg Z=>Z.toList.map bc
 |_=>[]
def kf(l:List Int):List MapEntry->Nat->Option (Nat×Value)
 |[],_=>none
 |e::Z,i=>if sn e.key=l then some (i,e.val) else kf l Z (i+1)
def pD(P:Program)(k:TypeId)(n:Nat)(Z:Bool):Prop:=(Z=false->n=1)/\∀(l:List Int)(X:List MapEntry)(W:World),l.length=n->(∀e∈X,∃U:List Int,U.length=n/\e.key=dX Z U)->
 (∀b,(Instr.checkKey b 10000 k (dX Z l)).run P W=.ok () W)/\(Instr.findKey k (dX Z l) X).run P W=.ok (kf l X 0) W
def M3:Value->Bool
 |.agg _=>true
 |_=>false
structure cS(P:Program)(t:TypeId)(ti:TI):Prop where
 Fb:∃i,P.info? t=some i/\i.size=ti.ae.length/\∃z,i.zero=some z/\z.cells.toList=ti.ae.map mH
 desc:ti.d.Ok P t ti.ae
 bytes:∀i,P.info? t=some i->i.bytes<=131072
 eq:ti.eq=true->∀(xs ys:List Value)(r:Bool)(x y:Operand)(w:World),ij ti.ae xs->ij ti.ae ys->gh xs ys=some r->
  (do eqGuard .eql t x y (.agg xs.toArray) (.agg ys.toArray);binOp .eql t (.agg xs.toArray) (.agg ys.toArray)).run P w=.ok (.bool r) w/\
  (do eqGuard .neq t x y (.agg xs.toArray) (.agg ys.toArray);binOp .neq t (.agg xs.toArray) (.agg ys.toArray)).run P w=.ok (.bool !r) w
 key:∀k e n ag,ti.d=.map k e n ag->pD P k n ag
 acJ:∀i z,P.info? t=some i->i.zero=some z->M3 z=ti.d.isAgg
def fz(P:Program)(o:Ty):Prop:=∀t Z,o t=some Z->cS P t Z
def dg(gl:List (Nat×Nat×Nat))(O:aa):Prop:=∀x∈gl,x.2.1<O.r.length/\∃Z X,(O.rv x.2.1).val=.slice (some ⟨x.1,0,none⟩) Z X
section
variable{P:Program}{o:Ty}{gl:List (Nat×Nat×Nat)}{W:World}
def cS.eE{d:TypeDesc}(h:P.underlying Z=some d):(underlying Z).run P W=.ok d W:=by simp[underlying,h]
def cS.jN(h:cS P Z J):(Go.sizeOf Z).run P W=.ok J.ae.length W:=by
 obtain⟨i,X,U,_⟩:=h.Fb;simp[Go.sizeOf,typeInfo,X,U]
def cS.acK(h:cS P Z J):(isAgg Z).run P W=.ok J.d.isAgg W:=by
 have U:=h.desc;revert U;cases J.d<;>simp only[TD.Ok,TD.isAgg];rintro⟨d,X,⟨R,-⟩,-,-⟩;cases d<;>simp[isAgg,underlying,X]<;>simp at R;rintro⟨m,X⟩;simp[isAgg,underlying,X];intro X;simp[isAgg,underlying,X];intro X;simp[isAgg,underlying,X];intro X;simp[isAgg,underlying,X];rintro⟨F,X,-⟩;simp[isAgg,underlying,X];intro X;simp[isAgg,underlying,X]
def sq(b Z n:Nat):(⟨b,Z,none⟩:Addr).add n=⟨b,Z+n,none⟩:=by
 unfold Addr.add;split;rename_i h;subst h;rfl;rfl
def Uu(h:cS P Z J)(Q:rX J M X=some R):
  (part Z (SV.au n U M).toArray X).run P W=.ok (R.den n U) W:=by
 unfold rX at Q;simp only[part,Sem.run_bind,h.acK,Result.andThen_ok];by_cases N:J.d.isAgg=true;simp only[N,if_true] at Q⊢;split at Q;rename_i I;cases Q;simp only[SV.den,rW,Sem.run_bind,h.jN,Result.andThen_ok,Sem.run_pure];congr 2;apply azv;simp only[lj,List.map_take,List.map_drop,Array.toList_extract,List.extract_eq_take_drop];simp;cases Q;have L:J.d.isAgg=false:=by simpa using N
 simp only[L,ayV,if_false] at Q⊢;have:(SV.au n U M).toArray[X]?=some (R.den n U):=by simp[ol,Q]
 rw[this];rfl
def M4(h:cS P Z J){O:aa}{V:List Nat}{b base:Nat}(U:rX J M X=some R)
  (L:∀j x,M[j]?=some x->W.cell? ⟨b,base+j,none⟩=some (x.den O V)):
  (Instr.loadAt Z (.pointer (some ⟨b,base+X,none⟩))).run P W=.ok (R.den O V) W:=by
 unfold rX at U;simp only[Instr.loadAt,Instr.sureAddr,loadVar,Sem.run_bind,Sem.run_pure,Result.andThen_ok,h.acK];by_cases I:J.d.isAgg=true;simp only[I,if_true] at U⊢;split at U;rename_i F;cases U;simp only[Sem.run_bind,h.jN,Result.andThen_ok,SV.den];have H:(SV.au O V (rW M X J.ae.length)).length=J.ae.length:=by simp[rW];omega
 have:=run_loadCells_list (P:=P) W ⟨b,base+X,none⟩ (SV.au O V (rW M X J.ae.length)) (λj R Q=>by
  rw[ol] at Q;cases N:(rW M X J.ae.length)[j]? with
  |none=>rw[N] at Q;cases Q
  |some x=>
   rw[N] at Q;simp at Q;simp only[rW,ay7,azj] at N;split at N;rw[sq,<-Q,aAd];exact L _ _ N;cases N)
 rw[H] at this;rw[this];simp;cases U;have G:J.d.isAgg=false:=by simpa using I
 simp only[G,ayV,if_false] at U⊢;have:=L X R U;simp[this]
end
section
variable{p:List Nat}{q:World}{D:bz}{P:Program}{o:Ty}{gl:List (Nat×Nat×Nat)}{V:List Nat}{O:aa}{s:S}{a:Act}{W:World}
def anj(v:Value):(EE v).den O V=v:=by unfold EE;split<;>simp[SV.den,IE.den,BE.den,RE.den,RE.rv]
def ank(v:Value):(IB v).den O V=v:=by
 unfold IB;split;simp[SV.den,IE.den];simp[SV.den,BE.den];rename_i Z;simp only[SV.den,lj,azo];congr 1;have:(SV.den O V∘EE)=id:=by funext v;simp[anj]
 rw[this];simp;simp[SV.den,RE.den,RE.rv]
def bQ(R:ap p q D o V O s a W)(N:dg gl O)(x:Operand)(h:(s.ev gl x).cM=false):a.eval x=(s.ev gl x).den O V:=by
 cases x with
 |tmp t=>
  simp only[S.ev,rV,ayC] at h⊢;cases Z:s.tmps[t]? with
  |none=>rw[Z] at h;simp[SV.cM] at h
  |some M=>
   rw[Z] at h;simp only[azf] at h⊢;rcases R.tmps t M Z with rfl|X;simp[SV.cM] at h;simp[Act.eval,X]
 |const v=>simp only[S.ev,Act.eval,ank]
 |global g=>
  simp only[S.ev] at h⊢;split at h;rename_i k w U;obtain⟨X,J,I,L⟩:=N _ (azZ U);have Q:=aAx U;simp only[beq_iff_eq] at Q;simp only[SV.den,RE.den,RE.rv,Act.eval,kb,L,IE.den,Q];simp;simp[SV.cM] at h
 |func f=>simp[S.ev,Act.eval,SV.den,SV.au]
def Ja(Z:BinOp)(k:IntKind)(x y:IE):(Ca Z k x y).den O=aP Z k (x.den O) (y.den O):=by unfold Ca;split<;>simp[IE.den]
def xZ(Z:BinOp)(x y:IE):(lL Z x y).den O=ey Z (x.den O) (y.den O):=by unfold lL;split<;>simp[IE.den,BE.den]
def Jb(x:BE):(zN x).den O= !(x.den O):=by unfold zN;split<;>simp[BE.den]
def Uv(x y:BE):(qw x y).den O=(x.den O&&y.den O):=by unfold qw;split<;>simp[BE.den]
def Uw(x y:BE):(IC x y).den O=(x.den O==y.den O):=by unfold IC;split<;>simp[BE.den,Jb]<;>cases BE.den O _<;>simp
def anl(m:Bool)(x y:IE):(Mv m x y).den O=if m then max (x.den O) (y.den O) else min (x.den O) (y.den O):=by unfold Mv;split<;>simp[IE.den]
def Fc(i n:IE):(qy i n).den O=true<->0<=i.den O/\i.den O<n.den O:=by
 rw[qy,Uv,xZ,xZ,ayz];exact and_congr decide_eq_true_iff decide_eq_true_iff
def Ux(Z:Bool)(k:IntKind):∀(l:List SV)(e r:IE),Cb Z k e l=some r->
  ((SV.au O V l).foldlM (if Z then Builtin.max2 else Builtin.min2) (.int k (e.den O)):Sem Value).run P W=.ok (.int k (r.den O)) W
 |[],e,r,h=>by simp[Cb] at h;subst h;simp[SV.au]
 |.int U x::l,e,r,h=>by
  simp only[Cb] at h;split at h;have X:=Ux Z k l (Mv Z e x) r h;rw[anl] at X;simp only[SV.au,SV.den,List.foldlM_cons,Sem.run_bind];cases Z;simp only[ayV,if_false] at X⊢;simp only[Builtin.min2,Sem.run_pure,Result.andThen_ok];rw[show(if x.den O<e.den O then x.den O else e.den O)=min (e.den O) (x.den O) by omega];exact X;simp only[if_true] at X⊢;simp only[Builtin.max2,Sem.run_pure,Result.andThen_ok];rw[show(if x.den O>e.den O then x.den O else e.den O)=max (e.den O) (x.den O) by omega];exact X;cases h
 |.bool _::_,_,_,h|.ref _::_,_,_,h|.loc _ _::_,_,_,h|.el _ _ _ _::_,_,_,h|.fo _ _ _ _::_,_,_,h|.agg _::_,_,_,h|.bh _::_,_,_,h|.fn _ _::_,_,_,h|.dD _ _::_,_,_,h|.any::_,_,_,h=>by simp[Cb] at h
end
end
variable{t:List Int}
section
section
variable{V:List Nat}{O:aa}
def M5{W U:Type}{x:Int}{f:W->U}:∀{X:List Int}{Z:List W},cJ x X (Z.map f)=(cJ x X Z).map f
 |[],Z=>by simp[cJ]
 |_::_,[]=>by simp[cJ]
 |k::X,v::Z=>by
  simp only[ayO,cJ];split;rfl;exact M5
def Fe{X:Type}{x:Int}:∀{W:List Int}{Z:List X}{v:X},cJ x W Z=some v->v∈Z
 |[],Z,v,h=>by simp[cJ] at h
 |_::_,[],v,h=>by simp[cJ] at h
 |k::W,u::Z,v,h=>by
  simp only[cJ] at h;split at h;cases h;simp;exact azG _ (Fe h)
def Uy{e:IE}:∀{W:List Int}{U:List SV}{y:IE},vz e W U=some y->∃w,y.den O=w/\(∀v,cJ (e.den O) W U=some v->∃k z,v=.int k z/\w=z.den O)/\(cJ (e.den O) W U=none->w=0)
 |[],[],y,h=>by simp[vz] at h;subst h;exact⟨0,rfl,λv h=>by simp[cJ] at h,λ_=>rfl⟩
 |k::W,v::U,y,h=>by
  cases v<;>simp only[vz] at h<;>try cases h
  rename_i Q x;cases R:vz e W U with
  |none=>rw[R] at h;cases h
  |some L=>
   rw[R] at h;simp only[ayI,ayE] at h;subst h;obtain⟨w,P,N,M⟩:=Uy R;simp only[IE.den,BE.den,ey,cJ];by_cases X:e.den O=k;refine⟨x.den O,by simp[X],λv Z=> ?_,λZ=> ?_⟩;rw[if_pos X] at Z;cases Z;exact⟨Q,x,rfl,rfl⟩;rw[if_pos X] at Z;cases Z;refine⟨w,by simp[X,P],λv Z=> ?_,λZ=> ?_⟩;rw[if_neg X] at Z;exact N v Z;rw[if_neg X] at Z;exact M Z
 |[],_::_,y,h=>by simp[vz] at h
 |_::_,[],y,h=>by simp[vz] at h
def acL{e:IE}:∀{W:List Int}{U:List SV}{y:BE},xG e W U=some y->∃w,y.den O=w/\(∀v,cJ (e.den O) W U=some v->∃z,v=.bool z/\w=z.den O)/\(cJ (e.den O) W U=none->w=false)
 |[],[],y,h=>by simp[xG] at h;subst h;exact⟨false,rfl,λv h=>by simp[cJ] at h,λ_=>rfl⟩
 |k::W,v::U,y,h=>by
  cases v<;>simp only[xG] at h<;>try cases h
  rename_i x;cases R:xG e W U with
  |none=>rw[R] at h;cases h
  |some M=>
   rw[R] at h;simp only[ayI,ayE] at h;subst h;obtain⟨w,Q,P,N⟩:=acL R;simp only[BE.den,IE.den,ey,cJ];by_cases X:e.den O=k;refine⟨x.den O,by simp[X],λv Z=> ?_,λZ=> ?_⟩;rw[if_pos X] at Z;cases Z;exact⟨x,rfl,rfl⟩;rw[if_pos X] at Z;cases Z;refine⟨w,by simp[X,Q],λv Z=> ?_,λZ=> ?_⟩;rw[if_neg X] at Z;exact P v Z;rw[if_neg X] at Z;exact N Z
 |[],_::_,y,h=>by simp[xG] at h
 |_::_,[],y,h=>by simp[xG] at h
def acM{x:Int}:∀{ks:List Int}{Z:List SV},Z.all EH=true->(∀v,cJ x ks Z=some v->gM x ks (SV.au O V Z)=v.den O V)/\(cJ x ks Z=none->gM x ks (SV.au O V Z)=.nilFunc)
 |[],Z,_=>⟨λv h=>by simp[cJ] at h,λ_=>by simp[gM]⟩
 |_::_,[],_=>⟨λv h=>by simp[cJ] at h,λ_=>by simp[gM,SV.au]⟩
 |k::ks,u::Z,X=>by
  simp only[aAv,ayz] at X;obtain⟨R,Q⟩:=acM (ks:=ks) X.2;simp only[cJ,SV.au,gM];by_cases U:x=k;simp only[U,if_true];refine⟨λv W=> ?_,λW=>by cases W⟩;cases W;have P:fu (u.den O V)=true:=by
   have:=X.1;unfold EH at this;split at this;rfl;rfl;cases this
  rw[if_pos P];simp only[U,if_false];exact⟨R,Q⟩
def anm{e:IE}{N:CT}(h:TQ e t M N=some R):(∀v,cJ (e.den O) t M=some v->R.den O V=v.den O V)/\(cJ (e.den O) t M=none->R.den O V=mH N):=by
 unfold TQ at h;split at h;rename_i k;split at h;rename_i Q;cases X:vz e t M with
 |none=>rw[X] at h;cases h
 |some y=>
  rw[X] at h;simp only[ayI,ayE] at h;subst h;obtain⟨x,W,U,P⟩:=Uy (O:=O) X;refine⟨λv Z=> ?_,λZ=>by simp only[SV.den,W,P Z,mH]⟩;obtain⟨L,z,rfl,rfl⟩:=U v Z;have:=ayM.1 Q _ (Fe Z);simp at this;subst this;simp only[SV.den,W]
 cases h;cases X:xG e t M with
 |none=>rw[X] at h;cases h
 |some y=>
  rw[X] at h;simp only[ayI,ayE] at h;subst h;obtain⟨x,W,U,P⟩:=acL (O:=O) X;refine⟨λv Z=> ?_,λZ=>by simp only[SV.den,W,P Z,mH]⟩;obtain⟨z,rfl,rfl⟩:=U v Z;simp only[SV.den,W]
 split at h;rename_i Q;simp only[ayz] at Q;cases h;obtain⟨W,U⟩:=acM (O:=O) (V:=V) (x:=e.den O) (ks:=t) Q.1;exact⟨λv Z=>by simp only[SV.den];exact W v Z,λZ=>by simp only[SV.den,mH];exact U Z⟩;cases h;cases h
def M6{e:IE}{U:List Int}{R:List (List SV)}:∀{ae:List CT}{j:Nat}{l:List SV},xI e U R j ae=some l->
  l.length=ae.length/\(∀Z,cJ (e.den O) U R=some Z->Z.length=j+ae.length->SV.au O V l=SV.au O V (Z.drop j))/\(cJ (e.den O) U R=none->SV.au O V l=ae.map mH)
 |[],j,l,h=>by
  simp[xI] at h;subst h;exact⟨rfl,λZ _ W=>by rw[aA0 (by simp at W;omega)],λ_=>rfl⟩
 |c::ae,j,l,h=>by
  simp only[xI] at h;split at h;rename_i v r M L;cases h;obtain⟨J,I,H⟩:=M6 L;obtain⟨Q,P⟩:=anm (O:=O) (V:=V) M;rw[M5] at Q P;refine⟨by simp[J],λZ X W=> ?_,λX=> ?_⟩;have N:j<Z.length:=by simp at W;omega
  rw[azx N];simp only[SV.au];rw[I Z X (by simp at W⊢;omega),Q _ (by rw[X];rfl)];simp[ayC,N];simp only[SV.au,ayO];rw[H X,P (by rw[X];rfl)];cases h
def M7{e:IE}:∀{Z:List Int}{X:Type}{W:List X},Z.length=W.length->(Ce e Z).den O=(cJ (e.den O) Z W).isSome
 |[],X,W,h=>by simp[Ce,BE.den,cJ]
 |k::Z,X,[],h=>by simp at h
 |k::Z,X,v::W,h=>by
  simp only[Ce,BE.den,IE.den,ey,cJ];by_cases U:e.den O=k;simp[U];simp only[U,if_false,beq_iff_eq];exact M7 (by simpa using h)
def M8(X:∀r:RE,r.B8=true->fu (r.den O)=true)(h:vA J R=true):R.den O V=if J.d.isAgg then .agg (SV.au O V R.cells).toArray else(SV.au O V R.cells).headD undef:=by
 simp only[vA,ayz] at h;obtain⟨⟨-,W⟩,Z⟩:=h;cases R<;>simp only[ayS] at Z<;>rw[Z]<;>rfl
def ya(h:y=false->M.length=1):(n9 y M).den O V=if y then .agg (SV.au O V M).toArray else(SV.au O V M).headD undef:=by
 cases y;obtain⟨x,rfl⟩:=ay5.1 (h rfl);rfl;rfl
def M9{x:Int}:∀{X:List Int}{Z:List SV}{v:SV},cJ x X Z=some v->fu (v.den O V)=true->gM x X (SV.au O V Z)=v.den O V
 |[],Z,v,h,_=>by simp[cJ] at h
 |_::_,[],v,h,_=>by simp[cJ] at h
 |k::X,u::Z,v,h,U=>by
  simp only[cJ] at h;simp only[SV.au,gM];split at h;rename_i W;cases h;rw[if_pos W,if_pos U];rename_i W;rw[if_neg W];exact M9 h U
def ann(h:vA J R=true):(J.d.isAgg=false->J.ae.length=1)/\R.cells.length=J.ae.length:=by
 simp only[vA,ayz,beq_iff_eq] at h;obtain⟨⟨Z,U⟩,X⟩:=h;refine⟨λW=> ?_,Z⟩;cases R<;>simp only[SV.cells,aAg] at Z<;>first|exact Z.symm|(rw[W] at X;cases X)
def acN(Q:∀r:RE,r.B8=true->fu (r.den O)=true){e:IE}{p:SV}(h:My J e t M=some R)(X:cJ (e.den O) t M=some p):R.den O V=p.den O V:=by
 unfold My at h;split at h;rename_i P;cases Z:xI e t (M.map SV.cells) 0 J.ae with
 |none=>rw[Z] at h;cases h
 |some l=>
  rw[Z] at h;cases h;obtain⟨N,L,-⟩:=M6 (O:=O) (V:=V) Z;have I:=Fe X;have W:=ayM.1 P p I;obtain⟨H,G⟩:=ann W;have U:=L p.cells (by rw[M5,X];rfl) (by rw[G,ay9]);rw[aBS] at U;rw[ya (λF=>by rw[N];exact H F),M8 Q W,U]
 cases h
def acO{Z:Type}{x:Int}{f:Nat->Z}(N:0<=x)(M:x<(X:Int)):cJ x (xJ X) ((ayQ X).map f)=some (f x.toNat):=by
 unfold xJ;have W:∀(m k:Nat),(k:Int)<=x->x<((k+m:Nat):Int)->cJ x ((azW k m).map λi:Nat=>(i:Int)) ((azW k m).map f)=some (f x.toNat):=by
  intro m;induction m with
  |zero=>intro k U R;omega
  |succ m Q=>
   intro k U R;simp only[aAI,ayO,cJ];split;rename_i P;subst P;simp;exact Q (k+1) (by omega) (by omega)
 rw[aAo];exact W X 0 (by omega) (by omega)
def Uz{W N:Type}{f:W->Option N}{x:Int}:∀{U:List Int}{vs:List W}{X:List N}{v:W},zO (vs.map f)=some X->cJ x U vs=some v->∃p,f v=some p/\cJ x U X=some p
 |[],vs,X,v,_,h=>by simp[cJ] at h
 |_::_,[],X,v,_,h=>by simp[cJ] at h
 |k::U,u::vs,X,v,Z,h=>by
  simp only[ayO] at Z;cases R:f u with
  |none=>rw[R] at Z;cases Z
  |some p=>
   rw[R] at Z;simp only[zO] at Z;cases Q:zO (vs.map f) with
   |none=>rw[Q] at Z;cases Z
   |some M=>
    rw[Q] at Z;simp only[ayI,ayE] at Z;subst Z;simp only[cJ] at h⊢;split at h;rename_i P;cases h;rw[if_pos P];exact⟨p,R,rfl⟩;rename_i P;rw[if_neg P];exact Uz Q h
def acP(h:tU M=some X)(W:R∈M):∃Z,R=.loc X Z:=by
 unfold tU at h;split at h;rename_i j o r;split at h;rename_i U;cases h;have:=ayM.1 U R W;split at this;rename_i Q Z;simp only[beq_iff_eq] at this;subst this;exact⟨Z,rfl⟩;cases this;cases h;cases h
end
end
variable{Q:World}{k:RK}{H:RV}{h:List RV}{L:Oper}{G:Operand}
section
def PR.gives(O:aa)(v:SV):PR->Prop
 |.ok x=>v=x
 |.aF b x=>b.den O=true/\v=x
 |_=>False
def acQ{ty:Ty}(h:aW Q ty k H):cN k H=H:=by
 cases h with
 |sl e A R N Z=>rfl
 |str s=>rfl
 |ax H X=>simp[cN,X]
 |own e U h M=>cases h;rfl
 |dead U h=>simp[cN,h]
 |mr L Z=>rfl
def acR{ty:Ty}(k:RK):aW Q ty k (cN k default):=by
 cases k with
 |sl e=>
  refine aW.sl e none 0 0 [] rfl (ayH _) ?_ ?_ ?_ ?_<;>(intro i;intros;rename_i h;simp at*)
 |str=>exact aW.str _
 |ax=>exact aW.ax _ rfl
 |own e=>
  refine aW.own e _ (aW.sl e none 0 0 [] rfl (ayH _) ?_ ?_ ?_ ?_) (λl c h=>by cases h;rfl)<;>(intro i;intros;rename_i h;simp at*)
 |dead=>exact aW.dead _ rfl
 |mr Z=>
  refine aW.mr Z [] ?_ ?_ ?_ ?_<;>(intro i;intros;rename_i h;simp at*)
def ano(k:RK)(v:RV):fu (cN k v).val=true:=by
 cases k;simp only[cN];split;rename_i h;rw[h];rfl;rfl;simp only[cN];split<;>rfl;simp only[cN];split;rename_i h;exact h;rfl;simp only[cN];split;rename_i h;rw[h];rfl;rfl;simp only[cN];split;rename_i h;exact h;rfl;simp only[cN];split;rename_i h;rw[h];rfl;rfl
def Ff{ty:Ty}(h:aW Q ty k H):fu H.val=true:=by
 cases h with
 |sl e A R N Z=>rfl
 |str s=>rfl
 |ax H X=>exact X
 |own e U h M=>cases h;rfl
 |dead U h=>exact h
 |mr L Z=>rfl
def acS{ty:Ty}(h:aW Q ty k H):aW Q ty k.rd H:=by
 cases h with
 |own e E h C=>exact h
 |sl e A M L Z X U R N J I=>exact aW.sl e A M L Z X U R N J I
 |str s=>exact aW.str s
 |ax H G=>exact aW.ax H G
 |dead _ h=>exact aW.dead _ h
 |mr F Z X U R N=>exact aW.mr F Z X U R N
def anp{ty:Ty}(h:aW Q ty (.sl Z) H)(i:Int)(j:Nat)(k:RK)(X:Cc (aV ty (.sl Z))[j]?=k):aW Q ty k (cN k (cellAt H.rows i j)):=by
 cases h with
 |sl Z A y x I w u G F E C=>
  simp only[RV.jk,cellAt];cases U:I[i.toNat]? with
  |none=>simp only[ayC,U,aA3,List.getElem?_nil];exact acR k
  |some R=>
   simp only[ayC,U,azf];cases M:R[j]? with
   |none=>simp only[aA3];exact acR k
   |some c=>
    simp only[azf];have t:j<(aV ty (.sl Z)).length:=by
     have:=(G _ R U).1;have:=(ayA.1 M).1;omega
    cases N:(aV ty (.sl Z))[j]? with
    |none=>rw[azm] at N;omega
    |some B=>
     rw[N] at X;cases B with
     |int L=>
      simp only[Cc] at X;subst X;obtain⟨n,J⟩:=F _ _ R c L U M N;simp only[cN,J,fu,if_true];exact aW.ax _ rfl
     |bool=>
      simp only[Cc] at X;subst X;obtain⟨n,J⟩:=E _ _ R c U M N;simp only[cN,J,fu,if_true];exact aW.ax _ rfl
     |ax z L=>
      simp only[Cc] at X;subst X;have:=C _ _ R c z L U M N;rw[acQ this];exact this
section
variable{g:List Nat}{m:World}{D:bz}{P:Program}{ty:Ty}{B:List (Nat×Nat×Nat)}{V:List Nat}{O:aa}{s:S}{a:Act}{W:World}
def UA(R:ap g m D ty V O s a W)(h:s.rs[X]?=some k):aW W ty k (O.rv X):=by
 have Z:X<O.r.length:=by rw[R.er];exact(ayA.1 h).1
 have:=(R.mem.ref X k O.r[X] h (ayB Z)).1;simpa[aa.rv,Z] using this
def nj(R:ap g m D ty V O s a W):∀{r:RE}{e:RK},e≠ .ax->r.kind ty s=e->aW W ty e (r.rv O)
 |.v k,e,Z,h=>by
  simp only[RE.kind,ayC] at h;cases X:s.rs[k]? with
  |none=>rw[X] at h;exact absurd (show e=.ax from h.symm) Z
  |some q=>rw[X] at h;simp at h;subst h;exact acS (UA R X)
 |.cell r i j N,e,Z,h=>by
  simp only[RE.kind] at h;split at h;rename_i M U;split at h;rename_i Q;subst h;exact anp (nj R (by simp) U) (i.den O) j _ Q;exact absurd h.symm Z;exact absurd h.symm Z
 |.k v,e,Z,h=>by
  cases v<;>simp only[RE.kind] at h
  case string s=>subst h;exact aW.str s
  all_goals exact absurd h.symm Z
def Jc(R:ap g m D ty V O s a W){r:RE}(h:r.kind ty s=.sl Z):∃x l c,r.den O=.slice x l c:=by
 have:=nj R (by simp) h;unfold RE.den;revert this;generalize r.rv O=v;intro X;cases X with
 |sl Z A U Q N=>exact⟨A,U,Q,rfl⟩
def z6(R:ap g m D ty V O s a W){r:RE}(h:r.kind ty s=.str):∃x,r.den O=.string x:=by
 have:=nj R (by simp) h;unfold RE.den;revert this;generalize r.rv O=v;intro Z;cases Z with
 |str s=>exact⟨s,rfl⟩
def anq(Z:ap g m D ty V O s a W){c:CT}{y:SV}{e:BE}(h:EF ty s c R y=some e):xY c (R.den O V)/\xY c (y.den O V)/\xX (R.den O V) (y.den O V)=some (e.den O):=by
 unfold EF at h;split at h;split at h;rename_i X;obtain⟨rfl,rfl⟩:=X;cases h;exact⟨rfl,rfl,by simp[SV.den,xX,xZ,ey]⟩;cases h;cases h;exact⟨trivial,trivial,by simp[SV.den,xX,Uw]⟩;split at h;rename_i X;cases h;obtain⟨p,U⟩:=z6 Z X.1;obtain⟨q,Q⟩:=z6 Z X.2;simp only[SV.den,U,Q];unfold RE.den at U Q;exact⟨trivial,trivial,by simp[xX,BE.den,U,Q,qD]⟩;cases h;cases h
def acT(R:ap g m D ty V O s a W):∀{Z:List CT}{x y:List SV}{e:BE},m8 ty s Z x y=some e->ij Z (SV.au O V x)/\ij Z (SV.au O V y)/\gh (SV.au O V x) (SV.au O V y)=some (e.den O)
 |[],[],[],e,h=>by simp[m8] at h;subst h;exact⟨trivial,trivial,by simp[SV.au,gh,BE.den]⟩
 |c::Z,x::H,y::G,e,h=>by
  simp only[m8] at h;split at h;rename_i a b X U;cases h;obtain⟨Q,N,M⟩:=anq R X;obtain⟨L,J,I⟩:=acT R U;exact⟨⟨Q,L⟩,⟨N,J⟩,by simp only[SV.au,gh,M,I,Uv]⟩;cases h
 |[],[],_::_,e,h=>by simp[m8] at h
 |[],_::_,_,e,h=>by simp[m8] at h
 |_::_,[],_,e,h=>by simp[m8] at h
 |_::_,_::_,[],e,h=>by simp[m8] at h
def acU(R:ap g m D ty V O s a W){Z:Option TI}{y:List SV}{e:BE}(h:EG ty s Z M y=some e):∃ae d,Z=some ⟨d,ae,true⟩/\ij ae (SV.au O V M)/\ij ae (SV.au O V y)/\gh (SV.au O V M) (SV.au O V y)=some (e.den O):=by
 unfold EG at h;split at h;exact⟨_,_,rfl,acT R h⟩;cases h
def acV(J:aW W ty (.sl Z) H)(i:Int)(t:0<=i)(I:i<lenOf H.val):
  ∃U b R,H.rows[i.toNat]?=some U/\U.length=(aV ty (.sl Z)).length/\(∃l c,H.val=.slice (some ⟨b,R,none⟩) l c)/\(∀(j:Nat)(c:RV),U[j]?=some c->W.cell? ⟨b,R+i.toNat*(aV ty (.sl Z)).length+j,none⟩=some c.val)/\
   (∀(j:Nat)(c:RV)(Q:CT),U[j]?=some c->(aV ty (.sl Z))[j]?=some Q->match Q with
    |.int k=>∃n,c.val=.int k n
    |.bool=>∃x,c.val=.bool x
    |.ax _ k=>aW W ty k c):=by
 cases J with
 |sl Z A G F N r q E C B y=>
  simp only[RV.ji,lenOf] at I;have w:i.toNat<N.length:=by omega
  have X:N[i.toNat]?=some N[i.toNat]:=ayB w;obtain⟨v,b,R,rfl,p,u⟩:=E i.toNat _ X;refine⟨N[i.toNat],b,R,X,v,⟨G,F,rfl⟩,u,λj c Q M L=> ?_⟩;cases Q with
  |int k=>exact C _ j _ c k X M L
  |bool=>exact B _ j _ c X M L
  |ax z k=>exact y _ j _ c z k X M L
def anr{r:RE}{i:IE}{Z:CT}(N:(r.rv O).rows[(i.den O).toNat]?=some h)(M:h[X]?=some H)(U:match Z with
    |.int k=>∃n,H.val=.int k n
    |.bool=>∃y,H.val=.bool y
    |.ax _ k=>aW W ty k H):
  (zL r i X Z).den O V=H.val:=by
 have R:cellAt (r.rv O).rows (i.den O) X=H:=by simp[cellAt,N,M]
 cases Z with
 |int L=>obtain⟨n,Q⟩:=U;simp[zL,SV.den,IE.den,R,bc,Q]
 |bool=>obtain⟨n,Q⟩:=U;simp[zL,SV.den,BE.den,R,gv,Q]
 |ax z e=>simp only[zL,SV.den,RE.den,RE.rv,R];rw[acQ U]
def qH(R:ap g m D ty V O s a W):∀(r:RE),r.B8=true->fu (r.den O)=true
 |.v k,_=>by
  simp only[RE.den,RE.rv];by_cases Z:k<s.rs.length;exact Ff (UA R (ayB Z));have:O.rv k=default:=by
   have:=R.er;simp[aa.rv,show¬k<O.r.length by omega]
  rw[this];rfl
 |.cell r i j k,_=>ano k _
 |.k w,h=>h
def ans(X:ap g m D ty V O s a W)(C:fz P ty)(hg:dg B O)(J:L.op=.load Z G)(hk:(s.ev B G).cM=false)
  (h:(bv ty B s (.load Z G)).gives O R):(execOp a.eval L).run P W=.ok (.value (R.den O V)) W:=by
 have he:=bQ X hg G hk;simp only[execOp,J,Sem.run_bind,he];simp only[bv] at h;split at h;rename_i A i I H F;rw[F];split at h;rename_i p E U;split at h;rename_i w Q;cases h;have:=M4 (P:=P) (W:=W) (C _ _ H) (O:=O) (V:=V) (b:=ad V i) (base:=0) Q (λj y n=>by
  obtain⟨U,J⟩:=ud U;have:=X.mem.box i p E U;rw[ou J] at this;simp[World.cell?,this,ol,n])
 simp only[ay9] at this;simp only[SV.den,this,Result.andThen_ok,Sem.run_pure];exact h.elim;exact h.elim;rename_i A r w i I H F;rw[F];split at h;rename_i e a2;split at h;exact h.elim;rename_i hw;split at h;rename_i y Q;obtain⟨U,rfl⟩:=h;rw[Fc] at U;simp only[IE.den] at U;have hh:=nj X (by simp) a2;have a3:w=(aV ty (.sl e)).length:=by simpa using Eq.symm (by simpa using hw:(aV ty (.sl e)).length=w)
 obtain⟨k,b,ag,h1,a9,⟨l,c,h3⟩,h4,h5⟩:=acV hh (i.den O) U.1 U.2;have:=M4 (P:=P) (W:=W) (C _ _ H) (O:=O) (V:=V) (b:=b) (base:=ag+(i.den O).toNat*w) Q (λj z M=>by
  simp only[ayF] at M;cases f:(ayQ w)[j]? with
  |none=>rw[f] at M;cases M
  |some N=>
   have a4:j<w/\N=j:=by
    have:=ayA.1 f;obtain⟨q1,q2⟩:=this;simp at q1 q2;exact⟨q1,q2.symm⟩
   obtain⟨bb,rfl⟩:=a4;rw[f] at M;simp only[ayI,ayE] at M;have a5:(aV ty (.sl e))[N]?=some ((aV ty (.sl e)).getD N .bool):=by
    rw[ayC,ayB (by omega)];rfl
   have a6:N<k.length:=by omega
   have d:k[N]?=some k[N]:=ayB a6;rw[<-M,anr (W:=W) (ty:=ty) h1 d (h5 N _ _ d a5)];rw[a3];exact h4 N _ d)
 have hA:kb (RE.den O r) ((i.den O).toNat*w+I)=⟨b,ag+(i.den O).toNat*w+I,none⟩:=by
  simp only[RE.den,h3,kb,aAd]
 simp only[SV.den,hA,this,Result.andThen_ok,Sem.run_pure];exact h.elim;exact h.elim;rename_i A e ks vs H F;rw[F];split at h;rename_i p E U;split at h;rename_i w Q;split at h;rename_i al;obtain⟨an,rfl⟩:=h;simp only[beq_iff_eq] at al;cases ab:tU vs with
 |none=>rw[ab] at U;cases U
 |some i=>
  rw[ab] at U;simp only[aAJ] at U;rw[M7 al] at an;obtain⟨u,hu⟩:=ayT.1 an;obtain⟨I,rfl⟩:=acP ab (Fe hu);cases af:zO (vs.map (TS A E)) with
  |none=>rw[af] at Q;cases Q
  |some ps=>
   rw[af] at Q;simp only[aAJ] at Q;obtain⟨q,a0,a7⟩:=Uz af hu;simp only[TS] at a0;have a1:=M4 (P:=P) (W:=W) (C _ _ H) (O:=O) (V:=V) (b:=ad V i) (base:=0) a0 (λj y n=>by
    obtain⟨U,J⟩:=ud U;have:=X.mem.box i p E U;rw[ou J] at this;simp[World.cell?,this,ol,n])
   simp only[ay9] at a1;have a8:(SV.dE e ks vs).den O V=.pointer (some ⟨ad V i,I,none⟩):=by
    simp only[SV.den];rw[M9 hu rfl];rfl
   rw[a8,acN (qH X) Q a7];simp only[a1,Result.andThen_ok,Sem.run_pure]
 exact h.elim;exact h.elim;exact h.elim;exact h.elim
def ant(U:ap g m D ty V O s a W)(l:fz P ty)(e:dg B O)(d:L.op=.fieldAddr Z G X)(c:(s.ev B G).cM=false)
  (h:(bv ty B s (.fieldAddr Z G X)).gives O R):(execOp a.eval L).run P W=.ok (.value (R.den O V)) W:=by
 have he:=bQ U e G c;have k:∀(N:List (Nat×TypeId))(ae:List CT)(q:Bool)(J:Nat)(H:TypeId)(Q:TI)(A:Addr),ty Z=some ⟨.struct N,ae,q⟩->N[X]?=some (J,H)->ty H=some Q->(Q.ae.length==0)=false->A.spot=none->
   (Instr.fieldAt Z (.pointer (some A)) X).run P W=.ok (.pointer (some ⟨A.block,A.off+J,none⟩)) W:=by
  intro N ae q J H Q A h1 I h3 h4 j;obtain⟨F,hF,ab⟩:=(l _ _ h1).desc;rw[<-ab,ayF] at I;cases M:F.toList[X]? with
  |none=>rw[M] at I;cases I
  |some fd=>
   rw[M] at I;simp only[ayI,ayE,aAe] at I;obtain⟨rfl,rfl⟩:=I;have af:F[X]?=some fd:=by simpa using M
   have ag:¬Q.ae.length=0:=by simpa using h4
   obtain⟨b,of,sp⟩:=A;simp only at j;subst j;simp only[Instr.fieldAt,Instr.sureAddr,fieldPlace,Sem.run_bind,cS.eE hF,Result.andThen_ok,af,Sem.run_pure,(l _ _ h3).jN,if_neg ag,Sem.run_ite,sq]
 simp only[execOp,d,Sem.run_bind,he];simp only[bv] at h;split at h;rename_i N ae q i J E C;rw[C];split at h;rename_i z y M;split at h;rename_i Q u;split at h;exact h.elim;rename_i p;cases h;simp only[SV.den,k N ae q z y Q ⟨ad V i,J,none⟩ E M u (by simpa using p) rfl,Result.andThen_ok,Sem.run_pure];exact h.elim;exact h.elim;rename_i N ae q r w i J E C;rw[C];split at h;rename_i z y M;split at h;rename_i Q u;split at h;exact h.elim;rename_i p;cases h;have al:∀R n,(kb R n).spot=none:=by intro R n;unfold kb;split<;>rfl
 simp only[SV.den,k N ae q z y Q _ E M u (by simpa using p) (al _ _),Result.andThen_ok,Sem.run_pure];congr 4;unfold kb;split;simp only[Addr.mk.injEq,and_true,true_and];omega;simp only[Addr.mk.injEq,and_true,true_and];omega;exact h.elim;exact h.elim;exact h.elim
end
end
section
section
variable{C:List Nat}{E:World}{D:bz}{P:Program}{u:Ty}{B:List (Nat×Nat×Nat)}{V:List Nat}{O:aa}{s:S}{a:Act}{W:World}
def anu(U:ap C E D u V O s a W)(M:fz P u)(J:dg B O)(I:L.op=.field Z G X)(H:(s.ev B G).cM=false)
  (h:(bv u B s (.field Z G X)).gives O R):(execOp a.eval L).run P W=.ok (.value (R.den O V)) W:=by
 have A:=bQ U J G H;simp only[execOp,I,Sem.run_bind,A];simp only[bv] at h;split at h;rename_i i ae q l z w;rw[w];split at h;rename_i g e Q;split at h;rename_i d r;split at h;rename_i y p;cases h;obtain⟨F,n,m⟩:=(M _ _ z).desc;rw[<-m,ayF] at Q;cases N:F.toList[X]? with
 |none=>rw[N] at Q;cases Q
 |some k=>
  rw[N] at Q;simp only[ayI,ayE,aAe] at Q;obtain⟨rfl,rfl⟩:=Q;have j:F[X]?=some k:=by simpa using N
  simp only[SV.den,Instr.field,Sem.run_bind,cS.eE n,Result.andThen_ok,j,asAgg,Sem.run_pure,Uu (M _ _ r) p]
 exact h.elim;exact h.elim;exact h.elim;exact h.elim
def anv(X:ap C E D u V O s a W)(z:fz P u)(hg:dg B O){y:Operand}(ho:L.op=.indexAddr Z G y)(hk:(s.ev B G).cM=false)(af:(s.ev B y).cM=false)
  (h:(bv u B s (.indexAddr Z G y)).gives O R):(execOp a.eval L).run P W=.ok (.value (R.den O V)) W:=by
 have he:=bQ X hg G hk;have ag:=bQ X hg y af;have g:∀(n:Nat)(e:TypeId)(ae:List CT)(q:Bool)(Q:TI)(A:Addr)(k:IntKind)(m:Int),u Z=some ⟨.arr n e,ae,q⟩->u e=some Q->0<=m->m<n->A.spot=none->
   (Instr.indexAt Z (.pointer (some A)) (.int k m)).run P W=.ok (.pointer (some ⟨A.block,A.off+m.toNat*Q.ae.length,none⟩)) W:=by
  intro n e ae q Q A k m h1 h2 h3 h4 h5;have f:P.underlying Z=some (.array n e):=(z _ _ h1).desc;obtain⟨b,of,sp⟩:=A;simp only at h5;subst h5;simp only[Instr.indexAt,asIntOf,Sem.run_bind,Sem.run_pure,Result.andThen_ok,cS.eE f,Instr.sureAddr,h3,h4,and_self,if_true,(z _ _ h2).jN,sq]
 simp only[execOp,ho,Sem.run_bind,he,ag];simp only[bv] at h;split at h;rename_i n e ae q i F k m M I H;rw[I,H];split at h;rename_i Q J;split at h;rename_i N;cases h;simp only[ayz,decide_eq_true_eq] at N;simp only[SV.den,IE.den,g n e ae q Q ⟨ad V i,F,none⟩ k m M J N.1 N.2 rfl,Result.andThen_ok,Sem.run_pure];exact h.elim;exact h.elim;rename_i n e ae q r w i F k m M I H;rw[I,H];have d:∀R n,(kb R n).spot=none:=by intro R n;unfold kb;split<;>rfl
 have ab:∀(R:Value)(p q:Nat),(⟨(kb R p).block,(kb R p).off+q,none⟩:Addr)=kb R (p+q):=by intro R p q;unfold kb;split<;>simp[aAd]
 split at h;rename_i Q J;split at h;rename_i hc;obtain⟨U,rfl⟩:=h;rw[Fc] at U;simp only[ayz,beq_iff_eq] at hc;obtain⟨⟨⟨h1,h2⟩,h3⟩,-⟩:=hc;subst h1 h2 h3;simp only[IE.den] at U;simp only[SV.den,g n e ae q Q _ k (m.den O) M J U.1 U.2 (d _ _),Result.andThen_ok,Sem.run_pure,ab];simp[IE.den];split at h;rename_i m;split at h;rename_i N;cases h;simp only[ayz,decide_eq_true_eq] at N;simp only[SV.den,IE.den,g n e ae q Q _ k m M J N.1 N.2 (d _ _),Result.andThen_ok,Sem.run_pure,ab,aAd];exact h.elim;exact h.elim;exact h.elim;rename_i n e ae q r w i F k m a0 M I H;rw[I,H];have d:∀R n,(kb R n).spot=none:=by intro R n;unfold kb;split<;>rfl
 have ab:∀(R:Value)(p q:Nat),(⟨(kb R p).block,(kb R p).off+q,none⟩:Addr)=kb R (p+q):=by intro R p q;unfold kb;split<;>simp[aAd]
 split at h;rename_i Q J;split at h;rename_i N;cases h;simp only[ayz,decide_eq_true_eq] at N;simp only[SV.den,IE.den,g n e ae q Q _ k m M J N.1 N.2 (d _ _),Result.andThen_ok,Sem.run_pure,ab,aAd];exact h.elim;exact h.elim;rename_i e ae q r k m M I H;rw[I,H];split at h;rename_i Q e' J al;obtain⟨U,rfl⟩:=h;rw[Fc] at U;simp only[IE.den] at U;have hh:=acV (nj X (by simp) al) (m.den O) U.1 U.2;obtain⟨a1,b,F,-,-,⟨l,c,hv⟩,-⟩:=hh;have f:P.underlying Z=some (.slice e):=(z _ _ M).desc;rw[hv] at U;simp only[lenOf] at U;simp only[SV.den,RE.den,hv,Instr.indexAt,asIntOf,Sem.run_bind,Sem.run_pure,Result.andThen_ok,cS.eE f,U.1,U.2,and_self,if_true,(z _ _ J).jN,sq,kb,azU];exact h.elim;rename_i e ae q i F a2 a3 k m M I H;rw[I,H];split at h;rename_i Q J;split at h;rename_i N;cases h;simp only[ayz,decide_eq_true_eq] at N;have f:P.underlying Z=some (.slice e):=(z _ _ M).desc;simp only[SV.den,IE.den,Instr.indexAt,asIntOf,Sem.run_bind,Sem.run_pure,Result.andThen_ok,cS.eE f,N.1,N.2,and_self,if_true,(z _ _ J).jN,sq];exact h.elim;exact h.elim;rename_i n e ae q i F k m a4 M I H;rw[I,H];split at h;rename_i Q J;obtain⟨U,rfl⟩:=h;rw[Fc] at U;simp only[IE.den] at U;have an:(SV.dE m (xJ n) ((ayQ n).map λj=>SV.loc i (F+j*Q.ae.length))).den O V=.pointer (some ⟨ad V i,F+(m.den O).toNat*Q.ae.length,none⟩):=by
  simp only[SV.den];rw[M9 (acO U.1 U.2) rfl];rfl
 rw[an];simp only[SV.den,g n e ae q Q ⟨ad V i,F,none⟩ k (m.den O) M J U.1 U.2 rfl,Result.andThen_ok,Sem.run_pure];exact h.elim;exact h.elim
def anw(X:ap C E D u V O s a W)(Q:fz P u)(c:dg B O){y:Operand}(b:L.op=.index Z G y)(hk:(s.ev B G).cM=false)(ab:(s.ev B y).cM=false)
  (h:(bv u B s (.index Z G y)).gives O R):(execOp a.eval L).run P W=.ok (.value (R.den O V)) W:=by
 have he:=bQ X c G hk;have af:=bQ X c y ab;simp only[execOp,b,Sem.run_bind,he,af];simp only[bv] at h;split at h;rename_i n e ae q l k m N M J;rw[M,J];split at h;rename_i A I;split at h;rename_i w;split at h;rename_i z hp;cases h;simp only[ayz,decide_eq_true_eq] at w;have H:P.underlying Z=some (.array n e):=(Q _ _ N).desc;simp only[SV.den,IE.den,Instr.index,asIntOf,Sem.run_bind,Sem.run_pure,Result.andThen_ok,cS.eE H,w.1,w.2,and_self,if_true,(Q _ _ I).jN,Uu (Q _ _ I) hp];exact h.elim;exact h.elim;exact h.elim;rename_i n e ae q l k m a1 N M J;rw[M,J];split at h;rename_i A I;split at h;rename_i z F;obtain⟨U,rfl⟩:=h;rw[Fc] at U;simp only[IE.den] at U;cases i:zO ((ayQ n).map λj=>rX A l (j*A.ae.length)) with
 |none=>rw[i] at F;cases F
 |some ps=>
  rw[i] at F;simp only[aAJ] at F;obtain⟨p,ag,al⟩:=Uz (vs:=ayQ n) i (by have:=acO (f:=λj=>j) U.1 U.2;simpa using this);have H:P.underlying Z=some (.array n e):=(Q _ _ N).desc;rw[acN (qH X) F al];simp only[SV.den,Instr.index,asIntOf,Sem.run_bind,Sem.run_pure,Result.andThen_ok,cS.eE H,U.1,U.2,and_self,if_true,(Q _ _ I).jN,Uu (Q _ _ I) ag]
 exact h.elim;exact h.elim;rename_i ae q r k m N M J;rw[M,J];split at h;rename_i an;obtain⟨U,rfl⟩:=h;rw[Fc] at U;obtain⟨g,d⟩:=z6 X an;unfold RE.den at d;have H:P.underlying Z=some .string:=(Q _ _ N).desc;simp only[IE.den,d,lenOf] at U;have a0:(m.den O).toNat<g.size:=by omega
 simp only[SV.den,RE.den,d,IE.den,Instr.index,asIntOf,Sem.run_bind,Sem.run_pure,Result.andThen_ok,cS.eE H,U.1,if_true,zY];have:g[(m.den O).toNat]?=some g[(m.den O).toNat]:=by simp[a0]
 rw[this];rfl;exact h.elim;exact h.elim
def anx(Z:BinOp)(X:Mu Z=true)(t:TypeId)(k:IntKind)(m n:Int):(binOp Z t (.int k m) (.int k n)).run P W=.ok (.bool (ey Z m n)) W:=by
 cases Z<;>simp[Mu] at X<;>simp[binOp,Op.intCmp,ey]
def anz(Z:BinOp)(X:TN Z=true)(t:TypeId)(k:IntKind)(m n:Int):(binOp Z t (.int k m) (.int k n)).run P W=.ok (.int k (aP Z k m n)) W:=by
 cases Z<;>simp[TN] at X<;>simp[binOp,Op.intArith,aP]
def acW(Z:BinOp)(X:TO Z=true)(t:TypeId)(k:IntKind)(m n:Int)(U:n≠0):(binOp Z t (.int k m) (.int k n)).run P W=.ok (.int k (aP Z k m n)) W:=by
 cases Z<;>simp[TO] at X<;>simp[binOp,Op.intDiv,aP,U]
def acX(Z:BinOp)(t:TypeId)(x y:Operand)(k:IntKind)(n:Int)(w:Value):(eqGuard Z t x y (.int k n) w).run P W=.ok () W:=by cases Z<;>rfl
def anA(Z:BinOp)(t:TypeId)(x y:Operand)(n:Bool)(w:Value):(eqGuard Z t x y (.bool n) w).run P W=.ok () W:=by cases Z<;>rfl
def acY(Z:BinOp)(t:TypeId)(x y:Operand)(n:ByteArray)(w:Value):(eqGuard Z t x y (.string n) w).run P W=.ok () W:=by cases Z<;>rfl
def acZ(X:P.underlying Z=some .bool)(m n:Bool):(Op.equal Z (.bool m) (.bool n)).run P W=.ok (m==n) W:=by
 have:Op.equal Z (.bool m) (.bool n)=Op.equalIn (9999+1) Z (.bool m) (.bool n):=rfl;rw[this,Op.equalIn,Sem.run_bind,cS.eE X];rfl
def anB(X:P.underlying Z=some .bool)(m n:Bool):(binOp .eql Z (.bool m) (.bool n)).run P W=.ok (.bool (m==n)) W:=by
 show((Op.equal Z (.bool m) (.bool n))>>=λb=>(pure (.bool b):Sem Value)).run P W=_;rw[Sem.run_bind,acZ X];rfl
def anC(X:P.underlying Z=some .bool)(m n:Bool):(binOp .neq Z (.bool m) (.bool n)).run P W=.ok (.bool !(m==n)) W:=by
 show((Op.equal Z (.bool m) (.bool n))>>=λb=>(pure (.bool !b):Sem Value)).run P W=_;rw[Sem.run_bind,acZ X];rfl
def UB(X:fz P u)(h:ID (u Z)=true):∃a b c,P.underlying Z=some (.func a b c):=by
 unfold ID at h;split at h;rename_i k q U;obtain⟨d,R,⟨-,Q⟩,-,-⟩:=(X _ _ U).desc;obtain⟨a,b,c,rfl⟩:=Q k rfl;exact⟨a,b,c,R⟩;cases h
def UC{x y:Operand}{U:_}{R:_}{Q:_}(N:P.underlying Z=some (.func U R Q))(v:Value)(n:Bool)(X:(v=.nilFunc/\n=true)\/(∃f a b,v=.func f a b)/\n=false):
  (do eqGuard .eql Z x y v .nilFunc;binOp .eql Z v .nilFunc).run P W=.ok (.bool n) W/\(do eqGuard .neq Z x y v .nilFunc;binOp .neq Z v .nilFunc).run P W=.ok (.bool !n) W:=by
 have M:(Op.equal Z v .nilFunc).run P W=.ok n W:=by
  have L:Op.equal Z v .nilFunc=Op.equalIn (9999+1) Z v .nilFunc:=rfl;rw[L,Op.equalIn,Sem.run_bind,cS.eE N,Result.andThen_ok];rcases X with⟨rfl,rfl⟩|⟨⟨f,a,b,rfl⟩,rfl⟩<;>rfl
 rcases X with⟨rfl,rfl⟩|⟨⟨f,a,b,rfl⟩,rfl⟩<;>constructor<;>simp[eqGuard,binOp,M]
def ac0{e:IE}:∀{ks:List Int}{vs:List SV},vs.all EH=true->ks.length=vs.length->
  (gM (e.den O) ks (SV.au O V vs)=.nilFunc/\(xH e ks vs).den O=true)\/((∃f a b,gM (e.den O) ks (SV.au O V vs)=.func f a b)/\(xH e ks vs).den O=false)
 |[],[],_,_=>.inl ⟨rfl,rfl⟩
 |[],_::_,_,h=>by simp at h
 |_::_,[],_,h=>by simp at h
 |k::ks,v::vs,X,Q=>by
  simp only[aAv,ayz] at X;have R:=ac0 (e:=e) (ks:=ks) (vs:=vs) X.2 (by simpa using Q);have U:=X.1;unfold EH at U;split at U;rename_i g N;simp only[SV.au,SV.den,gM,xH,BE.den,ey,IE.den];by_cases Z:e.den O=k;right;simp[Z,fu];simp only[Z,if_false,beq_iff_eq];exact R;simp only[SV.au,SV.den,gM,xH,BE.den,ey,IE.den];by_cases Z:e.den O=k;left;simp[Z,RE.den,RE.rv,fu];simp only[Z,if_false,beq_iff_eq];exact R;cases U
def anD(X:ap C E D u V O s a W)(H:fz P u)(hg:dg B O){J:BinOp}{t2:TypeId}{y:Operand}(ho:L.op=.binOp J Z G y t2)(hk:(s.ev B G).cM=false)(ab:(s.ev B y).cM=false)
  (h:(bv u B s (.binOp J Z G y t2)).gives O R):(execOp a.eval L).run P W=.ok (.value (R.den O V)) W:=by
 have i:=bQ X hg G hk;have af:=bQ X hg y ab;simp only[execOp,ho];rw[Sem.run_bind,i,af];simp only[bv] at h;split at h;rename_i k m k' n U Q;rw[U,Q];split at h;rename_i ag;have al:J=.shr:=by cases J<;>simp[acl] at ag;rfl
 subst al;split at h;rename_i n;split at h;rename_i M;have g:¬n<0:=by simp only[decide_eq_true_eq] at M;omega
 cases h;simp only[SV.den,Ja,IE.den];rw[Sem.run_bind,acX,Result.andThen_ok];simp[binOp,Op.shift,aP,g];exact h.elim;exact h.elim;split at h;exact h.elim;rename_i an;have a0:k=k':=by simpa using an
 subst a0;simp only[SV.den];rw[Sem.run_bind,acX,Result.andThen_ok];split at h;rename_i l;cases h;simp only[anx J l,Result.andThen_ok,Sem.run_pure,SV.den,xZ];split at h;rename_i l;cases h;simp only[anz J l,Result.andThen_ok,Sem.run_pure,SV.den,Ja];split at h;rename_i l;split at h;rename_i n;split at h;exact h.elim;rename_i M;cases h;have g:n≠0:=by simpa using M
 simp only[SV.den,Ja,IE.den];rw[acW J l _ _ _ _ g];rfl;obtain⟨j,rfl⟩:=h;rw[xZ] at j;have g:n.den O≠0:=by simpa[ey,IE.den] using j
 simp only[SV.den,Ja];rw[acW J l _ _ _ _ g];rfl;exact h.elim;rename_i m n U Q;rw[U,Q];simp only[SV.den];rw[Sem.run_bind,anA,Result.andThen_ok];split at h;rename_i q F;cases h;obtain⟨d,N,-,-,j⟩:=(H _ _ F).desc;rw[j rfl] at N;rw[anB N];simp[SV.den,Uw];rename_i q F;cases h;obtain⟨d,N,-,-,j⟩:=(H _ _ F).desc;rw[j rfl] at N;rw[anC N];simp[SV.den,Uw,Jb];exact h.elim;rename_i U Q;rw[U,Q];split at h;exact h.elim;rename_i I;obtain⟨d1,d2,d3,N⟩:=UB H (by simpa using I);obtain⟨c,b⟩:=UC (x:=G) (y:=y) (W:=W) N .nilFunc true (.inl ⟨rfl,rfl⟩);have M:SV.den O V (.ref (.k .nilFunc))=.nilFunc:=rfl;rw[M];split at h;cases h;rw[c];rfl;cases h;rw[b];rfl;exact h.elim;rename_i m n a3 U Q;rw[U,Q];split at h;rename_i A z;cases h;obtain⟨p,w⟩:=z6 X A;obtain⟨q,r⟩:=z6 X z;simp only[SV.den,w,r];rw[Sem.run_bind,acY,Result.andThen_ok];unfold RE.den at w r;simp[binOp,Op.stringOp,BE.den,w,r,qD];rename_i A z;cases h;obtain⟨p,w⟩:=z6 X A;obtain⟨q,r⟩:=z6 X z;simp only[SV.den,w,r];rw[Sem.run_bind,acY,Result.andThen_ok];unfold RE.den at w r;simp[binOp,Op.stringOp,BE.den,w,r,qD];exact h.elim;rename_i f a1 U Q;rw[U,Q];split at h;exact h.elim;rename_i I;obtain⟨d1,d2,d3,N⟩:=UB H (by simpa using I);obtain⟨c,b⟩:=UC (x:=G) (y:=y) (W:=W) N ((SV.fn f a1).den O V) false (.inr ⟨⟨_,_,_,rfl⟩,rfl⟩);have M:SV.den O V (.ref (.k .nilFunc))=.nilFunc:=rfl;rw[M];split at h;cases h;rw[c];rfl;cases h;rw[b];rfl;exact h.elim;rename_i e ks vs U Q;rw[U,Q];split at h;rename_i I;simp only[ayz,beq_iff_eq] at I;obtain⟨d1,d2,d3,N⟩:=UB H I.2;have a2:=ac0 (O:=O) (V:=V) (e:=e) I.1.1 I.1.2;obtain⟨c,b⟩:=UC (x:=G) (y:=y) (W:=W) N (gM (e.den O) ks (SV.au O V vs)) ((xH e ks vs).den O) a2;have M:SV.den O V (.ref (.k .nilFunc))=.nilFunc:=rfl;rw[M,SV.den];split at h;cases h;rw[c];rfl;cases h;rw[b];simp[SV.den,Jb];exact h.elim;exact h.elim;rename_i m n U Q;rw[U,Q];simp only[SV.den];split at h;rename_i e i;cases h;obtain⟨ae,d,F,A,z,h3⟩:=acU X i;have:=((H _ _ F).eq rfl _ _ _ G y W A z h3).1;rw[this];rfl;rename_i e i;cases h;obtain⟨ae,d,F,A,z,h3⟩:=acU X i;have:=((H _ _ F).eq rfl _ _ _ G y W A z h3).2;rw[this];simp[SV.den,Jb];exact h.elim;exact h.elim
end
end
section
section
variable{g:List Nat}{j:World}{D:bz}{P:Program}{b:Ty}{d:List (Nat×Nat×Nat)}{V:List Nat}{O:aa}{s:S}{a:Act}{W:World}
def Na(Z:∀r:RE,r.B8=true->fu (r.den O)=true)(h:R.B9=true):(R.den O V).cells.toList=SV.au O V R.cells:=by
 cases R with
 |agg l=>simp[SV.den,SV.cells,Value.cells]
 |ref r=>
  have:fu (r.den O)=true:=Z r (by cases r<;>simp_all[SV.B9,RE.B8]);simp only[SV.den,SV.cells,SV.au];revert this;cases r.den O<;>simp[fu,Value.cells]
 |dE e X U=>
  simp only[SV.den,SV.cells,SV.au];exact ani (Ut _ _ _)
 |_=>simp[SV.den,SV.cells,Value.cells,SV.au,undef]
def ac1:∀(Q l:List SV)(Z:Nat),SV.au O V (iD l Z Q)=(SV.au O V Q).zipIdx.foldl (λU x=>U.set (Z+x.2) x.1) (SV.au O V l)
 |[],l,Z=>by simp[iD,SV.au]
 |v::Q,l,Z=>by
  rw[iD,ac1 Q (l.set Z v) (Z+1)];simp only[SV.au,List.zipIdx_cons,az0,azU,ay9];rw[show SV.au O V (l.set Z v)=(SV.au O V l).set Z (v.den O V) by simp[lj]];generalize(SV.au O V l).set Z (v.den O V)=X;have:∀(R:List Value)(n:Nat)(X:List Value),(R.zipIdx n).foldl (λU x=>U.set (Z+1+x.2) x.1) X=(R.zipIdx (n+1)).foldl (λU x=>U.set (Z+x.2) x.1) X:=by
   intro R;induction R with
   |nil=>intro n X;rfl
   |cons w R N=>intro n X;simp only[List.zipIdx_cons,az0];rw[N,show Z+1+n=Z+(n+1) by omega]
  exact this _ 0 X
def ac2:∀(l:List (Value×Nat))(Z:Nat)(X:Array Value),(l.foldl (λU (x:Value×Nat)=>U.setIfInBounds (Z+x.2) x.1) X).toList=l.foldl (λU x=>U.set (Z+x.2) x.1) X.toList
 |[],_,_=>rfl
 |x::l,Z,X=>by simp only[az0];rw[ac2 l Z];simp
def Jd(X:∀r:RE,r.B8=true->fu (r.den O)=true)(place:Nat->Option (Nat×Nat)):∀(parts:List (Nat×SV))(cells l:List SV),tT place cells parts=some l->
  Instr.fill place (SV.au O V cells).toArray (parts.map λp=>(p.1,p.2.den O V))=some (SV.au O V l).toArray
 |[],cells,l,h=>by simp[tT] at h;simp[Instr.fill,h]
 |(i,v)::N,cells,l,h=>by
  simp only[tT] at h;cases Z:place i with
  |none=>rw[Z] at h;cases h
  |some q=>
   obtain⟨U,M⟩:=q;rw[Z] at h;simp only at h;split at h;cases h;rename_i R;simp only[ay2,bne_iff_ne,decide_eq_true_eq,ayS,not_or,az4,Decidable.not_not,Nat.not_lt] at R;obtain⟨⟨L,F⟩,J⟩:=R;have Q:=Na (V:=V) X J;have I:(v.den O V).cells.size=M:=by rw[<-azL,Q];simp[L]
   simp only[ayO,Instr.fill,Z,I];rw[if_neg (by simp;omega)];have H:=Jd X place N _ l h;rw[<-H];congr 1;apply azv;have e:((v.den O V).cells.zipIdx.foldl (λG (x:Value×Nat)=>G.setIfInBounds (U+x.2) x.1) (SV.au O V cells).toArray).toList=SV.au O V (iD cells U v.cells):=by
    rw[<-aB7,ac2,ac1,Array.toList_zipIdx,Q]
   simpa using e
def anE(c:CT):(xF c).den O V=mH c:=by cases c<;>simp[xF,SV.den,mH,IE.den,BE.den,RE.den,RE.rv]
def ac3(Z:TI):SV.au O V (co Z)=Z.ae.map mH:=by
 simp only[co,lj,azo];congr 1;funext c;exact anE c
def Fh(h:cS P Z J):∃z,(zeroValue Z).run P W=.ok z W/\z.cells=(SV.au O V (co J)).toArray:=by
 obtain⟨i,X,-,z,U,R⟩:=h.Fb;exact⟨z,by simp[zeroValue,typeInfo,X,U],by rw[ac3,<-R]⟩
def anF(X:ap g j D b V O s a W)(N:fz P b)(r:dg d O){parts:Array (Nat×Operand)}(k:L.op=.build Z parts)(c:∀p∈parts.toList,(s.ev d p.2).cM=false)
  (h:(bv b d s (.build Z parts)).gives O R):(execOp a.eval L).run P W=.ok (.value (R.den O V)) W:=by
 have A:(parts.map λ(i,x)=>(i,a.eval x)).toList=(parts.toList.map λp=>(p.1,s.ev d p.2)).map λp=>(p.1,p.2.den O V):=by
  simp only[azy,azo];apply ayZ;intro p hp;simp[bQ X r p.2 (c p hp)]
 simp only[execOp,k,Sem.run_bind];simp only[bv] at h;split at h;rename_i I ae q M;split at h;exact h.elim;rename_i G;have G:∀f∈I,(b f.2).isSome=true:=by
  have:(I.all λf=>(b f.2).isSome)=true:=by simpa only[ayS,az4] using G
  exact ayM.1 this
 split at h;rename_i l Q;cases h;obtain⟨F,hF,y⟩:=(N _ _ M).desc;obtain⟨z,E,C⟩:=Fh (P:=P) (W:=W) (O:=O) (V:=V) (N _ _ M);have ab:∀(U:List Field),(∀f∈U,∃J,b f.type=some J)->(U.mapM (m:=Sem) λf=>do pure (f.offset,<-Go.sizeOf f.type)).run P W=.ok (U.map λf=>(f.offset,((b f.type).map (·.ae.length)).getD 0)) W:=by
  intro U w;induction U with
  |nil=>rfl
  |cons f U ih=>
   obtain⟨J,H⟩:=w f (by simp);have:=ih (λf Q=>w f (by simp[Q]));simp only[aBT,Sem.run_bind,(N _ _ H).jN,Result.andThen_ok,Sem.run_pure,this,ayO,H,ayI,azf]
 have u:∀f∈F.toList,∃J,b f.type=some J:=by
  intro f Q;have:(f.offset,f.type)∈I:=by rw[<-y];exact ay1.2 ⟨f,Q,rfl⟩
  have:=G _ this;exact ayT.1 this
 have hm:=ab F.toList u;have B:=Jd (V:=V) (qH X) _ _ _ _ Q;simp only[Instr.build,Sem.run_bind,E,Result.andThen_ok,cS.eE hF,aBw,Sem.run_map,hm,A,C];have af:(λi=>(F.toList.map λf=>(f.offset,((b f.type).map (·.ae.length)).getD 0)).toArray[i]?)=TP b I:=by
  funext i;rw[<-y,TP];simp only[aA7,ayF];cases hi:F.toList[i]? with
  |none=>simp
  |some f=>
   obtain⟨J,H⟩:=u f (ayW hi);simp[H]
 rw[af,B];simp[SV.den];exact h.elim;rename_i n e ae q M;split at h;rename_i te ag;split at h;rename_i l Q;cases h;obtain⟨z,E,C⟩:=Fh (P:=P) (W:=W) (O:=O) (V:=V) (N _ _ M);have hd:P.underlying Z=some (.array n e):=(N _ _ M).desc;have B:=Jd (V:=V) (qH X) _ _ _ _ Q;simp only[Instr.build,Sem.run_bind,E,Result.andThen_ok,cS.eE hd,(N _ _ ag).jN,A,C,B];simp[SV.den];exact h.elim;exact h.elim;exact h.elim
def anG(X:ap g j D b V O s a W)(M:fz P b)(F:dg d O){U N E:Option Operand}(z:L.op=.slice Z G U N E)(w:(s.ev d G).cM=false)(u:∀y,U=some y->(s.ev d y).cM=false)
  (h:(bv b d s (.slice Z G U N E)).gives O R):(execOp a.eval L).run P W=.ok (.value (R.den O V)) W:=by
 have r:=bQ X F G w;simp only[execOp,z,Sem.run_bind,r];simp only[bv] at h;split at h;rename_i n e ae q i ag p m;rw[m];have C:P.underlying Z=some (.array n e):=(M _ _ p).desc;split at h;rename_i f J Q I;cases h;have c:U=none:=by simpa using Q
 have H:N=none:=by simpa using I
 subst c H;simp[SV.den,Instr.sliceAt,cS.eE C,Instr.sureAddr,Instr.sliceBounds,(M _ _ J).jN,sq];rename_i f k l J Q I;split at h;rename_i B;cases h;simp only[ayz,decide_eq_true_eq] at B;have H:N=none:=by simpa using I
 subst H;cases U with
 |none=>cases Q
 |some y=>
  simp only[ayI,ayE] at Q;have A:=bQ X F y (u y rfl);rw[Q] at A;have ab:l<=n:=by omega
  have af:¬n=l.toNat:=by omega
  simp[SV.den,IE.den,Instr.sliceAt,cS.eE C,Instr.sureAddr,Instr.sliceBounds,Instr.sliceBound,asIntOf,A,B.1,ab,(M _ _ J).jN,sq,af]
 exact h.elim;exact h.elim;exact h.elim
def anH(Z:ap g j D b V O s a W)(H:fz P b)(E:dg d O){c:Call}(C:L.op=.call c)(F:c.callee=.builtin .len)(B:∀x∈c.args.toList,(s.ev d x).cM=false)
  (h:(bv b d s (.call c)).gives O R):(execOp a.eval L).run P W=.ok (.value (R.den O V)) W:=by
 have z:c.args.map a.eval=((c.args.toList.map (s.ev d)).map (SV.den O V)).toArray:=by
  apply azv;simp only[azy,azo];exact ayZ λx y=>bQ Z E x (B x y)
 simp only[execOp,C,resolve,F,Sem.run_bind,Sem.run_pure,Result.andThen_ok,invoke,builtin,z];simp only[bv,F] at h;split at h;rename_i t N M;have Q:c.argTypes[0]?=some t:=by have:=congrArg (λl=>l[0]?) N;simpa using this
 rw[M];split at h;rename_i e ae q X;cases h;have U:P.underlying t=some (.slice e):=(H _ _ X).desc;simp[Builtin.len_,Q,SV.den,IE.den,RE.den,RE.rv,cS.eE U,goInt];exact h.elim;rename_i t r w N M;have Q:c.argTypes[0]?=some t:=by have:=congrArg (λl=>l[0]?) N;simpa using this
 rw[M];split at h;rename_i e ae q u X G;cases h;have U:P.underlying t=some (.slice e):=(H _ _ X).desc;obtain⟨A,l,p,J⟩:=Jc Z G;have I:=J;unfold RE.den at I;simp[Builtin.len_,Q,SV.den,IE.den,J,I,cS.eE U,lenOf,goInt];rename_i ae q X G;cases h;have U:P.underlying t=some .string:=(H _ _ X).desc;obtain⟨m,J⟩:=z6 Z G;have I:=J;unfold RE.den at I;simp[Builtin.len_,Q,SV.den,IE.den,J,I,cS.eE U,lenOf,goInt];exact h.elim;rename_i t i k n f N M;have Q:c.argTypes[0]?=some t:=by have:=congrArg (λl=>l[0]?) N;simpa using this
 rw[M];split at h;rename_i e ae q X;cases h;have U:P.underlying t=some (.slice e):=(H _ _ X).desc;simp[Builtin.len_,Q,SV.den,IE.den,cS.eE U,goInt];exact h.elim;exact h.elim
def ac4(Z:ap g j D b V O s a W)(J:dg d O){c:Call}(N:L.op=.call c)(X:c.callee=.builtin .min\/c.callee=.builtin .max)(I:∀x∈c.args.toList,(s.ev d x).cM=false)
  (h:(bv b d s (.call c)).gives O R):(execOp a.eval L).run P W=.ok (.value (R.den O V)) W:=by
 have M:c.args.map a.eval=((c.args.toList.map (s.ev d)).map (SV.den O V)).toArray:=by
  apply azv;simp only[azy,azo];exact ayZ λx H=>bQ Z J x (I x H)
 rcases X with X|X;simp only[execOp,N,resolve,X,Sem.run_bind,Sem.run_pure,Result.andThen_ok,invoke,builtin,M];simp only[bv,X] at h;split at h;rename_i k x l U;rw[U];split at h;rename_i e Q;cases h;have:=Ux (P:=P) (W:=W) (O:=O) (V:=V) false k l x e Q;simp only[ayV,if_false] at this;simp only[ayO,SV.den,Builtin.min_,<-lj,this,Result.andThen_ok];exact h.elim;exact h.elim;simp only[execOp,N,resolve,X,Sem.run_bind,Sem.run_pure,Result.andThen_ok,invoke,builtin,M];simp only[bv,X] at h;split at h;rename_i k x l U;rw[U];split at h;rename_i e Q;cases h;have:=Ux (P:=P) (W:=W) (O:=O) (V:=V) true k l x e Q;simp only[if_true] at this;simp only[ayO,SV.den,Builtin.max_,<-lj,this,Result.andThen_ok];exact h.elim;exact h.elim
end
end
section
section
variable{A:List Nat}{B:World}{D:bz}{P:Program}{f:Ty}{g:List (Nat×Nat×Nat)}{V:List Nat}{O:aa}{s:S}{a:Act}{W:World}
def UD(h:y=false->t.length=1):sn (dX y t)=t:=by
 cases y;obtain⟨x,rfl⟩:=ay5.1 (h rfl);rfl;simp[dX,sn,Function.comp_def,bc]
def UE{x Z z:IE}(h:Cd X y R=some (x,Z,z)):R.den O V=dX y ([x.den O,Z.den O,z.den O].take X)/\([x.den O,Z.den O,z.den O].take X).length=X:=by
 unfold Cd at h;split at h;split at h;rename_i U;cases h;simp only[ayz,beq_iff_eq,ayS] at U;obtain⟨rfl,rfl⟩:=U;simp[dX,SV.den];cases h;split at h;rename_i U;cases h;simp only[ayz,beq_iff_eq] at U;obtain⟨rfl,rfl⟩:=U;simp[dX,SV.den,SV.au];cases h;split at h;rename_i U;cases h;simp only[ayz,beq_iff_eq] at U;obtain⟨rfl,rfl⟩:=U;simp[dX,SV.den,SV.au];cases h;split at h;rename_i U;cases h;simp only[ayz,beq_iff_eq] at U;obtain⟨rfl,rfl⟩:=U;simp[dX,SV.den,SV.au];cases h;cases h
def UF:∀{l:List (Value×Value)}{m:Nat}{e:MapEntry},e∈dO m l->∃p∈l,e.key=p.1
 |[],m,e,h=>by simp[dO] at h
 |x::r,m,e,h=>by
  simp only[dO,ayK] at h;rcases h with rfl|h;exact⟨x,by simp,rfl⟩;obtain⟨p,Z,X⟩:=UF h;exact⟨p,by simp[Z],X⟩
def z7(n:Nat)(Z:List RV):Prop:=∃l:List Int,l.length=n/\Z.take n=l.map λx=>.mk (.int .i64 x) []
def Je{n:Nat}{ag:Bool}(R:ag=false->n=1){Z:List RV}(h:z7 n Z):∃l:List Int,l.length=n/\mG ag (Z.take n)=dX ag l/\(Z.take n).map (λc=>bc c.val)=l:=by
 obtain⟨l,X,U⟩:=h;refine⟨l,X, ?_,by rw[U];simp[Function.comp_def,bc]⟩;rw[U];cases ag;obtain⟨x,rfl⟩:=ay5.1 (X.trans (R rfl));rfl;simp[mG,dX,Function.comp_def]
def ac5{n:Nat}{U va:Bool}(R:U=false->n=1){X:List Int}(M:(X.take n).length=n):∀{rows:List (List RV)}{m i:Nat},(∀Z∈rows,z7 n Z)->
  (fY n X rows=none/\kf (X.take n) (dO m (rows.map (qF n U va))) i=none)\/∃Z j,fY n X rows=some Z/\Z∈rows/\kf (X.take n) (dO m (rows.map (qF n U va))) i=some (j,mG va (Z.drop n))
 |[],m,i,_=>.inl ⟨rfl,rfl⟩
 |Z::rows,m,i,h=>by
  obtain⟨l,L,J,I⟩:=Je (ag:=U) R (h Z (by simp));simp only[fY,aAP,ayO,dO,kf,qF,J];rw[UD (λe=>L.trans (R e))];have H:jl n X Z=decide (l=X.take n):=by simp only[jl,I]
  rw[H];by_cases N:l=X.take n;right;simp only[N,decide_true,if_true];exact⟨Z,i,rfl,by simp,rfl⟩;simp only[N,decide_false,if_false];rcases ac5 (rows:=rows) (m:=m+1) (i:=i+1) (va:=va) R M (λr G=>h r (by simp[G])) with Q|⟨r,j,Q,F,E⟩;exact .inl Q;exact .inr ⟨r,j,Q,by simp[F],E⟩
def ac6(O:aa)(V:List Nat){k e:TypeId}(N:P.underlying Z=some (.map k e))(M:pD P k X y)(H:cS P e J){l:List (Value×Value)}(G:W.heap[I]?=some (lQ l))(F:t.length=X)
  (E:∀p∈l,∃U:List Int,U.length=X/\p.1=dX y U)(R:Bool):
  ∃z,(zeroValue e).run P W=.ok z W/\(Instr.lookup Z (.map (some I)) (dX y t) R).run P W=.ok (let r:=match kf t (dO 0 l) 0 with
   |some (_,v)=>(v,true)
   |none=>(z,false);if R then .tuple #[r.1,.bool r.2] else r.1) W:=by
 obtain⟨z,Q,g⟩:=Fh (P:=P) (W:=W) (O:=O) (V:=V) H;refine⟨z,Q, ?_⟩;have C:∀x∈dO 0 l,∃U:List Int,U.length=X/\x.key=dX y U:=λx B=>by
  obtain⟨p,A,u⟩:=UF B;obtain⟨U,q,o⟩:=E p A;exact⟨U,q,u.trans o⟩
 obtain⟨m,i⟩:=M.2 t (dO 0 l) W F C;have h:=MapKept.run_getObj_map (P:=P) (w:=W) G;simp only[Instr.lookup,Sem.run_bind,cS.eE N,Result.andThen_ok,h,Sem.run_pure,m,i];cases f:kf t (dO 0 l) 0 with
 |none=>simp[Q]
 |some p=>obtain⟨j,v⟩:=p;simp
structure CF(f:Ty)(sh:Sh)(row:List RV):Prop where
 len:row.length=(aV f (.mr sh)).length
 int:∀(j:Nat)(c:RV)(k:IntKind),row[j]?=some c->(aV f (.mr sh))[j]?=some (.int k)->∃n,c=.mk (.int k n) []
 bool:∀(j:Nat)(c:RV),row[j]?=some c->(aV f (.mr sh))[j]?=some .bool->∃x,c=.mk (.bool x) []
def anI{X:Sh}(h:aW W f (.mr X) H):∀Z∈H.rows,CF f X Z:=by
 cases h with
 |mr X I N M L G=>
  intro Z J;obtain⟨i,U⟩:=azh J;exact⟨N i Z U,λj c k R Q=>M i j Z c k U R Q,λj c R Q=>L i j Z c U R Q⟩
def CG(R:ap A B D f V O s a W){Z:Sh}{r:RE}(h:r.my f s Z=true):∀X∈(r.rv O).rows,CF f Z X:=by
 unfold RE.my at h;rcases aBh.1 h with h|h;exact anI (nj R (by simp) (of_decide_eq_true h));unfold RE.nil at h;split at h;intro X U;simp[RE.rv] at U;cases h
def Fi{e:TypeId}{va:Bool}(U:oa f Z X y=true)(Q:f e=some J):∃R:List CT,aV f (.mr ⟨Z,e,X,y,va⟩)=R++J.ae/\R.length=X/\∀c∈R,c=.int .i64:=by
 unfold oa at U;split at U;rename_i tk N;simp only[ayz,beq_iff_eq] at U;refine⟨tk.ae,by simp[aV,N,Q],U.1.1,λc M=> ?_⟩;have:=ayM.1 U.1.2 c M;unfold TR at this;split at this;rfl;cases this;cases U
def Fj{k e:TypeId}{n:Nat}{X U:Bool}{M:TI}(L:oa f k n X=true)(J:f e=some M){Z:List RV}(h:CF f ⟨k,e,n,X,U⟩ Z):z7 n Z:=by
 obtain⟨C,R,I,H⟩:=Fi (va:=U) L J;have G:=h.len;rw[R,ayN,I] at G;refine⟨(Z.take n).map λc=>bc c.val,by simp;omega, ?_⟩;apply ay3;intro j;rw[ayF,ayF,ay7];by_cases Q:j<n;rw[if_pos Q];have N:j<Z.length:=by omega
 rw[ayB N];have F:(aV f (.mr ⟨k,e,n,X,U⟩))[j]?=some (.int .i64):=by
  rw[R,ayD (by omega),ayB (by omega)];congr 1;exact H _ (azR _)
 obtain⟨x,E⟩:=h.int j _ .i64 (ayB N) F;simp only[ayI,E,RV.ji,bc];rw[if_neg Q];rfl
def UG{r:RE}{n:Nat}{x y z:IE}{X:List RV}(N:fY n [x.den O,y.den O,z.den O] (r.rv O).rows=some X):∀{ae:List CT}{j:Nat},ae.all jx=true->X.length=j+ae.length->
  (∀(i:Nat)(k:IntKind),ae[i]?=some (.int k)->∃m,X[j+i]?=some (.mk (.int k m) []))->(∀(i:Nat),ae[i]?=some .bool->∃m,X[j+i]?=some (.mk (.bool m) []))->
  SV.au O V (mz r n x y z j ae)=(X.drop j).map RV.val
 |[],j,_,U,_,_=>by rw[aA0 (by simp at U;omega)];rfl
 |.int k::ae,j,R,U,M,L=>by
  obtain⟨m,Z⟩:=M 0 k rfl;have J:=UG N (ae:=ae) (j:=j+1) (by simpa[jx] using R) (by simp at U⊢;omega) (λi k h=>by have:=M (i+1) k (by simpa using h);rwa [show j+(i+1)=j+1+i by omega] at this) (λi h=>by have:=L (i+1) (by simpa using h);rwa [show j+(i+1)=j+1+i by omega] at this);have I:X.drop j=.mk (.int k m) []::X.drop (j+1):=by
   rw[azU] at Z;have Q:=(ayA.1 Z).1;rw[azx Q];congr 1;rw[ayB Q] at Z;simpa using Z
  rw[azU] at Z;simp only[mz,SV.au,SV.den,IE.den,N,J,I,ayO,RV.ji,ayC,Z,azf,bc]
 |.bool::ae,j,R,U,M,L=>by
  obtain⟨m,Z⟩:=L 0 rfl;have J:=UG N (ae:=ae) (j:=j+1) (by simpa[jx] using R) (by simp at U⊢;omega) (λi k h=>by have:=M (i+1) k (by simpa using h);rwa [show j+(i+1)=j+1+i by omega] at this) (λi h=>by have:=L (i+1) (by simpa using h);rwa [show j+(i+1)=j+1+i by omega] at this);have I:X.drop j=.mk (.bool m) []::X.drop (j+1):=by
   rw[azU] at Z;have Q:=(ayA.1 Z).1;rw[azx Q];congr 1;rw[ayB Q] at Z;simpa using Z
  rw[azU] at Z;simp only[mz,SV.au,SV.den,BE.den,N,J,I,ayO,RV.ji,ayC,Z,azf,gv]
 |.ax _ _::ae,j,R,_,_,_=>by simp[jx] at R
def UH{r:RE}{n:Nat}{x y z:IE}(X:fY n [x.den O,y.den O,z.den O] (r.rv O).rows=none):∀{ae:List CT}{j:Nat},ae.all jx=true->SV.au O V (mz r n x y z j ae)=ae.map mH
 |[],j,_=>rfl
 |.int k::ae,j,Z=>by
  simp only[mz,SV.au,SV.den,IE.den,X,ayO,mH,UH X (ae:=ae) (j:=j+1) (by simpa[jx] using Z)]
 |.bool::ae,j,Z=>by
  simp only[mz,SV.au,SV.den,BE.den,X,ayO,mH,UH X (ae:=ae) (j:=j+1) (by simpa[jx] using Z)]
 |.ax _ _::ae,j,Z=>by simp[jx] at Z
def Nb{r:RE}{n:Nat}{x y z:IE}:∀{ae:List CT}{j:Nat},(mz r n x y z j ae).length=ae.length
 |[],j=>rfl
 |.int _::ae,j=>by simp[mz,Nb (ae:=ae)]
 |.bool::ae,j=>by simp[mz,Nb (ae:=ae)]
 |.ax _ _::ae,j=>by simp[mz,Nb (ae:=ae)]
def UI(h:cS P Z J){z:Value}(X:(zeroValue Z).run P W=.ok z W):z=if J.d.isAgg then .agg (J.ae.map mH).toArray else(J.ae.map mH).headD undef:=by
 obtain⟨i,U,-,Q,R,N⟩:=h.Fb;have M:z=Q:=by simp[zeroValue,typeInfo,U,R] at X;exact X.symm
 subst M;have L:=h.acJ i z U R;rw[<-L,<-N];cases z<;>simp[M3,Value.cells]
def vS(h:cS P Z J)(U:J.d.isAgg=false):J.ae.length=1:=by
 obtain⟨i,R,M,z,Q,N⟩:=h.Fb;have:=h.acJ i z R Q;rw[U] at this;have X:=congrArg aAM N;simp only[azg] at X;rw[<-X];cases z<;>simp[M3] at this<;>rfl
def Fk:∀{X:List SV}{Z:List Int},mA X=some Z->xW (SV.au O V X)=(Z.zip (jc X)).map (λp=>(.int .i64 p.1,p.2.den O V))/\Z.length=(jc X).length
 |[],Z,h=>by simp[mA] at h;subst h;exact⟨rfl,rfl⟩
 |[v],Z,h=>by unfold mA at h;split at h<;>simp_all
 |u::v::r,Z,h=>by
  unfold mA at h;split at h;rename_i U;cases U;rename_i k M L U;cases U;cases R:mA r with
  |none=>rw[R] at h;cases h
  |some J=>
   rw[R] at h;simp only[ayI,ayE] at h;subst h;obtain⟨Q,N⟩:=Fk R;exact⟨by simp only[SV.au,SV.den,IE.den,xW,Q,jc,aAy,ayO],by simp[jc,N]⟩
  cases h
def ac7{x:Int}:∀{ks:List Int}{vs:List SV}{m i:Nat},(kf [x] (dO m ((ks.zip vs).map λp=>(.int .i64 p.1,p.2.den O V))) i).map (·.2)=(cJ x ks vs).map (SV.den O V)
 |[],vs,m,i=>by simp[dO,kf,cJ]
 |_::_,[],m,i=>by simp[dO,kf,cJ]
 |k::ks,v::vs,m,i=>by
  simp only[aAy,ayO,dO,kf,sn,azK,and_true,cJ];by_cases h:x=k;subst h;simp;rw[if_neg (λe=>h e.symm),if_neg h];exact ac7
def z8{r:RE}{Z:Bool}:iS qr (SV.bX O V [.ref r,.int .i64 (.c (X:Int)),.bool (.c y),.bool (.c Z)])=lQ ((r.rv O).rows.map (qF X y Z)):=by
 simp[iS,qr,pj,SV.bX,SV.eD,SV.den,IE.den,BE.den]
def Aa:iS pj (SV.bX O V M)=lQ (xW (SV.au O V M)):=by
 simp only[iS,if_true,acH]
def anJ(X:ap A B D f V O s a W)(a0:fz P f)(hg:dg g O){ix:Operand}(ho:L.op=.lookup Z G ix y)(hk:(s.ev g G).cM=false)(bk:(s.ev g ix).cM=false)
  (h:(bv f g s (.lookup Z G ix y)).gives O R):(execOp a.eval L).run P W=.ok (.value (R.den O V)) W:=by
 have he:=bQ X hg G hk;have bl:=bQ X hg ix bk;simp only[execOp,ho,Sem.run_bind,he,bl];simp only[bv] at h;split at h;rename_i k e n ag ae q i ht hx;rw[hx];have hd:P.underlying Z=some (.map k e):=(a0 _ _ ht).desc;have hK:pD P k n ag:=(a0 _ _ ht).key k e n ag rfl;unfold Mx at h;split at h;rename_i Q M xb xc bt C g1 g2 g3;have H:=a0 _ _ g1;split at h;exact h.elim;rename_i al;have al:oa f k n ag=true:=by simpa using al
 obtain⟨bo,a1⟩:=UE (O:=O) (V:=V) g2;have ab:=X.mem.box i bt C g3;simp only[SV.den,bo];split at h;rename_i eW;simp only[beq_iff_eq] at eW;subst eW;split at h;rename_i r nk ka va;split at h;rename_i a6;simp only[ayz,beq_iff_eq] at a6;obtain⟨⟨⟨⟨⟨c1,c2⟩,c3⟩,c4⟩,c5⟩,-⟩:=a6;subst c2 c3 c4;rw[z8] at ab;have a7:=CG X c1;have a8:∀J∈(r.rv O).rows,z7 n J:=λJ hr=>Fj al g1 (a7 J hr)
 obtain⟨z,hz,a2⟩:=ac6 O V hd hK H ab a1 (λp b=>by
  obtain⟨J,hr,rfl⟩:=ay1.1 b;obtain⟨l,q1,q2,-⟩:=Je hK.1 (a8 J hr);exact⟨l,q1,q2⟩) y
 rw[a2];simp only[Mw,PR.gives] at h;subst h;have an:Q.d.isAgg=false->(mz r n M xb xc n Q.ae).length=1:=λha=>by rw[Nb];exact vS H ha
 rcases ac5 (m:=0) (i:=0) (va:=Q.d.isAgg) hK.1 a1 a8 with⟨f1,f2⟩|⟨J,j,f1,f2,f3⟩;have hv:(n9 Q.d.isAgg (mz r n M xb xc n Q.ae)).den O V=z:=by
  rw[ya an,UH f1 c5];exact(UI H hz).symm
 simp only[f2];cases y;simp only[ayV,if_false,hv];rfl;simp only[if_true,SV.den,SV.au,hv,BE.den,f1];rfl;obtain⟨kc,r1,r2,r3⟩:=Fi (va:=Q.d.isAgg) al g1;have a3:=a7 J f2;have br:J.length=n+Q.ae.length:=by rw[a3.len,r1,ayN,r2]
 have a9:∀(m:Nat)(ct:CT),Q.ae[m]?=some ct->(aV f (.mr ⟨k,e,n,_,Q.d.isAgg⟩))[n+m]?=some ct:=λm ct F=>by
  rw[r1,ayG (by omega),r2,show n+m-n=m by omega];exact F
 have bb:∀(m:Nat)(ct:CT),Q.ae[m]?=some ct->∃c,J[n+m]?=some c:=λm ct F=>by
  have:m<Q.ae.length:=(ayA.1 F).1;exact⟨J[n+m]'(by omega),ayB _⟩
 have bs:=UG (V:=V) f1 (ae:=Q.ae) (j:=n) c5 br (λm kk F=>by
  obtain⟨c,hc⟩:=bb m _ F;obtain⟨x',a4⟩:=a3.int (n+m) c kk hc (a9 m _ F);exact⟨x',by rw[hc,a4]⟩) (λm F=>by
  obtain⟨c,hc⟩:=bb m _ F;obtain⟨x',a4⟩:=a3.bool (n+m) c hc (a9 m _ F);exact⟨x',by rw[hc,a4]⟩)
 have hv:(n9 Q.d.isAgg (mz r n M xb xc n Q.ae)).den O V=mG Q.d.isAgg (J.drop n):=by
  rw[ya an,bs,mG];cases bx:Q.d.isAgg;have h1:=vS H bx;obtain⟨c,hc⟩:=ay5.1 (show(J.drop n).length=1 by simp;omega);rw[hc];rfl;rfl
 simp only[f3];cases y;simp only[ayV,if_false,hv];rfl;simp only[if_true,SV.den,SV.au,hv,BE.den,f1];rfl;exact h.elim;exact h.elim;split at h;rename_i eW;simp only[beq_iff_eq] at eW;subst eW;split at h;rename_i bd;simp only[ayz,beq_iff_eq,ayS] at bd;obtain⟨rfl,rfl⟩:=bd;rw[Aa] at ab;split at h;rename_i v0 U N;simp only[Mw,PR.gives] at h;subst h;unfold acm at N;split at N;rename_i ks b0;obtain⟨p1,p2⟩:=Fk (O:=O) (V:=V) b0;rw[p1] at ab;obtain⟨z,hz,a2⟩:=ac6 O V hd hK H ab a1 (λp b=>by
  obtain⟨u,I,rfl⟩:=ay1.1 b;exact⟨[u.1],rfl,rfl⟩) y
 rw[a2];have E:=ac7 (O:=O) (V:=V) (x:=M.den O) (ks:=ks) (vs:=jc C) (m:=0) (i:=0);have bf:(∀u,cJ (M.den O) ks (jc C)=some u->v0.den O V=u.den O V/\U.den O=true)/\(cJ (M.den O) ks (jc C)=none->v0.den O V=z/\U.den O=false):=by
  split at N;rename_i x0;simp only[IE.den] at*;split at N;rename_i u I;cases N;exact⟨λu' af=>by rw[I] at af;cases af;exact⟨rfl,rfl⟩,λhn=>by rw[I] at hn;cases hn⟩;rename_i I;cases N;refine⟨λu' af=>(by rw[I] at af;cases af),λ_=>⟨?_,rfl⟩⟩;rw[ya (λha=>by simp[co];exact vS H ha),ac3];exact(UI H hz).symm;rename_i b3;split at N;rename_i b1;cases a5:xI M ks ((jc C).map SV.cells) 0 Q.ae with
  |none=>rw[a5] at N;cases N
  |some l=>
   rw[a5] at N;simp only[ayI,ayE,aAe] at N;obtain⟨rfl,rfl⟩:=N;obtain⟨s0,s1,s2⟩:=M6 (O:=O) (V:=V) a5;rw[M5] at s1 s2;have an:Q.d.isAgg=false->l.length=1:=λha=>by rw[s0];exact vS H ha
   rw[ya an,M7 p2];refine⟨λu I=> ?_,λI=> ?_⟩;have bg:=ayM.1 b1 u (Fe I);have b2:u.cells.length=0+Q.ae.length:=by
    simp only[vA,ayz,beq_iff_eq] at bg;omega
   rw[s1 u.cells (by rw[I];rfl) b2,I,M8 (qH X) bg];exact⟨rfl,rfl⟩;rw[s2 (by rw[I];rfl),I];exact⟨(UI H hz).symm,rfl⟩
  cases N
 have hL:[M.den O,xb.den O,xc.den O].take 1=[M.den O]:=rfl;rw[hL] at*;cases b:cJ (M.den O) ks (jc C) with
 |some u=>
  rw[b] at E;obtain⟨q1,q2⟩:=bf.1 u b;cases hf:kf [M.den O] (dO 0 ((ks.zip (jc C)).map λp=>(.int .i64 p.1,p.2.den O V))) 0 with
  |none=>rw[hf] at E;cases E
  |some jv=>
   obtain⟨j,w⟩:=jv;rw[hf] at E;simp only[ayI,ayE] at E;subst E;cases y;simp only[ayV,if_false,q1];rfl;simp only[if_true,SV.den,SV.au,q1,q2];rfl
 |none=>
  rw[b] at E;obtain⟨q1,q2⟩:=bf.2 b;cases hf:kf [M.den O] (dO 0 ((ks.zip (jc C)).map λp=>(.int .i64 p.1,p.2.den O V))) 0 with
  |some jv=>rw[hf] at E;cases E
  |none=>
   cases y;simp only[ayV,if_false,q1];rfl;simp only[if_true,SV.den,SV.au,q1,q2];rfl
 cases N;exact h.elim;exact h.elim;exact h.elim;exact h.elim;exact h.elim
end
end
section
section
variable{u:List Nat}{z:World}{D:bz}{P:Program}{j:Ty}{g:List (Nat×Nat×Nat)}{V:List Nat}{O:aa}{s:S}{a:Act}{W:World}
def ac8(Z:ap u z D j V O s a W)(L:fz P j)(Q:dg g O)(o:Oper)(U:∀x∈o.op.operands.toList,(s.ev g x).cM=false)
  (h:(bv j g s o.op).gives O R):(execOp a.eval o).run P W=.ok (.value (R.den O V)) W:=by
 cases X:o.op with
 |move x=>
  rw[X] at h U;have M:=bQ Z Q x (U x (by simp[Op.operands]));simp only[bv,PR.gives] at h;simp[execOp,X,M,h]
 |assign x=>
  rw[X] at h U;have M:=bQ Z Q x (U x (by simp[Op.operands]));simp only[bv,PR.gives] at h;simp[execOp,X,M,h]
 |pick c x y=>
  rw[X] at h U;have J:=bQ Z Q c (U c (by simp[Op.operands]));have N:=bQ Z Q x (U x (by simp[Op.operands]));have B:=bQ Z Q y (U y (by simp[Op.operands]));simp only[bv] at h;split at h;rename_i af;cases h;rw[af] at J;simp[execOp,X,J,N,SV.den,BE.den,asBool];rename_i af;cases h;rw[af] at J;simp[execOp,X,J,B,SV.den,BE.den,asBool];exact h.elim
 |load t x=>rw[X] at h U;exact ans Z L Q X (U x (by simp[Op.operands])) h
 |fieldAddr t x f=>rw[X] at h U;exact ant Z L Q X (U x (by simp[Op.operands])) h
 |field t x f=>rw[X] at h U;exact anu Z L Q X (U x (by simp[Op.operands])) h
 |indexAddr t x y=>rw[X] at h U;exact anv Z L Q X (U x (by simp[Op.operands])) (U y (by simp[Op.operands])) h
 |index t x y=>rw[X] at h U;exact anw Z L Q X (U x (by simp[Op.operands])) (U y (by simp[Op.operands])) h
 |binOp op t x y t2=>rw[X] at h U;exact anD Z L Q X (U x (by simp[Op.operands])) (U y (by simp[Op.operands])) h
 |unOp op t x=>
  rw[X] at h U;have M:=bQ Z Q x (U x (by simp[Op.operands]));simp only[bv] at h;split at h;rename_i b N;cases h;simp[execOp,X,M,N,SV.den,Op.unary,Jb];rename_i k e N;cases h;simp[execOp,X,M,N,SV.den,Op.unary,Op.intArith,Ja,aP,IE.den];exact h.elim
 |convert t1 t2 x=>
  rw[X] at h U;have M:=bQ Z Q x (U x (by simp[Op.operands]));simp only[bv] at h;split at h;rename_i k1 q1 k2 q2 k n H G N;cases h;obtain⟨d1,A,-,ag,-⟩:=(L _ _ H).desc;obtain⟨d2,ab,-,al,-⟩:=(L _ _ G).desc;rw[ag _ rfl] at A;rw[al _ rfl] at ab;simp[execOp,X,M,N,SV.den,convert,cS.eE A,cS.eE ab,Conv.intToInt,IE.den];rename_i k1 q1 k2 q2 k n hn H G N;cases h;obtain⟨d1,A,-,ag,-⟩:=(L _ _ H).desc;obtain⟨d2,ab,-,al,-⟩:=(L _ _ G).desc;rw[ag _ rfl] at A;rw[al _ rfl] at ab;simp[execOp,X,M,N,SV.den,convert,cS.eE A,cS.eE ab,Conv.intToInt,IE.den];exact h.elim
 |makeInterface t x=>
  rw[X] at h U;have M:=bQ Z Q x (U x (by simp[Op.operands]));simp only[bv] at h;split at h;exact h.elim;rename_i ti a1 ht;cases h;have E:=(L _ _ ht).desc;have C:∀d,P.underlying t=some d->(∀m,d≠ .interface m)->(Instr.makeInterface t (a.eval x)).run P W=.ok (.iface t (a.eval x)) W:=by
   intro d H G;simp only[Instr.makeInterface,Sem.run_bind,cS.eE H,Result.andThen_ok];cases d<;>first|rfl|exact absurd rfl (G _)
  have:(Instr.makeInterface t (a.eval x)).run P W=.ok (.iface t (a.eval x)) W:=by
   obtain⟨d,ae,q⟩:=ti;cases d with
   |one=>obtain⟨d,H,⟨G,-⟩,-⟩:=E;exact C d H (λm I=>by rw[I] at G;exact G)
   |dD=>exact absurd rfl (a1 _ _)
   |str=>exact C _ E (λm I=>by cases I)
   |slice e=>exact C _ E (λm I=>by cases I)
   |arr n e=>exact C _ E (λm I=>by cases I)
   |struct fs=>obtain⟨F,H,-⟩:=E;exact C _ H (λm I=>by cases I)
   |map k e=>exact C _ E (λm I=>by cases I)
  rw[M] at this;simp[execOp,X,M,this,SV.den];exact h.elim
 |makeFunc fn first a0=>
  rw[X] at h U;simp only[bv] at h;split at h;rename_i f hf;cases h;have a2:first= #[]:=by apply azv;simpa using hf
  subst a2;have a3:a0.map a.eval=(SV.au O V (a0.toList.map (s.ev g))).toArray:=by
   apply azv;simp only[azy,lj,azo];exact ayZ λx N=>bQ Z Q x (U x (by simp[Op.operands];simpa using N))
  simp[execOp,X,Instr.makeFunc,SV.den,a3];exact h.elim
 |extract x i=>
  rw[X] at h U;have M:=bQ Z Q x (U x (by simp[Op.operands]));simp only[bv] at h;split at h;rename_i l N;split at h;rename_i y B;simp only[PR.gives] at h;subst h;have:(SV.au O V l).toArray[i]?=some (R.den O V):=by simp[ol,B]
  simp[execOp,X,M,N,SV.den,Instr.extract,this,-aA7];exact h.elim;exact h.elim
 |nilCheck x=>
  rw[X] at h U;have M:=bQ Z Q x (U x (by simp[Op.operands]));simp only[bv] at h;split at h;rename_i i a4 N;cases h;simp[execOp,X,M,N,SV.den];rename_i r w i a4 N;cases h;simp[execOp,X,M,N,SV.den];rename_i f l N;cases h;simp[execOp,X,M,N,SV.den];exact h.elim
 |slice t x lo hi mx=>
  rw[X] at h U;exact anG Z L Q X (U x (by simp[Op.operands])) (λy B=>U y (by subst B;simp[Op.operands])) h
 |build t parts=>
  rw[X] at h U;exact anF Z L Q X (λp hp=>U p.2 (by simp[Op.operands];exact⟨p.1,by simpa using hp⟩)) h
 |lookup t x ix ok=>
  rw[X] at h U;exact anJ Z L Q X (U x (by simp[Op.operands])) (U ix (by simp[Op.operands])) h
 |call c=>
  rw[X] at h U;have an:∀x∈c.args.toList,(s.ev g x).cM=false:=λx N=>U x (by simp[Op.operands,Call.operands];exact .inr (by simpa using N))
  cases J:c.callee with
  |builtin b=>
   cases b with
   |len=>exact anH Z L Q X J an h
   |min=>exact ac4 Z Q X (.inl J) an h
   |max=>exact ac4 Z Q X (.inr J) an h
   |_=>simp only[bv,J,PR.gives] at h
  |value f=>simp only[bv,J,PR.gives] at h
  |invoke r m=>simp only[bv,J,PR.gives] at h
 |_=>rw[X] at h;simp only[bv,PR.gives] at h
end
end
variable{v:List kw}{F:List Deferred}{w:World}{i:List RK}
section
section
variable{p:List Nat}{f:World}{D:bz}{P:Program}{g:Ty}{q:List (Nat×Nat×Nat)}{V:List Nat}{O:aa}{s:S}{a:Act}{W:World}
def vT{o:Obj}(h:Q.heap[X]?=some o):X<Q.heap.size:=(ay0.1 h).1
def cG.world{W':World}(h:cG f D v U F Q)(Z:∀(b:Nat)(o:Obj),Q.heap[b]?=some o->(∀R t N,o≠ .cells R t N)->W'.heap[b]?=some o):cG f D v U F W':=
 ⟨h.len,h.oo,λn l r M L J=>let⟨a,b,c⟩:=h.cC n l r M L J;⟨a,Z _ _ b (λ_ _ _ h=>by cases h),c⟩,h.inj,let⟨I,a,H,b,c⟩:=h.jL;⟨I,a,H,b,λd X=>⟨Z _ _ (c d X).1 (λ_ _ _ h=>by cases h),(c d X).2⟩⟩⟩
def Fl:Obj->Bool
 |.loop _|.deferred _=>true
 |_=>false
def ac9{o:Obj}(h:Fl o=true):∀Z t X,o≠ .cells Z t X:=λZ t X e=>by subst e;cases h
def ada{o:Obj}(h:Fl o=true):∀t l,o≠iS t l:=by
 intro t l e;subst e;unfold iS at h;split at h;cases h;split at h;split at h<;>cases h;split at h;split at h<;>cases h;cases h
def cG.anK(h:cG f D v U F Q)(Z:∀(b:Nat)(o:Obj),Q.heap[b]?=some o->Fl o=true->w.heap[b]?=some o):cG f D v U F w:=
 ⟨h.len,h.oo,λn l r R N M=>let⟨a,b,c⟩:=h.cC n l r R N M;⟨a,Z _ _ b rfl,c⟩,h.inj,let⟨L,a,J,b,c⟩:=h.jL;⟨L,a,J,b,λd X=>⟨Z _ _ (c d X).1 rfl,(c d X).2⟩⟩⟩
def cG.below(h:cG f D v U F Q)(X:Below Q.heap.size Q w):cG f D v U F w:=
 h.world λb o Z _=>(X.block b (vT Z)).trans Z
def cG.cells(h:cG f D v U F Q){N:Array Value}{M:Nat×Nat}(L:Q.heap[X]?=some (.cells N Z M))(J:∀b,b≠X->b<Q.heap.size->w.heap[b]?=Q.heap[b]?):cG f D v U F w:=
 h.world λb o R I=>(J b (λe=>by subst e;rw[L] at R;cases R;exact I _ _ _ rfl) (vT R)).trans R
def aW.Fm(h:aW Q g k H)(L:∀b,cm g k H b->w.heap[b]?=Q.heap[b]?)(hs:Q.heap.size<=w.heap.size):aW w g k H:=by
 induction h with
 |sl e A X B U J I G r q ho F=>
  refine aW.sl e A X B U J I (λi R Z=> ?_) r q (λi j R c z y Z N x=>F i j R c z y Z N x (λb E=>L b (cm.deep e _ _ i j R c z y b Z N x E)));obtain⟨p,b,u,rfl,⟨o,n,m,l⟩,f⟩:=G i R Z;have ab:0<X:=by have:=(ayA.1 Z).1;omega
  obtain⟨C,rfl⟩:∃C,X=C+1:=⟨X-1,by omega⟩;have M:=L b (cm.here e ⟨b,u,none⟩ C B U);refine⟨p,b,u,rfl,⟨o,n,m,M.trans l⟩,λj c N=> ?_⟩;have t:=f j c N;simp only[World.cell?,M] at t⊢;exact t
 |str s=>exact aW.str s
 |ax v d=>exact aW.ax v d
 |own e H h hn F=>exact aW.own e H (F λb E=>L b (cm.own e H b E)) hn
 |dead H h=>exact aW.dead H h
 |mr sh U J I G M=>exact aW.mr sh U J I G M
def aW.lt(h:aW Q g k H)(Z:cm g k H X):X<Q.heap.size:=by
 induction h generalizing X with
 |sl e A B y U x w N u t r R=>
  cases Z with
  |here e a l c U=>
   have M:0<U.length:=by omega
   obtain⟨-,X,q,L,⟨_,_,_,J⟩,-⟩:=N 0 _ (ayB M);cases L;exact vT J
  |deep e v U i j I c z k X G F E C=>exact R i j I c z k G F E C
 |str s=>cases Z
 |ax v p=>cases Z
 |own e H h o R=>cases Z with
  |own e H X Z=>exact R Z
 |dead H h=>cases Z
 |mr n U=>cases Z
def aW.grow(h:aW Q g k H)(I:Below Q.heap.size Q w):aW w g k H:=by
 induction h with
 |sl e A G F Z X U R E C f N=>
  refine aW.sl e A G F Z X U (λi B z=> ?_) E C N;obtain⟨y,b,x,rfl,⟨u,t,r,M⟩,q⟩:=R i B z;have L:=I.block b (vT M);refine⟨y,b,x,rfl,⟨u,t,r,L.trans M⟩,λj c p=> ?_⟩;have J:=q j c p;simp only[World.cell?,L] at J⊢;exact J
 |str s=>exact aW.str s
 |ax v o=>exact aW.ax v o
 |own e H h n N=>exact aW.own e H N n
 |dead H h=>exact aW.dead H h
 |mr m Z X U R l=>exact aW.mr m Z X U R l
def gN.lt(R:gN p f V O N g i W)(h:aE N X=true):ad V X<W.heap.size:=by
 unfold aE at h;obtain⟨⟨t,Z⟩,U⟩:=ayT.1 h;exact(ay0.1 (R.box X t Z U)).1
def gN.below(R:gN p f V O N g i W)(X:Below W.heap.size W Q):gN p f V O N g i Q:=by
 refine⟨R.base.call X,R.own,R.inj,λZ t U h=> ?_,λk e M L J=> ?_⟩;rw[X.block _ (R.lt (by simp[aE,h]))];exact R.box Z t U h;obtain⟨I,H⟩:=R.ref k e M L J;exact⟨I.grow X,H⟩
def uc.lt(h:uc p f V O N g i W X Z H I):I<W.heap.size:=by
 obtain⟨R,Q,M,-,U,-⟩:=h.mem;exact(ay0.1 U).1
def uc.world{W':World}(h:uc p f V O N g i W X Z H I)(U:W'.heap[I]?=W.heap[I]?):uc p f V O N g i W' X Z H I:=by
 obtain⟨R,Q,M,L,J,G⟩:=h.mem;exact⟨h.own,⟨R,Q,M,L,U.trans J,G⟩,h.box,h.alone,h.inner⟩
def ap.below{X:World}(R:ap p f D g V O s a W)(Z:Below W.heap.size W X):ap p f D g V O s a X:=
 ⟨R.mem.below Z,R.dS,R.ei,R.eb,R.er,R.bY.below Z,R.size,R.tmps,λk e U b Q N M=>let t:=R.dK k e U b Q N M;t.world (Z.block b t.lt)⟩
def ap.put(R:ap p f D g V O s a W)(Z:Option Nat)(v:SV):ap p f D g V O (s.put Z v) (a.put Z (v.den O V)) W:=by
 cases Z with
 |none=>exact R
 |some d=>
  refine⟨R.mem,R.dS,R.ei,R.eb,R.er,R.bY,by simp[S.put,qu,Act.put,R.size],λt Q h=> ?_,R.dK⟩;simp only[S.put,qu,azr] at h;simp only[Act.put];split at h;rename_i X;subst X;split at h;rename_i N;cases h;right;have:d<a.tmps.size:=by rw[R.size];exact N
  simp[this];cases h;rename_i X;rcases R.tmps t Q h with U|U;exact .inl U;right;rw[aAa X];exact U
def ap.ue(R:ap p f D g V O s a W)(Z:s.bd=true):SV.ck O.i.length O.b.length O.r.length (aE s.boxes) s.tmps=true/\SV.mC O.i.length O.b.length O.r.length (aE s.boxes) s.boxes=true:=by
 simp only[S.bd,ayz] at Z;rw[R.ei,R.eb,R.er];exact Z
structure jO(bx:aX)(O O':aa)(V V':List Nat):Prop where
 agree:fj O O' O.i.length O.b.length O.r.length
 li:O.i.length<=O'.i.length
 lb:O.b.length<=O'.b.length
 lr:O.r.length<=O'.r.length
 ad:∀k,aE bx k=true->ad V' k=ad V k
def jO.refl(Z:aX)(O:aa)(V:List Nat):jO Z O O V V:=⟨fj.refl _ _ _ _,ayH _,ayH _,ayH _,λ_ _=>rfl⟩
def jO.trans{Z X:aX}{O U R:aa}{V Q N:List Nat}(h:jO Z O U V Q)(k:jO X U R Q N)(L:∀i,aE Z i=true->aE X i=true):jO Z O R V N:=
 ⟨h.agree.trans (k.agree.mono h.li h.lb h.lr),azF h.li k.li,azF h.lb k.lb,azF h.lr k.lr,λj M=>(k.ad j (L j M)).trans (h.ad j M)⟩
def anL(O:aa)(x:XV):O.i.length<=(O.add x).i.length/\O.b.length<=(O.add x).b.length/\O.r.length<=(O.add x).r.length:=by cases x<;>simp[aa.add]
def Nc:∀(Z:List XV)(O:aa),O.i.length<=(O.ext Z).i.length/\O.b.length<=(O.ext Z).b.length/\O.r.length<=(O.ext Z).r.length
 |[],O=>by simp[aa.ext]
 |x::Z,O=>by
  have X:=anL O x;have U:=Nc Z (O.add x);simp only[aa.ext];omega
def yb(X:aX)(O:aa)(Z:List XV)(V:List Nat):jO X O (O.ext Z) V V:=by
 have h:=Nc Z O;exact⟨zZ Z O,h.1,h.2.1,h.2.2,λ_ _=>rfl⟩
def jO.den(h:jO N n c U l)(Z:R.bd n.i.length n.b.length n.r.length (aE N)=true):R.den c l=R.den n U:=SV.cn h.agree h.ad R Z
def jO.au(h:jO N n c U l)(Z:SV.ck n.i.length n.b.length n.r.length (aE N) M=true):SV.au c l M=SV.au n U M:=SV.Fa h.agree h.ad M Z
def jO.bX(h:jO N n c U l)(Z:SV.ck n.i.length n.b.length n.r.length (aE N) M=true):SV.bX c l M=SV.bX n U M:=I9 h.agree h.ad M Z
def dg.ext(h:dg q n)(Z:jO N n c U l):dg q c:=by
 intro x R;obtain⟨X,Q⟩:=h x R;exact⟨aAw X Z.lr,by rw[Z.agree.r _ X];exact Q⟩
def yc(h:e≠X):ad (U.set X I) e=ad U e:=by simp[ad,azc (Ne.symm h)]
def ye(h:X<U.length):ad (U.set X I) X=I:=by simp[ad,h]
def ov(h:lN N X Z=true):dH N X=true:=by simp only[lN,ayz] at h;exact h.1
def Fo(h:lN N X Z=true):mw Z=false:=by simp only[lN,ayz,ayS] at h;exact h.2
def jC(h:dH N X=true):aE N X=false/\X<N.length:=by
 unfold dH at h;split at h;rename_i Z;exact⟨by simp[aE,bS,Z],(ayA.1 Z).1⟩;cases h
def adb(h:dH N X=true)(O:aa)(V:List Nat)(x:Nat):jO N O O V (V.set X x):=
 ⟨fj.refl _ _ _ _,ayH _,ayH _,ayH _,λk Z=>yc (λe=>by subst e;rw[(jC h).1] at Z;cases Z)⟩
def uf{x:Option (TypeId×List SV)}(h:I≠X):bD (N.set X x) I=bD N I:=by simp[bS,azc (Ne.symm h)]
def CH(h:X<N.length):bD (N.set X (some x)) X=some x:=by simp[bS,h]
def lp(h:X<N.length):aE (N.set X (some x)) I=true<->I=X\/aE N I=true:=by
 by_cases Z:I=X;subst Z;simp[aE,CH h];simp[aE,uf Z,Z]
def ap.alloc(R:ap p f D g V O s a W){n:Nat}(B:dH s.boxes n=true)(t:TypeId)(J:List SV)(L:s.cV J=true):
  ap p f D g (V.set n W.heap.size) O (s.bM n t J) a (W.alloc (iS t (SV.bX O V J))):=by
 simp only[S.cV,ayz] at L;obtain⟨I,L⟩:=L;obtain⟨z,y⟩:=R.ue I;rw[<-R.ei,<-R.eb,<-R.er] at L;obtain⟨x,Q⟩:=jC B;have F:=adb B O V W.heap.size;have H:Below W.heap.size W (W.alloc (iS t (SV.bX O V J))):=(Below.refl _ _).alloc (ayH _) _;have M:n<V.length:=by rw[R.dS];exact Q
 have N:∀i,aE s.boxes i=true->i≠n:=λi X e=>by subst e;rw[x] at X;cases X
 refine⟨⟨R.mem.base.alloc _, ?_, ?_, ?_, ?_⟩,by simp[S.bM,R.dS],R.ei,R.eb,R.er,R.bY.below H,R.size, ?_,λk e E b Z U G=> ?_⟩;intro i X;rcases(lp Q).1 X with rfl|h;rw[ye M];exact .inl R.mem.base.size;rw[yc (N i h)];exact R.mem.own i h;intro i j X A h;rcases(lp Q).1 X with rfl|Z;rcases(lp Q).1 A with rfl|U;rfl;rw[ye M,yc (N j U)] at h;have:=R.mem.lt U;omega;rcases(lp Q).1 A with rfl|U;rw[ye M,yc (N i Z)] at h;have:=R.mem.lt Z;omega;rw[yc (N i Z),yc (N j U)] at h;exact R.mem.inj i j Z U h;intro i C w h;by_cases Z:i=n;subst Z;rw[S.bM,CH Q] at h;simp only[ayE,aAe] at h;obtain⟨rfl,rfl⟩:=h;rw[ye M,F.bX L];exact World.alloc_heap_new W _;rw[S.bM,uf Z] at h;rw[yc Z,H.block _ (R.mem.lt (by simp[aE,h])),F.bX (ot y h)];exact R.mem.box i C w h;intro k e E Z U;obtain⟨G,v⟩:=R.mem.ref k e E Z U;refine⟨G.grow H,λb I i X=> ?_⟩;rcases(lp Q).1 X with rfl|h;rw[ye M];have:=G.lt I;omega;rw[yc (N i h)];exact v b I i h;intro C u h;rcases R.tmps C u h with Z|Z;exact .inl Z;right;rw[F.den (qG z h)];exact Z;have t:=R.dK k e E b Z U G;obtain⟨r,q,o,m,l,d⟩:=t.mem;refine⟨t.own,⟨r,q,o,m,(H.block b t.lt).trans l,d⟩,λi X=> ?_,t.alone,t.inner⟩;rcases(lp Q).1 X with rfl|h;rw[ye M];have:=t.lt;omega;rw[yc (N i h)];exact t.box i h
def ug(l:List Value)(Z:Nat):List Value->List Value
 |[]=>l
 |v::r=>ug (l.set Z v) (Z+1) r
def UJ:∀(X l:List Value)(Z:Nat),(ug l Z X).length=l.length
 |[],l,Z=>rfl
 |v::X,l,Z=>by rw[ug,UJ];simp
def adc:∀(Z l:List SV)(X:Nat),SV.au O V (iD l X Z)=ug (SV.au O V l) X (SV.au O V Z)
 |[],l,X=>rfl
 |v::Z,l,X=>by
  rw[iD,adc Z,SV.au,ug];congr 1;simp[lj]
def ade{v:Value}(h:fu v=true):v.oneCell'=true:=by cases v<;>simp_all[fu,Value.oneCell']
def UK(b Z:Nat)(t:TypeId):∀(R:List Value)(i:Nat)(X:Array Value)(W:World),W.heap[b]?=some (.cells X t (0,0))->Z+i+R.length<=X.size->(∀v∈R,fu v=true)->
  ∃U,(storeCells ⟨b,Z,none⟩ R i).run P W=.ok () U/\U.heap[b]?=some (.cells (ug X.toList (Z+i) R).toArray t (0,0))/\(∀k,k≠b->U.heap[k]?=W.heap[k]?)/\U.heap.size=W.heap.size/\U.os=W.os/\U.tape=W.tape/\U.output=W.output
 |[],i,X,W,Q,_,_=>⟨W,rfl,by simpa[ug] using Q,λ_ _=>rfl,rfl,rfl,rfl,rfl⟩
 |v::R,i,X,W,Q,L,N=>by
  simp only[azn] at L;have J:Z+i<X.size:=by omega
  have I:W.cell? ⟨b,Z+i,none⟩=some X[Z+i]:=by simp[World.cell?,Q,J]
  have H:W.frozen? ⟨b,Z+i,none⟩=false:=by simp[World.frozen?,Q]
  have G:(store ((⟨b,Z,none⟩:Addr).add i) v).run P W=.ok () (W.setCell ⟨b,Z+i,none⟩ v):=by
   rw[sq,run_store P W _ v _ (ade (N v (by simp))),I];simp[H]
  have F:(W.setCell ⟨b,Z+i,none⟩ v).heap[b]?=some (.cells (X.setIfInBounds (Z+i) v) t (0,0)):=by
   simp[World.setCell,az7,Q]
  obtain⟨U,E,C,B,A,z,y,w⟩:=UK b Z t R (i+1) (X.setIfInBounds (Z+i) v) (W.setCell ⟨b,Z+i,none⟩ v) F (by simp;omega) (λx u=>N x (by simp[u]));refine⟨U,by simp only[storeCells,Sem.run_bind,G,Result.andThen_ok,E], ?_,λk M=>(B k M).trans (Below.heap_setCell _ _ _ _ M),A.trans (by simp[World.setCell]),z,y,w⟩;rw[C,ug];simp[aAd]
def adf(R:ap p f D g V O s a W):∀{l:List SV},zM l=true->∀v∈SV.au O V l,fu v=true
 |[],_,v,Z=>by simp[SV.au] at Z
 |x::U,h,v,Z=>by
  simp only[Mt,ayz] at h;simp only[SV.au,ayK] at Z;rcases Z with rfl|Z;have X:=h.1;cases x<;>simp[SV.single] at X<;>try rfl
  rename_i r;exact qH R r (by cases r<;>simp_all[RE.B8]);simp only[SV.den];exact Ut _ _ _;exact adf R h.2 v Z
def ap.store(R:ap p f D g V O s a W){L:TypeId}(u:cS P Z J){off:Nat}{v:SV}(Q:bD s.boxes X=some (L,M))(eW:mw L=false)(r:v.cells.length=J.ae.length)(ho:off+v.cells.length<=M.length)(q:zM v.cells=true)(z:(v.den O V).cells.toList=SV.au O V v.cells):
  ∃I,(Instr.storeAt Z (.pointer (some ⟨ad V X,off,none⟩)) (v.den O V)).run P W=.ok () I/\ap p f D g V O (s.bM X L (iD M off v.cells)) a I:=by
 have E:=R.mem.box X L M Q;rw[ou eW] at E;obtain⟨I,o,n,H,m,l,d,c⟩:=UK (P:=P) (ad V X) off L (SV.au O V v.cells) 0 _ W E (by simp;omega) (adf R q);have ab:(v.den O V).cells.size=J.ae.length:=by rw[<-azL,z];simp[r]
 have y:X<s.boxes.length:=(ayA.1 (gg.1 Q)).1;have G:aE s.boxes X=true:=by simp[aE,Q]
 have F:∀j,aE (s.boxes.set X (some (L,iD M off v.cells))) j=true->aE s.boxes j=true:=λj U=>by
  rcases(lp y).1 U with rfl|h;exact G;exact h
 refine⟨I, ?_,⟨⟨?_,λj U=>R.mem.own j (F j U),λj k U C=>R.mem.inj j k (F j U) (F k C), ?_, ?_⟩,by simpa[S.bM] using R.dS,R.ei,R.eb,R.er,R.bY.cells E (λb Q _=>H b Q),R.size,R.tmps,λk e B b q1 q2 q3=> ?_⟩⟩;simp only[Instr.storeAt,Instr.sureAddr,storeVar,Sem.run_bind,Sem.run_pure,Result.andThen_ok,u.jN,ab,z,ne_eq,not_true_eq_false,if_false,o];refine⟨l.trans R.mem.base.os,d.trans R.mem.base.tape,c.trans R.mem.base.output,by rw[m];exact R.mem.base.size,λk C x=> ?_⟩;have af:k≠ad V X:=by
  rintro rfl;rcases R.mem.own X G with h|h;omega;exact x h
 rw[H k af];exact R.mem.base.block k C x;intro j N ag U;by_cases A:j=X;subst A;rw[S.bM,CH y] at U;simp only[ayE,aAe] at U;obtain⟨rfl,rfl⟩:=U;rw[n,ou eW,adc];simp;rw[S.bM,uf A] at U;rw[H _ (λh=>A (R.mem.inj j X (by simp[aE,U]) G h))];exact R.mem.box j N ag U;intro k e B al an;obtain⟨a0,w⟩:=R.mem.ref k e B al an;exact⟨a0.Fm (λb Q=>H b (λh=>w b Q X G h.symm)) (by omega),λb Q j U=>w b Q j (F j U)⟩;have Z:=R.dK k e B b q1 q2 q3;have N:=Z.world (W':=I) (H b (λh=>Z.box X G h.symm));exact⟨N.own,N.mem,λj U=>N.box j (F j U),N.alone,N.inner⟩
end
end
end
end Go.Proofs.YtieaiocljdpebaaGreatDoor.Y
