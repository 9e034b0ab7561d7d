/- Part 1 of the proof; the last part says what is shown. -/
import GoSem.Step
import Derived.Below
import Derived.Laws.AppendOwn
import Derived.Deep.Draws
import Derived.RangeFuncRecord
import Derived.CallsIn
import Derived.OrdersIn
import Derived.Sort.LoopGhostIn
import Derived.RangeFuncCalls
import Derived.Laws.Cells
import Derived.MapKept
set_option linter.all false
open Bool renaming and_eq_true->axI,not_eq_true'->ax0,false_eq_true->ax3,or_eq_true->ayb,eq_iff_iff->ayS,not_eq_false->azc,rec->aAd,or_eq_true_iff->aAt,and_assoc->aAX,true_or->aBc
open List renaming getElem?_eq_some_iff->axJ,getElem?_eq_getElem->axK,getElem?_append_left->axL,getD_eq_getElem?_getD->axN,getElem?_map->axO,getElem?_append_right->axP,mem_cons->axT,map_cons->axV,replicate->axW,length_append->axX,all_eq_true->axU,range->ax6,mem_of_getElem?->ax4,mem_map->aya,map_congr_left->ax7,length_eq_one_iff->aye,ext_getElem?->ayf,getElem?_take->ayi,getElem?_cons_succ->ayk,getElem?_drop->ayq,getElem?_set_ne->ays,length_cons->ayu,map_map->ayw,getElem?_of_mem->ayx,length_map->ayA,getElem?_set->ayD,getElem?_eq_none_iff->ayC,drop_eq_getElem_cons->ayG,mem_cons_of_mem->ayV,getElem_mem->ayT,range'->ay5,mem_of_find?_eq_some->azm,foldl_cons->ay8,rec->azw,range_eq_range'->azz,all_cons->azx,find?_some->az0,zip_cons_cons->azJ,range'_succ->azV,length->azO,drop_eq_nil_of_le->aAb,length_singleton->aAh,getElem?_toArray->aAi,find?_cons->aAO,drop_zero->aAY,mapM_cons->aAZ
open Option.some renaming injEq->axM
open Nat renaming le_refl->axQ,lor->axZ,zero_add->ayg,shiftLeft->ayn,le_trans->ayt,beq->ayz,add_zero->ay4,testBit_or->azb,add_assoc->azp,testBit_add_one->azr,lt_of_lt_of_le->azI,rec->aAf,testBit_shiftLeft->aAg,one_shiftLeft->aAC,testBit_zero->aAG,eq_of_beq_eq_true->aAW,beq_eq->aA4,testBit_two_pow->aA8,gcd->aBp
open Option renaming map_some->axR,isSome_iff_exists->ax1,getD_some->ayo,bind_some->azW,getD_none->aAe
open Array renaming getElem?_eq_some_iff->ax9,ext'->ayF,toList_map->ayI,length_toList->ayU,getElem?_modify->azk,getElem?_setIfInBounds_ne->azF,mapM_eq_mapM_toList->aAD,getElem?_eq_none->aAQ,foldl_toList->aBd
open List.cons renaming injEq->ayH
open Prod.mk renaming injEq->azq
namespace Go.Proofs.YtieaiocljdpebaaGreatDoor.Y
variable{X I e:Nat}{r:Nat→Bool}
structure Sh where
 kt:TypeId
 vt:TypeId
 nk:Nat
 ka:Bool
 va:Bool
 deriving DecidableEq
inductive RK where
 |sl (e:TypeId)
 |str
 |aq
 |own (e:TypeId)
 |dead
 |mr (sh:Sh)
 deriving DecidableEq
def RK.rd:RK->RK
 |.own e=>.sl e
 |k=>k
inductive CT where
 |int (k:IntKind)
 |bool
 |aq (z:Value) (k:RK)
inductive TD where
 |one
 |dV
 |str
 |slice (e:TypeId)
 |arr (n:Nat) (e:TypeId)
 |struct (fs:List (Nat×TypeId))
 |map (k e:TypeId) (n:Nat) (ag:Bool)
structure TI where
 d:TD
 ab:List CT
 eq:Bool:=false
mutual
inductive IE where
 |c (n:Int)
 |v (k:Nat)
 |bin (op:BinOp) (k:IntKind) (a b:IE)
 |conv(k:IntKind) (a:IE)
 |len (r:RE)
 |mm (mx:Bool) (a b:IE)
 |bT (b:BE) (x y:IE)
 |cell (r:RE) (i:IE) (j:Nat)
 |jS (r:RE) (i:IE)
 |look (r:RE) (n:Nat) (a b c:IE) (j:Nat)
inductive BE where
 |c (b:Bool)
 |v (k:Nat)
 |cmp (op:BinOp) (a b:IE)
 |not (a:BE)
 |and (a b:BE)
 |beq (a b:BE)
 |bT (b x y:BE)
 |cell (r:RE) (i:IE) (j:Nat)
 |seq (a b:RE)
 |look (r:RE) (n:Nat) (a b c:IE) (j:Nat)
 |has (r:RE) (n:Nat) (a b c:IE)
inductive RE where
 |v (k:Nat)
 |cell (r:RE) (i:IE) (j:Nat) (k:RK)
 |k (v:Value)
end
inductive SV where
 |int (k:IntKind) (e:IE)
 |bool (b:BE)
 |ref (r:RE)
 |loc (i off:Nat)
 |el (r:RE) (w:Nat) (i:IE) (off:Nat)
 |fy (i off len cap:Nat)
 |agg (l:List SV)
 |bm (l:List SV)
 |fn (f:FuncId) (caps:List SV)
 |dV (t:TypeId) (x:SV)
 |yl (n:Nat)
 |any
 |mp (i:Nat)
 |dI (e:IE) (ks:List Int) (vs:List SV)
inductive PX where
 |ret
 |exit (id:Nat)
 deriving DecidableEq
inductive kV where
 |ready
 |busy
 |done (e:PX)
 deriving DecidableEq
abbrev aY:=List (Option (TypeId×List SV))
structure S where
 tmps:List SV
 boxes:aY
 ni:Nat
 nb:Nat
 rs:List RK
 av:Nat
 lk:Nat
 pd:List kV
noncomputable def bF(l:aY)(i:Nat):Option (TypeId×List SV):=azw (motive:=λ_=>Nat->Option (TypeId×List SV)) (λ_=>none) (λx _ Z t=>aAf (motive:=λ_=>Option (TypeId×List SV)) x (λm _=>Z m) t) l i
def bU:∀(l:aY)(i:Nat),bF l i=(match l[i]? with
  |some (some b)=>some b
  |_=>none)
 |[],_=>rfl
 |none::_,0=>rfl
 |some _::_,0=>rfl
 |_::l,i+1=>by rw[ayk];exact bU l i
noncomputable section
def pK:TypeId:=1099511627776
def qK:TypeId:=1099511627777
def sk:TypeId:=1099511627778
def oO(t:TypeId):Bool:=decide (pK<=t)
def i6(l:aY)(i:Nat):Option (TypeId×List SV):=match bF l i with
 |some (t,Z)=>if oO t then none else some (t,Z)
 |none=>none
inductive LK where
 |int (k:IntKind)
 |bool
 |ref (k:RK)
 deriving DecidableEq
inductive XE where
 |normal
 |ret
 |exit (id:Nat)
 |aW (v:SV)
inductive LE where
 |ref (r:RE)
 |lit (l:List (List SV))
 |jr (a b:LE)
 |mW (n:IE) (row:List SV)
 |set (a:LE) (i:IE) (off:Nat) (cs:List SV)
 |sub (a:LE) (lo hi:IE)
 |ins (a:LE) (n:Nat) (cs:List SV)
inductive aI where
 |lex (cs:List Nat) (desc:Bool)
 |ratio (n d:Nat)
 |cz (k:Nat) (o:aI) (as:List IE)
inductive T where
 |out (e:XE) (s:S)
 |ret (v:SV) (bx:aY) (rs:List RK)
 |aW (v:SV)
 |node (b:BE) (t f:T)
 |az (b:BE) (t:T)
 |call (f:FuncId) (args:List SV) (bx:aY) (rs:List RK) (ks:List LK) (eP:SV) (t:T)
 |loop (av:Nat) (ks:List LK) (x0:List SV) (t:T)
 |back (av:Nat) (x:List SV)
 |new (e:TypeId) (x:LE) (rs rsn:List RK) (t:T)
 |rows (k:RK) (x:LE) (rs:List RK) (t:T)
 |ey (g h:BE) (t f:T)
 |pick (n:IE) (g h:BE) (t f:T)
 |dq (f g:FuncId) (e:TypeId) (sp:aI) (st:Bool) (r:RE) (rs:List RK) (t:T)
 |stuck (msg:String)
def EY:Value->SV
 |.int k n=>.int k (.c n)
 |.bool b=>.bool (.c b)
 |v=>.ref (.k v)
def I2:Value->SV
 |.int k n=>.int k (.c n)
 |.bool b=>.bool (.c b)
 |.agg Z=>.agg (Z.toList.map EY)
 |v=>.ref (.k v)
def TO(l:List SV)(t:Nat):SV:=azw (motive:=λ_=>Nat->SV) (λ_=>.any) (λx _ Z t=>aAf (motive:=λ_=>SV) x (λm _=>Z m) t) l t
def abQ(l:List SV)(d:Nat)(v:SV):List SV:=azw (motive:=λ_=>Nat->List SV) (λ_=>[]) (λx Z X d=>aAf (motive:=λ_=>List SV) (v::Z) (λm _=>x::X m) d) l d
@[simp] def sn:∀(l:List SV)(t:Nat),TO l t=l.getD t .any
 |[],_=>rfl
 |_::_,0=>rfl
 |_::Z,t+1=>sn Z t
@[simp] def qL:∀(l:List SV)(d:Nat)(v:SV),abQ l d v=l.set d v
 |[],_,_=>rfl
 |_::_,0,_=>rfl
 |x::Z,d+1,v=>congrArg (x::·) (qL Z d v)
def S.ev(Z:List (Nat×Nat×Nat))(s:S):Operand->SV
 |.tmp t=>TO s.tmps t
 |.const v=>I2 v
 |.global g=>match Z.find? (λx=>x.1==g) with
  |some (_,k,w)=>.el (.v k) w (.c 0) 0
  |none=>.any
 |.func f=>.fn f []
def S.put(s:S)(Z:Option Nat)(v:SV):S:=
 match Z with
 |some d=>{s with tmps:=abQ s.tmps d v}
 |none=>s
def Ad(r:RE)(i:IE)(j:Nat):CT->SV
 |.int k=>.int k (.cell r i j)
 |.bool=>.bool (.cell r i j)
 |.aq _ k=>.ref (.cell r i j k)
def xX:CT->SV
 |.int k=>.int k (.c 0)
 |.bool=>.bool (.c false)
 |.aq z _=>.ref (.k z)
def TD.isAgg:TD->Bool
 |.arr _ _|.struct _=>true
 |_=>false
def SV.cells:SV->List SV
 |.agg l=>l
 |v=>[v]
def fG:Value->Bool
 |.agg _|.tuple _=>false
 |_=>true
def RE.Cm:RE->Bool
 |.k w=>fG w
 |_=>true
def SV.Cn:SV->Bool
 |.ref (.k w)=>fG w
 |_=>true
def SV.single:SV->Bool
 |.ref (.k w)=>fG w
 |.agg _|.bm _|.any=>false
 |_=>true
noncomputable def Ae(l:List SV):Bool:=azw (motive:=λ_=>Bool) true (λx _ Z=>aAd (motive:=λ_=>Bool) false Z x.single) l
def MI:(Ae []=true)/\(∀x Z,Ae (x::Z)=(x.single&&Ae Z)):=⟨rfl,λx Z=>by
 show aAd (motive:=λ_=>Bool) false (Ae Z) x.single=_;cases x.single<;>rfl⟩
def sq(l:List SV)(Z n:Nat):List SV:=(l.drop Z).take n
def sr(Z:TI)(l:List SV)(X:Nat):Option SV:=
 if Z.d.isAgg then(if X+Z.ab.length<=l.length then some (.agg (sq l X Z.ab.length)) else none) else l[X]?
def iK(l:List SV)(Z:Nat):List SV->List SV
 |[]=>l
 |v::r=>iK (l.set Z v) (Z+1) r
def uf(place:Nat->Option (Nat×Nat))(cells:List SV):List (Nat×SV)->Option (List SV)
 |[]=>some cells
 |(i,v)::W=>
  match place i with
  |none=>none
  |some (Z,X)=>if v.cells.length !=X||decide (cells.length<Z+X)|| !v.Cn then none else uf place (iK cells Z v.cells) W
def cA(Z:TI):List SV:=Z.ab.map xX
def ss(n:Nat)(l:List SV):List SV:=match n with
 |0=>[]
 |n+1=>l++ss n l
def MJ:BinOp->Bool
 |.eql|.neq|.lss|.leq|.gtr|.geq=>true
 |_=>false
def eG:BinOp->Int->Int->Bool
 |.eql,x,y=>x==y
 |.neq,x,y=>x !=y
 |.lss,x,y=>decide (x<y)
 |.leq,x,y=>decide (x<=y)
 |.gtr,x,y=>decide (x>y)
 |.geq,x,y=>decide (x>=y)
 |_,_,_=>false
def aR:BinOp->IntKind->Int->Int->Int
 |.add,k,x,y=>k.wrap (x+y)
 |.sub,k,x,y=>k.wrap (x-y)
 |.mul,k,x,y=>k.wrap (x*y)
 |.quo,k,x,y=>k.wrap (x.tdiv y)
 |.rem,_,x,y=>x.tmod y
 |.shr,k,x,y=>x.fdiv (2^min y.toNat k.bits)
 |_,_,_,_=>0
def TP:BinOp->Bool
 |.add|.sub|.mul=>true
 |_=>false
def TQ:BinOp->Bool
 |.quo|.rem=>true
 |_=>false
def abR:BinOp->Bool
 |.shr=>true
 |_=>false
inductive PR where
 |ok (v:SV)
 |az (b:BE) (v:SV)
 |no (why:String)
def Co(Z:BinOp)(k:IntKind):IE->IE->IE
 |.c x,.c y=>.c (aR Z k x y)
 |a,b=>.bin Z k a b
def mj(Z:BinOp):IE->IE->BE
 |.c x,.c y=>.c (eG Z x y)
 |a,b=>.cmp Z a b
def Af:BE->BE
 |.c b=>.c (!b)
 |b=>.not b
def qM:BE->BE->BE
 |.c true,b=>b
 |.c false,_=>.c false
 |a,.c true=>a
 |a,b=>.and a b
def I3:BE->BE->BE
 |.c a,.c b=>.c (a==b)
 |.c true,b=>b
 |.c false,b=>Af b
 |a,.c true=>a
 |a,.c false=>Af a
 |a,b=>.beq a b
def qN(i:IE)(n:IE):BE:=qM (mj .leq (.c 0) i) (mj .lss i n)
def MK(Z:Bool):IE->IE->IE
 |.c x,.c y=>.c (if Z then max x y else min x y)
 |a,b=>.mm Z a b
def Cp(Z:Bool)(k:IntKind):IE->List SV->Option IE
 |e,[]=>some e
 |e,.int X x::r=>if k=X then Cp Z k (MK Z e x) r else none
 |_,_=>none
abbrev Ty:=TypeId->Option TI
def ba(X:Ty):RK->List CT
 |.sl e=>match X e with
  |some Z=>Z.ab
  |none=>[]
 |.mr W=>(match X W.kt with
  |some Z=>Z.ab
  |none=>[])++(match X W.vt with
  |some Z=>Z.ab
  |none=>[])
 |_=>[]
def Cq:Option CT->RK
 |some (.aq _ k)=>k
 |_=>.aq
def RE.kind(Z:Ty)(s:S):RE->RK
 |.v n=>(s.rs.getD n .aq).rd
 |.cell r _ j X=>match RE.kind Z s r with
  |.sl e=>if Cq (ba Z (.sl e))[j]?=X then X else .aq
  |_=>.aq
 |.k (.string _)=>.str
 |.k _=>.aq
def EZ(Z:Ty)(s:S):CT->SV->SV->Option BE
 |.int k,.int X a,.int W b=>if X=k/\W=k then some (mj .eql a b) else none
 |.bool,.bool a,.bool b=>some (I3 a b)
 |.aq _ .str,.ref a,.ref b=>if a.kind Z s=.str/\b.kind Z s=.str then some (.seq a b) else none
 |_,_,_=>none
def nS(Z:Ty)(s:S):List CT->List SV->List SV->Option BE
 |[],[],[]=>some (.c true)
 |c::X,x::W,y::V=>match EZ Z s c x y,nS Z s X W V with
  |some a,some b=>some (qM a b)
  |_,_=>none
 |_,_,_=>none
def E0(Z:Ty)(s:S)(X:Option TI)(a b:List SV):Option BE:=match X with
 |some ⟨_,ab,true⟩=>nS Z s ab a b
 |_=>none
def TR(Z:Ty)(X:List (Nat×TypeId))(i:Nat):Option (Nat×Nat):=match X[i]? with
 |some (o,W)=>(Z W).map λf=>(o,f.ab.length)
 |none=>none
def RE.nil:RE->Bool
 |.k (.slice none 0 0)=>true
 |_=>false
def RE.mX(Z:Ty)(s:S)(X:Sh)(r:RE):Bool:=decide (r.kind Z s=.mr X)||r.nil
def Cr(n:Nat)(Z:Bool):SV->Option (IE×IE×IE)
 |.int .i64 a=>if n==1&& !Z then some (a,.c 0,.c 0) else none
 |.agg [.int .i64 a]=>if n==1&&Z then some (a,.c 0,.c 0) else none
 |.agg [.int .i64 a,.int .i64 b]=>if n==2&&Z then some (a,b,.c 0) else none
 |.agg [.int .i64 a,.int .i64 b,.int .i64 c]=>if n==3&&Z then some (a,b,c) else none
 |_=>none
def jT:CT->Bool
 |.aq _ _=>false
 |_=>true
def mY(r:RE)(n:Nat)(a b c:IE):Nat->List CT->List SV
 |_,[]=>[]
 |j,.int k::Z=>.int k (.look r n a b c j)::mY r n a b c (j+1) Z
 |j,.bool::Z=>.bool (.look r n a b c j)::mY r n a b c (j+1) Z
 |j,.aq z _::Z=>.ref (.k z)::mY r n a b c (j+1) Z
def oP(Z:Bool)(l:List SV):SV:=if Z then .agg l else l.getD 0 .any
def mZ:List SV->Option (List Int)
 |[]=>some []
 |.int .i64 (.c k)::_::r=>(mZ r).map (k::·)
 |_=>none
def jt:List SV->List SV
 |_::v::r=>v::jt r
 |_=>[]
def vS(e:IE):List Int->List SV->Option IE
 |k::Z,.int _ x::X=>(vS e Z X).map λy=>.bT (.cmp .eql e (.c k)) x y
 |[],[]=>some (.c 0)
 |_,_=>none
def xY(e:IE):List Int->List SV->Option BE
 |k::Z,.bool x::X=>(xY e Z X).map λy=>.bT (.cmp .eql e (.c k)) x y
 |[],[]=>some (.c false)
 |_,_=>none
def E1:SV->Bool
 |.fn _ _=>true
 |.ref (.k .nilFunc)=>true
 |_=>false
def I4:Option TI->Bool
 |some ⟨.one,[.aq .nilFunc _],_⟩=>true
 |_=>false
def xZ(e:IE):List Int->List SV->BE
 |k::Z,.fn _ _::X=>.bT (.cmp .eql e (.c k)) (.c false) (xZ e Z X)
 |k::Z,_::X=>.bT (.cmp .eql e (.c k)) (.c true) (xZ e Z X)
 |_,_=>.c true
def TS(e:IE)(X:List Int)(Z:List SV):CT->Option SV
 |.int k=>if Z.all λv=>match v with|.int W _=>decide (k=W)|_=>false then(vS e X Z).map (.int k) else none
 |.bool=>(xY e X Z).map .bool
 |.aq .nilFunc _=>if Z.all E1&&X.length==Z.length then some (.dI e X Z) else none
 |_=>none
def ya(e:IE)(Z:List Int)(X:List (List SV)):Nat->List CT->Option (List SV)
 |_,[]=>some []
 |j,c::W=>match TS e Z (X.map λr=>r.getD j .any) c,ya e Z X (j+1) W with
  |some v,some r=>some (v::r)
  |_,_=>none
def Cs(e:IE):List Int->BE
 |[]=>.c false
 |k::Z=>.bT (.cmp .eql e (.c k)) (.c true) (Cs e Z)
def cO{Z:Type}(x:Int):List Int->List Z->Option Z
 |k::X,v::W=>if x=k then some v else cO x X W
 |_,_=>none
def vT(Z:TI)(v:SV):Bool:=v.cells.length==Z.ab.length&&v.Cn&&(match v with
 |.agg _=>Z.d.isAgg
 |_=> !Z.d.isAgg)
def abS(Z:TI)(e:IE)(X:List SV):Option (SV×BE):=match mZ X with
 |some W=>match e with
  |.c x=>match cO x W (jt X) with
   |some v=>some (v,.c true)
   |none=>some (oP Z.d.isAgg (cA Z),.c false)
  |e=>if(jt X).all (vT Z) then(ya e W ((jt X).map SV.cells) 0 Z.ab).map λl=>(oP Z.d.isAgg l,Cs e W) else none
 |none=>none
def TU:CT->Bool
 |.int .i64=>true
 |_=>false
def oQ(Z:Ty)(k:TypeId)(n:Nat)(X:Bool):Bool:=match Z k with
 |some tk=>tk.ab.length==n&&tk.ab.all TU&&tk.d.isAgg==X
 |none=>false
def ML(Z:Bool)(v:SV)(b:BE):PR:=.ok (if Z then .bm [v,.bool b] else v)
def MM(W:Ty)(s:S)(k e:TypeId)(n:Nat)(X V:Bool)(i:Nat)(Q:SV):PR:=match W e,Cr n X Q,bF s.boxes i with
 |some Z,some (a,b,c),some (U,R)=>if !oQ W k n X then .no "" else
  if U==qK then(match R with
   |[.ref r,.int .i64 (.c P),.bool (.c O),.bool (.c N)]=>if r.mX W s ⟨k,e,n,X,Z.d.isAgg⟩&&P==(n:Int)&&O==X&&N==Z.d.isAgg&&Z.ab.all jT&&Z.ab.length !=0 then ML V (oP Z.d.isAgg (mY r n a b c n Z.ab)) (.has r n a b c) else .no ""
   |_=>.no "")
  else if U==pK then(if n==1&& !X then(match abS Z a R with
   |some (v,x)=>ML V v x
   |none=>.no "") else .no "")
  else .no ""
 |_,_,_=>.no ""
def yb(n:Nat):List Int:=(ax6 n).map λ(i:Nat)=>(i:Int)
def MN(Z:TI)(e:IE)(W:List Int)(X:List SV):Option SV:=if X.all (vT Z) then(ya e W (X.map SV.cells) 0 Z.ab).map (oP Z.d.isAgg) else none
def ug(Z:List SV):Option Nat:=match Z with
 |.loc i _::_=>if Z.all λv=>match v with
  |.loc j _=>i==j
  |_=>false then some i else none
 |_=>none
def Ah{Z:Type}:List (Option Z)->Option (List Z)
 |[]=>some []
 |some x::r=>(Ah r).map (x::·)
 |none::_=>none
def TV(Z:TI)(X:List SV):SV->Option SV
 |.loc _ W=>sr Z X W
 |_=>none
def bz(Z:Ty)(X:List (Nat×Nat×Nat))(s:S):Op->PR
 |.move x|.assign x=>.ok (s.ev X x)
 |.pick c a b=>match s.ev X c with
  |.bool (.c true)=>.ok (s.ev X a)
  |.bool (.c false)=>.ok (s.ev X b)
  |_=>.no ""
 |.load t a=>match Z t,s.ev X a with
  |some R,.loc i W=>match i6 s.boxes i with
   |some (_,M)=>match sr R M W with
    |some v=>.ok v
    |none=>.no ""
   |none=>.no ""
  |some R,.el r w i W=>match r.kind Z s with
   |.sl e=>
    if(ba Z (.sl e)).length !=w then .no "" else
    match sr R ((ax6 w).map λj=>Ad r i j ((ba Z (.sl e)).getD j .bool)) W with
    |some v=>.az (qN i (.len r)) v
    |none=>.no ""
   |_=>.no ""
  |some R,.dI e O P=>match(ug P).bind λi=>i6 s.boxes i with
   |some (_,M)=>match(Ah (P.map (TV R M))).bind (MN R e O) with
    |some v=>if O.length==P.length then .az (Cs e O) v else .no ""
    |none=>.no ""
   |none=>.no ""
  |_,_=>.no ""
 |.fieldAddr L x f=>match Z L,s.ev X x with
  |some ⟨.struct Q,_,_⟩,.loc i W=>match Q[f]? with
   |some (o,t)=>match Z t with
    |some R=>if R.ab.length==0 then .no "" else .ok (.loc i (W+o))
    |none=>.no ""
   |none=>.no ""
  |some ⟨.struct Q,_,_⟩,.el r w i W=>match Q[f]? with
   |some (o,t)=>match Z t with
    |some R=>if R.ab.length==0 then .no "" else .ok (.el r w i (W+o))
    |none=>.no ""
   |none=>.no ""
  |_,_=>.no ""
 |.field L x f=>match Z L,s.ev X x with
  |some ⟨.struct Q,_,_⟩,.agg l=>match Q[f]? with
   |some (o,t)=>match Z t with
    |some R=>match sr R l o with
     |some v=>.ok v
     |none=>.no ""
    |none=>.no ""
   |none=>.no ""
  |_,_=>.no ""
 |.indexAddr t x N=>match Z t,s.ev X x,s.ev X N with
  |some ⟨.arr n e,_,_⟩,.loc i W,.int _ (.c m)=>match Z e with
   |some V=>if decide (0<=m)&&decide (m<(n:Int)) then .ok (.loc i (W+m.toNat*V.ab.length)) else .no ""
   |none=>.no ""
  |some ⟨.arr n e,_,_⟩,.el r w (.c i) W,.int _ m=>match Z e with
   |some V=>if V.ab.length==w&&i==0&&W==0&&V.ab.length !=0 then .az (qN m (.c n)) (.el r w m 0) else
    match m with
    |.c m=>if decide (0<=m)&&decide (m<(n:Int)) then .ok (.el r w (.c i) (W+m.toNat*V.ab.length)) else .no ""
    |_=>.no ""
   |none=>.no ""
  |some ⟨.arr n e,_,_⟩,.el r w i W,.int _ (.c m)=>match Z e with
   |some V=>if decide (0<=m)&&decide (m<(n:Int)) then .ok (.el r w i (W+m.toNat*V.ab.length)) else .no ""
   |none=>.no ""
  |some ⟨.slice e,_,_⟩,.ref r,.int _ m=>match Z e,r.kind Z s with
   |some V,.sl _=>.az (qN m (.len r)) (.el r V.ab.length m 0)
   |_,_=>.no ""
  |some ⟨.slice e,_,_⟩,.fy i W I _,.int _ (.c m)=>match Z e with
   |some V=>if decide (0<=m)&&decide (m<(I:Int)) then .ok (.loc i (W+m.toNat*V.ab.length)) else .no ""
   |none=>.no ""
  |some ⟨.arr n e,_,_⟩,.loc i W,.int _ m=>match Z e with
   |some V=>.az (qN m (.c n)) (.dI m (yb n) ((ax6 n).map λj=>.loc i (W+j*V.ab.length)))
   |none=>.no ""
  |_,_,_=>.no ""
 |.index t x N=>match Z t,s.ev X x,s.ev X N with
  |some ⟨.arr n e,_,_⟩,.agg l,.int _ (.c m)=>match Z e with
   |some V=>if decide (0<=m)&&decide (m<(n:Int)) then(match sr V l (m.toNat*V.ab.length) with
    |some v=>.ok v
    |none=>.no "") else .no ""
   |none=>.no ""
  |some ⟨.arr n e,_,_⟩,.agg l,.int _ m=>match Z e with
   |some V=>match(Ah ((ax6 n).map λj=>sr V l (j*V.ab.length))).bind (MN V m (yb n)) with
    |some v=>.az (qN m (.c n)) v
    |none=>.no ""
   |none=>.no ""
  |some ⟨.str,_,_⟩,.ref r,.int _ m=>match r.kind Z s with
   |.str=>.az (qN m (.len r)) (.int .u8 (.jS r m))
   |_=>.no ""
  |_,_,_=>.no ""
 |.binOp U t x y _=>match s.ev X x,s.ev X y with
  |.int k a,.int H b=>
   if abR U then(match b with
    |.c n=>if decide (0<=n) then .ok (.int k (Co U k a (.c n))) else .no ""
    |_=>.no "") else
   if k≠H then .no "" else
   if MJ U then .ok (.bool (mj U a b)) else
   if TP U then .ok (.int k (Co U k a b)) else
   if TQ U then(match b with
    |.c n=>if n==0 then .no "" else .ok (.int k (Co U k a b))
    |_=>.az (mj .neq b (.c 0)) (.int k (Co U k a b))) else .no ""
  |.bool a,.bool b=>match Z t,U with
   |some ⟨.one,[.bool],_⟩,.eql=>.ok (.bool (I3 a b))
   |some ⟨.one,[.bool],_⟩,.neq=>.ok (.bool (Af (I3 a b)))
   |_,_=>.no ""
  |.ref (.k .nilFunc),.ref (.k .nilFunc)=>if !I4 (Z t) then .no "" else match U with
   |.eql=>.ok (.bool (.c true))
   |.neq=>.ok (.bool (.c false))
   |_=>.no ""
  |.ref a,.ref b=>match a.kind Z s,b.kind Z s,U with
   |.str,.str,.eql=>.ok (.bool (.seq a b))
   |.str,.str,.neq=>.ok (.bool (.not (.seq a b)))
   |_,_,_=>.no ""
  |.fn _ _,.ref (.k .nilFunc)=>if !I4 (Z t) then .no "" else match U with
   |.eql=>.ok (.bool (.c false))
   |.neq=>.ok (.bool (.c true))
   |_=>.no ""
  |.dI e O P,.ref (.k .nilFunc)=>if P.all E1&&O.length==P.length&&I4 (Z t) then(match U with
   |.eql=>.ok (.bool (xZ e O P))
   |.neq=>.ok (.bool (Af (xZ e O P)))
   |_=>.no "") else .no ""
  |.agg a,.agg b=>match U,E0 Z s (Z t) a b with
   |.eql,some e=>.ok (.bool e)
   |.neq,some e=>.ok (.bool (Af e))
   |_,_=>.no ""
  |_,_=>.no ""
 |.unOp U _ x=>match U,s.ev X x with
  |.not,.bool b=>.ok (.bool (Af b))
  |.neg,.int k e=>.ok (.int k (Co .sub k (.c 0) e))
  |_,_=>.no ""
 |.convert G F x=>match Z G,Z F,s.ev X x with
  |some ⟨.one,[.int _],_⟩,some ⟨.one,[.int k],_⟩,.int _ (.c n)=>.ok (.int k (.c (k.wrap n)))
  |some ⟨.one,[.int _],_⟩,some ⟨.one,[.int k],_⟩,.int _ e=>.ok (.int k (.conv k e))
  |_,_,_=>.no ""
 |.makeInterface t x=>match Z t with
  |some ⟨.dV,_,_⟩=>.no ""
  |some _=>.ok (.dV t (s.ev X x))
  |none=>.no ""
 |.makeFunc E first J=>match E,first.toList with
  |.func f,[]=>.ok (.fn f (J.toList.map (s.ev X)))
  |_,_=>.no ""
 |.extract x i=>match s.ev X x with
  |.bm l=>match l[i]? with
   |some v=>.ok v
   |none=>.no ""
  |_=>.no ""
 |.nilCheck x=>match s.ev X x with
  |.loc i W=>.ok (.loc i W)
  |.el r w i W=>.ok (.el r w i W)
  |.fn f J=>.ok (.fn f J)
  |_=>.no ""
 |.slice t x D C B=>match Z t,s.ev X x,B with
  |some ⟨.arr n e,_,_⟩,.loc i W,none=>match Z e,D.map (s.ev X),C.map (s.ev X) with
   |some _,none,none=>.ok (.fy i W n n)
   |some V,some (.int _ (.c l)),none=>if decide (0<=l)&&decide (l<(n:Int)) then .ok (.fy i (W+l.toNat*V.ab.length) (n-l.toNat) (n-l.toNat)) else .no ""
   |_,_,_=>.no ""
  |_,_,_=>.no ""
 |.build t parts=>match Z t with
  |some ⟨.struct Q,ab,q⟩=>if !(Q.all λf=>(Z f.2).isSome) then .no "" else match uf (TR Z Q) (cA ⟨.struct Q,ab,q⟩) (parts.toList.map λp=>(p.1,s.ev X p.2)) with
   |some l=>.ok (.agg l)
   |none=>.no ""
  |some ⟨.arr n e,ab,q⟩=>match Z e with
   |some V=>match uf (λi=>some (i*V.ab.length,V.ab.length)) (cA ⟨.arr n e,ab,q⟩) (parts.toList.map λp=>(p.1,s.ev X p.2)) with
    |some l=>.ok (.agg l)
    |none=>.no ""
   |none=>.no ""
  |_=>.no ""
 |.call c=>match c.callee with
  |.builtin .len=>match c.argTypes.toList,c.args.toList.map (s.ev X) with
   |[t],[.ref (.k (.slice none 0 0))]=>match Z t with
    |some ⟨.slice _,_,_⟩=>.ok (.int .i64 (.c 0))
    |_=>.no ""
   |[t],[.ref r]=>match Z t,r.kind Z s with
    |some ⟨.slice _,_,_⟩,.sl _=>.ok (.int .i64 (.len r))
    |some ⟨.str,_,_⟩,.str=>.ok (.int .i64 (.len r))
    |_,_=>.no ""
   |[t],[.fy _ _ n _]=>match Z t with
    |some ⟨.slice _,_,_⟩=>.ok (.int .i64 (.c n))
    |_=>.no ""
   |_,_=>.no ""
  |.builtin .min=>match c.args.toList.map (s.ev X) with
   |.int k x::r=>match Cp false k x r with
    |some e=>.ok (.int k e)
    |none=>.no ""
   |_=>.no ""
  |.builtin .max=>match c.args.toList.map (s.ev X) with
   |.int k x::r=>match Cp true k x r with
    |some e=>.ok (.int k e)
    |none=>.no ""
   |_=>.no ""
  |_=>.no ""
 |.lookup t x N A=>match Z t,s.ev X x with
  |some ⟨.map k e n z,_,_⟩,.mp i=>MM Z s k e n z A i (s.ev X N)
  |_,_=>.no ""
 |_=>.no ""
def vU(Z:List (Nat×Nat×Nat))(s:S):Op->Option Nat
 |.load _ x=>match s.ev Z x with
  |.loc i _=>some i
  |.dI _ _ X=>ug X
  |_=>none
 |.lookup _ x _ _=>match s.ev Z x with
  |.mp i=>some i
  |_=>none
 |_=>none
def Ct:Value->Value->Bool
 |.string a,.string b=>a.data.toList==b.data.toList
 |.slice none a b,.slice none c d=>a==c&&b==d
 |.pointer none,.pointer none=>true
 |.nilFunc,.nilFunc=>true
 |.nilIface,.nilIface=>true
 |.map none,.map none=>true
 |_,_=>false
def vV(a b:BinOp):Bool:=decide (a=b)
noncomputable def IE.same(e:IE):IE->Bool:=IE.rec (motive_1:=λ_=>IE->Bool) (motive_2:=λ_=>BE->Bool) (motive_3:=λ_=>RE->Bool) (λn e=>match e with|IE.c P=>n==P|_=>false) (λk e=>match e with|IE.v Q=>k==Q|_=>false) (λo k _ _ Z X e=>match e with|IE.bin I Q W V=>vV o I&&decide (k=Q)&&Z W&&X V|_=>false) (λk _ Z e=>match e with|IE.conv Q W=>decide (k=Q)&&Z W|_=>false) (λ_ U e=>match e with|IE.len R=>U R|_=>false) (λm _ _ Z X e=>match e with|IE.mm D W V=>m==D&&Z W&&X V|_=>false) (λ_ _ _ X H G e=>match e with|IE.bT V F E=>X V&&H F&&G E|_=>false) (λ_ _ j U N e=>match e with|IE.cell R M O=>U R&&N M&&j==O|_=>false) (λ_ _ U N e=>match e with|IE.jS R M=>U R&&N M|_=>false) (λ_ n _ _ _ j U Z X L e=>match e with|IE.look R P W V J O=>U R&&n==P&&Z W&&X V&&L J&&j==O|_=>false) (λn e=>match e with|BE.c P=>n==P|_=>false) (λk e=>match e with|BE.v Q=>k==Q|_=>false) (λo _ _ Z X e=>match e with|BE.cmp I W V=>vV o I&&Z W&&X V|_=>false) (λ_ Z e=>match e with|BE.not W=>Z W|_=>false) (λ_ _ Z X e=>match e with|BE.and W V=>Z W&&X V|_=>false) (λ_ _ Z X e=>match e with|BE.beq W V=>Z W&&X V|_=>false) (λ_ _ _ X H G e=>match e with|BE.bT V F E=>X V&&H F&&G E|_=>false) (λ_ _ j U N e=>match e with|BE.cell R M O=>U R&&N M&&j==O|_=>false) (λ_ _ Z X e=>match e with|BE.seq W V=>Z W&&X V|_=>false) (λ_ n _ _ _ j U Z X L e=>match e with|BE.look R P W V J O=>U R&&n==P&&Z W&&X V&&L J&&j==O|_=>false) (λ_ n _ _ _ U Z X L e=>match e with|BE.has R P W V J=>U R&&n==P&&Z W&&X V&&L J|_=>false) (λk e=>match e with|RE.v Q=>k==Q|_=>false) (λ_ _ j k U N e=>match e with|RE.cell R M O Q=>U R&&N M&&j==O&&decide (k=Q)|_=>false) (λv e=>match e with|RE.k C=>Ct v C|_=>false) e
noncomputable def BE.same(e:BE):BE->Bool:=BE.rec (motive_1:=λ_=>IE->Bool) (motive_2:=λ_=>BE->Bool) (motive_3:=λ_=>RE->Bool) (λn e=>match e with|IE.c P=>n==P|_=>false) (λk e=>match e with|IE.v Q=>k==Q|_=>false) (λo k _ _ Z X e=>match e with|IE.bin I Q W V=>vV o I&&decide (k=Q)&&Z W&&X V|_=>false) (λk _ Z e=>match e with|IE.conv Q W=>decide (k=Q)&&Z W|_=>false) (λ_ U e=>match e with|IE.len R=>U R|_=>false) (λm _ _ Z X e=>match e with|IE.mm D W V=>m==D&&Z W&&X V|_=>false) (λ_ _ _ X H G e=>match e with|IE.bT V F E=>X V&&H F&&G E|_=>false) (λ_ _ j U N e=>match e with|IE.cell R M O=>U R&&N M&&j==O|_=>false) (λ_ _ U N e=>match e with|IE.jS R M=>U R&&N M|_=>false) (λ_ n _ _ _ j U Z X L e=>match e with|IE.look R P W V J O=>U R&&n==P&&Z W&&X V&&L J&&j==O|_=>false) (λn e=>match e with|BE.c P=>n==P|_=>false) (λk e=>match e with|BE.v Q=>k==Q|_=>false) (λo _ _ Z X e=>match e with|BE.cmp I W V=>vV o I&&Z W&&X V|_=>false) (λ_ Z e=>match e with|BE.not W=>Z W|_=>false) (λ_ _ Z X e=>match e with|BE.and W V=>Z W&&X V|_=>false) (λ_ _ Z X e=>match e with|BE.beq W V=>Z W&&X V|_=>false) (λ_ _ _ X H G e=>match e with|BE.bT V F E=>X V&&H F&&G E|_=>false) (λ_ _ j U N e=>match e with|BE.cell R M O=>U R&&N M&&j==O|_=>false) (λ_ _ Z X e=>match e with|BE.seq W V=>Z W&&X V|_=>false) (λ_ n _ _ _ j U Z X L e=>match e with|BE.look R P W V J O=>U R&&n==P&&Z W&&X V&&L J&&j==O|_=>false) (λ_ n _ _ _ U Z X L e=>match e with|BE.has R P W V J=>U R&&n==P&&Z W&&X V&&L J|_=>false) (λk e=>match e with|RE.v Q=>k==Q|_=>false) (λ_ _ j k U N e=>match e with|RE.cell R M O Q=>U R&&N M&&j==O&&decide (k=Q)|_=>false) (λv e=>match e with|RE.k C=>Ct v C|_=>false) e
noncomputable def RE.same(e:RE):RE->Bool:=RE.rec (motive_1:=λ_=>IE->Bool) (motive_2:=λ_=>BE->Bool) (motive_3:=λ_=>RE->Bool) (λn e=>match e with|IE.c P=>n==P|_=>false) (λk e=>match e with|IE.v Q=>k==Q|_=>false) (λo k _ _ Z X e=>match e with|IE.bin I Q W V=>vV o I&&decide (k=Q)&&Z W&&X V|_=>false) (λk _ Z e=>match e with|IE.conv Q W=>decide (k=Q)&&Z W|_=>false) (λ_ U e=>match e with|IE.len R=>U R|_=>false) (λm _ _ Z X e=>match e with|IE.mm D W V=>m==D&&Z W&&X V|_=>false) (λ_ _ _ X H G e=>match e with|IE.bT V F E=>X V&&H F&&G E|_=>false) (λ_ _ j U N e=>match e with|IE.cell R M O=>U R&&N M&&j==O|_=>false) (λ_ _ U N e=>match e with|IE.jS R M=>U R&&N M|_=>false) (λ_ n _ _ _ j U Z X L e=>match e with|IE.look R P W V J O=>U R&&n==P&&Z W&&X V&&L J&&j==O|_=>false) (λn e=>match e with|BE.c P=>n==P|_=>false) (λk e=>match e with|BE.v Q=>k==Q|_=>false) (λo _ _ Z X e=>match e with|BE.cmp I W V=>vV o I&&Z W&&X V|_=>false) (λ_ Z e=>match e with|BE.not W=>Z W|_=>false) (λ_ _ Z X e=>match e with|BE.and W V=>Z W&&X V|_=>false) (λ_ _ Z X e=>match e with|BE.beq W V=>Z W&&X V|_=>false) (λ_ _ _ X H G e=>match e with|BE.bT V F E=>X V&&H F&&G E|_=>false) (λ_ _ j U N e=>match e with|BE.cell R M O=>U R&&N M&&j==O|_=>false) (λ_ _ Z X e=>match e with|BE.seq W V=>Z W&&X V|_=>false) (λ_ n _ _ _ j U Z X L e=>match e with|BE.look R P W V J O=>U R&&n==P&&Z W&&X V&&L J&&j==O|_=>false) (λ_ n _ _ _ U Z X L e=>match e with|BE.has R P W V J=>U R&&n==P&&Z W&&X V&&L J|_=>false) (λk e=>match e with|RE.v Q=>k==Q|_=>false) (λ_ _ j k U N e=>match e with|RE.cell R M O Q=>U R&&N M&&j==O&&decide (k=Q)|_=>false) (λv e=>match e with|RE.k C=>Ct v C|_=>false) e
def IE.eH:(∀n e,IE.same (.c n) e=match e with|IE.c U=>n==U|_=>false)/\(∀k e,IE.same (.v k) e=match e with|IE.v V=>k==V|_=>false)/\(∀o k a b e,IE.same (.bin o k a b) e=match e with|IE.bin P V Z X=>vV o P&&decide (k=V)&&IE.same a Z&&IE.same b X|_=>false)/\(∀k a e,IE.same (.conv k a) e=match e with|IE.conv V Z=>decide (k=V)&&IE.same a Z|_=>false)/\(∀r e,IE.same (.len r) e=match e with|IE.len W=>RE.same r W|_=>false)/\(∀m a b e,IE.same (.mm m a b) e=match e with|IE.mm O Z X=>m==O&&IE.same a Z&&IE.same b X|_=>false)/\(∀b x y e,IE.same (.bT b x y) e=match e with|IE.bT X N M=>BE.same b X&&IE.same x N&&IE.same y M|_=>false)/\(∀r i j e,IE.same (.cell r i j) e=match e with|IE.cell W R Q=>RE.same r W&&IE.same i R&&j==Q|_=>false)/\(∀r i e,IE.same (.jS r i) e=match e with|IE.jS W R=>RE.same r W&&IE.same i R|_=>false)/\(∀r n a b c j e,IE.same (.look r n a b c j) e=match e with|IE.look W U Z X L Q=>RE.same r W&&n==U&&IE.same a Z&&IE.same b X&&IE.same c L&&j==Q|_=>false):=⟨λ_ _=>rfl,λ_ _=>rfl,λ_ _ _ _ _=>rfl,λ_ _ _=>rfl,λ_ _=>rfl,λ_ _ _ _=>rfl,λ_ _ _ _=>rfl,λ_ _ _ _=>rfl,λ_ _ _=>rfl,λ_ _ _ _ _ _ _=>rfl⟩
def BE.eH:(∀n e,BE.same (.c n) e=match e with|BE.c W=>n==W|_=>false)/\(∀k e,BE.same (.v k) e=match e with|BE.v Q=>k==Q|_=>false)/\(∀o a b e,BE.same (.cmp o a b) e=match e with|BE.cmp P Z X=>vV o P&&IE.same a Z&&IE.same b X|_=>false)/\(∀a e,BE.same (.not a) e=match e with|BE.not Z=>BE.same a Z|_=>false)/\(∀a b e,BE.same (.and a b) e=match e with|BE.and Z X=>BE.same a Z&&BE.same b X|_=>false)/\(∀a b e,BE.same (.beq a b) e=match e with|BE.beq Z X=>BE.same a Z&&BE.same b X|_=>false)/\(∀b x y e,BE.same (.bT b x y) e=match e with|BE.bT X O N=>BE.same b X&&BE.same x O&&BE.same y N|_=>false)/\(∀r i j e,BE.same (.cell r i j) e=match e with|BE.cell V M U=>RE.same r V&&IE.same i M&&j==U|_=>false)/\(∀a b e,BE.same (.seq a b) e=match e with|BE.seq Z X=>RE.same a Z&&RE.same b X|_=>false)/\(∀r n a b c j e,BE.same (.look r n a b c j) e=match e with|BE.look V W Z X R U=>RE.same r V&&n==W&&IE.same a Z&&IE.same b X&&IE.same c R&&j==U|_=>false)/\(∀r n a b c e,BE.same (.has r n a b c) e=match e with|BE.has V W Z X R=>RE.same r V&&n==W&&IE.same a Z&&IE.same b X&&IE.same c R|_=>false):=⟨λ_ _=>rfl,λ_ _=>rfl,λ_ _ _ _=>rfl,λ_ _=>rfl,λ_ _ _=>rfl,λ_ _ _=>rfl,λ_ _ _ _=>rfl,λ_ _ _ _=>rfl,λ_ _ _=>rfl,λ_ _ _ _ _ _ _=>rfl,λ_ _ _ _ _ _=>rfl⟩
def RE.eH:(∀k e,RE.same (.v k) e=match e with|RE.v Z=>k==Z|_=>false)/\(∀r i j k e,RE.same (.cell r i j k) e=match e with|RE.cell X W V Z=>RE.same r X&&IE.same i W&&j==V&&decide (k=Z)|_=>false)/\(∀v e,RE.same (.k v) e=match e with|RE.k U=>Ct v U|_=>false):=⟨λ_ _=>rfl,λ_ _ _ _ _=>rfl,λ_ _=>rfl⟩
noncomputable def SV.same(v:SV):SV->Bool:=SV.rec (motive_1:=λ_=>SV->Bool) (motive_2:=λ_=>List SV->Bool) (λk e v=>match v with|SV.int Q W=>decide (k=Q)&&e.same W|_=>false) (λb v=>match v with|SV.bool V=>b.same V|_=>false) (λr v=>match v with|SV.ref U=>r.same U|_=>false) (λi o v=>match v with|SV.loc Z R=>i==Z&&o==R|_=>false) (λr w i o v=>match v with|SV.el U P Z R=>r.same U&&w==P&&i.same Z&&o==R|_=>false) (λa b c d v=>match v with|SV.fy O V N M=>a==O&&b==V&&c==N&&d==M|_=>false) (λ_ h v=>match v with|SV.agg X=>h X|_=>false) (λ_ h v=>match v with|SV.bm X=>h X|_=>false) (λf _ h v=>match v with|SV.fn L X=>f==L&&h X|_=>false) (λt _ h v=>match v with|SV.dV J I=>t==J&&h I|_=>false) (λn v=>match v with|SV.yl H=>n==H|_=>false) (λv=>match v with|SV.any=>true|_=>false) (λi v=>match v with|SV.mp Z=>i==Z|_=>false) (λe G _ h v=>match v with|SV.dI W F E=>e.same W&&G==F&&h E|_=>false) (λl=>match l with|[]=>true|_=>false) (λ_ _ h D l=>match l with|y::C=>h y&&D C|_=>false) v
noncomputable def SV.aab(l:List SV):List SV->Bool:=SV.rec_1 (motive_1:=λ_=>SV->Bool) (motive_2:=λ_=>List SV->Bool) (λk e v=>match v with|SV.int Q W=>decide (k=Q)&&e.same W|_=>false) (λb v=>match v with|SV.bool V=>b.same V|_=>false) (λr v=>match v with|SV.ref U=>r.same U|_=>false) (λi o v=>match v with|SV.loc Z R=>i==Z&&o==R|_=>false) (λr w i o v=>match v with|SV.el U P Z R=>r.same U&&w==P&&i.same Z&&o==R|_=>false) (λa b c d v=>match v with|SV.fy O V N M=>a==O&&b==V&&c==N&&d==M|_=>false) (λ_ h v=>match v with|SV.agg X=>h X|_=>false) (λ_ h v=>match v with|SV.bm X=>h X|_=>false) (λf _ h v=>match v with|SV.fn L X=>f==L&&h X|_=>false) (λt _ h v=>match v with|SV.dV J I=>t==J&&h I|_=>false) (λn v=>match v with|SV.yl H=>n==H|_=>false) (λv=>match v with|SV.any=>true|_=>false) (λi v=>match v with|SV.mp Z=>i==Z|_=>false) (λe G _ h v=>match v with|SV.dI W F E=>e.same W&&G==F&&h E|_=>false) (λl=>match l with|[]=>true|_=>false) (λ_ _ h D l=>match l with|y::C=>h y&&D C|_=>false) l
def SV.eH:(∀k e v,SV.same (.int k e) v=match v with|SV.int O W=>decide (k=O)&&e.same W|_=>false)/\(∀b v,SV.same (.bool b) v=match v with|SV.bool V=>b.same V|_=>false)/\(∀r v,SV.same (.ref r) v=match v with|SV.ref U=>r.same U|_=>false)/\(∀i o v,SV.same (.loc i o) v=match v with|SV.loc Z R=>i==Z&&o==R|_=>false)/\(∀r w i o v,SV.same (.el r w i o) v=match v with|SV.el U N Z R=>r.same U&&w==N&&i.same Z&&o==R|_=>false)/\(∀a b c d v,SV.same (.fy a b c d) v=match v with|SV.fy M V L J=>a==M&&b==V&&c==L&&d==J|_=>false)/\(∀l v,SV.same (.agg l) v=match v with|SV.agg X=>SV.aab l X|_=>false)/\(∀l v,SV.same (.bm l) v=match v with|SV.bm X=>SV.aab l X|_=>false)/\(∀f l v,SV.same (.fn f l) v=match v with|SV.fn I X=>f==I&&SV.aab l X|_=>false)/\(∀t x v,SV.same (.dV t x) v=match v with|SV.dV H G=>t==H&&SV.same x G|_=>false)/\(∀n v,SV.same (.yl n) v=match v with|SV.yl F=>n==F|_=>false)/\(∀v,SV.same (.any) v=match v with|SV.any=>true|_=>false)/\(∀i v,SV.same (.mp i) v=match v with|SV.mp Z=>i==Z|_=>false)/\(∀e Q P v,SV.same (.dI e Q P) v=match v with|SV.dI W E D=>e.same W&&Q==E&&SV.aab P D|_=>false):=⟨λ_ _ _=>rfl,λ_ _=>rfl,λ_ _=>rfl,λ_ _ _=>rfl,λ_ _ _ _ _=>rfl,λ_ _ _ _ _=>rfl,λ_ _=>rfl,λ_ _=>rfl,λ_ _ _=>rfl,λ_ _ _=>rfl,λ_ _=>rfl,λ_=>rfl,λ_ _=>rfl,λ_ _ _ _=>rfl⟩
def SV.abT:(∀l,SV.aab [] l=match l with|[]=>true|_=>false)/\(∀x Z l,SV.aab (x::Z) l=match l with|y::X=>SV.same x y&&SV.aab Z X|_=>false):=⟨λ_=>rfl,λ_ _ _=>rfl⟩
def abU:∀n:Nat,∃q,8^n=7*q+1
 |0=>⟨0,rfl⟩
 |n+1=>by
  obtain⟨q,h⟩:=abU n;exact⟨8*q+1,by rw[Nat.pow_succ,h];omega⟩
def A3(n:Nat):Nat:=Nat.div (Nat.sub (Nat.pow 8 n) 1) 7
def abV(n:Nat):8^n=7*A3 n+1:=by
 obtain⟨q,h⟩:=abU n;have:A3 n=q:=by
  show(8^n-1)/7=q;rw[h];omega
 rw[this];exact h
def MO(n:Nat):A3 (n+1)=8*A3 n+1:=by
 have Z:=abV n;have X:=abV (n+1);rw[Nat.pow_succ,Z] at X;omega
def abW:∀(n j:Nat),(A3 n).testBit j=(decide (j%3=0)&&decide (j/3<n))
 |0,j=>by simp[show A3 0=0 from rfl]
 |n+1,0=>by rw[MO,aAG];simp;omega
 |n+1,1=>by rw[MO,azr,show(8*A3 n+1)/2=4*A3 n by omega,aAG];simp;omega
 |n+1,2=>by rw[MO,azr,azr,show(8*A3 n+1)/2/2=2*A3 n by omega,aAG];simp
 |n+1,j+3=>by
  rw[MO,azr,azr,azr,show(8*A3 n+1)/2/2/2=A3 n by omega,abW n j,Nat.add_mod_right,Nat.add_div_right _ (by omega)];simp
def ju(Z X W:Nat):Nat:=axZ (A3 Z) (axZ (ayn (A3 X) 1) (ayn (A3 W) 2))
def TW(Z X W j:Nat):(ju Z X W).testBit j=if j%3=0 then decide (j/3<Z) else if j%3=1 then decide (j/3<X) else decide (j/3<W):=by
 change(A3 Z|||(A3 X<<<1|||A3 W<<<2)).testBit j=_;simp only[azb,aAg,abW];rw[ayS];simp only[ayb,axI,decide_eq_true_eq];split;simp only[decide_eq_true_eq];omega;split;simp only[decide_eq_true_eq];omega;simp only[decide_eq_true_eq];omega
def I5:ayz (axZ X I) I=true<->∀j,X.testBit j=true->I.testBit j=true:=by
 rw[aA4];constructor;intro h j Z;have:(X|||I).testBit j=I.testBit j:=congrArg (λx=>Nat.testBit x j) h;rw[<-this,azb,Z,aBc];intro h;refine Nat.eq_of_testBit_eq λj=> ?_
 change(X|||I).testBit j=_;rw[azb];cases W:X.testBit j with
 |true=>rw[h j W];rfl
 |false=>simp
def iL(a b A:Nat):ayz (axZ (axZ a b) A) A=(ayz (axZ a A) A&&ayz (axZ b A) A):=by
 rw[ayS,axI,I5,I5,I5];change(∀j,(a|||b).testBit j=true->_)<->_;simp only[azb,ayb];exact⟨λh=>⟨λj k=>h j (.inl k),λj k=>h j (.inr k)⟩,λh j k=>k.elim (h.1 j) (h.2 j)⟩
def TX(k A:Nat):ayz (axZ (ayn 1 k) A) A=A.testBit k:=by
 rw[ayS,I5];change(∀j,(1<<<k).testBit j=true->_)<->_;simp only[aAC,aA8,decide_eq_true_eq];exact⟨λh=>h k rfl,λh j e=>e▸h⟩
def Cu(A:Nat):ayz (axZ 0 A) A=true:=I5.2 λj h=>by simp at h
noncomputable def IE.jw(e:IE):Nat:=IE.rec (motive_1:=λ_=>Nat) (motive_2:=λ_=>Nat) (motive_3:=λ_=>Nat) (λ_=>0) (λk=>ayn 1 (3*k)) (λ_ _ _ _ a b=>axZ a b) (λ_ _ a=>a) (λ_ r=>r) (λ_ _ _ a b=>axZ a b) (λ_ _ _ b x y=>axZ (axZ b x) y) (λ_ _ _ r i=>axZ r i) (λ_ _ r i=>axZ r i) (λ_ _ _ _ _ _ r a b c=>axZ (axZ (axZ r a) b) c) (λ_=>0) (λk=>ayn 1 (3*k+1)) (λ_ _ _ a b=>axZ a b) (λ_ a=>a) (λ_ _ a b=>axZ a b) (λ_ _ a b=>axZ a b) (λ_ _ _ b x y=>axZ (axZ b x) y) (λ_ _ _ r i=>axZ r i) (λ_ _ a b=>axZ a b) (λ_ _ _ _ _ _ r a b c=>axZ (axZ (axZ r a) b) c) (λ_ _ _ _ _ r a b c=>axZ (axZ (axZ r a) b) c) (λk=>ayn 1 (3*k+2)) (λ_ _ _ _ r i=>axZ r i) (λ_=>0) e
noncomputable def BE.jw(e:BE):Nat:=BE.rec (motive_1:=λ_=>Nat) (motive_2:=λ_=>Nat) (motive_3:=λ_=>Nat) (λ_=>0) (λk=>ayn 1 (3*k)) (λ_ _ _ _ a b=>axZ a b) (λ_ _ a=>a) (λ_ r=>r) (λ_ _ _ a b=>axZ a b) (λ_ _ _ b x y=>axZ (axZ b x) y) (λ_ _ _ r i=>axZ r i) (λ_ _ r i=>axZ r i) (λ_ _ _ _ _ _ r a b c=>axZ (axZ (axZ r a) b) c) (λ_=>0) (λk=>ayn 1 (3*k+1)) (λ_ _ _ a b=>axZ a b) (λ_ a=>a) (λ_ _ a b=>axZ a b) (λ_ _ a b=>axZ a b) (λ_ _ _ b x y=>axZ (axZ b x) y) (λ_ _ _ r i=>axZ r i) (λ_ _ a b=>axZ a b) (λ_ _ _ _ _ _ r a b c=>axZ (axZ (axZ r a) b) c) (λ_ _ _ _ _ r a b c=>axZ (axZ (axZ r a) b) c) (λk=>ayn 1 (3*k+2)) (λ_ _ _ _ r i=>axZ r i) (λ_=>0) e
noncomputable def RE.jw(e:RE):Nat:=RE.rec (motive_1:=λ_=>Nat) (motive_2:=λ_=>Nat) (motive_3:=λ_=>Nat) (λ_=>0) (λk=>ayn 1 (3*k)) (λ_ _ _ _ a b=>axZ a b) (λ_ _ a=>a) (λ_ r=>r) (λ_ _ _ a b=>axZ a b) (λ_ _ _ b x y=>axZ (axZ b x) y) (λ_ _ _ r i=>axZ r i) (λ_ _ r i=>axZ r i) (λ_ _ _ _ _ _ r a b c=>axZ (axZ (axZ r a) b) c) (λ_=>0) (λk=>ayn 1 (3*k+1)) (λ_ _ _ a b=>axZ a b) (λ_ a=>a) (λ_ _ a b=>axZ a b) (λ_ _ a b=>axZ a b) (λ_ _ _ b x y=>axZ (axZ b x) y) (λ_ _ _ r i=>axZ r i) (λ_ _ a b=>axZ a b) (λ_ _ _ _ _ _ r a b c=>axZ (axZ (axZ r a) b) c) (λ_ _ _ _ _ r a b c=>axZ (axZ (axZ r a) b) c) (λk=>ayn 1 (3*k+2)) (λ_ _ _ _ r i=>axZ r i) (λ_=>0) e
noncomputable def IE.bd(Z X W:Nat)(e:IE):Bool:=ayz (axZ e.jw (ju Z X W)) (ju Z X W)
noncomputable def BE.bd(Z X W:Nat)(e:BE):Bool:=ayz (axZ e.jw (ju Z X W)) (ju Z X W)
noncomputable def RE.bd(Z X W:Nat)(e:RE):Bool:=ayz (axZ e.jw (ju Z X W)) (ju Z X W)
def amw(Z X W k:Nat):(ju Z X W).testBit (3*k)=decide (k<Z):=by
 rw[TW,if_pos (by omega),show 3*k/3=k by omega]
def amx(X Z W k:Nat):(ju X Z W).testBit (3*k+1)=decide (k<Z):=by
 rw[TW,if_neg (by omega),if_pos (by omega),show(3*k+1)/3=k by omega]
def amy(X W Z k:Nat):(ju X W Z).testBit (3*k+2)=decide (k<Z):=by
 rw[TW,if_neg (by omega),if_neg (by omega),show(3*k+2)/3=k by omega]
def IE.aK:(∀n,IE.bd X I e (.c n)=true)/\(∀k,IE.bd X I e (.v k)=decide (k<X))/\(∀o k a b,IE.bd X I e (.bin o k a b)=(IE.bd X I e a&&IE.bd X I e b))/\(∀k a,IE.bd X I e (.conv k a)=(IE.bd X I e a))/\(∀r,IE.bd X I e (.len r)=(RE.bd X I e r))/\(∀m a b,IE.bd X I e (.mm m a b)=(IE.bd X I e a&&IE.bd X I e b))/\(∀b x y,IE.bd X I e (.bT b x y)=(BE.bd X I e b&&IE.bd X I e x&&IE.bd X I e y))/\(∀r i j,IE.bd X I e (.cell r i j)=(RE.bd X I e r&&IE.bd X I e i))/\(∀r i,IE.bd X I e (.jS r i)=(RE.bd X I e r&&IE.bd X I e i))/\(∀r n a b c j,IE.bd X I e (.look r n a b c j)=(RE.bd X I e r&&IE.bd X I e a&&IE.bd X I e b&&IE.bd X I e c)):=⟨λ_=>Cu _,λ_=>(TX _ _).trans (amw _ _ _ _),λ_ _ _ _=>iL _ _ _,λ_ _=>rfl,λ_=>rfl,λ_ _ _=>iL _ _ _,λ_ _ _=>(iL _ _ _).trans (congrArg (· &&_) (iL _ _ _)),λ_ _ _=>iL _ _ _,λ_ _=>iL _ _ _,λ_ _ _ _ _ _=>(iL _ _ _).trans (congrArg (· &&_) ((iL _ _ _).trans (congrArg (· &&_) (iL _ _ _))))⟩
def BE.aK:(∀n,BE.bd X I e (.c n)=true)/\(∀k,BE.bd X I e (.v k)=decide (k<I))/\(∀o a b,BE.bd X I e (.cmp o a b)=(IE.bd X I e a&&IE.bd X I e b))/\(∀a,BE.bd X I e (.not a)=(BE.bd X I e a))/\(∀a b,BE.bd X I e (.and a b)=(BE.bd X I e a&&BE.bd X I e b))/\(∀a b,BE.bd X I e (.beq a b)=(BE.bd X I e a&&BE.bd X I e b))/\(∀b x y,BE.bd X I e (.bT b x y)=(BE.bd X I e b&&BE.bd X I e x&&BE.bd X I e y))/\(∀r i j,BE.bd X I e (.cell r i j)=(RE.bd X I e r&&IE.bd X I e i))/\(∀a b,BE.bd X I e (.seq a b)=(RE.bd X I e a&&RE.bd X I e b))/\(∀r n a b c j,BE.bd X I e (.look r n a b c j)=(RE.bd X I e r&&IE.bd X I e a&&IE.bd X I e b&&IE.bd X I e c))/\(∀r n a b c,BE.bd X I e (.has r n a b c)=(RE.bd X I e r&&IE.bd X I e a&&IE.bd X I e b&&IE.bd X I e c)):=⟨λ_=>Cu _,λ_=>(TX _ _).trans (amx _ _ _ _),λ_ _ _=>iL _ _ _,λ_=>rfl,λ_ _=>iL _ _ _,λ_ _=>iL _ _ _,λ_ _ _=>(iL _ _ _).trans (congrArg (· &&_) (iL _ _ _)),λ_ _ _=>iL _ _ _,λ_ _=>iL _ _ _,λ_ _ _ _ _ _=>(iL _ _ _).trans (congrArg (· &&_) ((iL _ _ _).trans (congrArg (· &&_) (iL _ _ _)))),λ_ _ _ _ _=>(iL _ _ _).trans (congrArg (· &&_) ((iL _ _ _).trans (congrArg (· &&_) (iL _ _ _))))⟩
def RE.aK:(∀k,RE.bd X I e (.v k)=decide (k<e))/\(∀r i j k,RE.bd X I e (.cell r i j k)=(RE.bd X I e r&&IE.bd X I e i))/\(∀v,RE.bd X I e (.k v)=true):=⟨λ_=>(TX _ _).trans (amy _ _ _ _),λ_ _ _ _=>iL _ _ _,λ_=>Cu _⟩
noncomputable def SV.jw(v:SV):Nat:=SV.rec (motive_1:=λ_=>Nat) (motive_2:=λ_=>Nat) (λ_ e=>e.jw) (λb=>b.jw) (λr=>r.jw) (λ_ _=>0) (λr _ i _=>axZ r.jw i.jw) (λ_ _ _ _=>0) (λ_ l=>l) (λ_ l=>l) (λ_ _ l=>l) (λ_ _ x=>x) (λ_=>0) 0 (λ_=>0) (λe _ _ l=>axZ e.jw l) 0 (λ_ _ a b=>axZ a b) v
noncomputable def SV.E2(l:List SV):Nat:=SV.rec_1 (motive_1:=λ_=>Nat) (motive_2:=λ_=>Nat) (λ_ e=>e.jw) (λb=>b.jw) (λr=>r.jw) (λ_ _=>0) (λr _ i _=>axZ r.jw i.jw) (λ_ _ _ _=>0) (λ_ l=>l) (λ_ l=>l) (λ_ _ l=>l) (λ_ _ x=>x) (λ_=>0) 0 (λ_=>0) (λe _ _ l=>axZ e.jw l) 0 (λ_ _ a b=>axZ a b) l
noncomputable def SV.vW(v:SV):Nat:=SV.rec (motive_1:=λ_=>Nat) (motive_2:=λ_=>Nat) (λ_ _=>0) (λ_=>0) (λ_=>0) (λi _=>ayn 1 i) (λ_ _ _ _=>0) (λi _ _ _=>ayn 1 i) (λ_ l=>l) (λ_ l=>l) (λ_ _ l=>l) (λ_ _ x=>x) (λ_=>0) 0 (λi=>ayn 1 i) (λ_ _ _ l=>l) 0 (λ_ _ a b=>axZ a b) v
noncomputable def SV.Cv(l:List SV):Nat:=SV.rec_1 (motive_1:=λ_=>Nat) (motive_2:=λ_=>Nat) (λ_ _=>0) (λ_=>0) (λ_=>0) (λi _=>ayn 1 i) (λ_ _ _ _=>0) (λi _ _ _=>ayn 1 i) (λ_ l=>l) (λ_ l=>l) (λ_ _ l=>l) (λ_ _ x=>x) (λ_=>0) 0 (λi=>ayn 1 i) (λ_ _ _ l=>l) 0 (λ_ _ a b=>axZ a b) l
noncomputable def SV.E3(Z:Nat->Bool)(v:SV):Bool:=SV.rec (motive_1:=λ_=>Bool) (motive_2:=λ_=>Bool) (λ_ _=>true) (λ_=>true) (λ_=>true) (λi _=>Z i) (λ_ _ _ _=>true) (λi _ _ _=>Z i) (λ_ l=>l) (λ_ l=>l) (λ_ _ l=>l) (λ_ _ x=>x) (λ_=>true) true (λi=>Z i) (λ_ _ _ l=>l) true (λ_ _ a b=>a&&b) v
noncomputable def SV.E4(Z:Nat->Bool)(l:List SV):Bool:=SV.rec_1 (motive_1:=λ_=>Bool) (motive_2:=λ_=>Bool) (λ_ _=>true) (λ_=>true) (λ_=>true) (λi _=>Z i) (λ_ _ _ _=>true) (λi _ _ _=>Z i) (λ_ l=>l) (λ_ l=>l) (λ_ _ l=>l) (λ_ _ x=>x) (λ_=>true) true (λi=>Z i) (λ_ _ _ l=>l) true (λ_ _ a b=>a&&b) l
noncomputable def SV.bd(Z X W:Nat)(V:Nat->Bool)(v:SV):Bool:=aAd (motive:=λ_=>Bool) false (aAd (motive:=λ_=>Bool) (v.E3 V) true (ayz v.vW 0)) (ayz (axZ v.jw (ju Z X W)) (ju Z X W))
def SV.abX(Z X W:Nat)(V:Nat->Bool)(v:SV):SV.bd Z X W V v=(ayz (axZ v.jw (ju Z X W)) (ju Z X W)&&(ayz v.vW 0||v.E3 V)):=by
 unfold SV.bd;cases ayz (axZ v.jw (ju Z X W)) (ju Z X W)<;>cases ayz v.vW 0<;>rfl
noncomputable def SV.cq(Z X W:Nat)(V:Nat->Bool)(l:List SV):Bool:=azw (motive:=λ_=>Bool) true (λx _ U=>aAd (motive:=λ_=>Bool) false U (SV.bd Z X W V x)) l
def SV.fa:(SV.cq X I e r []=true)/\(∀x Z,SV.cq X I e r (x::Z)=(SV.bd X I e r x&&SV.cq X I e r Z)):=⟨rfl,λx Z=>by
 show aAd (motive:=λ_=>Bool) false (SV.cq X I e r Z) (SV.bd X I e r x)=_;cases SV.bd X I e r x<;>rfl⟩
def abY:ayz (axZ X I) 0=(ayz X 0&&ayz I 0):=by
 rw[ayS,axI,aA4,aA4,aA4];exact Nat.or_eq_zero_iff
def MP(i:Nat):ayz (ayn 1 i) 0=false:=by
 have:ayn 1 i≠0:=by
  change 1<<<i≠0;rw[aAC];exact Nat.ne_of_gt (Nat.two_pow_pos i)
 cases h:ayz (ayn 1 i) 0 with
 |false=>rfl
 |true=>exact absurd (aAW h) this
mutual
def TY(Z:Nat->Bool):∀v:SV,ayz v.vW 0=true->v.E3 Z=true
 |.int _ _,_=>rfl
 |.bool _,_=>rfl
 |.ref _,_=>rfl
 |.loc i _,h=>by rw[show(SV.loc i _).vW=ayn 1 i from rfl,MP] at h;cases h
 |.el _ _ _ _,_=>rfl
 |.fy i _ _ _,h=>by rw[show(SV.fy i _ _ _).vW=ayn 1 i from rfl,MP] at h;cases h
 |.agg l,h=>E5 Z l h
 |.bm l,h=>E5 Z l h
 |.fn _ l,h=>E5 Z l h
 |.dV _ x,h=>TY Z x h
 |.yl _,_=>rfl
 |.any,_=>rfl
 |.mp i,h=>by rw[show(SV.mp i).vW=ayn 1 i from rfl,MP] at h;cases h
 |.dI _ _ l,h=>E5 Z l h
def E5(Z:Nat->Bool):∀l:List SV,ayz (SV.Cv l) 0=true->SV.E4 Z l=true
 |[],_=>rfl
 |x::X,h=>by
  rw[show SV.Cv (x::X)=axZ x.vW (SV.Cv X) from rfl,abY,axI] at h;show(x.E3 Z&&SV.E4 Z X)=true;rw[TY Z x h.1,E5 Z X h.2];rfl
end
def I6(W V U:Nat)(X:Nat->Bool):∀l:List SV,(ayz (axZ (SV.E2 l) (ju W V U)) (ju W V U)&&(ayz (SV.Cv l) 0||SV.E4 X l))=SV.cq W V U X l
 |[]=>by rw[show SV.E2 []=0 from rfl,Cu];rfl
 |x::Z=>by
  rw[SV.fa.2,<-I6 W V U X Z,SV.abX,show SV.E2 (x::Z)=axZ x.jw (SV.E2 Z) from rfl,show SV.Cv (x::Z)=axZ x.vW (SV.Cv Z) from rfl,iL,abY,show SV.E4 X (x::Z)=(x.E3 X&&SV.E4 X Z) from rfl];have R:=TY X x;have Q:=E5 X Z;cases P:ayz x.vW 0<;>cases O:ayz (SV.Cv Z) 0<;>cases N:x.E3 X<;>cases M:SV.E4 X Z<;>cases ayz (axZ x.jw (ju W V U)) (ju W V U)<;>cases ayz (axZ (SV.E2 Z) (ju W V U)) (ju W V U)<;>simp_all
def SV.aK:(∀k Z,SV.bd X I e r (.int k Z)=Z.bd X I e)/\(∀b,SV.bd X I e r (.bool b)=b.bd X I e)/\(∀W,SV.bd X I e r (.ref W)=W.bd X I e)/\(∀i o,SV.bd X I e r (.loc i o)=r i)/\(∀i a b c,SV.bd X I e r (.fy i a b c)=r i)/\(∀W w i o,SV.bd X I e r (.el W w i o)=(W.bd X I e&&i.bd X I e))/\(∀l,SV.bd X I e r (.agg l)=SV.cq X I e r l)/\(∀l,SV.bd X I e r (.bm l)=SV.cq X I e r l)/\(∀f l,SV.bd X I e r (.fn f l)=SV.cq X I e r l)/\(∀t x,SV.bd X I e r (.dV t x)=SV.bd X I e r x)/\(∀n,SV.bd X I e r (.yl n)=true)/\(SV.bd X I e r .any=true)/\(∀i,SV.bd X I e r (.mp i)=r i)/\(∀Z Q R,SV.bd X I e r (.dI Z Q R)=(Z.bd X I e&&SV.cq X I e r R)):=by
 have V:∀b:Bool,(b&&(ayz 0 0||true))=b:=λb=>by cases b<;>rfl
 have U:∀i,(ayz (axZ 0 (ju X I e)) (ju X I e)&&(ayz (ayn 1 i) 0||r i))=r i:=λi=>by rw[Cu,MP];rfl
 simp only[SV.abX];refine⟨λ_ _=>V _,λ_=>V _,λ_=>V _,λ_ _=>U _,λ_ _ _ _=>U _,λW _ i _=> ?_,λl=>I6 _ _ _ _ l,λl=>I6 _ _ _ _ l,λ_ l=>I6 _ _ _ _ l,λ_ _=>rfl,λ_=>(V _).trans (Cu _),(V _).trans (Cu _),λ_=>U _,λZ _ l=> ?_⟩;exact(V _).trans (iL _ _ _);rw[<-I6];show(ayz (axZ (axZ Z.jw (SV.E2 l)) _) _&&_)=_;rw[iL,aAX];rfl
def SV.m5(Z X W:Nat)(V:Nat->Bool):aY->Bool
 |[]=>true
 |some x::U=>SV.cq Z X W V x.2&&SV.m5 Z X W V U
 |none::U=>SV.m5 Z X W V U
def aD(l:aY)(i:Nat):Bool:=(bF l i).isSome
def S.bd(s:S):Bool:=SV.cq s.ni s.nb s.rs.length (aD s.boxes) s.tmps&&SV.m5 s.ni s.nb s.rs.length (aD s.boxes) s.boxes
def S.da(s:S)(l:List SV):Bool:=s.bd&&SV.cq s.ni s.nb s.rs.length (aD s.boxes) l
structure dA where
 tm:List (Nat×LK)
 cl:List (Nat×Nat×LK)
inductive amz where
 |amA
 |inv (a:dA)
inductive FK where
 |box
 |slot (t:Nat) (vs:List Int)
structure bh where
 ty:Ty
 gl:List (Nat×Nat×Nat)
 inl:FuncId->Option (Code×Nat×List ResultVar)
 sig:FuncId->Option (List TypeId)
 loop:FuncId->Nat->amz
 abZ:TypeId:=3
 Cw:FuncId->FuncId->Option (TypeId×aI×Bool):=λ_ _=>none
 ml:Bool:=false
 TZ:FuncId->Nat->Bool:=λ_ _=>false
 frk:FuncId->Nat->Option FK:=λ_ _=>none
def S.fresh(s:S):LK->SV×S
 |.int k=>(.int k (.v s.ni),{s with ni:=s.ni+1})
 |.bool=>(.bool (.v s.nb),{s with nb:=s.nb+1})
 |.ref e=>(.ref (.v s.rs.length),{s with rs:=s.rs++[e]})
def pL:CT->LK
 |.int k=>.int k
 |.bool=>.bool
 |.aq _ k=>.ref k
def S.bE(s:S):List LK->List SV×S
 |[]=>([],s)
 |k::Z=>let r:=s.fresh k;let q:=r.2.bE Z;(r.1::q.1,q.2)
def vX(X:Ty):List TypeId->List SV->Option (List SV)
 |[],_=>some []
 |t::W,l=>match X t with
  |some Z=>match vX X W (l.drop Z.ab.length) with
   |some r=>some ((if Z.d.isAgg then .agg (l.take Z.ab.length) else l.getD 0 .any)::r)
   |none=>none
  |none=>none
def fb(Z:Ty):List TypeId->Option (List LK)
 |[]=>some []
 |t::X=>match Z t,fb Z X with
  |some W,some r=>some (W.ab.map pL++r)
  |_,_=>none
def one(l:List SV):SV:=match l with
 |[v]=>v
 |l=>.bm l
def Code.kW:Code->List Nat
 |.region _ Z _=>Z.toList.filterMap (·.dst)
 |.seq a b=>Code.kW a++Code.kW b
 |.cond _ a b=>Code.kW a++Code.kW b
 |.block _ c=>Code.kW c
 |.loop c=>Code.kW c
 |.scope c=>Code.kW c
 |.rangeFunc _ X a b=>X.toList++Code.kW a++Code.kW b
 |_=>[]
def Code.first:Code->Option Nat
 |.region id _ _=>some id
 |.seq a b=>match Code.first a with
  |some i=>some i
  |none=>Code.first b
 |.cond _ a b=>match Code.first a with
  |some i=>some i
  |none=>Code.first b
 |.block _ c=>Code.first c
 |.loop c=>Code.first c
 |.scope c=>Code.first c
 |_=>none
mutual
def SV.Cx:SV->List Nat
 |.loc i _=>[i]
 |.fy i _ _ _=>[i]
 |.agg l=>SV.lE l
 |.bm l=>SV.lE l
 |.fn _ l=>SV.lE l
 |.dV _ x=>SV.Cx x
 |.mp i=>[i]
 |.dI _ _ Z=>SV.lE Z
 |_=>[]
def SV.lE:List SV->List Nat
 |[]=>[]
 |x::Z=>SV.Cx x++SV.lE Z
end
def nT(Z:List Nat):Nat->aY->aY
 |_,[]=>[]
 |n,x::X=>(if Z.contains n then x else none)::nT Z (n+1) X
def qO:aY->aY
 |[]=>[]
 |x::Z=>match x,qO Z with
  |none,[]=>[]
  |x,r=>x::r
def SV.cR:SV->Bool
 |.any=>true
 |_=>false
inductive Cy where
 |fn (g:FuncId)
 |yl (n:Nat)
abbrev oR:=Cy->List SV->S->(SV->S->T)->(SV->S->T)->T
abbrev YH:=Nat->List SV->S->(SV->S->T)->(SV->S->T)->T
def fT:YH:=λ_ _ _ _ _=>.stuck ""
structure OM where
 o:Oper
 ix:Nat
 bc:Bool
 j:Nat
 dr:Bool
 so:Bool
inductive OR where
 |ok (s:S)
 |az (b:BE) (s:S)
 |split(b:BE) (s1 s2:S)
 |no (why:String)
def RE.isNil:RE->Bool
 |.k (.slice none 0 0)=>true
 |_=>false
def RE.fits(Z:Ty)(s:S)(k:RK)(r:RE):Bool:=match k with
 |.sl e=>decide (r.kind Z s=.sl e)||r.isNil
 |.str=>decide (r.kind Z s=.str)
 |_=>false
def oS(Z:Ty)(s:S):CT->SV->Bool
 |.int k,.int X _=>decide (k=X)
 |.bool,.bool _=>true
 |.aq _ k,.ref r=>r.fits Z s k
 |_,_=>false
def jx(Z:Ty)(s:S):List CT->List SV->Bool
 |[],[]=>true
 |c::X,v::W=>oS Z s c v&&jx Z s X W
 |_,_=>false
def kb(Z:Ty)(s:S)(ab:List CT):List (List SV)->Bool
 |[]=>true
 |r::X=>jx Z s ab r&&kb Z s ab X
def gc(w:Nat):Nat->List SV->List (List SV)
 |0,_=>[]
 |n+1,l=>l.take w::gc w n (l.drop w)
def LE.bd(Z X W:Nat):LE->Bool
 |.ref r=>r.bd Z X W
 |.lit l=>l.all (SV.cq Z X W λ_=>false)
 |.jr a b=>LE.bd Z X W a&&LE.bd Z X W b
 |.mW n U=>n.bd Z X W&&SV.cq Z X W (λ_=>false) U
 |.set a i _ V=>LE.bd Z X W a&&i.bd Z X W&&SV.cq Z X W (λ_=>false) V
 |.sub a R Q=>LE.bd Z X W a&&R.bd Z X W&&Q.bd Z X W
 |.ins a _ V=>LE.bd Z X W a&&SV.cq Z X W (λ_=>false) V
def RE.root:RE->Option Nat
 |.v n=>some n
 |.cell r _ _ _=>r.root
 |.k _=>none
mutual
def SV.T1:SV->List Nat
 |.ref r=>r.root.toList
 |.el r _ _ _=>r.root.toList
 |.agg l=>SV.lF l
 |.bm l=>SV.lF l
 |.fn _ l=>SV.lF l
 |.dV _ x=>SV.T1 x
 |.dI _ _ Z=>SV.lF Z
 |_=>[]
def SV.lF:List SV->List Nat
 |[]=>[]
 |x::Z=>SV.T1 x++SV.lF Z
end
def uh(b:Bool):RK->RK
 |.own e=>if b then .sl e else .own e
 |x=>x
def I7(b:Bool):RK->RK
 |.own e=>if b then .sl e else .dead
 |x=>x
def i7(Z:List Nat):Nat->List RK->List RK
 |_,[]=>[]
 |n,x::X=>uh (Z.contains n) x::i7 Z (n+1) X
def gr(Z:List Nat):Nat->List RK->List RK
 |_,[]=>[]
 |n,x::X=>(if Z.contains n then .dead else x)::gr Z (n+1) X
def yc(Z:List Nat):Nat->List RK->List RK
 |_,[]=>[]
 |n,x::X=>I7 (Z.contains n) x::yc Z (n+1) X
mutual
def SV.jp(k n:Nat):SV->SV
 |.ref (.v j)=>if j==k then .ref (.v n) else .ref (.v j)
 |.el (.v j) w i o=>if j==k then .el (.v n) w i o else .el (.v j) w i o
 |.agg l=>.agg (SV.lG k n l)
 |.bm l=>.bm (SV.lG k n l)
 |.fn f l=>.fn f (SV.lG k n l)
 |.dV t x=>.dV t (SV.jp k n x)
 |.dI e Z X=>.dI e Z (SV.lG k n X)
 |v=>v
def SV.lG(k n:Nat):List SV->List SV
 |[]=>[]
 |x::Z=>SV.jp k n x::SV.lG k n Z
end
def pM(k n:Nat):aY->aY
 |[]=>[]
 |none::Z=>none::pM k n Z
 |some (t,X)::Z=>some (t,if oO t then X else SV.lG k n X)::pM k n Z
def S.jp(s:S)(k n:Nat):S:={s with tmps:=SV.lG k n s.tmps,boxes:=pM k n s.boxes}
structure BI where
 az:BE
 e:TypeId
 x:LE
 s:S
def E6:Int:=536870912
def E7(n:IE):BE:=mj .leq n (.c E6)
def nU(U:Ty)(s:S)(e:TypeId)(Z:TI):SV->Option (LE×BE×List Nat)
 |.ref r=>if r.isNil then some (.lit [],.c true,[]) else if r.kind U s=.sl e then some (.ref r,E7 (.len r),[]) else none
 |.fy i W X _=>match i6 s.boxes i with
  |some (_,V)=>if kb U s Z.ab (gc Z.ab.length X (sq V W (X*Z.ab.length)))&&decide (W+X*Z.ab.length<=V.length)&&decide ((X:Int)<=E6) then some (.lit (gc Z.ab.length X (sq V W (X*Z.ab.length))),.c true,SV.lF (sq V W (X*Z.ab.length))) else none
  |none=>none
 |_=>none
def su(s:S)(e:TypeId)(bc:Bool):SV->Option (LE×BE×List Nat)
 |.ref (.v k)=>if s.rs[k]?=some (.own e)/\ !(bc&&s.lk.testBit (2*k+1)) then some (.ref (.v k),E7 (.len (.v k)),[k]) else none
 |.ref r=>if r.isNil then some (.lit [],.c true,[]) else none
 |.fy _ _ 0 0=>some (.lit [],.c true,[])
 |_=>none
def gO(s:S)(d:Option Nat)(az:BE)(e:TypeId)(k:RK)(x:LE)(Z X:List Nat):Option BI:=
 if s.bd&&Z.all (λk=> !X.contains k)&&LE.bd s.ni s.nb s.rs.length x&&az.bd s.ni s.nb s.rs.length then some ⟨az,e,x,{s with rs:=i7 X 0 (gr Z 0 s.rs)++[k]}.put d (.ref (.v s.rs.length))⟩ else none
def cP(Z:bh)(o:Oper)(bc V:Bool)(s:S):Option BI:=match o.op with
 |.call c=>match c.callee with
  |.builtin .append=>match c.argTypes.toList,c.args.toList.map (s.ev Z.gl) with
   |[t,Q],[x,y]=>match Z.ty t,Z.ty Q with
    |some ⟨.slice e,_,_⟩,some ⟨.slice P,_,_⟩=>match Z.ty e with
     |some X=>if e≠P\/X.ab.length=0 then none else match su s e bc x,nU Z.ty s e X y with
      |some (a,O,N),some (b,M,L)=>gO s o.dst (qM O M) e (.own e) (.jr a b) N L
      |_,_=>none
     |none=>none
    |_,_=>none
   |_,_=>none
  |_=>none
 |.makeSlice t n m=>match Z.ty t,s.ev Z.gl n,s.ev Z.gl m with
  |some ⟨.slice e,_,_⟩,.int .i64 n,.int .i64 m=>match Z.ty e with
   |some X=>if n.same m&&kb Z.ty s X.ab [cA X]&&X.ab.length !=0 then gO s o.dst (qM (mj .leq (.c 0) n) (E7 n)) e (.own e) (.mW n (cA X)) [] [] else none
   |none=>none
  |_,_,_=>none
 |.buildSlice t W parts=>if V|| !Z.ml then none else match Z.ty t with
  |some ⟨.slice e,_,_⟩=>match Z.ty e with
   |some X=>match uf (λi=>some (i*X.ab.length,X.ab.length)) (ss W (cA X)) (parts.toList.map λp=>(p.1,s.ev Z.gl p.2)) with
    |some l=>if(l.length==W*X.ab.length&&kb Z.ty s X.ab (gc X.ab.length W l)&&X.ab.length !=0&&decide ((W:Int)<=E6)&&decide (W*X.ab.length<=16777216)&& !(parts.toList.any λp=>(s.ev Z.gl p.2).cR)) then gO s o.dst (.c true) e (.own e) (.lit (gc X.ab.length W l)) [] (SV.lF l) else none
    |none=>none
   |none=>none
  |_=>none
 |.slice t x J I H=>if V then none else match Z.ty t,s.ev Z.gl x,H.map (s.ev Z.gl),I.map (s.ev Z.gl),J.map (s.ev Z.gl) with
  |some ⟨.slice e,_,_⟩,.ref r,some (.int _ (.c 0)),some (.int _ (.c 0)),none=>match Z.ty e with
   |some _=>if r.kind Z.ty s=.sl e\/r.isNil then gO s o.dst (.c true) e (.own e) (.lit []) [] [] else none
   |none=>none
  |some ⟨.slice e,_,_⟩,.ref r,none,some (.int .i64 h),some (.int .i64 l)=>match Z.ty e with
   |some _=>if r.kind Z.ty s=.sl e then gO s o.dst (qM (mj .leq (.c 0) l) (qM (mj .leq l h) (mj .leq h (.len r)))) e (.sl e) (.sub (.ref r) l h) [] r.root.toList else none
   |none=>none
  |some ⟨.slice e,_,_⟩,.ref r,none,some (.int .i64 h),none=>match Z.ty e with
   |some _=>if r.kind Z.ty s=.sl e then gO s o.dst (qM (mj .leq (.c 0) h) (mj .leq h (.len r))) e (.sl e) (.sub (.ref r) (.c 0) h) [] r.root.toList else none
   |none=>none
  |some ⟨.slice e,_,_⟩,.ref r,none,none,some (.int .i64 l)=>match Z.ty e with
   |some _=>if r.kind Z.ty s=.sl e then gO s o.dst (qM (mj .leq (.c 0) l) (mj .leq l (.len r))) e (.sl e) (.sub (.ref r) l (.len r)) [] r.root.toList else none
   |none=>none
  |_,_,_,_,_=>none
 |.store t a x=>if V then none else match Z.ty t,s.ev Z.gl a with
  |some U,.el (.v k) w i R=>match s.rs[k]? with
   |some (.own e)=>match Z.ty e with
    |some X=>if(X.ab.length==w&&(s.ev Z.gl x).cells.length==U.ab.length&&decide (R+U.ab.length<=w)&&jx Z.ty s ((X.ab.drop R).take U.ab.length) (s.ev Z.gl x).cells&&(s.ev Z.gl x).Cn) then
      (gO s none (qN i (.len (.v k))) e (.own e) (.set (.ref (.v k)) i R (s.ev Z.gl x).cells) [k] (SV.lF (s.ev Z.gl x).cells)).map λb=>{b with s:=(b.s.jp k s.rs.length).put o.dst (.bm [])} else none
    |none=>none
   |_=>none
  |_,_=>none
 |_=>none
def S.bN(s:S)(n:Nat)(t:TypeId)(Z:List SV):S:={s with boxes:=s.boxes.set n (some (t,Z))}
def I8(bc:Bool):SV->Nat
 |.loc i _=>if bc then 1<<<(2*i) else 0
 |.el r _ _ _=>if bc then(match r.root with
  |some k=>1<<<(2*k+1)
  |none=>0) else 0
 |.dI _ _ Z=>if bc then(match ug Z with
  |some i=>1<<<(2*i)
  |none=>0) else 0
 |_=>0
def S.bQ(s:S)(d:Option Nat)(v:SV)(l:Nat):S:={s with lk:=s.lk|||l}.put d v
def oT(s:S)(d:Option Nat)(l:Nat):PR->OR
 |.ok v=>.ok (s.bQ d v l)
 |.az b v=>if b.bd s.ni s.nb s.rs.length then .az b (s.bQ d v l) else .no ""
 |.no w=>.no w
def dL(l:aY)(n:Nat):Bool:=match l[n]? with
 |some none=>true
 |_=>false
def Bq(l:aY)(n:Nat)(t:TypeId):Bool:=dL l n&& !oO t
def dR(Z:bh)(m:OM)(s:S):OR:=
 if m.o.op.operands.toList.any λx=>(s.ev Z.gl x).cR then .no (""++toString m.j++ ""++toString m.o.dst) else
 match m.o.op with
 |.alloc t=>match Z.ty t with
  |some X=>if s.da (cA X)&&Bq s.boxes m.ix t then .ok ((s.bN m.ix t (cA X)).put m.o.dst (.loc m.ix 0)) else .no ""
  |none=>.no ""
 |.box t x=>match Z.ty t with
  |some X=>if(s.ev Z.gl x).cells.length==X.ab.length&&s.da (s.ev Z.gl x).cells&&(s.ev Z.gl x).Cn&&Bq s.boxes m.ix t then .ok ((s.bN m.ix t (s.ev Z.gl x).cells).put m.o.dst (.loc m.ix 0)) else .no ""
  |none=>.no ""
 |.buildSlice t W parts=>match Z.ty t with
  |some ⟨.slice e,_,_⟩=>match Z.ty e with
   |some V=>match uf (λi=>some (i*V.ab.length,V.ab.length)) (ss W (cA V)) (parts.toList.map λp=>(p.1,s.ev Z.gl p.2)) with
    |some l=>if s.da l&&decide (W*V.ab.length<=16777216)&&Bq s.boxes m.ix e then .ok ((s.bN m.ix e l).put m.o.dst (.fy m.ix 0 W W)) else .no ""
    |none=>.no ""
   |none=>.no ""
  |_=>.no ""
 |.store t a x=>match Z.ty t,s.ev Z.gl a with
  |some X,.loc i U=>match i6 s.boxes i with
   |some (Q,R)=>if(s.ev Z.gl x).cells.length==X.ab.length&&decide (U+(s.ev Z.gl x).cells.length<=R.length)&&Ae (s.ev Z.gl x).cells&&(s.ev Z.gl x).Cn&& !(m.bc&&s.lk.testBit (2*i)) then .ok ((s.bN i Q (iK R U (s.ev Z.gl x).cells)).put m.o.dst (.bm [])) else .no ""
   |none=>.no ""
  |_,_=>.no ""
 |.pick c x y=>match s.ev Z.gl c with
  |.bool b=>.split b (s.put m.o.dst (s.ev Z.gl x)) (s.put m.o.dst (s.ev Z.gl y))
  |_=>.no ""
 |.load t a=>oT s m.o.dst (I8 m.bc (s.ev Z.gl a)) (bz Z.ty Z.gl s (.load t a))
 |op=>oT s m.o.dst 0 (bz Z.ty Z.gl s op)
inductive MR where
 |ok (s:S)
 |rows (k:RK) (x:LE) (s:S)
def Cz(Z:TI)(n:Nat)(X:Bool):TypeId×List SV:=if Z.ab.all jT&&Z.ab.length !=0 then(qK,[.ref (.k (.slice none 0 0)),.int .i64 (.c n),.bool (.c X),.bool (.c Z.d.isAgg)]) else(pK,[])
def S.ui(s:S)(b:TypeId×List SV):S:={s with boxes:=s.boxes++[some b]}
def CA(W:bh)(s:S)(k e:TypeId)(n:Nat)(X:Bool)(Z:TI):List SV->Option RE
 |[.ref r,.int .i64 (.c V),.bool (.c U),.bool (.c R)]=>if r.mX W.ty s ⟨k,e,n,X,Z.d.isAgg⟩&&V==(n:Int)&&U==X&&R==Z.d.isAgg&&Z.ab.all jT then some r else none
 |_=>none
def MQ(W:bh)(d:Option Nat)(s:S)(t:TypeId)(Q V v:SV):Option MR:=match W.ty t,Q with
 |some ⟨.map k e n Z,_,_⟩,.mp i=>match W.ty e,Cr n Z V,bF s.boxes i with
  |some X,some (P,_,_),some (R,U)=>if !oQ W.ty k n Z|| !s.da [V,v]|| !vT X v then none else
   if R==qK then(match CA W s k e n Z X U with
    |some r=>if jx W.ty s X.ab v.cells then
      some (.rows (RK.mr ⟨k,e,n,Z,X.d.isAgg⟩) (.ins (.ref r) n (V.cells++v.cells)) (S.put {s with rs:=s.rs++[RK.mr ⟨k,e,n,Z,X.d.isAgg⟩],boxes:=s.boxes.set i (some (qK,[.ref (.v s.rs.length),.int .i64 (.c n),.bool (.c Z),.bool (.c X.d.isAgg)]))} d (.bm []))) else none
    |none=>none)
   else if R==pK&&n==1&& !Z then(match P,mZ U with
    |.c x,some O=>if O.contains x then none else some (.ok ((s.bN i pK (U++[.int .i64 (.c x),v])).put d (.bm [])))
    |_,_=>none)
   else none
  |_,_,_=>none
 |_,_=>none
def MS(Z:bh)(d:Option Nat)(s:S)(t:TypeId):Option S:=match Z.ty t with
 |some ⟨.map k e n X,_,_⟩=>match Z.ty e with
  |some W=>if s.bd&&oQ Z.ty k n X then some ((s.ui (Cz W n X)).put d (.mp s.boxes.length)) else none
  |none=>none
 |_=>none
def sw(Z:bh):Sh:=⟨Z.abZ,sk,1,false,false⟩
def CB(Z:bh):Bool:=oQ Z.ty Z.abZ 1 false&&(Z.ty sk).isNone
def T2(V:bh)(s:S)(k e:TypeId)(n:Nat)(Z:Bool)(U:TI)(i:Nat):Option IE:=match bF s.boxes i with
 |some (X,W)=>if X==qK then(CA V s k e n Z U W).map .len
  else if X==pK&&n==1&& !Z then(mZ W).map λR=>.c R.length else none
 |none=>none
def MT(Z:bh)(d:Option Nat)(s:S)(t:TypeId)(X:SV):Option S:=match Z.ty t,X with
 |some ⟨.map k e n W,_,_⟩,.mp i=>match Z.ty e with
  |some V=>match T2 Z s k e n W V i with
   |some c=>if s.bd&&c.bd s.ni s.nb s.rs.length&&aD s.boxes i then some ((s.ui (sk,[.mp i,.int .i64 (.c t),.int .i64 c,.ref (.k (.slice none 0 0))])).put d (.loc s.boxes.length 0)) else none
   |none=>none
  |none=>none
 |_,_=>none
def pN(r:RE)(i:IE):Nat->List CT->List SV
 |_,[]=>[]
 |j,c::Z=>Ad r i j c::pN r i (j+1) Z
def E8(r:RE)(i:IE)(n:Nat)(Z:Bool):SV:=oP Z ((ax6 n).map λj=>.int .i64 (.cell r i j))
def T3(Z:bh)(d:Option Nat)(s:S)(q X:Nat)(i t:Nat)(c:IE)(W v:SV):S:=
 S.put {s with ni:=X,rs:=s.rs++[RK.mr (sw Z)],boxes:=s.boxes.set q (some (sk,[.mp i,.int .i64 (.c t),.int .i64 c,.ref (.v s.rs.length)]))} d (.bm [.bool (.c true),W,v])
def MU(Z:RE)(j:IE):BE:=.not (.has Z 1 j (.c 0) (.c 0))
def MV(Z:TI)(e:IE)(X:List Int)(W:List SV):Option (SV×SV):=if W.all (vT Z) then(match vS e (yb X.length) (X.map λk=>.int .i64 (.c k)),ya e (yb X.length) (W.map SV.cells) 0 Z.ab with
 |some a,some l=>some (.int .i64 a,oP Z.d.isAgg l)
 |_,_=>none) else none
def MW(X:bh)(s:S)(c:IE)(Z:RE)(t W:T):T:=
 .pick c (MU Z (.v s.ni)) (.cmp .leq c (.len Z)) (.rows (.mr (sw X)) (.ins (.ref Z) 1 [.int .i64 (.v s.ni)]) s.rs t) W
def T4(Z:bh)(d:Option Nat)(s:S)(N:SV)(R Q:S->T):Option T:=match N with
 |.loc q 0=>match bF s.boxes q with
  |some (M,[.mp i,.int .i64 (.c t),.int .i64 c,.ref V])=>if !(M==sk&&CB Z&&V.mX Z.ty s (sw Z)&&s.bd&&({s with ni:=s.ni+1}:S).bd&&decide (0<=t)) then none else match Z.ty t.toNat,bF s.boxes i with
   |some ⟨.map k e n W,_,_⟩,some (P,U)=>match Z.ty e with
    |some X=>if !oQ Z.ty k n W then none else
     if P==qK then(match CA Z s k e n W X U with
      |some r=>if c.same (.len r)&&X.ab.length !=0 then some (MW Z s c V (R (T3 Z d s q (s.ni+1) i t.toNat c (E8 r (.v s.ni) n W) (oP X.d.isAgg (pN r (.v s.ni) n X.ab)))) (Q (s.put d (.bm [.bool (.c false)])))) else none
      |none=>none)
     else if P==pK&&n==1&& !W then(match mZ U with
      |some O=>if c.same (.c O.length) then(match MV X (.v s.ni) O (jt U) with
       |some (L,v)=>some (MW Z s c V (R (T3 Z d s q (s.ni+1) i t.toNat c L v)) (Q (s.put d (.bm [.bool (.c false)]))))
       |none=>none) else none
      |none=>none)
     else none
    |none=>none
   |_,_=>none
  |_=>none
 |_=>none
def qP(Z:RE):IE:=.cell Z (.bin .sub .i64 (.len Z) (.c 1)) 0
def T5(c:IE)(Z:RE):BE:=qM (qM (mj .leq (.c 1) (.len Z)) (E7 (.len Z))) (qN (qP Z) c)
def T6(Z:bh)(d:Option Nat)(s:S)(O:SV)(R:S->T):Option T:=match O with
 |.loc q 0=>match bF s.boxes q with
  |some (N,[.mp i,.int .i64 (.c t),.int .i64 c,.ref X])=>if !(N==sk&&CB Z&&X.mX Z.ty s (sw Z)&&s.bd&&decide (0<=t)) then none else match Z.ty t.toNat,bF s.boxes i with
   |some ⟨.map k e n W,_,_⟩,some (Q,U)=>match Z.ty e with
    |some V=>if !oQ Z.ty k n W then none else
     if Q==qK then(match CA Z s k e n W V U with
      |some r=>if c.same (.len r) then some (.az (T5 c X) (R (s.put d (.bm [E8 r (qP X) n W,oP V.d.isAgg (pN r (qP X) n V.ab)])))) else none
      |none=>none)
     else if Q==pK&&n==1&& !W then(match mZ U with
      |some P=>if c.same (.c P.length) then(match MV V (qP X) P (jt U) with
       |some (M,v)=>some (.az (T5 c X) (R (s.put d (.bm [M,v]))))
       |none=>none) else none
      |none=>none)
     else none
    |none=>none
   |_,_=>none
  |_=>none
 |_=>none
def MX(Z:bh)(d:Option Nat)(s:S)(t:TypeId)(X:Bool)(x y:SV)(W:S->T):Option T:=match Z.ty t,x,y with
 |some ⟨.slice e,_,_⟩,.ref r,.ref (.k (.slice none 0 0))=>if r.kind Z.ty s=.sl e then some (.ey (.c true) (.cmp .leq (.len r) (.c 0)) (W (s.put d (.bool (.c X)))) (W (s.put d (.bool (.c (!X)))))) else none
 |_,_,_=>none
abbrev Fx:=List (BE×Bool)
def I9(Z:Fx):BE->Option Bool
 |.c v=>some v
 |b=>(Z.find? λx=>x.1.same b).map (·.2)
def ye(s:S)(Z:Fx)(b:BE)(t f:Fx->T):T:=match I9 Z b with
 |some true=>t Z
 |some false=>f Z
 |none=>if b.bd s.ni s.nb s.rs.length then .node b (t ((b,true)::Z)) (f ((b,false)::Z)) else .stuck ""
inductive CK where
 |call (g:Cy) (args:List SV)
 |aW (v:SV)
 |op
 |no
def db(Z:bh)(s:S)(o:Oper):CK:=
 match o.op with
 |.panic x=>match s.ev Z.gl x with
  |.dV t y=>.aW (.dV t y)
  |_=>.no
 |.call c=>match c.callee with
  |.value f=>match s.ev Z.gl f with
   |.fn g X=>if c.args.toList.any λx=>(s.ev Z.gl x).cR then .no else .call (.fn g) (c.args.toList.map (s.ev Z.gl)++X)
   |.yl n=>if c.args.toList.any λx=>(s.ev Z.gl x).cR then .no else .call (.yl n) (c.args.toList.map (s.ev Z.gl))
   |_=>.no
  |.invoke _ _=>.no
  |.builtin .panic=>match c.args.toList with
   |[x]=>match s.ev Z.gl x with
    |.dV t y=>.aW (.dV t y)
    |_=>.no
   |_=>.no
  |.builtin _=>.op
 |_=>.op
def lH(s:S)(Z:Fx):Fx:=Z.filter λx=>x.1.bd s.ni s.nb s.rs.length
def T7(b:BE):SV->SV->Option SV
 |.int k x,.int Z y=>if k=Z then some (.int k (.bT b x y)) else none
 |.bool x,.bool y=>some (.bool (.bT b x y))
 |_,_=>none
def Ja(b:BE):List SV->Nat->List SV->Option (List SV)
 |[],_,Z=>some Z
 |x::W,X,Z=>match Z[X]? with
  |some V=>match T7 b x V with
   |some c=>Ja b W (X+1) (Z.set X c)
   |none=>none
  |none=>none
def CC(e:IE)(X:List SV):List Int->List SV->List SV->Option (List SV)
 |[],[],Z=>some Z
 |k::W,.loc _ V::U,Z=>match Ja (.cmp .eql e (.c k)) X V Z with
  |some R=>CC e X W U R
  |none=>none
 |_,_,_=>none
def MY:List Int->Bool
 |[]=>true
 |x::Z=> !Z.contains x&&MY Z
def Jb:SV->Bool
 |.int _ _|.bool _=>true
 |_=>false
def E9:List SV->Bool
 |[]=>false
 |[x]=>Jb x
 |x::Z=>Jb x&&E9 Z
def arl(d:Option Nat)(s:S)(V:TI)(e:IE)(Z:List Int)(X:List SV)(W:SV)(k:S->T):Option T:=match ug X with
 |some i=>match i6 s.boxes i with
  |some (U,R)=>match CC e W.cells Z X R with
   |some Q=>if V.ab.length==W.cells.length&&Z.length==X.length&&MY Z&&E9 W.cells then some (.az (Cs e Z) (k ((s.bN i U Q).put d (.bm [])))) else none
   |none=>none
  |none=>none
 |none=>none
def vY(Z:bh)(m:OM)(s:S)(W:S->Fx->T)(V:Fx):Option T:=if m.dr||m.o.op.operands.toList.any λx=>(s.ev Z.gl x).cR then none else match m.o.op with
 |.makeMap t none=>(MS Z m.o.dst s t).map λX=>W X V
 |.mapUpdate t x y z=>match MQ Z m.o.dst s t (s.ev Z.gl x) (s.ev Z.gl y) (s.ev Z.gl z) with
  |some (.ok X)=>some (W X V)
  |some (.rows k x X)=>some (.rows k x s.rs (W X (lH s V)))
  |none=>none
 |.insert t x y z=>match MQ Z m.o.dst s t (s.ev Z.gl x) (s.ev Z.gl y) (s.ev Z.gl z) with
  |some (.ok X)=>some (W X V)
  |some (.rows k x X)=>some (.rows k x s.rs (W X (lH s V)))
  |none=>none
 |.range t x=>(MT Z m.o.dst s t (s.ev Z.gl x)).map λX=>W X V
 |.next U false=>T4 Z m.o.dst s (s.ev Z.gl U) (λX=>W X (lH s V)) (λX=>W X V)
 |.entry U=>T6 Z m.o.dst s (s.ev Z.gl U) λX=>W X V
 |.store t a x=>match Z.ty t,s.ev Z.gl a with
  |some R,.dI e Q P=>arl m.o.dst s R e Q P (s.ev Z.gl x) λX=>W X V
  |_,_=>none
 |.binOp O t x y _=>match O with
  |.eql=>MX Z m.o.dst s t false (s.ev Z.gl x) (s.ev Z.gl y) λX=>W X V
  |.neq=>MX Z m.o.dst s t true (s.ev Z.gl x) (s.ev Z.gl y) λX=>W X V
  |_=>none
 |_=>none
def vZ(Z:bh)(m:OM)(s:S):Option (IE×List Int×List SV×List SV):=if m.dr then none else match m.o.op with
 |.call c=>match c.callee with
  |.value f=>match s.ev Z.gl f with
   |.dI e X W=>if(c.args.toList.any λx=>(s.ev Z.gl x).cR)|| !e.bd s.ni s.nb s.rs.length then none else some (e,X,W,c.args.toList.map (s.ev Z.gl))
   |_=>none
  |_=>none
 |_=>none
def Ai(e:IE)(Z:FuncId->List SV->T):List Int->List SV->T
 |k::X,.fn g V::W=>.node (.cmp .eql e (.c k)) (Z g V) (Ai e Z X W)
 |k::X,.ref (.k .nilFunc)::W=>.node (.cmp .eql e (.c k)) (.stuck "") (Ai e Z X W)
 |_,_=>.stuck ""
structure TuI where
 f:FuncId
 g:FuncId
 e:TypeId
 sp:aI
 st:Bool
 r:RE
 s:S
def Jc:List SV->Option (List IE×FuncId)
 |[.fn g []]=>some ([],g)
 |.int .i64 e::r=>match Jc r with
  |some x=>some (e::x.1,x.2)
  |none=>none
 |_=>none
def aI.fill:aI->List IE->Option aI
 |.cz k o _,Z=>some (.cz k o Z)
 |X,[]=>some X
 |_,_::_=>none
def yf(Z:bh)(m:OM)(s:S):Option TuI:=if m.dr|| !s.bd then none else match db Z s m.o with
 |.call (.fn f) (.ref r::V)=>match Jc V with
  |some (U,g)=>match Z.Cw f g with
   |some (e,R,X)=>match R.fill U with
    |some W=>match r with
     |.v k=>if s.rs[k]?=some (.own e) then some ⟨f,g,e,W,X,.v k,(({s with rs:=i7 [] 0 (gr [k] 0 s.rs)++[.own e]}:S).jp k s.rs.length).put m.o.dst (.bm [])⟩ else none
     |.k (.slice none 0 0)=>some ⟨f,g,e,W,X,.k (.slice none 0 0),({s with rs:=i7 [] 0 (gr [] 0 s.rs)++[.own e]}:S).put m.o.dst (.bm [])⟩
     |_=>none
    |none=>none
   |none=>none
  |none=>none
 |_=>none
def aa1(V:bh)(Q:oR)(m:OM)(s:S)(Z:S->Fx->T)(R:SV->S->T)(X:Fx):T:=
 match vZ V m s with
 |some (e,P,O,U)=>Ai e (λg N=>Q (.fn g) (U++N) s (λv W=>Z (W.put m.o.dst v) (lH s X)) R) P O
 |none=>
 match yf V m s with
 |some u=>.dq u.f u.g u.e u.sp u.st u.r s.rs (Z u.s (lH s X))
 |none=>
 match db V s m.o with
 |.call (.fn g) U=>Q (.fn g) U s (λv W=>Z (W.put m.o.dst v) (lH s X)) R
 |.call (.yl n) U=>if m.so then Q (.yl n) U s (λv W=>Z (W.put m.o.dst v) (lH s X)) R else .stuck ""
 |.aW v=>R v s
 |.no=>.stuck ""
 |.op=>match vY V m s Z X with
  |some t=>t
  |none=>match cP V m.o m.bc m.dr s with
  |some b=>.az b.az (.new b.e b.x s.rs b.s.rs (Z b.s (lH s X)))
  |none=>match dR V m s with
  |.ok W=>Z W X
  |.az b W=>.az b (Z W X)
  |.split b M L=>ye s X b (Z M) (Z L)
  |.no J=>.stuck J
def MZ(V:Array Oper)(m:OM)(s:S)(Z:Fx)(X W:Fx->T):T:=
 match m.o.guard with
 |none=>X Z
 |some (j,U)=>match(V[j]?).bind (·.dst) with
  |some d=>match s.tmps[d]? with
   |some (.bool b)=>if U then ye s Z b X W else ye s Z b W X
   |some (.bm [])=>W Z
   |_=>.stuck ""
  |none=>.stuck ""
def kD(Z:bh)(X:oR)(W:Array Oper)(k:S->T)(V:SV->S->T):List OM->S->Fx->T
 |[],s,_=>k s
 |m::U,s,R=>MZ W m s R (aa1 Z X m s (kD Z X W k V U) V) (kD Z X W k V U (s.put m.o.dst (.bm [])))
def dW:Op->Bool
 |.alloc _|.box _ _|.buildSlice _ _ _=>true
 |_=>false
def jU(l:List Oper):Nat:=(l.filter λo=>dW o.op).length
def ez(bc:Nat->Bool)(Z X:Bool):Nat->Nat->List Oper->List OM
 |_,_,[]=>[]
 |j,n,o::r=>⟨o,n,bc j,j,X,Z⟩::ez bc Z X (j+1) (if dW o.op then n+1 else n) r
def S.room(s:S)(n:Nat):S:={s with boxes:=s.boxes++axW n none,lk:=0}
def pO(Z:bh)(s:S):List ResultVar->Option (List SV)
 |[]=>some []
 |.tmp t::X=>match pO Z s X with
  |some l=>if(s.tmps.getD t .any).cR then none else some (s.tmps.getD t .any::l)
  |none=>none
 |.cell a t::X=>match pO Z s X,s.tmps.getD a .any,Z.ty t with
  |some l,.loc i W,some V=>match i6 s.boxes i with
   |some (_,U)=>match sr V U W with
    |some v=>some (v::l)
    |none=>none
   |none=>none
  |_,_,_=>none
def qQ(n:Nat):List (Nat×LK)->List SV->Option SV
 |(t,_)::r,v::Z=>if t==n then some v else qQ n r Z
 |_,_=>none
def aba(b n:Nat):List (Nat×Nat×LK)->List SV->Option SV
 |(Z,X,_)::r,v::W=>if Z==b&&X==n then some v else aba b n r W
 |_,_=>none
def ab2(l:aY)(x:Nat×Nat×LK):SV:=match bF l x.1 with
 |some (_,Z)=>Z.getD x.2.1 .any
 |none=>.any
def dA.ks(a:dA):List LK:=a.tm.map (·.2)++a.cl.map (·.2.2)
def gT(a:dA)(s:S):List SV:=a.tm.map (λx=>s.tmps.getD x.1 .any)++a.cl.map (ab2 s.boxes)
def M1:LK->SV->List Nat
 |.ref (.own _),.ref (.v k)=>[k]
 |_,_=>[]
def yg:List LK->List SV->List Nat
 |k::Z,v::X=>M1 k v++yg Z X
 |_,_=>[]
def CD(a:dA)(s:S):List Nat:=yg a.ks (gT a s)
def fH(a:dA)(s:S):List RK:=gr (CD a s) 0 s.rs
def uj:List RK->List RK->Bool
 |[],_=>true
 |x::Z,y::X=>(decide (x=.dead)||decide (x=y))&&uj Z X
 |_::_,[]=>false
def jV:List Nat->Bool
 |[]=>true
 |x::Z=> !Z.contains x&&jV Z
def CE(Z:List RK)(l:List Nat):Bool:=jV l&&l.all λk=>decide (Z.length<=k)||decide (Z[k]?=some .dead)
def abb(a:dA)(Z:List Nat)(X:List SV):Nat->List SV->List SV
 |_,[]=>[]
 |n,x::W=>(qQ n a.tm X).getD (if Z.contains n then .any else x)::abb a Z X (n+1) W
def CF(a:dA)(Z:List SV)(b:Nat):Nat->List SV->List SV
 |_,[]=>[]
 |n,x::X=>(aba b n a.cl Z).getD x::CF a Z b (n+1) X
def pP(a:dA)(Z:List SV):Nat->aY->aY
 |_,[]=>[]
 |n,none::X=>none::pP a Z (n+1) X
 |n,some (t,W)::X=>some (t,CF a Z n 0 W)::pP a Z (n+1) X
def m6(a:dA)(Z:List Nat)(s:S):S:=
 let r:List SV×S:=S.bE {s with av:=s.av+1,rs:=fH a s} a.ks
 {r.2 with tmps:=abb a Z r.1 0 s.tmps,boxes:=pP a (r.1.drop a.tm.length) 0 s.boxes}
def uk(a:dA)(Z:List Nat):Nat->List SV->List SV->Bool
 |_,[],[]=>true
 |n,x::X,y::W=>(a.tm.any (·.1==n)||Z.contains n||SV.same x y)&&uk a Z (n+1) X W
 |_,_,_=>false
def CG(a:dA)(b:Nat):Nat->List SV->List SV->Bool
 |_,[],[]=>true
 |n,x::Z,y::X=>(a.cl.any (λc=>c.1==b&&c.2.1==n)||SV.same x y)&&CG a b (n+1) Z X
 |_,_,_=>false
def oU(a:dA):Nat->aY->aY->Bool
 |_,[],_=>true
 |n,none::Z,_::X=>oU a (n+1) Z X
 |n,some x::Z,some y::X=>x.1==y.1&&CG a n 0 x.2 y.2&&oU a (n+1) Z X
 |_,_,_=>false
def yi(s:S):LK->SV->Bool
 |.int k,.int Z _=>decide (k=Z)
 |.bool,.bool _=>true
 |.ref e,.ref (.v k)=>s.rs[k]?==some e
 |.ref (.sl _),.ref (.k (.slice none 0 0))=>true
 |.ref (.own _),.ref (.k (.slice none 0 0))=>true
 |.ref (.mr _),.ref (.k (.slice none 0 0))=>true
 |_,_=>false
def oV(s:S):List LK->List SV->Bool
 |[],[]=>true
 |k::Z,v::X=>yi s k v&&oV s Z X
 |_,_=>false
def CH:LK->Bool
 |.ref (.own _)=>false
 |_=>true
def mq:List LK->Bool
 |[]=>true
 |k::Z=>CH k&&mq Z
def Jd:List LK->Bool
 |[]=>false
 |.ref _::_=>true
 |_::Z=>Jd Z
def Je(Z:List SV)(n:Nat):List Nat:=if(SV.lE Z).isEmpty then SV.lF Z else ax6 n
def Jf(X:List SV)(Z:List RK):List RK:=yc (Je X Z.length) 0 Z
def yj(X:List SV)(W:List LK)(Z:List RK):List RK:=if Jd W then i7 (Je X Z.length) 0 Z else Z
def S.cut(s:S)(Z:List SV)(X:List LK):S:={s with rs:=yj Z X s.rs}
def wa(W:bh)(f:FuncId)(Z:List SV)(s:S)(k:SV->S->T):T:=
 match W.sig f with
 |some V=>match fb W.ty V with
  |some X=>match vX W.ty V ((s.cut Z X).bE X).1 with
   |some l=>if s.da Z&&mq X then .call f Z (qO (nT (SV.lE Z) 0 s.boxes)) (Jf Z s.rs) X (one l) (k (one l) ((s.cut Z X).bE X).2) else .stuck ""
   |none=>.stuck ""
  |none=>.stuck ""
 |none=>.stuck (""++toString f)
def iM(o:Oper):List Nat:=(o.after.toList.filter λe=>Region.binds .any e).map (·.on)
def lI(Z:List Oper):List Nat:=Z.foldl (λacc o=>acc++[(iM o).foldl (λl e=>l|||(1<<<e)|||acc.getD e 0) 0]) []
def abd:Op->Bool
 |.load _ _=>true
 |_=>false
def ul:Op->Bool
 |.store _ _ _=>true
 |_=>false
def ke:Op->Bool
 |.call c=>match c.callee with
  |.builtin .len|.builtin .min|.builtin .max=>true
  |_=>false
 |.move _|.assign _|.pick _ _ _|.load _ _|.fieldAddr _ _ _|.field _ _ _|.indexAddr _ _ _|.index _ _ _|.binOp _ _ _ _ _|.unOp _ _ _|.convert _ _ _|.makeInterface _ _|.makeFunc _ _ _|.extract _ _|.nilCheck _|.slice _ _ _ _ _|.build _ _|.lookup _ _ _ _=>true
 |_=>false
def gE(Z:Array Oper)(o:Oper):List Nat:=o.op.operands.toList.filterMap (λx=>match x with
  |.tmp t=>some t
  |_=>none)++(match o.guard with
  |some (j,_)=>((Z[j]?).bind (·.dst)).toList
  |none=>[])
def Fa:Op->Bool
 |.panic _=>true
 |.call c=>match c.callee with
  |.builtin .panic=>true
  |_=>false
 |_=>false
def yk:Op->Bool
 |.call c=>match c.callee with
  |.builtin .append=>true
  |_=>false
 |_=>false
def pQ:Op->Bool
 |.call c=>match c.callee with
  |.builtin .append=>true
  |_=>false
 |.makeSlice _ _ _=>true
 |_=>false
def looks:Op->Bool
 |.call _|.load _ _|.indexAddr _ _ _|.index _ _ _|.lookup _ _ _ _=>true
 |.binOp Z _ _ _ _=>MJ Z
 |_=>false
def M3(Z:Array Oper)(x y:OM):Bool:=
 x.dr&&y.dr&&ke x.o.op&& !Fa y.o.op&&(match x.o.dst with
  |some d=> !(gE Z y.o).contains d&&y.o.dst !=some d&& !(gE Z x.o).contains d
  |none=>false)&&(match y.o.dst with
  |some d=> !(gE Z x.o).contains d
  |none=>true)&&(!(ul y.o.op)|| !(abd x.o.op)||(x.bc&&y.bc))&&(!(yk y.o.op)|| !(looks x.o.op)||(abd x.o.op&&x.bc&&y.bc))
def sx:Operand->Bool
 |.global _=>false
 |_=>true
def um:Op->Bool
 |.call c=>match c.callee with
  |.value _=>true
  |_=>false
 |_=>false
def CI:Op->Bool
 |.alloc _=>true
 |_=>false
def M4(Z:Array Oper)(x y:OM):Bool:=(match x.o.dst with
  |some d=> !(gE Z y.o).contains d&&y.o.dst !=some d
  |none=>true)&&(match y.o.dst with
  |some d=> !(gE Z x.o).contains d
  |none=>true)
def Fb:Op->Bool
 |.call c=>match c.callee with
  |.value (.func _)=>c.args.toList.isEmpty
  |_=>false
 |_=>false
def M5(Z:Array Oper):Bool:=(ax6 Z.size).all λi=>(ax6 Z.size).all λj=>match Z[i]?,Z[j]? with
 |some x,some y=> !(um x.op)|| !(dW y.op||pQ y.op)||((lI Z.toList).getD i 0).testBit j||((lI Z.toList).getD j 0).testBit i||(Fb x.op&&CI y.op)
 |_,_=>true
def Fc(Z:Array Oper)(x y:OM):Bool:=
 x.dr&&y.dr&&CI y.o.op&&y.o.guard.isNone&&(dW x.o.op||pQ x.o.op||um x.o.op)&&(!dW x.o.op||x.ix !=y.ix)&&x.o.op.operands.toList.all sx&&M4 Z x y&&(!um x.o.op|| !M5 Z||Fb x.o.op)
def Aj:Op->Bool
 |.move _|.assign _|.fieldAddr _ _ _=>true
 |_=>false
def Jg(Z:Array Oper)(x y:OM):Bool:=
 x.dr&&y.dr&&dW x.o.op&& !CI x.o.op&&x.o.guard.isNone&&x.o.op.operands.toList.all sx&&y.o.op.operands.toList.all sx&&(dW y.o.op||pQ y.o.op||um y.o.op||Aj y.o.op||ul y.o.op)&&(!dW y.o.op||x.ix !=y.ix)&&M4 Z x y&&(!um y.o.op|| !M5 Z)
def pR(Z:Array Oper)(x y:OM):Bool:= !x.so&& !y.so&&(M3 Z x y||Fc Z x y||Jg Z x y)
def Jh(Z:List Oper):Nat->List Nat->List Nat
 |0,acc=>acc
 |n+1,acc=>
  let X:=(ax6 Z.length).filter λi=> !acc.contains i&&(match Z[i]? with
   |some o=>(iM o).all acc.contains
   |none=>false)
  match X.find? λi=>match Z[i]? with
   |some o=>ke o.op
   |none=>false with
  |some i=>Jh Z n (acc++[i])
  |none=>match(X.find? λi=>match Z[i]? with
   |some o=>dW o.op&& !CI o.op
   |none=>false).or (X.find? λi=>match Z[i]? with
   |some o=> !CI o.op
   |none=>false) with
   |some i=>Jh Z n (acc++[i])
   |none=>match X with
   |i::_=>Jh Z n (acc++[i])
   |[]=>acc
def Ak(Z:Array Oper)(X:List Nat):List OM->Bool
 |[]=>true
 |x::r=>(r.all λy=>(X.getD y.j 0).testBit x.j||pR Z x y)&&Ak Z X r
def Al(Z:Array Oper):List Nat->List OM->Bool
 |_,[]=>true
 |done,x::r=>(match Z[x.j]? with
  |some o=>(iM o).all done.contains
  |none=>false)&&Al Z (x.j::done) r
def M6(Z:List Oper)(X:List Nat):Bool:=(ax6 Z.length).all λj=>match Z[j]? with
 |some o=>(iM o).all (λe=>decide (e<j))&&(ax6 Z.length).all λi=> !(X.getD j 0).testBit i||(iM o).contains i||(iM o).any λe=>(X.getD e 0).testBit i
 |none=>false
def Ji(Z:List Oper)(X:List Nat)(j:Nat):Bool:=match Z[j]? with
 |some o=>(abd o.op&&(ax6 Z.length).any λi=>(match Z[i]? with
   |some q=>ul q.op||yk q.op
   |none=>false)&& !(X.getD i 0).testBit j&& !(X.getD j 0).testBit i)||
  ((ul o.op||yk o.op)&&(ax6 Z.length).any λi=>(match Z[i]? with
   |some q=>abd q.op
   |none=>false)&& !(X.getD i 0).testBit j&& !(X.getD j 0).testBit i)
 |none=>false
def wc(Z:List Nat):List OM->Bool
 |[]=>true
 |x::r=>(r.all λy=>(Z.getD y.j 0).testBit x.j)&&wc Z r
def amB:Op->Bool
 |.call c=>match c.callee with
  |.value (.tmp _)=>true
  |_=>false
 |_=>false
def pS(Z:List Nat):List OM->List OM->List OM
 |_,[]=>[]
 |X,m::r=>{m with so:=amB m.o.op&&wc Z (m::r)&&X.all (λx=>(Z.getD m.j 0).testBit x.j)}::pS Z (X++[m]) r
def oW(Z:List Nat):Nat->List SV->List SV
 |_,[]=>[]
 |n,x::X=>(if Z.contains n then .any else x)::oW Z (n+1) X
def S.plus(s:S)(Z:aY):S:={s with boxes:=s.boxes++Z}
abbrev sy:=FuncId->List SV->S->Option (SV×aY)
def uo(X:bh)(W:sy)(V:YH):oR
 |.fn f,Z,s,k,_=>match W f Z s with
  |some (v,U)=>if s.bd then k v (s.plus U) else .stuck ""
  |none=>wa X f Z s k
 |.yl n,Z,s,k,R=>V n Z s k R
def Fe(l:List OM)(Z:List Nat):List OM:=Z.filterMap λi=>l[i]?
def Am(l:List Oper):List Nat:=l.filterMap (·.dst)
def Ff(Z:Array Oper)(n:Nat):Option (List OM):=
 let W:=lI Z.toList;let X:=pS W [] (Fe (ez (Ji Z.toList W) false true 0 n Z.toList) (Jh Z.toList Z.size []))
 if M6 Z.toList W&&Al Z [] X&&Ak Z W X&&jV (X.filterMap (·.o.dst))&&jV (X.map (·.j))&&jV ((X.filter λm=>dW m.o.op).map (·.ix))&&X.length==Z.size&&(ax6 Z.size).all (λi=>X.any λm=>m.j==i) then some X else none
def CJ(Z:bh)(t:TypeId):Bool:=(Z.ty t).isSome&& !oO t
def ajY(Z:bh):List Oper->Bool
 |[]=>true
 |o::r=>(match o.op with
  |.alloc t=>CJ Z t
  |_=>true)&&ajY Z r
def ab3(s:S)(Z:List Nat):List Nat:=Z.filter λd=>match s.tmps[d]? with
 |some w=> !(w.bd s.ni s.nb s.rs.length (aD s.boxes))
 |none=>true
def S.we(s:S)(Z:Array Oper)(X:List OM):S:={s.room (jU Z.toList) with tmps:=oW (ab3 s (Am (X.dropLast.map (·.o)))) 0 s.tmps}
def M7(Z:S->T)(k:XE->S->T):XE->S->T
 |.normal,s=>Z s
 |e,s=>k e s
def Ua(id:Nat)(k:XE->S->T):XE->S->T
 |.exit j,s=>if j==id then k .normal s else k (.exit j) s
 |e,s=>k e s
def Fh(X:bh)(s:S)(W:List ResultVar)(k V:SV->S->T):XE->S->T
 |.normal,Z=>match pO X Z W with
  |some l=>k (one l) {Z with tmps:=s.tmps}
  |none=>.stuck ""
 |.ret,Z=>match pO X Z W with
  |some l=>k (one l) {Z with tmps:=s.tmps}
  |none=>.stuck ""
 |.aW v,Z=>V v {Z with tmps:=s.tmps}
 |.exit _,_=>.stuck ""
def gU(X:bh)(V:FuncId->Code->S->(XE->S->T)->T)(U:YH):oR
 |.fn f,Z,s,k,W=>match X.inl f with
  |some (c,R,Q)=>if s.da Z then V f c {s with tmps:=Z++axW (R-Z.length) (.bm [])} (Fh X s Q k W) else .stuck ""
  |none=>wa X f Z s k
 |.yl n,Z,s,k,W=>U n Z s k W
def amC:T:=.ey (.c false) (.c false) (.stuck "") (.stuck "")
def Ub:T->Bool
 |.ey (.c false) (.c false) _ _=>true
 |_=>false
mutual
def SV.wh:SV->Bool
 |.agg l=>SV.sC l
 |.bm l=>SV.sC l
 |.fn _ l=>SV.sC l
 |.dV _ x=>SV.wh x
 |.yl _=>false
 |.dI _ _ Z=>SV.sC Z
 |_=>true
def SV.sC:List SV->Bool
 |[]=>true
 |x::Z=>SV.wh x&&SV.sC Z
end
def An:aY->Bool
 |[]=>true
 |none::Z=>An Z
 |some x::Z=>SV.sC x.2&&An Z
def jW:aY->aY->Bool
 |[],[]=>true
 |none::Z,none::X=>jW Z X
 |some x::Z,some y::X=>x.1==y.1&&SV.aab x.2 y.2&&jW Z X
 |_,_=>false
def kE(X:List SV)(Z:aY):aY:=if X.isEmpty then Z.map (λ_=>none) else Z
def pT(Z:List SV)(s:S):S:=⟨[],kE Z s.boxes,s.ni,s.nb,s.rs.map RK.rd,0,0,[]⟩
def ab4(X W Z:S):Bool:=jW Z.boxes W.boxes&&Z.ni==X.ni&&Z.nb==X.nb&&decide (Z.rs=X.rs)
def Fi(W:bh)(V:FuncId->Code->S->(XE->S->T)->T)(g:FuncId)(X:List SV)(s:S):Option (SV×aY):=
 match gU W V fT (.fn g) X (pT X s) (λv Z=>.out .normal {Z with tmps:=[v]}) (λ_ _=>.stuck "") with
 |.out .normal Z=>match Z.tmps with
  |[v]=>if SV.sC X&&An (kE X s.boxes)&&v.wh&&An Z.boxes&&jW (Z.boxes.take s.boxes.length) (kE X s.boxes)&&v.bd s.ni s.nb s.rs.length (aD Z.boxes)&&SV.m5 s.ni s.nb s.rs.length (aD Z.boxes) Z.boxes&&Ub (gU W V fT (.fn g) X (pT X s) (λU R=>if U.same v&&ab4 (pT X s) Z R then amC else .stuck "") (λ_ _=>.stuck "")) then some (v,Z.boxes.drop s.boxes.length) else none
  |_=>none
 |_=>none
def Ao(Z:bh)(X:Array Oper)(W:FuncId->Code->S->(XE->S->T)->T):sy:=λg V s=>if M5 X&&(Z.inl g).isSome then Fi Z W g V s else none
def Uc:Op->Bool
 |.pick _ _ _=>true
 |_=>false
def ab5:Op->Bool
 |.buildSlice _ _ _=>true
 |_=>false
def Jj:Op->Bool
 |.buildSlice _ _ _|.alloc _|.box _ _|.store _ _ _=>true
 |_=>false
def wi(Z:bh)(s:S)(o:Oper):Option (BE×SV):=
 if(o.op.operands.toList.any λx=>(s.ev Z.gl x).cR)||Uc o.op then none else match bz Z.ty Z.gl s o.op with
 |.ok v=>some (.c true,v)
 |.az b v=>if b.bd s.ni s.nb s.rs.length then some (b,v) else none
 |.no _=>none
def BE.Ud:BE->Bool
 |.c b=>b
 |_=>false
def Ap(Z:bh):List OM->S->Option (S×List BE)
 |[],s=>some (s,[])
 |q::r,s=>match wi Z s q.o with
  |some (b,v)=>(Ap Z r (s.put q.o.dst v)).map λx=>(x.1,if b.Ud then x.2 else b::x.2)
  |none=>none
def Ue(Z:bh)(jy:List BE)(s:S)(X:List OM):Bool:=X.all λq=>match q.o.dst,wi Z s q.o with
 |some d,some (b,v)=>(match s.tmps[d]? with
  |some w=>v.same w&&(b.Ud||jy.any λx=>x.same b)
  |none=>false)
 |_,_=>false
def M8:List BE->T->T
 |[],t=>t
 |b::r,t=>.az b (M8 r t)
def S.bI(s:S)(Z:List Nat):S:={s with tmps:=oW Z 0 s.tmps}
def Fj{Z:Type}:List Z->List (Z×List Z)
 |[]=>[]
 |x::r=>(x,r)::(Fj r).map λy=>(y.1,x::y.2)
def Uf(Z:List Nat)(x:OM×List OM):Bool:=x.2.all λy=> !(Z.getD x.1.j 0).testBit y.j
def Fk:List (List SV)->List (List SV)->Bool
 |[],[]=>true
 |x::Z,y::X=>SV.aab x y&&Fk Z X
 |_,_=>false
def LE.same:LE->LE->Bool
 |.ref r,.ref U=>r.same U
 |.lit l,.lit R=>Fk l R
 |.jr a b,.jr Z Q=>LE.same a Z&&LE.same b Q
 |.mW n P,.mW X O=>n.same X&&SV.aab P O
 |.set a i N W,.set Z M L V=>LE.same a Z&&i.same M&&N==L&&SV.aab W V
 |.sub a J I,.sub Z H G=>LE.same a Z&&J.same H&&I.same G
 |.ins a n W,.ins Z X V=>LE.same a Z&&n==X&&SV.aab W V
 |_,_=>false
def S.same(s Z:S):Bool:=SV.aab s.tmps Z.tmps&&jW s.boxes Z.boxes&&s.ni==Z.ni&&s.nb==Z.nb&&decide (s.rs=Z.rs)&&s.av==Z.av&&s.lk==Z.lk&&decide (s.pd=Z.pd)
def T.same:T->T->Bool
 |.ret v R X,.ret Q P W=>v.same Q&&jW R P&&decide (X=W)
 |.aW v,.aW Q=>v.same Q
 |.node b t f,.node O Z V=>b.same O&&T.same t Z&&T.same f V
 |.az b t,.az O Z=>b.same O&&T.same t Z
 |.call f H R X N eP t,.call V G P W M F Z=>f==V&&SV.aab H G&&jW R P&&decide (X=W)&&decide (N=M)&&eP.same F&&T.same t Z
 |.loop av N E t,.loop L M D Z=>av==L&&decide (N=M)&&SV.aab E D&&T.same t Z
 |.back av x,.back L U=>av==L&&SV.aab x U
 |.new e x X C t,.new B U W A Z=>e==B&&LE.same x U&&decide (X=W)&&decide (C=A)&&T.same t Z
 |.rows k x X t,.rows z U W Z=>decide (k=z)&&LE.same x U&&decide (X=W)&&T.same t Z
 |.ey g h t f,.ey J I Z V=>g.same J&&h.same I&&T.same t Z&&T.same f V
 |.pick n g h t f,.pick y J I Z V=>n.same y&&g.same J&&h.same I&&T.same t Z&&T.same f V
 |.out .normal s,.out .normal w=>S.same s w
 |_,_=>false
def CL:List T->List T
 |[]=>[]
 |t::Z=>if Z.any (T.same t) then CL Z else t::CL Z
def ym:List T->T
 |[]=>.stuck ""
 |[t]=>t
 |t::Z=>.ey (.c true) (.c true) t (ym Z)
def Fl:Op->Bool
 |.call c=>match c.callee with
  |.builtin .append=>true
  |_=>false
 |.makeSlice _ _ _|.buildSlice _ _ _|.slice _ _ _ _ _|.store _ _ _=>true
 |_=>false
def Aq(X:bh)(V:oR)(U:List Nat)(R:SV->S->T)(m:OM)(W:S->T)(s:S):T:=match db X s m.o with
  |.call (.fn g) Q=>V (.fn g) Q s (λv Z=>W (Z.put m.o.dst v)) (λv Z=>R v (Z.bI U))
  |.op=>match(if Fl m.o.op then cP X m.o m.bc false s else none) with
   |some b=>.az b.az (.new b.e b.x s.rs b.s.rs (W b.s))
   |none=>if ke m.o.op then(match wi X s m.o with
    |some (b,v)=>.az b (W (s.put m.o.dst v))
    |none=>.stuck "") else
   if Jj m.o.op then(match dR X m s with
    |.ok Z=>W Z
    |_=>.stuck "") else .stuck ""
  |_=>.stuck ""
def Fm(Z:List Nat)(m:OM)(X:List OM):List OM:=X.filter λq=> !(Z.getD m.j 0).testBit q.j
def lJ(Z:bh)(V:oR)(X:List Nat)(jy:List BE)(W:List OM)(U:List Nat)(k:S->T)(R:SV->S->T):Nat->List OM->S->T
 |_,[],s=>if Ue Z jy s W then k s else .stuck ""
 |0,_::_,_=>.stuck ""
 |n+1,m::r,s=>if !Ue Z jy s W then .stuck "" else ym (CL (((Fj (m::r)).filter (Uf X)).map λx=>Aq Z V U R x.1 (λQ=>lJ Z V X jy (Fm X x.1 W) U k R n x.2 Q) s))
def T.lK(k:S->T)(Z:SV->S->T):T->T
 |.out .normal s=>k s
 |.out (.aW v) s=>Z v s
 |.node b t f=>.node b (t.lK k Z) (f.lK k Z)
 |.az b t=>.az b (t.lK k Z)
 |.call f a W X V eP t=>.call f a W X V eP (t.lK k Z)
 |.new e x X U t=>.new e x X U (t.lK k Z)
 |.ey g h t f=>.ey g h (t.lK k Z) (f.lK k Z)
 |t=>t
def M9(Z:bh):oR
 |.fn g,X,s,k,_=>if(Z.inl g).isNone then wa Z g X s k else .stuck ""
 |_,_,_,_,_=>.stuck ""
def amD:Op->Bool
 |.slice _ _ _ _ _=>true
 |_=>false
def amE:Op->Bool
 |.indexAddr .. =>true
 |_=>false
def amF:Op->Bool
 |.store _ _ _=>true
 |_=>false
def Na(X:Bool)(Z:Array Oper):List Nat:=(ax6 Z.size).foldl (λacc i=>match Z[i]? with
 |some o=>if ke o.op&&(X|| !amD o.op)&& !(amE o.op&&(ax6 i).any λj=>match Z[j]? with
   |some x=>amF x.op
   |none=>false)&&((ax6 Z.size).all λj=>match(Z[j]?).bind (·.dst) with
   |some d=> !(gE Z o).contains d||acc.contains j
   |none=>true) then acc++[i] else acc
 |none=>acc) []
structure Jk where
 qs:List OM
 ch:List OM
 s:S
 jy:List BE
def Ug(Z:bh)(s:S)(X:List Oper):Bool:=X.any λo=>match o.op with
 |.call c=>(match c.callee with
  |.value (.func g)=>(Z.inl g).isSome
  |.value (.tmp t)=>(Am X).contains t||(match s.tmps[t]? with
   |some (.fn g _)=>(Z.inl g).isSome
   |_=>false)
  |_=>false)
 |_=>false
def Uh(Z:Array Oper)(U:List Nat)(X W V:List OM):Bool:=
 M6 Z.toList U&&X.all (λm=>m.o.guard.isNone&& !m.bc)&&jV (X.filterMap (·.o.dst))&&
 X.all (λm=>X.all λx=>match x.o.dst with
  |some d=> !(gE Z m.o).contains d||(U.getD m.j 0).testBit x.j
  |none=>true)&&W.all (λq=>ke q.o.op&&q.o.dst.isSome)&&(ax6 Z.size).all (λi=>(W++V).any λm=>m.j==i)&&(W++V).length==Z.size&&jV ((W++V).map (·.j))&&
 V.all (λm=>ke m.o.op||Jj m.o.op||Fl m.o.op||(match m.o.op with
  |.call _=>true
  |_=>false))
def yo(X:Bool)(Z:Array Oper)(n:Nat):List OM:=(ez (λ_=>false) false true 0 n Z.toList).filter λm=>(Na X Z).contains m.j
def yp(X:Bool)(Z:Array Oper)(n:Nat):List OM:=(ez (λ_=>false) false true 0 n Z.toList).filter λm=> !(Na X Z).contains m.j
def Fo(X:Bool)(Z:Array Oper)(n:Nat):Bool:=Uh Z (lI Z.toList) (ez (λ_=>false) false true 0 n Z.toList) (yo X Z n) (yp X Z n)
def amG:CK->Bool
 |.call (.yl _) _=>true
 |_=>false
def Ui(X:bh)(W Z:List OM)(x:S×List BE):Option Jk:=if Z.any λm=>amG (db X x.1 m.o) then none else some ⟨W,Z,x.1,x.2⟩
def Fp(W:bh)(X:Bool)(Z:Array Oper)(s:S):Option Jk:=
 if(!X||(Ug W s Z.toList||(W.ml&&Z.toList.any λo=>ab5 o.op))&&wc (lI Z.toList) (yp X Z s.boxes.length))&&Fo X Z s.boxes.length then(Ap W (yo X Z s.boxes.length) (s.room (jU Z.toList))).bind (Ui W (yo X Z s.boxes.length) (yp X Z s.boxes.length)) else none
def ab6(Z:dA)(s X:S):String:= ""
def Nb(X:dA)(W:List Nat)(s:S)(k:XE->S->T):XE->S->T
 |.normal,Z=>if uk X W 0 s.tmps Z.tmps&&oU X 0 s.boxes Z.boxes&&oV Z X.ks (gT X Z)&&uj (fH X s) Z.rs&&CE (fH X s) (CD X Z)&&decide (Z.pd=s.pd) then .back s.av (gT X Z) else .stuck (ab6 X s Z)
 |e,Z=>k e Z
mutual
def SV.sD(n:Nat):SV->Bool
 |.agg l=>SV.m7 n l
 |.bm l=>SV.m7 n l
 |.fn _ l=>SV.m7 n l
 |.dV _ x=>SV.sD n x
 |.yl m=>m==n
 |.dI _ _ Z=>SV.m7 n Z
 |_=>false
def SV.m7(n:Nat):List SV->Bool
 |[]=>false
 |x::Z=>SV.sD n x||SV.m7 n Z
end
def sF(n:Nat):aY->Bool
 |[]=>false
 |none::Z=>sF n Z
 |some x::Z=>SV.m7 n x.2||sF n Z
def S.sD(s:S)(n:Nat):Bool:=SV.m7 n s.tmps||sF n s.boxes
def CM:List Nat->List SV->List SV->List SV
 |p::Z,v::X,l=>CM Z X (l.set p v)
 |_,_,l=>l
def S.yq(s Z:S):S:={Z with tmps:=s.tmps,pd:=Z.pd.take s.pd.length}
def CN(s:S)(k:XE->S->T):XE->S->T
 |.aW v,Z=>if v.sD s.pd.length||sF s.pd.length Z.boxes then .stuck "" else k (.aW v) (s.yq Z)
 |.exit _,_=>.stuck ""
 |_,Z=>if sF s.pd.length Z.boxes then .stuck "" else match Z.pd[s.pd.length]? with
  |some .ready=>k .normal (s.yq Z)
  |some (.done .ret)=>k .ret (s.yq Z)
  |some (.done (.exit id))=>k (.exit id) (s.yq Z)
  |_=>.stuck ""
def gF:Code->Bool
 |.seq a b=>gF a||gF b
 |.cond _ a b=>gF a||gF b
 |.block _ c=>gF c
 |.loop c=>gF c
 |.scope c=>gF c
 |.rangeFunc _ _ _ _=>true
 |_=>false
def Nc(n:Nat)(X:S)(k W:SV->S->T):XE->S->T
 |.normal,Z=>k (.bool (.c true)) {Z with tmps:=X.tmps,pd:=Z.pd.set n .ready}
 |.ret,Z=>k (.bool (.c false)) {Z with tmps:=X.tmps,pd:=Z.pd.set n (.done .ret)}
 |.exit id,Z=>k (.bool (.c false)) {Z with tmps:=X.tmps,pd:=Z.pd.set n (.done (.exit id))}
 |.aW v,Z=>W v {Z with tmps:=X.tmps}
def Jl(n:Nat)(k:S->T):XE->S->T
 |.normal,Z=>if decide (Z.pd[n]?=some .ready) then k Z else .stuck ""
 |_,_=>.stuck ""
def Fq(s:S)(X:Nat)(Z:List SV):S:={s with tmps:=(.yl s.pd.length::Z)++axW (X-(SV.yl s.pd.length::Z).length) (.bm []),pd:=s.pd++[.ready]}
def Jm(n W:Nat)(V:List SV->S->(SV->S->T)->(SV->S->T)->T):YH:=λm X Z U R=>
 if m==n&&decide (Z.pd.length=n+1)&&decide (Z.pd[n]?=some .ready)&&X.length==W&&Z.da X then V X Z U R else .stuck ""
def yr(Z s:S)(X:List Nat)(W:List SV):S:={Z with tmps:=CM X W s.tmps}
def S.CO(s:S)(n:Nat)(x:kV):S:={s with pd:=s.pd.set n x}
def ab7(Z:dA)(X:List Nat)(s:S):String:= ""
def dA.at(a:dA)(s:S):dA:=⟨a.tm,a.cl.filterMap λx=>match bF s.boxes (x.1%1000) with
 |some (t,Z)=>(match Z[x.2.1]? with
  |some v=>if yi s x.2.2 v&&(!oO t||(match x.2.2 with
   |.ref _=>true
   |_=>false))&&(x.1/1000==0||decide (s.boxes.length<=x.1/1000)) then some (x.1%1000,x.2) else none
  |none=>none)
 |none=>none⟩
def ab8:List SV->Option (IE×List Int)
 |[]=>none
 |.dI e Z _::_=>some (e,Z)
 |_::r=>ab8 r
def Nd:aY->Option (IE×List Int)
 |[]=>none
 |some x::r=>match ab8 x.2 with
  |some y=>some y
  |none=>Nd r
 |none::r=>Nd r
def CP(k:Int):List Int->List SV->Option SV
 |Z::X,.fn f l::W=>if k=Z then some (.fn f l) else CP k X W
 |Z::X,.ref (.k .nilFunc)::W=>if k=Z then some (.ref (.k .nilFunc)) else CP k X W
 |_,_=>none
def Jn(e:IE)(k:Int):Nat->BE->BE
 |0,b=>b
 |n+1,.bT (.cmp .eql Z (.c X)) x y=>if IE.same e Z then(if k=X then Jn e k n x else Jn e k n y) else .bT (.cmp .eql Z (.c X)) x y
 |_,b=>b
def Jo(e:IE)(k:Int):Nat->IE->IE
 |0,b=>b
 |n+1,.bT (.cmp .eql Z (.c X)) x y=>if IE.same e Z then(if k=X then Jo e k n x else Jo e k n y) else .bT (.cmp .eql Z (.c X)) x y
 |_,b=>b
def Uj(e:IE)(k:Int):SV->SV
 |.bool b=>.bool (Jn e k 20 b)
 |.int t b=>.int t (Jo e k 20 b)
 |.dI Z X W=>if IE.same e Z then(match CP k X W with
  |some v=>v
  |none=>.dI Z X W) else .dI Z X W
 |v=>v
def Nf(e:IE)(W:List Int):SV->SV
 |.dI Z X V=>if IE.same e Z&&X.all W.contains then .ref (.k .nilFunc) else .dI Z X V
 |v=>v
def CQ(f:SV->SV)(l:aY):aY:=l.map λx=>match x with
 |some y=>some (y.1,y.2.map f)
 |none=>none
def S.fix(f:SV->SV)(s:S):S:={s with boxes:=CQ f s.boxes}
def Fs(e:IE)(ey:Int->S)(aq:T)(g:S->T):List Int->T
 |[]=>aq
 |k::Z=>.node (.cmp .eql e (.c k)) (g (ey k)) (Fs e ey aq g Z)
def Ng(X:bh)(W id:Nat)(s:S):Option (IE×List Int×(Int->S)×Option S):=match X.frk W id with
 |some .box=>match Nd s.boxes with
  |some (e,Z)=>some (e,Z,λk=>s.fix (Uj e k),match Nd (CQ (Nf e Z) s.boxes) with
   |none=>some (s.fix (Nf e Z))
   |some _=>none)
  |none=>none
 |some (.slot t V)=>match TO s.tmps t with
  |.int _ (.c _)=>none
  |.int k e=>some (e,V,λv=>{s with tmps:=s.tmps.set t (.int k (.c v))},none)
  |_=>none
 |none=>none
def Uk(g:S->T):Option S->T
 |some s=>g s
 |none=>.stuck ""
def Jp(X:bh)(W:oR)(Z:Array Oper)(k:XE->S->T)(c:Jk):T:=M8 c.jy (if wc (lI Z.toList) c.ch||Ug X c.s Z.toList then lJ X W (lI Z.toList) c.jy c.qs (Am Z.toList) (k .normal) (λv=>k (.aW v)) c.ch.length c.ch c.s
 else(lJ X (M9 X) (lI Z.toList) c.jy c.qs (Am Z.toList) (.out .normal) (λv=>.out (.aW v)) c.ch.length c.ch c.s).lK (k .normal) λv=>k (.aW v))
def dJ(Z:bh):Nat->FuncId->Code->S->YH->(XE->S->T)->T
 |0,_,_,_,_,_=>.stuck ""
 |n+1,W,c,s,X,k=>
  match c with
  |.skip=>k .normal s
  |.label _=>k .normal s
  |.ret=>k .ret s
  |.exit id=>k (.exit id) s
  |.seq a b=>dJ Z n W a s X (M7 (λR=>dJ Z n W b R X k) k)
  |.block id a=>dJ Z n W a s X (Ua id k)
  |.scope a=>dJ Z n W a s X k
  |.cond c a b=>match s.ev Z.gl c with
   |.bool (.c true)=>dJ Z n W a s X k
   |.bool (.c false)=>dJ Z n W b s X k
   |.bool x=>match c with
    |.tmp t=>.node x (dJ Z n W a {s with tmps:=s.tmps.set t (.bool (.c true))} X k) (dJ Z n W b {s with tmps:=s.tmps.set t (.bool (.c false))} X k)
    |_=>.stuck ""
   |_=>.stuck ""
  |.region id V Q=>match Ng Z W id s with
   |some (e,L,ey,aq)=>Fs e ey (Uk (λR=>dJ Z n W (.region id V Q) R X k) aq) (λR=>dJ Z n W (.region id V Q) R X k) L
   |none=>if Q then
    match Fp Z (!Z.TZ W id) V s with
    |some c=>Jp Z (gU Z (λf c s k=>dJ Z n f c s X k) X) V k c
    |none=>match Ff V s.boxes.length with
    |some O=>if !ajY Z V.toList then .stuck "" else kD Z (uo Z (Ao Z V λf c s k=>dJ Z n f c s fT k) X) V (k .normal) (λv=>k (.aW v)) O (s.we V O) []
    |none=>match Fp Z false V s with
     |some c=>Jp Z (gU Z (λf c s k=>dJ Z n f c s X k) X) V k c
     |none=>.stuck ""
   else
   kD Z (gU Z (λf c s k=>dJ Z n f c s X k) X) V (k .normal) (λv=>k (.aW v)) (ez (λ_=>false) true false 0 s.boxes.length V.toList) (s.room (jU V.toList)) []
  |.loop a=>match(Code.first a).map (Z.loop W) with
   |some (.inv U)=>
    if !s.bd|| !oV s (U.at s).ks (gT (U.at s) s)|| !uk (U.at s) (Code.kW a) 0 s.tmps s.tmps|| !oU (U.at s) 0 s.boxes s.boxes|| !uj (fH (U.at s) s) s.rs|| !CE (fH (U.at s) s) (CD (U.at s) s) then .stuck (ab7 (U.at s) (Code.kW a) s) else
    .loop s.av (U.at s).ks (gT (U.at s) s) (dJ Z n W a (m6 (U.at s) (Code.kW a) s) X (Nb (U.at s) (Code.kW a) s k))
   |_=>dJ Z n W a s X (M7 (λR=>dJ Z n W (.loop a) R X k) k)
  |.rangeFunc f N assign body=>match s.ev Z.gl f with
   |.fn g P=>match Z.inl g with
    |some (c,J,[])=>
     if !s.da P||s.sD s.pd.length||SV.m7 s.pd.length P||gF assign||gF body then .stuck "" else
     dJ Z n g c (Fq s J P)
      (Jm s.pd.length N.size λI M H G=>
       dJ Z n W assign (yr M s N.toList I) fT (Jl s.pd.length λF=>
        dJ Z n W body (F.CO s.pd.length .busy) fT (Nc s.pd.length M H G))) (CN s k)
    |_=>.stuck ""
   |_=>.stuck ""
  |_=>.stuck ""
def Ft{Z:Type}(f:SV->List RK->(SV->List RK->Z)->Z):List SV->List RK->(List SV->List RK->Z)->Z
 |[],X,k=>k [] X
 |x::W,X,k=>f x X λV U=>Ft f W U λR Q=>k (V::R) Q
def S.cm(Z:List RK):S:=⟨[],[],0,0,Z,0,0,[]⟩
def Fu(V:bh)(R:aY):Nat->SV->List RK->(SV->List RK->T)->T
 |0,_,_,_=>.stuck ""
 |n+1,.fy i P U O,Z,k=>match i6 R i with
  |some (e,N)=>match V.ty e with
   |some W=>Ft (Fu V R n) N Z λQ X=>if kb V.ty (.cm X) W.ab (gc W.ab.length U Q)&&Q.length==U*W.ab.length&&P==0&&decide (U<=O)&&W.ab.length !=0 then .new e (.lit (gc W.ab.length U Q)) X (X++[.sl e]) (k (.ref (.v X.length)) (X++[.sl e])) else .stuck ""
   |none=>.stuck ""
  |none=>.stuck ""
 |n+1,.agg l,Z,k=>Ft (Fu V R n) l Z λM X=>k (.agg M) X
 |_+1,.int q e,Z,k=>k (.int q e) Z
 |_+1,.bool e,Z,k=>k (.bool e) Z
 |_+1,.ref r,Z,k=>k (.ref r) Z
 |_+1,_,_,_=>.stuck ""
mutual
def SV.amH:SV->Bool
 |.fy _ _ _ _=>true
 |.agg l=>SV.Ul l
 |_=>false
def SV.Ul:List SV->Bool
 |[]=>false
 |x::Z=>SV.amH x||SV.Ul Z
end
def Jq(W:bh)(X:Nat)(l:List SV)(Z:S):T:=if X==0&&SV.Ul l&&Z.bd&&SV.cq Z.ni Z.nb Z.rs.length (aD Z.boxes) l then Ft (Fu W Z.boxes 9) l (Z.rs.map RK.rd) λV U=>.ret (one V) [] U else .ret (one l) (qO (Z.boxes.take X)) (Z.rs.map RK.rd)
def Nh(X:bh)(W:Nat)(V:List ResultVar):XE->S->T
 |.normal,Z=>match pO X Z V with
  |some l=>Jq X W l Z
  |none=>.stuck ""
 |.ret,Z=>match pO X Z V with
  |some l=>Jq X W l Z
  |none=>.stuck ""
 |.aW v,_=>.aW v
 |.exit _,_=>.stuck ""
def Jr(Z:bh)(n:Nat)(W:FuncId)(c:Code)(V:Nat)(U:List ResultVar)(X:List SV)(s:S):T:=
 dJ Z n W c {s with tmps:=X++axW (V-X.length) (.bm [])} fT (Nh Z s.boxes.length U)
structure DI where
 oX:Array Oper
 rest:Code
 g:FuncId
 te:Nat
 tf:Nat
def ab9(oX:Array Oper)(U:Code):List Oper->Option DI
 |[Z,X]=>match Z.op,Z.dst,Z.guard,X.op,X.guard,X.dst with
  |.makeFunc (.func g) first R,some W,none,.defer V,none,none=>match first.toList,R.toList,V.callee,V.args.toList with
   |[],[.tmp Q],.value (.tmp P),[]=>if W==P then some ⟨oX,U,g,Q,W⟩ else none
   |_,_,_,_=>none
  |_,_,_,_,_,_=>none
 |_=>none
def qR:Code->Option DI
 |.seq (.region _ oX false) (.seq (.region _ Z false) X)=>ab9 oX X Z.toList
 |_=>none
def Fv(X:bh)(W:Nat)(V:List ResultVar)(Z:S):T:=match pO X Z V with
 |some l=>.ret (one l) (qO (Z.boxes.take W)) (Z.rs.map RK.rd)
 |none=>.stuck ""
def Um(X:bh)(W:Nat)(V:TypeId)(R:Nat)(U:List ResultVar):XE->S->T
 |.normal,Z=>Fv X W U Z
 |.ret,Z=>Fv X W U Z
 |.aW v,Z=>match v with
  |.dV t (.int .i64 x)=>match bF Z.boxes R with
   |some (Q,[.int .i64 _])=>if t==V&&Q==V then Fv X W U {Z with boxes:=Z.boxes.set R (some (V,[.int .i64 x]))} else .stuck ""
   |_=>.stuck ""
  |_=>.stuck ""
 |.exit _,_=>.stuck ""
def Un(X:bh)(n:Nat)(V:FuncId)(d:DI)(W:TypeId)(U:Nat)(R:List ResultVar)(Z:S):T:=match Z.tmps[d.te]? with
 |some (.loc i 0)=>if !oO W&&aD Z.boxes i&&decide (d.tf<Z.tmps.length) then dJ X n V d.rest (Z.put (some d.tf) (.fn d.g [.loc i 0])) fT (Um X U W i R) else .stuck ""
 |_=>.stuck ""
def Js(Z:bh)(n:Nat)(W:FuncId)(c:Code)(V:Nat)(U:List ResultVar)(R:TypeId)(X:List SV)(s:S):T:=match qR c with
 |some d=>kD Z (gU Z (λf c s k=>dJ Z n f c s fT k) fT) d.oX (Un Z n W d R s.boxes.length U) (λ_ _=>.stuck "") (ez (λ_=>false) true false 0 s.boxes.length d.oX.toList) (({s with tmps:=X++axW (V-X.length) (SV.bm [])}:S).room (jU d.oX.toList)) []
 |none=>.stuck ""
end
end Go.Proofs.YtieaiocljdpebaaGreatDoor.Y
namespace Go.Proofs.YtieaiocljdpebaaGreatDoor
open Go.RowKit
variable{U l:List Nat}{Q x:World}
structure dM(S:List Nat)(w w':World):Prop where
 os:w'.os=w.os
 tape:w'.tape=w.tape
 output:w'.output=w.output
 size:w.heap.size<=w'.heap.size
 block:∀k,k<w.heap.size->k∉S->w'.heap[k]?=w.heap[k]?
def dM.refl(S:List Nat)(w:World):dM S w w:=⟨rfl,rfl,rfl,axQ _,λ_ _ _=>rfl⟩
def dM.trans{S:List Nat}{a b c:World}(h:dM S a b)(k:dM S b c):dM S a c:=
 ⟨k.os.trans h.os,k.tape.trans h.tape,k.output.trans h.output,ayt h.size k.size,λi Z X=>(k.block i (azI Z h.size) X).trans (h.block i Z X)⟩
def dM.mono(h:dM U Q x)(X:∀Z,Z∈U->Z∈l):dM l Q x:=
 ⟨h.os,h.tape,h.output,h.size,λi W V=>h.block i W (λm=>V (X i m))⟩
def dM.alloc(h:dM U Q x)(o:Obj):dM U Q (x.alloc o):=
 h.trans ⟨rfl,rfl,rfl,by simp,λk Z _=>Below.heap_alloc _ _ _ Z⟩
def dM.drew(h:dM U Q x):dM U Q x.drew:=⟨h.os,h.tape,h.output,h.size,h.block⟩
def dM.drewN(h:dM U Q x)(n:Nat):dM U Q (x.drewN n):=⟨h.os,h.tape,h.output,h.size,h.block⟩
def dM.setCell{S:List Nat}{a w:World}(h:dM S a w){p:Addr}(Z:p.block∈S)(u:Value):dM S a (w.setCell p u):=
 h.trans ⟨rfl,rfl,rfl,by simp[World.setCell],λk _ X=>Below.heap_setCell _ _ _ _ (λe=>X (e▸Z))⟩
def dM.putObj{S:List Nat}{a w:World}(h:dM S a w){r:Nat}(Z:r∈S)(o:Obj):dM S a (w.putObj r o):=
 h.trans ⟨rfl,rfl,rfl,by simp[World.putObj],λk _ X=>World.putObj_heap_other (λe=>X (e▸Z))⟩
def dM.amI(h:Below Q.heap.size Q x):dM U Q x:=⟨h.os,h.tape,h.output,h.size,λk Z _=>h.block k Z⟩
def dM.call{Z:World}(h:dM U Q x)(k:Below x.heap.size x Z):dM U Q Z:=h.trans (dM.amI k)
def dM.grown{X:World}{W:Option Nat}(h:dM U Q x)(Z:x.grownBy X W)(O:∀k,W=some k->k∈U\/Q.heap.size<=k):dM U Q X:=
 ⟨Z.os.trans h.os,Z.tape.trans h.tape,Z.output.trans h.output,ayt h.size Z.size,λk V R=>(Z.block k (azI V h.size) (λe=>by rcases O k e.symm with P|P;exact R P;omega)).trans (h.block k V R)⟩
def dM.heap{S:List Nat}{w W:World}(h:dM S w W){b:Nat}{o:Obj}(Z:w.heap[b]?=some o)(V:b∉S):W.heap[b]?=some o:=by
 have X:b<w.heap.size:=by
  by_cases X:b<w.heap.size;exact X;rw[aAQ (by omega)] at Z;cases Z
 exact(h.block b X V).trans Z
end Go.Proofs.YtieaiocljdpebaaGreatDoor
namespace Go.Proofs.YtieaiocljdpebaaGreatDoor.Y
open Go.RowKit
noncomputable section
variable{y:Bool}
inductive RV where
 |mk (val:Value) (rows:List (List RV))
def RV.val:RV->Value
 |.mk v _=>v
def RV.rows:RV->List (List RV)
 |.mk _ r=>r
@[simp] def RV.kf (v:Value) (r:List (List RV)):(RV.mk v r).val=v:=rfl
@[simp] def RV.jz (v:Value) (r:List (List RV)):(RV.mk v r).rows=r:=rfl
instance:Inhabited RV:=⟨.mk (.pointer none) []⟩
structure aa where
 i:List Int
 b:List Bool
 r:List RV
 y:List Nat
def aa.at(O:aa)(y:List Nat):aa:={O with y:=y}
def aa.rv(O:aa)(k:Nat):RV:=O.r.getD k default
def bg:Value->Int
 |.int _ n=>n
 |_=>0
def gV:Value->Bool
 |.bool b=>b
 |_=>false
def lenOf:Value->Int
 |.slice _ n _=>n
 |.string s=>s.size
 |_=>0
def Ar(v:Value)(i:Int):Int:=match v with
 |.string s=>match s[i.toNat]? with
  |some b=>b.toNat
  |none=>0
 |_=>0
def nV:Value->Value->Bool
 |.string a,.string b=>a.toList==b.toList
 |_,_=>false
def i8(n:Nat)(Z:List Int)(X:List RV):Bool:=decide ((X.take n).map (λc=>bg c.val)=Z.take n)
def jA(n:Nat)(Z:List Int)(X:List (List RV)):Option (List RV):=X.find? (i8 n Z)
def eK(n:Nat)(Z:List RV):List (List RV)->List (List RV)
 |[]=>[Z]
 |r::X=>if i8 n ((Z.take n).map λc=>bg c.val) r then Z::X else r::eK n Z X
def gW(x:Int):List Int->List Value->Value
 |k::Z,v::X=>if x=k then(if fG v then v else .nilFunc) else gW x Z X
 |_,_=>.nilFunc
def cellAt(Z:List (List RV))(i:Int)(j:Nat):RV:=(Z.getD i.toNat []).getD j default
def cd:RK->RV->RV
 |.sl _,v|.own _,v=>match v.val with
  |.slice _ _ _=>v
  |_=>.mk (.slice none 0 0) []
 |.str,v=>match v.val with
  |.string s=>.mk (.string s) []
  |_=>.mk (.string ⟨#[]⟩) []
 |.aq,v=>if fG v.val then .mk v.val [] else .mk (.pointer none) []
 |.dead,v=>if fG v.val then v else .mk (.pointer none) []
 |.mr _,v=>match v.val with
  |.slice _ _ _=>v
  |_=>.mk (.slice none 0 0) []
mutual
def IE.den(O:aa):IE->Int
 |.c n=>n
 |.v k=>O.i.getD k 0
 |.bin Z k a b=>aR Z k (a.den O) (b.den O)
 |.conv k a=>k.wrap (a.den O)
 |.len r=>lenOf (r.rv O).val
 |.mm X a b=>if X then max (a.den O) (b.den O) else min (a.den O) (b.den O)
 |.bT b x y=>if b.den O then x.den O else y.den O
 |.cell r i j=>bg (cellAt (r.rv O).rows (i.den O) j).val
 |.jS r i=>Ar (r.rv O).val (i.den O)
 |.look r n a b c j=>match jA n [a.den O,b.den O,c.den O] (r.rv O).rows with
  |some W=>bg (W.getD j default).val
  |none=>0
def BE.den(O:aa):BE->Bool
 |.c b=>b
 |.v k=>O.b.getD k false
 |.cmp Z a b=>eG Z (a.den O) (b.den O)
 |.not a=> !(a.den O)
 |.and a b=>a.den O&&b.den O
 |.beq a b=>a.den O==b.den O
 |.bT b x y=>if b.den O then x.den O else y.den O
 |.cell r i j=>gV (cellAt (r.rv O).rows (i.den O) j).val
 |.seq a b=>nV (a.rv O).val (b.rv O).val
 |.look r n a b c j=>match jA n [a.den O,b.den O,c.den O] (r.rv O).rows with
  |some X=>gV (X.getD j default).val
  |none=>false
 |.has r n a b c=>(jA n [a.den O,b.den O,c.den O] (r.rv O).rows).isSome
def RE.rv(O:aa):RE->RV
 |.v k=>O.rv k
 |.cell r i j k=>cd k (cellAt (r.rv O).rows (i.den O) j)
 |.k v=>.mk v []
end
def RE.den(O:aa)(r:RE):Value:=(r.rv O).val
def SV.bu(O:aa):SV->RV
 |.int k e=>.mk (.int k (e.den O)) []
 |.bool b=>.mk (.bool (b.den O)) []
 |.ref r=>r.rv O
 |_=>default
def eU(Z:List RV)(X:Nat):List RV->List RV
 |[]=>Z
 |v::r=>eU (Z.set X v) (X+1) r
def LE.rows(O:aa):LE->List (List RV)
 |.ref r=>(r.rv O).rows
 |.lit l=>l.map λZ=>Z.map (SV.bu O)
 |.jr a b=>a.rows O++b.rows O
 |.mW n Z=>axW (n.den O).toNat (Z.map (SV.bu O))
 |.set a i W X=>(a.rows O).modify (i.den O).toNat λZ=>eU Z W (X.map (SV.bu O))
 |.sub a V U=>((a.rows O).take (U.den O).toNat).drop (V.den O).toNat
 |.ins a n X=>eK n (X.map (SV.bu O)) (a.rows O)
def eI(x:LE)(O:aa):RV:=.mk (.slice none (x.rows O).length (x.rows O).length) (x.rows O)
def aP(c:Nat)(Z:List RV):Int:=bg (Z.getD c default).val
def fJ(Z:Bool):List Nat->List RV->List RV->Bool
 |[],_,_=>false
 |c::X,x,y=>if aP c x=aP c y then fJ Z X x y else if Z then decide (aP c y<aP c x) else decide (aP c x<aP c y)
def aI.lt:aI->List RV->List RV->Bool
 |.lex Z d,x,y=>fJ d Z x y
 |.ratio n d,x,y=>decide (aP n x*aP d y<aP n y*aP d x)
 |.cz _ _ _,_,_=>false
def gX(n d:Int):Bool:=decide (1<=d)&&decide (d<=1073741824)&&decide (-1073741824<=n)&&decide (n<=1073741824)&&aBp n.natAbs d.toNat==1
def aI.ok:aI->List RV->Bool
 |.lex _ _,_=>true
 |.ratio n d,x=>gX (aP n x) (aP d x)
 |.cz _ _ _,_=>false
def cU(lt:List RV->List RV->Bool)(x:List RV):List (List RV)->List (List RV)
 |[]=>[x]
 |y::r=>if lt x y then x::y::r else y::cU lt x r
def aU(lt:List RV->List RV->Bool)(l:List (List RV)):List (List RV):=l.foldl (λacc x=>cU lt x acc) []
def pU(lt:List RV->List RV->Bool):List (List RV)->Bool
 |[]=>true
 |x::r=>r.all (λy=>lt x y||lt y x)&&pU lt r
def dB:aI->Bool->List (List RV)->Option (List (List RV))
 |.cz _ _ _,_,_=>none
 |X,W,Z=>if decide (Z.length<=1099511627776)&&(Z.all X.ok&&(W||pU X.lt Z)) then some (aU X.lt Z) else none
def aJ(Z:List (List RV))(a b:Nat):List (List RV):=(Z.drop a).take (b-a)
def sG(lt:List RV->List RV->Bool):List (List RV)->Bool
 |[]=>true
 |x::r=>r.all (λy=> !lt y x)&&sG lt r
def jX(k:Nat)(o:aI)(X:List Int)(Z:List (List RV)):Option (List (List RV)):=match k,X with
 |0,[a,b,n]=>if decide (0<=a)&&decide (0<=n)&&decide (a+n<=b)&&decide (b+n<=Z.length) then some (Z.take a.toNat++(aJ Z b.toNat (b+n).toNat++(aJ Z (a+n).toNat b.toNat++(aJ Z a.toNat (a+n).toNat++Z.drop (b+n).toNat)))) else none
 |1,[a,m,b]=>if decide (0<=a)&&decide (a<m)&&decide (m<b)&&decide (b<=Z.length) then some (Z.take a.toNat++(aJ Z m.toNat b.toNat++(aJ Z a.toNat m.toNat++Z.drop b.toNat))) else none
 |2,[a,b]=>if decide (0<=a)&&decide (a<=b)&&decide (b<=Z.length)&&Z.all o.ok then some (Z.take a.toNat++(aU o.lt (aJ Z a.toNat b.toNat)++Z.drop b.toNat)) else none
 |n+3,[a,m,b]=>if decide (0<=a)&&decide (a<m)&&decide (m<b)&&decide (b<=Z.length)&&decide (b-a<n)&&Z.all o.ok&&sG o.lt (aJ Z a.toNat m.toNat)&&sG o.lt (aJ Z m.toNat b.toNat) then some (Z.take a.toNat++(aU o.lt (aJ Z a.toNat b.toNat)++Z.drop b.toNat)) else none
 |_,_=>none
def ad(V:List Nat)(i:Nat):Nat:=V.getD i 0
def kF(v:Value)(n:Nat):Addr:=match v with
 |.slice (some a) _ _=>⟨a.block,a.off+n,none⟩
 |_=>⟨0,n,none⟩
mutual
def SV.den(O:aa)(V:List Nat):SV->Value
 |.int k e=>.int k (e.den O)
 |.bool b=>.bool (b.den O)
 |.ref r=>r.den O
 |.loc i Z=>.pointer (some ⟨ad V i,Z,none⟩)
 |.el r w i Z=>.pointer (some (kF (r.den O) ((i.den O).toNat*w+Z)))
 |.fy i Z X W=>.slice (some ⟨ad V i,Z,none⟩) X W
 |.agg l=>.agg (SV.ap O V l).toArray
 |.bm l=>.tuple (SV.ap O V l).toArray
 |.fn f l=>.func (.func f) #[] (SV.ap O V l).toArray
 |.dV t x=>.iface t (SV.den O V x)
 |.yl n=>.func (.yield (O.y.getD n 0)) #[] #[]
 |.any=>undef
 |.mp i=>.map (some (ad V i))
 |.dI e U R=>gW (e.den O) U (SV.ap O V R)
def SV.ap(O:aa)(V:List Nat):List SV->List Value
 |[]=>[]
 |x::Z=>SV.den O V x::SV.ap O V Z
end
def lL(O:aa)(V:List Nat):∀l,SV.ap O V l=l.map (SV.den O V)
 |[]=>rfl
 |x::Z=>by rw[SV.ap,lL O V Z];rfl
@[simp] def CR (O:aa) (V:List Nat) (l:List SV):(SV.ap O V l).length=l.length:=by rw[lL];simp
def oY(O:aa)(V:List Nat)(l:List SV)(i:Nat):(SV.ap O V l)[i]?=(l[i]?).map (SV.den O V):=by rw[lL];simp
def Ni(O:aa)(V:List Nat)(l m:List SV):SV.ap O V (l++m)=SV.ap O V l++SV.ap O V m:=by simp[lL]
inductive aX(W:World)(ty:Ty):RK->RV->Prop where
 |sl (e:TypeId) (A:Option Addr) (len cap:Nat) (rows:List (List RV)) (h1:rows.length=len) (h2:len<=cap)
   (h3:∀(i:Nat)(row:List RV),rows[i]?=some row->row.length=(ba ty (.sl e)).length/\∃b off,A=some ⟨b,off,none⟩/\(∃cs t fr,W.heap[b]?=some (.cells cs t fr))/\
    ∀(j:Nat)(c:RV),row[j]?=some c->W.cell? ⟨b,off+i*(ba ty (.sl e)).length+j,none⟩=some c.val)
   (hi:∀(i j:Nat)(row:List RV)(c:RV)(k:IntKind),rows[i]?=some row->row[j]?=some c->(ba ty (.sl e))[j]?=some (.int k)->∃n,c.val=.int k n)
   (hb:∀(i j:Nat)(row:List RV)(c:RV),rows[i]?=some row->row[j]?=some c->(ba ty (.sl e))[j]?=some .bool->∃x,c.val=.bool x)
   (ho:∀(i j:Nat)(row:List RV)(c:RV)(z:Value)(k:RK),rows[i]?=some row->row[j]?=some c->(ba ty (.sl e))[j]?=some (.aq z k)->aX W ty k c):
   aX W ty (.sl e) (.mk (.slice A len cap) rows)
 |str (s:ByteArray):aX W ty .str (.mk (.string s) [])
 |aq (v:Value) (h:fG v=true):aX W ty .aq (.mk v [])
 |own (e:TypeId) (rv:RV) (h:aX W ty (.sl e) rv) (hn:∀l c,rv.val=.slice none l c->c=0):aX W ty (.own e) rv
 |dead (rv:RV) (h:fG rv.val=true):aX W ty .dead rv
 |mr (sh:Sh) (rows:List (List RV)) (h1:∀(i:Nat)(row:List RV),rows[i]?=some row->row.length=(ba ty (.mr sh)).length)
   (hi:∀(i j:Nat)(row:List RV)(c:RV)(k:IntKind),rows[i]?=some row->row[j]?=some c->(ba ty (.mr sh))[j]?=some (.int k)->∃n,c=.mk (.int k n) [])
   (hb:∀(i j:Nat)(row:List RV)(c:RV),rows[i]?=some row->row[j]?=some c->(ba ty (.mr sh))[j]?=some .bool->∃x,c=.mk (.bool x) [])
   (ho:∀(i j:Nat)(row:List RV)(c:RV)(z:Value)(k:RK),rows[i]?=some row->row[j]?=some c->(ba ty (.mr sh))[j]?≠some (.aq z k)):
   aX W ty (.mr sh) (.mk (.slice none rows.length rows.length) rows)
inductive cu(ty:Ty):RK->RV->Nat->Prop where
 |here (e:TypeId) (a:Addr) (len cap:Nat) (rows:List (List RV)):cu ty (.sl e) (.mk (.slice (some a) (len+1) cap) rows) a.block
 |deep (e:TypeId) (v:Value) (rows:List (List RV)) (i j:Nat) (row:List RV) (c:RV) (z:Value) (k:RK) (b:Nat):rows[i]?=some row->row[j]?=some c->(ba ty (.sl e))[j]?=some (.aq z k)->cu ty k c b->cu ty (.sl e) (.mk v rows) b
 |own (e:TypeId) (rv:RV) (b:Nat):cu ty (.sl e) rv b->cu ty (.own e) rv b
def RV.iN(Z:RV):Option Nat:=match Z.val with
 |.slice (some a) _ (_+1)=>some a.block
 |_=>none
def uq(X:Ty)(e:RK)(Z:RV)(b:Nat):Prop:=cu X e Z b\/(∃t,e=.own t)/\Z.iN=some b
def kg(Z:Ty)(e:TypeId)(W:List (List RV))(b:Nat):Prop:=∃(i j:Nat)(X:List RV)(c:RV)(z:Value)(k:RK),W[i]?=some X/\X[j]?=some c/\(ba Z (.sl e))[j]?=some (.aq z k)/\cu Z k c b
structure ur(S0:List Nat)(w0:World)(V:List Nat)(O:aa)(bx:aY)(ty:Ty)(rs:List RK)(W:World)(k:Nat)(e:TypeId)(rv:RV)(b:Nat):Prop where
 own:w0.heap.size<=b\/b∈S0
 mem:∃len cap cur,rv.val=.slice (some ⟨b,0,none⟩) len cap/\W.heap[b]?=some (.cells cur e (0,0))/\len<=cap/\cap<=maxLen/\cur.size=cap*(ba ty (.sl e)).length
 box:∀i,aD bx i=true->ad V i≠b
 alone:∀(k':Nat)(e':RK)(rv':RV),k'≠k->rs[k']?=some e'->O.r[k']?=some rv'->¬uq ty e' rv' b
 inner:¬kg ty e rv.rows b
def SV.eL(O:aa)(V:List Nat)(v:SV):RV:=match v with
 |.ref r=>r.rv O
 |v=>.mk (v.den O V) []
def SV.cg(O:aa)(V:List Nat)(l:List SV):List RV:=l.map (SV.eL O V)
def dS:Nat->List (Value×Value)->List MapEntry
 |_,[]=>[]
 |n,x::r=>⟨x.1,x.2,n⟩::dS (n+1) r
def mu(l:List (Value×Value)):Obj:=.map (dS 0 l).toArray l.length
def yt:List Value->List (Value×Value)
 |k::v::r=>(k,v)::yt r
 |_=>[]
def m8(a:Bool)(l:List RV):Value:=if a then .agg (l.map RV.val).toArray else(l.headD default).val
def qS(n:Nat)(X W:Bool)(Z:List RV):Value×Value:=(m8 X (Z.take n),m8 W (Z.drop n))
def aca:Value->Option Nat
 |.map a=>a
 |_=>none
def lM(Z:List RV):Nat:=(bg (Z.headD default).val).toNat
def jY(t:TypeId)(l:List RV):Obj:=
 if t=pK then mu (yt (l.map RV.val)) else
 if t=qK then(match l with
  |[Z,.mk (.int _ n) _,.mk (.bool X) _,.mk (.bool W) _]=>mu (Z.rows.map (qS n.toNat X W))
  |_=>mu []) else
 if t=sk then(match l with
  |[V,_,.mk (.int _ n) _,U]=>.mapIter (aca V.val) n.toNat (U.rows.map lM).toArray n.toNat
  |_=>mu []) else
 .cells (l.map RV.val).toArray t (0,0)
structure gY(S0:List Nat)(w0:World)(V:List Nat)(O:aa)(bx:aY)(ty:Ty)(rs:List RK)(W:World):Prop where
 base:dM S0 w0 W
 own:∀i,aD bx i=true->w0.heap.size<=ad V i\/ad V i∈S0
 inj:∀i j,aD bx i=true->aD bx j=true->ad V i=ad V j->i=j
 box:∀(i:Nat)(t:TypeId)(cs:List SV),bF bx i=some (t,cs)->W.heap[ad V i]?=some (jY t (SV.cg O V cs))
 ref:∀(k:Nat)(e:RK)(rv:RV),rs[k]?=some e->O.r[k]?=some rv->aX W ty e rv/\∀b,cu ty e rv b->∀i,aD bx i=true->ad V i≠b
structure bB where
 out:List Nat
 cH:List (Nat×Loop)
 rd:Bool
 base:List Deferred
def bB.none:bB:=⟨[],[],false,[]⟩
def i9(r:Nat):Deferred:={target:=.collected r,args:= #[]}
def PX.code:PX->Code
 |.ret=>.ret
 |.exit id=>.exit id
def nW(r:Loop):kV->Loop
 |.ready=>{r with state:=.ready,pending:=none}
 |.busy=>{r with state:=.busy,pending:=none}
 |.done e=>{r with state:=.done,pending:=some e.code}
structure cL(w0:World)(D:bB)(pd:List kV)(y:List Nat)(dfr:List Deferred)(W:World):Prop where
 len:D.cH.length=pd.length
 oZ:y.length=pd.length
 cH:∀(n l:Nat)(r:Loop)(st:kV),D.cH[n]?=some (l,r)->pd[n]?=some st->y[n]?=some l/\W.heap[l]?=some (.loop (nW r st))/\w0.heap.size<=l
 inj:∀(n n' l:Nat)(r r':Loop),D.cH[n]?=some (l,r)->D.cH[n']?=some (l,r')->n=n'
 kh:∃ms:List Nat,dfr=ms.map i9++D.base/\(D.rd=true->ms=[])/\(ms++D.out).Nodup/\∀d∈ms++D.out,W.heap[d]?=some (.deferred (some []))/\w0.heap.size<=d
structure ao(S0:List Nat)(w0:World)(D:bB)(ty:Ty)(V:List Nat)(O:aa)(s:S)(a:Act)(W:World):Prop where
 mem:gY S0 w0 V O s.boxes ty s.rs W
 dX:V.length=s.boxes.length
 ei:O.i.length=s.ni
 eb:O.b.length=s.nb
 er:O.r.length=s.rs.length
 bY:cL w0 D s.pd O.y a.defers W
 size:a.tmps.size=s.tmps.length
 tmps:∀(t:Nat)(sv:SV),s.tmps[t]?=some sv->sv=.any\/a.tmps[t]?=some (sv.den O V)
 bw:∀(k:Nat)(e:TypeId)(rv:RV)(b:Nat),s.rs[k]?=some (.own e)->O.r[k]?=some rv->rv.iN=some b->ur S0 w0 V O s.boxes ty s.rs W k e rv b
def aa.mw(Z:Ty)(O:aa)(X:List RK)(b:Nat):Prop:=∃(k:Nat)(e:RK),X[k]?=some e/\cu Z e (O.rv k) b
inductive XV where
 |i (n:Int)
 |b (x:Bool)
 |r (v:RV)
def aa.add(O:aa):XV->aa
 |.i n=>{O with i:=O.i++[n]}
 |.b x=>{O with b:=O.b++[x]}
 |.r v=>{O with r:=O.r++[v]}
def aa.ext(O:aa):List XV->aa
 |[]=>O
 |x::Z=>(O.add x).ext Z
def SV.xv(O:aa):SV->XV
 |.int _ e=>.i (e.den O)
 |.bool b=>.b (b.den O)
 |.ref r=>.r (r.rv O)
 |_=>.i 0
def nX:LK->XV->Prop
 |.int _,.i _=>True
 |.bool,.b _=>True
 |.ref _,.r _=>True
 |_,_=>False
def cV:List LK->List XV->Prop
 |[],[]=>True
 |k::Z,x::X=>nX k x/\cV Z X
 |_,_=>False
def amJ(Z:Ty)(W:World)(B:Nat)(V:Nat->Prop):LK->XV->Prop
 |.ref e,.r X=>aX W Z e X/\∀b,cu Z e X b->B<=b\/V b
 |_,_=>True
def Fw(Z:Ty)(W:World)(B:Nat)(X:Nat->Prop):List LK->List XV->Prop
 |k::V,x::U=>amJ Z W B X k x/\Fw Z W B X V U
 |_,_=>True
structure CS(ty:Ty)(S0:List Nat)(w0:World)(e:TypeId)(x:LE)(rs:List RK)(O:aa)(rv:RV):Prop where
 val:∃A n c,rv=.mk (.slice A n c) (x.rows O)/\(x.rows O).length=n
 mw:∀b,cu ty (.sl e) rv b->w0.heap.size<=b\/b∈S0\/O.mw ty rs b
 Uo:∀(k:Nat)(i:IE)(off:Nat)(cs:List SV),x=.set (.ref (.v k)) i off cs->rv.val=(O.rv k).val
structure LC where
 av:Nat
 I:List XV->Prop
 μ:List XV->Nat
 m:Nat
def kG(av:Nat):List LC->Option LC
 |[]=>none
 |x::Z=>if x.av=av then some x else kG av Z
def XE.to(O:aa)(V:List Nat):XE->Exit
 |.normal=>.normal
 |.ret=>.ret
 |.exit id=>.exit id
 |.aW v=>.panic [{v:=v.den O V,recovered:=false}]
structure Sp where
 P:Program
 ty:Ty
 S0:List Nat
 w0:World
 D:bB
 R:Ending->World->Prop
 Q:Exit->Act->World->Prop
def lN(k:Nat)(o:aI)(X:List Int)(Z:List (List RV)):Option (List (List RV)):=if Z.length<=1099511627776 then jX k o X Z else none
def kX(O:aa):aI->Bool->List (List RV)->Option (List (List RV))
 |.cz k o X,_,Z=>lN k o (X.map (IE.den O)) Z
 |W,V,Z=>dB W V Z
def amK{O:aa}{Z:aI}{X r:List (List RV)}(h:dB Z y X=some r):kX O Z y X=some r:=by
 cases Z with
 |cz k o W=>simp[dB] at h
 |lex V d=>exact h
 |ratio n d=>exact h
def T.aG(p:Sp):T->aa->List LC->Prop
 |.out e s,O,_=>∀y V a W,ao p.S0 p.w0 p.D p.ty V (O.at y) s a W->p.Q (e.to (O.at y) V) a W
 |.ret v M X,O,_=>∀y V W,gY p.S0 p.w0 V (O.at y) M p.ty X W->p.R (.returned (v.den (O.at y) V)) W
 |.aW v,O,_=>∀y V W,dM p.S0 p.w0 W->p.R (.panicked [{v:=v.den (O.at y) V,recovered:=false}]) W
 |.node b t f,O,L=>(b.den O=true->t.aG p O L)/\(b.den O=false->f.aG p O L)
 |.az b t,O,L=>b.den O=true/\t.aG p O L
 |.call f F M X N eP t,O,L=>∀y V W,gY p.S0 p.w0 V (O.at y) M p.ty X W->Calls p.P f (SV.ap (O.at y) V F).toArray W λ
   |.returned v,U=>∃Z,cV N Z/\v=eP.den ((O.ext Z).at y) V/\Below W.heap.size W U/\Fw p.ty U W.heap.size (O.mw p.ty X) N Z/\t.aG p (O.ext Z) L
   |.panicked E,U=>Below W.heap.size W U/\p.R (.panicked E) U
   |.outgrown,_=>False
 |.loop av N C t,O,L=>∃I J,I (C.map (SV.xv O))/\∀Z,cV N Z->I Z->t.aG p (O.ext Z) (⟨av,I,J,J Z⟩::L)
 |.back av x,O,L=>match kG av L with
   |some c=>c.I (x.map (SV.xv O))/\c.μ (x.map (SV.xv O))<c.m
   |none=>False
 |.new e x X _ t,O,L=>∀H,CS p.ty p.S0 p.w0 e x X O H->t.aG p (O.add (.r H)) L
 |.rows _ x _ t,O,L=>t.aG p (O.add (.r (eI x O))) L
 |.ey g h t f,O,L=>(g.den O=true->t.aG p O L)/\(h.den O=true->f.aG p O L)
 |.pick n g h t f,O,L=>(∀j:Int,0<=j->j<n.den O->g.den (O.add (.i j))=true->t.aG p (O.add (.i j)) L)/\(h.den O=true->f.aG p O L)
 |.dq _ _ _ B A r _ t,O,L=>∃G,kX O B A (r.rv O).rows=some G/\t.aG p (O.add (.r (.mk (r.rv O).val G))) L
 |.stuck _,_,_=>False
variable{n c:aa}{X I e:Nat}{N:aY}{w:TypeId×List SV}{Z:TypeId}{M:List SV}{U l:List Nat}{r:Nat→Bool}
def acb:∀(a b:Value),Ct a b=true->a=b:=by
 intro a b h;unfold Ct at h;split at h;rename_i a b;have Z:a.data.toList=b.data.toList:=by simpa using h
 have X:a.data=b.data:=by simpa using Z
 cases a;cases b;simp_all;simp at h;rw[h.1,h.2]
 all_goals first|rfl|cases h
mutual
def IE.bn:∀(a b:IE),IE.same a b=true->a=b
 |.c a,b,h=>by cases b<;>simp[IE.eH] at h;rw[h]
 |.v a,b,h=>by cases b<;>simp[IE.eH] at h;rw[h]
 |.bin o k a b,x,h=>by
  cases x<;>simp[IE.eH,vV] at h;obtain⟨⟨⟨rfl,rfl⟩,Z⟩,X⟩:=h;rw[IE.bn _ _ Z,IE.bn _ _ X]
 |.conv k a,x,h=>by
  cases x<;>simp[IE.eH] at h;obtain⟨rfl,Z⟩:=h;rw[IE.bn _ _ Z]
 |.len r,x,h=>by
  cases x<;>simp[IE.eH] at h;rw[RE.bn _ _ h]
 |.mm m a b,x,h=>by
  cases x<;>simp[IE.eH] at h;obtain⟨⟨rfl,Z⟩,X⟩:=h;rw[IE.bn _ _ Z,IE.bn _ _ X]
 |.bT b a c,x,h=>by
  cases x<;>simp[IE.eH] at h;obtain⟨⟨W,Z⟩,X⟩:=h;rw[BE.bn _ _ W,IE.bn _ _ Z,IE.bn _ _ X]
 |.cell r i j,x,h=>by
  cases x<;>simp[IE.eH] at h;obtain⟨⟨W,Z⟩,rfl⟩:=h;rw[RE.bn _ _ W,IE.bn _ _ Z]
 |.jS r i,x,h=>by
  cases x<;>simp[IE.eH] at h;obtain⟨W,Z⟩:=h;rw[RE.bn _ _ W,IE.bn _ _ Z]
 |.look r n a b c j,x,h=>by
  cases x<;>simp[IE.eH] at h;obtain⟨⟨⟨⟨⟨W,rfl⟩,Z⟩,X⟩,V⟩,rfl⟩:=h;rw[RE.bn _ _ W,IE.bn _ _ Z,IE.bn _ _ X,IE.bn _ _ V]
def BE.bn:∀(a b:BE),BE.same a b=true->a=b
 |.c a,b,h=>by cases b<;>simp[BE.eH] at h;rw[h]
 |.v a,b,h=>by cases b<;>simp[BE.eH] at h;rw[h]
 |.cmp o a b,x,h=>by
  cases x<;>simp[BE.eH,vV] at h;obtain⟨⟨rfl,Z⟩,X⟩:=h;rw[IE.bn _ _ Z,IE.bn _ _ X]
 |.not a,x,h=>by
  cases x<;>simp[BE.eH] at h;rw[BE.bn _ _ h]
 |.and a b,x,h=>by
  cases x<;>simp[BE.eH] at h;rw[BE.bn _ _ h.1,BE.bn _ _ h.2]
 |.beq a b,x,h=>by
  cases x<;>simp[BE.eH] at h;rw[BE.bn _ _ h.1,BE.bn _ _ h.2]
 |.bT b a c,x,h=>by
  cases x<;>simp[BE.eH] at h;obtain⟨⟨W,Z⟩,X⟩:=h;rw[BE.bn _ _ W,BE.bn _ _ Z,BE.bn _ _ X]
 |.cell r i j,x,h=>by
  cases x<;>simp[BE.eH] at h;obtain⟨⟨W,Z⟩,rfl⟩:=h;rw[RE.bn _ _ W,IE.bn _ _ Z]
 |.seq a b,x,h=>by
  cases x<;>simp[BE.eH] at h;rw[RE.bn _ _ h.1,RE.bn _ _ h.2]
 |.look r n a b c j,x,h=>by
  cases x<;>simp[BE.eH] at h;obtain⟨⟨⟨⟨⟨W,rfl⟩,Z⟩,X⟩,V⟩,rfl⟩:=h;rw[RE.bn _ _ W,IE.bn _ _ Z,IE.bn _ _ X,IE.bn _ _ V]
 |.has r n a b c,x,h=>by
  cases x<;>simp[BE.eH] at h;obtain⟨⟨⟨⟨W,rfl⟩,Z⟩,X⟩,V⟩:=h;rw[RE.bn _ _ W,IE.bn _ _ Z,IE.bn _ _ X,IE.bn _ _ V]
def RE.bn:∀(a b:RE),RE.same a b=true->a=b
 |.v a,b,h=>by cases b<;>simp[RE.eH] at h;rw[h]
 |.cell r i j k,x,h=>by
  cases x<;>simp[RE.eH] at h;obtain⟨⟨⟨Z,X⟩,rfl⟩,rfl⟩:=h;rw[RE.bn _ _ Z,IE.bn _ _ X]
 |.k a,b,h=>by cases b<;>simp[RE.eH] at h;rw[acb _ _ h]
end
mutual
def SV.bn:∀(a b:SV),SV.same a b=true->a=b
 |.int k e,x,h=>by cases x<;>simp[SV.eH] at h;rw[h.1,IE.bn _ _ h.2]
 |.bool b,x,h=>by cases x<;>simp[SV.eH] at h;rw[BE.bn _ _ h]
 |.ref r,x,h=>by cases x<;>simp[SV.eH] at h;rw[RE.bn _ _ h]
 |.loc i o,x,h=>by cases x<;>simp[SV.eH] at h;rw[h.1,h.2]
 |.el r w i o,x,h=>by
  cases x<;>simp[SV.eH] at h;obtain⟨⟨⟨Z,rfl⟩,X⟩,rfl⟩:=h;rw[RE.bn _ _ Z,IE.bn _ _ X]
 |.fy a b c d,x,h=>by
  cases x<;>simp[SV.eH] at h;obtain⟨⟨⟨rfl,rfl⟩,rfl⟩,rfl⟩:=h;rfl
 |.agg l,x,h=>by cases x<;>simp[SV.eH] at h;rw[SV.o7 _ _ h]
 |.bm l,x,h=>by cases x<;>simp[SV.eH] at h;rw[SV.o7 _ _ h]
 |.fn f l,x,h=>by cases x<;>simp[SV.eH] at h;rw[h.1,SV.o7 _ _ h.2]
 |.dV t y,x,h=>by cases x<;>simp[SV.eH] at h;rw[h.1,SV.bn _ _ h.2]
 |.yl n,x,h=>by cases x<;>simp[SV.eH] at h;rw[h]
 |.any,x,h=>by cases x<;>simp[SV.eH] at h;rfl
 |.mp i,x,h=>by cases x<;>simp[SV.eH] at h;rw[h]
 |.dI e W V,x,h=>by cases x<;>simp[SV.eH] at h;rw[IE.bn _ _ h.1.1,h.1.2,SV.o7 _ _ h.2]
def SV.o7:∀(a b:List SV),SV.aab a b=true->a=b
 |[],b,h=>by cases b<;>simp[SV.abT] at h;rfl
 |x::Z,b,h=>by cases b<;>simp[SV.abT] at h;rw[SV.bn _ _ h.1,SV.o7 _ _ h.2]
end
structure fl(O O':aa)(ni nb nr:Nat):Prop where
 i:∀k,k<ni->O'.i.getD k 0=O.i.getD k 0
 b:∀k,k<nb->O'.b.getD k false=O.b.getD k false
 r:∀k,k<nr->O'.rv k=O.rv k
 y:O'.y=O.y
mutual
def IE.cB{O X:aa}{W V U:Nat}(Z:fl O X W V U):∀(e:IE),e.bd W V U=true->e.den X=e.den O
 |.c n,_=>by simp[IE.den]
 |.v k,h=>by simp[IE.aK] at h;simp only[IE.den];exact Z.i k h
 |.bin o k a b,h=>by simp[IE.aK] at h;simp only[IE.den,IE.cB Z a h.1,IE.cB Z b h.2]
 |.conv k a,h=>by simp[IE.aK] at h;simp only[IE.den,IE.cB Z a h]
 |.len r,h=>by simp[IE.aK] at h;simp only[IE.den,RE.nY Z r h]
 |.mm m a b,h=>by simp[IE.aK] at h;simp only[IE.den,IE.cB Z a h.1,IE.cB Z b h.2]
 |.bT b x y,h=>by simp[IE.aK] at h;simp only[IE.den,BE.cB Z b h.1.1,IE.cB Z x h.1.2,IE.cB Z y h.2]
 |.cell r i j,h=>by simp[IE.aK] at h;simp only[IE.den,IE.cB Z i h.2,RE.nY Z r h.1]
 |.jS r i,h=>by simp[IE.aK] at h;simp only[IE.den,RE.nY Z r h.1,IE.cB Z i h.2]
 |.look r n a b c j,h=>by simp[IE.aK] at h;simp only[IE.den,RE.nY Z r h.1.1.1,IE.cB Z a h.1.1.2,IE.cB Z b h.1.2,IE.cB Z c h.2]
def BE.cB{O X:aa}{W V U:Nat}(Z:fl O X W V U):∀(e:BE),e.bd W V U=true->e.den X=e.den O
 |.c n,_=>by simp[BE.den]
 |.v k,h=>by simp[BE.aK] at h;simp only[BE.den];exact Z.b k h
 |.cmp o a b,h=>by simp[BE.aK] at h;simp only[BE.den,IE.cB Z a h.1,IE.cB Z b h.2]
 |.not a,h=>by simp[BE.aK] at h;simp only[BE.den,BE.cB Z a h]
 |.and a b,h=>by simp[BE.aK] at h;simp only[BE.den,BE.cB Z a h.1,BE.cB Z b h.2]
 |.beq a b,h=>by simp[BE.aK] at h;simp only[BE.den,BE.cB Z a h.1,BE.cB Z b h.2]
 |.bT b x y,h=>by simp[BE.aK] at h;simp only[BE.den,BE.cB Z b h.1.1,BE.cB Z x h.1.2,BE.cB Z y h.2]
 |.cell r i j,h=>by simp[BE.aK] at h;simp only[BE.den,IE.cB Z i h.2,RE.nY Z r h.1]
 |.seq a b,h=>by simp[BE.aK] at h;simp only[BE.den,RE.nY Z a h.1,RE.nY Z b h.2]
 |.look r n a b c j,h=>by simp[BE.aK] at h;simp only[BE.den,RE.nY Z r h.1.1.1,IE.cB Z a h.1.1.2,IE.cB Z b h.1.2,IE.cB Z c h.2]
 |.has r n a b c,h=>by simp[BE.aK] at h;simp only[BE.den,RE.nY Z r h.1.1.1,IE.cB Z a h.1.1.2,IE.cB Z b h.1.2,IE.cB Z c h.2]
def RE.nY{O X:aa}{W V U:Nat}(Z:fl O X W V U):∀(e:RE),e.bd W V U=true->e.rv X=e.rv O
 |.v k,h=>by simp[RE.aK] at h;simp only[RE.rv,Z.r k h]
 |.cell r i j k,h=>by simp[RE.aK] at h;simp only[RE.rv,IE.cB Z i h.2,RE.nY Z r h.1]
 |.k v,_=>by simp[RE.rv]
end
def RE.cB(W:fl n c X I e)(Z:RE)(h:Z.bd X I e=true):Z.den c=Z.den n:=by simp only[RE.den,RE.nY W Z h]
mutual
def SV.cB{O W:aa}{V U:List Nat}{R Q P:Nat}{N:Nat->Bool}(Z:fl O W R Q P)(X:∀k,N k=true->ad U k=ad V k):∀(v:SV),v.bd R Q P N=true->v.den W U=v.den O V
 |.int k e,h=>by simp[SV.aK] at h;simp only[SV.den,IE.cB Z e h]
 |.bool e,h=>by simp[SV.aK] at h;simp only[SV.den,BE.cB Z e h]
 |.ref e,h=>by simp[SV.aK] at h;simp only[SV.den,RE.cB Z e h]
 |.loc i o,h=>by simp[SV.aK] at h;simp only[SV.den,X i h]
 |.el r w i o,h=>by simp[SV.aK] at h;simp only[SV.den,RE.cB Z r h.1,IE.cB Z i h.2]
 |.fy i o l c,h=>by simp[SV.aK] at h;simp only[SV.den,X i h]
 |.agg l,h=>by simp[SV.aK] at h;simp only[SV.den,SV.Fy Z X l h]
 |.bm l,h=>by simp[SV.aK] at h;simp only[SV.den,SV.Fy Z X l h]
 |.fn f l,h=>by simp[SV.aK] at h;simp only[SV.den,SV.Fy Z X l h]
 |.dV t x,h=>by simp[SV.aK] at h;simp only[SV.den,SV.cB Z X x h]
 |.yl n,_=>by simp only[SV.den,Z.y]
 |.any,_=>by simp[SV.den]
 |.mp i,h=>by simp[SV.aK] at h;simp only[SV.den,X i h]
 |.dI e L M,h=>by simp[SV.aK] at h;simp only[SV.den,IE.cB Z e h.1,SV.Fy Z X M h.2]
def SV.Fy{O Z:aa}{V X:List Nat}{W U R:Nat}{Q:Nat->Bool}(P:fl O Z W U R)(N:∀k,Q k=true->ad X k=ad V k):∀(l:List SV),SV.cq W U R Q l=true->SV.ap Z X l=SV.ap O V l
 |[],_=>rfl
 |x::M,h=>by simp[SV.fa] at h;simp only[SV.ap,SV.cB P N x h.1,SV.Fy P N M h.2]
end
def qT{X W V:Nat}{U:Nat->Bool}:∀{l:List SV}{i:Nat}{v:SV},SV.cq X W V U l=true->l[i]?=some v->v.bd X W V U=true
 |[],i,v,_,h=>by simp at h
 |x::R,0,v,Z,h=>by simp[SV.fa] at Z;simp at h;exact h▸Z.1
 |x::R,i+1,v,Z,h=>by simp[SV.fa] at Z;simp at h;exact qT Z.2 h
def gG:bF N X=some w<->N[X]?=some (some w):=by
 simp only[bU];cases h:N[X]? with
 |none=>simp
 |some x=>cases x<;>simp
def o8{W V U:Nat}{R:Nat->Bool}:∀{l:aY}{i:Nat}{v:TypeId×List SV},SV.m5 W V U R l=true->bF l i=some v->SV.cq W V U R v.2=true
 |[],i,v,_,h=>by simp[bU] at h
 |some x::X,0,v,Z,h=>by simp[SV.m5] at Z;simp[bU] at h;exact h▸Z.1
 |none::X,0,v,Z,h=>by simp[bU] at h
 |some x::X,i+1,v,Z,h=>by simp[SV.m5] at Z;exact o8 Z.2 (by simpa[bU] using h)
 |none::X,i+1,v,Z,h=>by simp[SV.m5] at Z;exact o8 Z (by simpa[bU] using h)
def fl.refl(O:aa)(Z X W:Nat):fl O O Z X W:=⟨λ_ _=>rfl,λ_ _=>rfl,λ_ _=>rfl,rfl⟩
def fl.trans{a b c:aa}{X W V:Nat}(h:fl a b X W V)(k:fl b c X W V):fl a c X W V:=
 ⟨λj Z=>(k.i j Z).trans (h.i j Z),λj Z=>(k.b j Z).trans (h.b j Z),λj Z=>(k.r j Z).trans (h.r j Z),k.y.trans h.y⟩
def fl.mono{Z W V:Nat}(h:fl n c X I e)(R:Z<=X)(Q:W<=I)(P:V<=e):fl n c Z W V:=
 ⟨λj U=>h.i j (by omega),λj U=>h.b j (by omega),λj U=>h.r j (by omega),h.y⟩
def Nj(O:aa)(x:XV):fl O (O.add x) O.i.length O.b.length O.r.length:=by
 cases x<;>refine⟨λk Z=> ?_,λk Z=> ?_,λk Z=> ?_,rfl⟩<;>simp[aa.add,aa.rv,axL,Z]
def As:∀(Z:List XV)(O:aa),fl O (O.ext Z) O.i.length O.b.length O.r.length
 |[],O=>fl.refl _ _ _ _
 |x::Z,O=>by
  have X:=Nj O x;have W:=As Z (O.add x);exact X.trans (W.mono (by cases x<;>simp[aa.add]) (by cases x<;>simp[aa.add]) (by cases x<;>simp[aa.add]))
mutual
def Nk{O:aa}{V Z:List Nat}(h:ad Z=ad V):∀(v:SV),v.den O Z=v.den O V
 |.int k e=>by simp only[SV.den]
 |.bool e=>by simp only[SV.den]
 |.ref e=>by simp only[SV.den]
 |.loc i o=>by simp only[SV.den,h]
 |.el r w i o=>by simp only[SV.den]
 |.fy i o l c=>by simp only[SV.den,h]
 |.agg l=>by simp only[SV.den,Jt h l]
 |.bm l=>by simp only[SV.den,Jt h l]
 |.fn f l=>by simp only[SV.den,Jt h l]
 |.dV t x=>by simp only[SV.den,Nk h x]
 |.yl n=>by simp only[SV.den]
 |.any=>by simp only[SV.den]
 |.mp i=>by simp only[SV.den,h]
 |.dI e W X=>by simp only[SV.den,Jt h X]
def Jt{O:aa}{V Z:List Nat}(h:ad Z=ad V):∀(l:List SV),SV.ap O Z l=SV.ap O V l
 |[]=>rfl
 |x::X=>by simp only[SV.ap,Nk h x,Jt h X]
end
def amL(O:aa)(V:List Nat)(v:SV):(v.eL O V).val=v.den O V:=by
 cases v<;>simp[SV.eL,SV.den,RE.den]
def acd(O:aa)(V:List Nat)(l:List SV):(SV.cg O V l).map RV.val=SV.ap O V l:=by
 rw[lL,SV.cg,ayw];exact ax7 λv _=>amL O V v
def qU(h:oO Z=false)(O:aa)(V:List Nat)(l:List SV):jY Z (SV.cg O V l)=.cells (SV.ap O V l).toArray Z (0,0):=by
 have X:=of_decide_eq_false h;unfold jY;rw[if_neg (λe=>X (by rw[e];exact axQ _)),if_neg (λe=>X (by rw[e];decide)),if_neg (λe=>X (by rw[e];decide)),acd]
def ut(h:i6 N X=some (Z,M)):bF N X=some (Z,M)/\oO Z=false:=by
 unfold i6 at h;split at h;rename_i U R W;split at h;cases h;rename_i V;cases h;exact⟨W,by simpa using V⟩;cases h
def Ju{Z:aY}{j:Nat}(h:bF Z j=bF N X):i6 Z j=i6 N X:=by simp[i6,h]
def Uq(Z:fl n c X I e)(W:∀k,r k=true->ad l k=ad U k)(v:SV)(h:v.bd X I e r=true):v.eL c l=v.eL n U:=by
 have R:=SV.cB Z W v h;cases v<;>simp only[SV.eL]<;>try rw[R]
 simp only[SV.aK] at h;exact RE.nY Z _ h
def Jv{O Z:aa}{V X:List Nat}{W U R:Nat}{Q:Nat->Bool}(P:fl O Z W U R)(N:∀k,Q k=true->ad X k=ad V k):∀(l:List SV),SV.cq W U R Q l=true->SV.cg Z X l=SV.cg O V l
 |[],_=>rfl
 |x::M,h=>by
  simp only[SV.fa,axI] at h;have:=Jv P N M h.2;simp only[SV.cg,axV] at this⊢;rw[Uq P N x h.1,this]
def ace(h:ad l=ad U)(Z:List SV):SV.cg n l Z=SV.cg n U Z:=by
 refine ax7 λv _=> ?_
 have X:=Nk (O:=n) h v;cases v<;>simp only[SV.eL]<;>rw[X]
def Ur(x:Int):∀(Z:List Int)(X:List Value),fG (gW x Z X)=true
 |[],_=>by simp[gW,fG]
 |_::_,[]=>by simp[gW,fG]
 |k::Z,v::X=>by
  simp only[gW];split;split;rename_i h;exact h;rfl;exact Ur x Z X
def amM{v:Value}(h:fG v=true):v.cells.toList=[v]:=by
 cases v<;>simp[fG] at h<;>rfl
variable{J:TI}{R:SV}
section
def m9(c:CT):Value:=match c with
 |.int k=>.int k 0
 |.bool=>.bool false
 |.aq z _=>z
def TD.Ok(P:Program)(t:TypeId)(ab:List CT):TD->Prop
 |.struct Z=>∃F:Array Field,P.underlying t=some (.struct F)/\F.toList.map (λf=>(f.offset,f.type))=Z
 |.arr n e=>P.underlying t=some (.array n e)
 |.slice e=>P.underlying t=some (.slice e)
 |.str=>P.underlying t=some .string
 |.one=>∃d,P.underlying t=some d/\((match d with|.struct _|.array _ _|.slice _|.string|.interface _=>False|_=>True)/\∀k,ab=[.aq .nilFunc k]->∃a b c,d=.func a b c)/\(∀k,ab=[.int k]->d=.int k)/\(ab=[.bool]->d=.bool)
 |.dV=>∃m,P.underlying t=some (.interface m)
 |.map k e _ _=>P.underlying t=some (.map k e)
def yu:Value->Value->Option Bool
 |.int k a,.int Z b=>if k=Z then some (a==b) else none
 |.bool a,.bool b=>some (a==b)
 |.string a,.string b=>some (a.toList==b.toList)
 |_,_=>none
def yv:CT->Value->Prop
 |.int k,.int Z _=>k=Z
 |.bool,.bool _=>True
 |.aq _ .str,.string _=>True
 |_,_=>False
def iv:List CT->List Value->Prop
 |[],[]=>True
 |c::Z,v::X=>yv c v/\iv Z X
 |_,_=>False
def gH:List Value->List Value->Option Bool
 |[],[]=>some true
 |x::Z,y::X=>match yu x y,gH Z X with
  |some a,some b=>some (a&&b)
  |_,_=>none
 |_,_=>none
def ek(Z:Bool)(l:List Int):Value:=if Z then .agg (l.map (Value.int .i64)).toArray else .int .i64 (l.headD 0)
def sH:Value->List Int
 |.int _ x=>[x]
 |.agg Z=>Z.toList.map bg
 |_=>[]
def kH(l:List Int):List MapEntry->Nat->Option (Nat×Value)
 |[],_=>none
 |e::Z,i=>if sH e.key=l then some (i,e.val) else kH l Z (i+1)
def pV(P:Program)(k:TypeId)(n:Nat)(Z:Bool):Prop:=(Z=false->n=1)/\∀(l:List Int)(X:List MapEntry)(W:World),l.length=n->(∀e∈X,∃U:List Int,U.length=n/\e.key=ek Z U)->
 (∀b,(Instr.checkKey b 10000 k (ek Z l)).run P W=.ok () W)/\(Instr.findKey k (ek Z l) X).run P W=.ok (kH l X 0) W
def Nl:Value->Bool
 |.agg _=>true
 |_=>false
structure cW(P:Program)(t:TypeId)(ti:TI):Prop where
 Fz:∃i,P.info? t=some i/\i.size=ti.ab.length/\∃z,i.zero=some z/\z.cells.toList=ti.ab.map m9
 desc:ti.d.Ok P t ti.ab
 bytes:∀i,P.info? t=some i->i.bytes<=131072
 eq:ti.eq=true->∀(xs ys:List Value)(r:Bool)(x y:Operand)(w:World),iv ti.ab xs->iv ti.ab ys->gH xs ys=some r->
  (do eqGuard .eql t x y (.agg xs.toArray) (.agg ys.toArray);binOp .eql t (.agg xs.toArray) (.agg ys.toArray)).run P w=.ok (.bool r) w/\
  (do eqGuard .neq t x y (.agg xs.toArray) (.agg ys.toArray);binOp .neq t (.agg xs.toArray) (.agg ys.toArray)).run P w=.ok (.bool !r) w
 key:∀k e n ag,ti.d=.map k e n ag->pV P k n ag
 acf:∀i z,P.info? t=some i->i.zero=some z->Nl z=ti.d.isAgg
def fK(P:Program)(o:Ty):Prop:=∀t Z,o t=some Z->cW P t Z
def dC(gl:List (Nat×Nat×Nat))(O:aa):Prop:=∀x∈gl,x.2.1<O.r.length/\∃Z X,(O.rv x.2.1).val=.slice (some ⟨x.1,0,none⟩) Z X
section
variable{P:Program}{o:Ty}{gl:List (Nat×Nat×Nat)}{W:World}
def cW.eM{d:TypeDesc}(h:P.underlying Z=some d):(underlying Z).run P W=.ok d W:=by simp[underlying,h]
def cW.ki(h:cW P Z J):(Go.sizeOf Z).run P W=.ok J.ab.length W:=by
 obtain⟨i,X,U,_⟩:=h.Fz;simp[Go.sizeOf,typeInfo,X,U]
def cW.acg(h:cW P Z J):(isAgg Z).run P W=.ok J.d.isAgg W:=by
 have U:=h.desc;revert U;cases J.d<;>simp only[TD.Ok,TD.isAgg];rintro⟨d,X,⟨R,-⟩,-,-⟩;cases d<;>simp[isAgg,underlying,X]<;>simp at R;rintro⟨m,X⟩;simp[isAgg,underlying,X];intro X;simp[isAgg,underlying,X];intro X;simp[isAgg,underlying,X];intro X;simp[isAgg,underlying,X];rintro⟨F,X,-⟩;simp[isAgg,underlying,X];intro X;simp[isAgg,underlying,X]
def sI(b Z n:Nat):(⟨b,Z,none⟩:Addr).add n=⟨b,Z+n,none⟩:=by
 unfold Addr.add;split;rename_i h;subst h;rfl;rfl
def Us(h:cW P Z J)(Q:sr J M X=some R):
  (part Z (SV.ap n U M).toArray X).run P W=.ok (R.den n U) W:=by
 unfold sr at Q;simp only[part,Sem.run_bind,h.acg,Result.andThen_ok];by_cases N:J.d.isAgg=true;simp only[N,if_true] at Q⊢;split at Q;rename_i I;cases Q;simp only[SV.den,sq,Sem.run_bind,h.ki,Result.andThen_ok,Sem.run_pure];congr 2;apply ayF;simp only[lL,List.map_take,List.map_drop,Array.toList_extract,List.extract_eq_take_drop];simp;cases Q;have L:J.d.isAgg=false:=by simpa using N
 simp only[L,ax3,if_false] at Q⊢;have:(SV.ap n U M).toArray[X]?=some (R.den n U):=by simp[oY,Q]
 rw[this];rfl
def Nn(h:cW P Z J){O:aa}{V:List Nat}{b base:Nat}(U:sr J M X=some R)
  (L:∀j x,M[j]?=some x->W.cell? ⟨b,base+j,none⟩=some (x.den O V)):
  (Instr.loadAt Z (.pointer (some ⟨b,base+X,none⟩))).run P W=.ok (R.den O V) W:=by
 unfold sr at U;simp only[Instr.loadAt,Instr.sureAddr,loadVar,Sem.run_bind,Sem.run_pure,Result.andThen_ok,h.acg];by_cases I:J.d.isAgg=true;simp only[I,if_true] at U⊢;split at U;rename_i F;cases U;simp only[Sem.run_bind,h.ki,Result.andThen_ok,SV.den];have H:(SV.ap O V (sq M X J.ab.length)).length=J.ab.length:=by simp[sq];omega
 have:=run_loadCells_list (P:=P) W ⟨b,base+X,none⟩ (SV.ap O V (sq M X J.ab.length)) (λj R Q=>by
  rw[oY] at Q;cases N:(sq M X J.ab.length)[j]? with
  |none=>rw[N] at Q;cases Q
  |some x=>
   rw[N] at Q;simp at Q;simp only[sq,ayi,ayq] at N;split at N;rw[sI,<-Q,azp];exact L _ _ N;cases N)
 rw[H] at this;rw[this];simp;cases U;have G:J.d.isAgg=false:=by simpa using I
 simp only[G,ax3,if_false] at U⊢;have:=L X R U;simp[this]
end
section
variable{p:List Nat}{q:World}{D:bB}{P:Program}{o:Ty}{gl:List (Nat×Nat×Nat)}{V:List Nat}{O:aa}{s:S}{a:Act}{W:World}
def amN(v:Value):(EY v).den O V=v:=by unfold EY;split<;>simp[SV.den,IE.den,BE.den,RE.den,RE.rv]
def amO(v:Value):(I2 v).den O V=v:=by
 unfold I2;split;simp[SV.den,IE.den];simp[SV.den,BE.den];rename_i Z;simp only[SV.den,lL,ayw];congr 1;have:(SV.den O V∘EY)=id:=by funext v;simp[amN]
 rw[this];simp;simp[SV.den,RE.den,RE.rv]
def bR(R:ao p q D o V O s a W)(N:dC gl O)(x:Operand)(h:(s.ev gl x).cR=false):a.eval x=(s.ev gl x).den O V:=by
 cases x with
 |tmp t=>
  simp only[S.ev,sn,axN] at h⊢;cases Z:s.tmps[t]? with
  |none=>rw[Z] at h;simp[SV.cR] at h
  |some M=>
   rw[Z] at h;simp only[ayo] at h⊢;rcases R.tmps t M Z with rfl|X;simp[SV.cR] at h;simp[Act.eval,X]
 |const v=>simp only[S.ev,Act.eval,amO]
 |global g=>
  simp only[S.ev] at h⊢;split at h;rename_i k w U;obtain⟨X,J,I,L⟩:=N _ (azm U);have Q:=az0 U;simp only[beq_iff_eq] at Q;simp only[SV.den,RE.den,RE.rv,Act.eval,kF,L,IE.den,Q];simp;simp[SV.cR] at h
 |func f=>simp[S.ev,Act.eval,SV.den,SV.ap]
def Jw(Z:BinOp)(k:IntKind)(x y:IE):(Co Z k x y).den O=aR Z k (x.den O) (y.den O):=by unfold Co;split<;>simp[IE.den]
def yw(Z:BinOp)(x y:IE):(mj Z x y).den O=eG Z (x.den O) (y.den O):=by unfold mj;split<;>simp[IE.den,BE.den]
def Jx(x:BE):(Af x).den O= !(x.den O):=by unfold Af;split<;>simp[BE.den]
def Ut(x y:BE):(qM x y).den O=(x.den O&&y.den O):=by unfold qM;split<;>simp[BE.den]
def Uu(x y:BE):(I3 x y).den O=(x.den O==y.den O):=by unfold I3;split<;>simp[BE.den,Jx]<;>cases BE.den O _<;>simp
def amP(m:Bool)(x y:IE):(MK m x y).den O=if m then max (x.den O) (y.den O) else min (x.den O) (y.den O):=by unfold MK;split<;>simp[IE.den]
def FA(i n:IE):(qN i n).den O=true<->0<=i.den O/\i.den O<n.den O:=by
 rw[qN,Ut,yw,yw,axI];exact and_congr decide_eq_true_iff decide_eq_true_iff
def Uv(Z:Bool)(k:IntKind):∀(l:List SV)(e r:IE),Cp Z k e l=some r->
  ((SV.ap O V l).foldlM (if Z then Builtin.max2 else Builtin.min2) (.int k (e.den O)):Sem Value).run P W=.ok (.int k (r.den O)) W
 |[],e,r,h=>by simp[Cp] at h;subst h;simp[SV.ap]
 |.int U x::l,e,r,h=>by
  simp only[Cp] at h;split at h;have X:=Uv Z k l (MK Z e x) r h;rw[amP] at X;simp only[SV.ap,SV.den,List.foldlM_cons,Sem.run_bind];cases Z;simp only[ax3,if_false] at X⊢;simp only[Builtin.min2,Sem.run_pure,Result.andThen_ok];rw[show(if x.den O<e.den O then x.den O else e.den O)=min (e.den O) (x.den O) by omega];exact X;simp only[if_true] at X⊢;simp only[Builtin.max2,Sem.run_pure,Result.andThen_ok];rw[show(if x.den O>e.den O then x.den O else e.den O)=max (e.den O) (x.den O) by omega];exact X;cases h
 |.bool _::_,_,_,h|.ref _::_,_,_,h|.loc _ _::_,_,_,h|.el _ _ _ _::_,_,_,h|.fy _ _ _ _::_,_,_,h|.agg _::_,_,_,h|.bm _::_,_,_,h|.fn _ _::_,_,_,h|.dV _ _::_,_,_,h|.any::_,_,_,h=>by simp[Cp] at h
end
end
variable{t:List Int}
section
section
variable{V:List Nat}{O:aa}
def No{W U:Type}{x:Int}{f:W->U}:∀{X:List Int}{Z:List W},cO x X (Z.map f)=(cO x X Z).map f
 |[],Z=>by simp[cO]
 |_::_,[]=>by simp[cO]
 |k::X,v::Z=>by
  simp only[axV,cO];split;rfl;exact No
def FB{X:Type}{x:Int}:∀{W:List Int}{Z:List X}{v:X},cO x W Z=some v->v∈Z
 |[],Z,v,h=>by simp[cO] at h
 |_::_,[],v,h=>by simp[cO] at h
 |k::W,u::Z,v,h=>by
  simp only[cO] at h;split at h;cases h;simp;exact ayV _ (FB h)
def Uw{e:IE}:∀{W:List Int}{U:List SV}{y:IE},vS e W U=some y->∃w,y.den O=w/\(∀v,cO (e.den O) W U=some v->∃k z,v=.int k z/\w=z.den O)/\(cO (e.den O) W U=none->w=0)
 |[],[],y,h=>by simp[vS] at h;subst h;exact⟨0,rfl,λv h=>by simp[cO] at h,λ_=>rfl⟩
 |k::W,v::U,y,h=>by
  cases v<;>simp only[vS] at h<;>try cases h
  rename_i Q x;cases R:vS e W U with
  |none=>rw[R] at h;cases h
  |some L=>
   rw[R] at h;simp only[axR,axM] at h;subst h;obtain⟨w,P,N,M⟩:=Uw R;simp only[IE.den,BE.den,eG,cO];by_cases X:e.den O=k;refine⟨x.den O,by simp[X],λv Z=> ?_,λZ=> ?_⟩;rw[if_pos X] at Z;cases Z;exact⟨Q,x,rfl,rfl⟩;rw[if_pos X] at Z;cases Z;refine⟨w,by simp[X,P],λv Z=> ?_,λZ=> ?_⟩;rw[if_neg X] at Z;exact N v Z;rw[if_neg X] at Z;exact M Z
 |[],_::_,y,h=>by simp[vS] at h
 |_::_,[],y,h=>by simp[vS] at h
def ach{e:IE}:∀{W:List Int}{U:List SV}{y:BE},xY e W U=some y->∃w,y.den O=w/\(∀v,cO (e.den O) W U=some v->∃z,v=.bool z/\w=z.den O)/\(cO (e.den O) W U=none->w=false)
 |[],[],y,h=>by simp[xY] at h;subst h;exact⟨false,rfl,λv h=>by simp[cO] at h,λ_=>rfl⟩
 |k::W,v::U,y,h=>by
  cases v<;>simp only[xY] at h<;>try cases h
  rename_i x;cases R:xY e W U with
  |none=>rw[R] at h;cases h
  |some M=>
   rw[R] at h;simp only[axR,axM] at h;subst h;obtain⟨w,Q,P,N⟩:=ach R;simp only[BE.den,IE.den,eG,cO];by_cases X:e.den O=k;refine⟨x.den O,by simp[X],λv Z=> ?_,λZ=> ?_⟩;rw[if_pos X] at Z;cases Z;exact⟨x,rfl,rfl⟩;rw[if_pos X] at Z;cases Z;refine⟨w,by simp[X,Q],λv Z=> ?_,λZ=> ?_⟩;rw[if_neg X] at Z;exact P v Z;rw[if_neg X] at Z;exact N Z
 |[],_::_,y,h=>by simp[xY] at h
 |_::_,[],y,h=>by simp[xY] at h
def aci{x:Int}:∀{ks:List Int}{Z:List SV},Z.all E1=true->(∀v,cO x ks Z=some v->gW x ks (SV.ap O V Z)=v.den O V)/\(cO x ks Z=none->gW x ks (SV.ap O V Z)=.nilFunc)
 |[],Z,_=>⟨λv h=>by simp[cO] at h,λ_=>by simp[gW]⟩
 |_::_,[],_=>⟨λv h=>by simp[cO] at h,λ_=>by simp[gW,SV.ap]⟩
 |k::ks,u::Z,X=>by
  simp only[azx,axI] at X;obtain⟨R,Q⟩:=aci (ks:=ks) X.2;simp only[cO,SV.ap,gW];by_cases U:x=k;simp only[U,if_true];refine⟨λv W=> ?_,λW=>by cases W⟩;cases W;have P:fG (u.den O V)=true:=by
   have:=X.1;unfold E1 at this;split at this;rfl;rfl;cases this
  rw[if_pos P];simp only[U,if_false];exact⟨R,Q⟩
def amQ{e:IE}{N:CT}(h:TS e t M N=some R):(∀v,cO (e.den O) t M=some v->R.den O V=v.den O V)/\(cO (e.den O) t M=none->R.den O V=m9 N):=by
 unfold TS at h;split at h;rename_i k;split at h;rename_i Q;cases X:vS e t M with
 |none=>rw[X] at h;cases h
 |some y=>
  rw[X] at h;simp only[axR,axM] at h;subst h;obtain⟨x,W,U,P⟩:=Uw (O:=O) X;refine⟨λv Z=> ?_,λZ=>by simp only[SV.den,W,P Z,m9]⟩;obtain⟨L,z,rfl,rfl⟩:=U v Z;have:=axU.1 Q _ (FB Z);simp at this;subst this;simp only[SV.den,W]
 cases h;cases X:xY e t M with
 |none=>rw[X] at h;cases h
 |some y=>
  rw[X] at h;simp only[axR,axM] at h;subst h;obtain⟨x,W,U,P⟩:=ach (O:=O) X;refine⟨λv Z=> ?_,λZ=>by simp only[SV.den,W,P Z,m9]⟩;obtain⟨z,rfl,rfl⟩:=U v Z;simp only[SV.den,W]
 split at h;rename_i Q;simp only[axI] at Q;cases h;obtain⟨W,U⟩:=aci (O:=O) (V:=V) (x:=e.den O) (ks:=t) Q.1;exact⟨λv Z=>by simp only[SV.den];exact W v Z,λZ=>by simp only[SV.den,m9];exact U Z⟩;cases h;cases h
def Np{e:IE}{U:List Int}{R:List (List SV)}:∀{ab:List CT}{j:Nat}{l:List SV},ya e U R j ab=some l->
  l.length=ab.length/\(∀Z,cO (e.den O) U R=some Z->Z.length=j+ab.length->SV.ap O V l=SV.ap O V (Z.drop j))/\(cO (e.den O) U R=none->SV.ap O V l=ab.map m9)
 |[],j,l,h=>by
  simp[ya] at h;subst h;exact⟨rfl,λZ _ W=>by rw[aAb (by simp at W;omega)],λ_=>rfl⟩
 |c::ab,j,l,h=>by
  simp only[ya] at h;split at h;rename_i v r M L;cases h;obtain⟨J,I,H⟩:=Np L;obtain⟨Q,P⟩:=amQ (O:=O) (V:=V) M;rw[No] at Q P;refine⟨by simp[J],λZ X W=> ?_,λX=> ?_⟩;have N:j<Z.length:=by simp at W;omega
  rw[ayG N];simp only[SV.ap];rw[I Z X (by simp at W⊢;omega),Q _ (by rw[X];rfl)];simp[axN,N];simp only[SV.ap,axV];rw[H X,P (by rw[X];rfl)];cases h
def Nq{e:IE}:∀{Z:List Int}{X:Type}{W:List X},Z.length=W.length->(Cs e Z).den O=(cO (e.den O) Z W).isSome
 |[],X,W,h=>by simp[Cs,BE.den,cO]
 |k::Z,X,[],h=>by simp at h
 |k::Z,X,v::W,h=>by
  simp only[Cs,BE.den,IE.den,eG,cO];by_cases U:e.den O=k;simp[U];simp only[U,if_false,beq_iff_eq];exact Nq (by simpa using h)
def Nr(X:∀r:RE,r.Cm=true->fG (r.den O)=true)(h:vT J R=true):R.den O V=if J.d.isAgg then .agg (SV.ap O V R.cells).toArray else(SV.ap O V R.cells).headD undef:=by
 simp only[vT,axI] at h;obtain⟨⟨-,W⟩,Z⟩:=h;cases R<;>simp only[ax0] at Z<;>rw[Z]<;>rfl
def yz(h:y=false->M.length=1):(oP y M).den O V=if y then .agg (SV.ap O V M).toArray else(SV.ap O V M).headD undef:=by
 cases y;obtain⟨x,rfl⟩:=aye.1 (h rfl);rfl;rfl
def Ns{x:Int}:∀{X:List Int}{Z:List SV}{v:SV},cO x X Z=some v->fG (v.den O V)=true->gW x X (SV.ap O V Z)=v.den O V
 |[],Z,v,h,_=>by simp[cO] at h
 |_::_,[],v,h,_=>by simp[cO] at h
 |k::X,u::Z,v,h,U=>by
  simp only[cO] at h;simp only[SV.ap,gW];split at h;rename_i W;cases h;rw[if_pos W,if_pos U];rename_i W;rw[if_neg W];exact Ns h U
def amR(h:vT J R=true):(J.d.isAgg=false->J.ab.length=1)/\R.cells.length=J.ab.length:=by
 simp only[vT,axI,beq_iff_eq] at h;obtain⟨⟨Z,U⟩,X⟩:=h;refine⟨λW=> ?_,Z⟩;cases R<;>simp only[SV.cells,aAh] at Z<;>first|exact Z.symm|(rw[W] at X;cases X)
def acj(Q:∀r:RE,r.Cm=true->fG (r.den O)=true){e:IE}{p:SV}(h:MN J e t M=some R)(X:cO (e.den O) t M=some p):R.den O V=p.den O V:=by
 unfold MN at h;split at h;rename_i P;cases Z:ya e t (M.map SV.cells) 0 J.ab with
 |none=>rw[Z] at h;cases h
 |some l=>
  rw[Z] at h;cases h;obtain⟨N,L,-⟩:=Np (O:=O) (V:=V) Z;have I:=FB X;have W:=axU.1 P p I;obtain⟨H,G⟩:=amR W;have U:=L p.cells (by rw[No,X];rfl) (by rw[G,ayg]);rw[aAY] at U;rw[yz (λF=>by rw[N];exact H F),Nr Q W,U]
 cases h
def ack{Z:Type}{x:Int}{f:Nat->Z}(N:0<=x)(M:x<(X:Int)):cO x (yb X) ((ax6 X).map f)=some (f x.toNat):=by
 unfold yb;have W:∀(m k:Nat),(k:Int)<=x->x<((k+m:Nat):Int)->cO x ((ay5 k m).map λi:Nat=>(i:Int)) ((ay5 k m).map f)=some (f x.toNat):=by
  intro m;induction m with
  |zero=>intro k U R;omega
  |succ m Q=>
   intro k U R;simp only[azV,axV,cO];split;rename_i P;subst P;simp;exact Q (k+1) (by omega) (by omega)
 rw[azz];exact W X 0 (by omega) (by omega)
def Ux{W N:Type}{f:W->Option N}{x:Int}:∀{U:List Int}{vs:List W}{X:List N}{v:W},Ah (vs.map f)=some X->cO x U vs=some v->∃p,f v=some p/\cO x U X=some p
 |[],vs,X,v,_,h=>by simp[cO] at h
 |_::_,[],X,v,_,h=>by simp[cO] at h
 |k::U,u::vs,X,v,Z,h=>by
  simp only[axV] at Z;cases R:f u with
  |none=>rw[R] at Z;cases Z
  |some p=>
   rw[R] at Z;simp only[Ah] at Z;cases Q:Ah (vs.map f) with
   |none=>rw[Q] at Z;cases Z
   |some M=>
    rw[Q] at Z;simp only[axR,axM] at Z;subst Z;simp only[cO] at h⊢;split at h;rename_i P;cases h;rw[if_pos P];exact⟨p,R,rfl⟩;rename_i P;rw[if_neg P];exact Ux Q h
def acl(h:ug M=some X)(W:R∈M):∃Z,R=.loc X Z:=by
 unfold ug at h;split at h;rename_i j o r;split at h;rename_i U;cases h;have:=axU.1 U R W;split at this;rename_i Q Z;simp only[beq_iff_eq] at this;subst this;exact⟨Z,rfl⟩;cases this;cases h;cases h
end
end
variable{Q:World}{k:RK}{H:RV}{h:List RV}{L:Oper}{G:Operand}
section
def PR.gives(O:aa)(v:SV):PR->Prop
 |.ok x=>v=x
 |.az b x=>b.den O=true/\v=x
 |_=>False
def acm{ty:Ty}(h:aX Q ty k H):cd k H=H:=by
 cases h with
 |sl e A R N Z=>rfl
 |str s=>rfl
 |aq H X=>simp[cd,X]
 |own e U h M=>cases h;rfl
 |dead U h=>simp[cd,h]
 |mr L Z=>rfl
def acn{ty:Ty}(k:RK):aX Q ty k (cd k default):=by
 cases k with
 |sl e=>
  refine aX.sl e none 0 0 [] rfl (axQ _) ?_ ?_ ?_ ?_<;>(intro i;intros;rename_i h;simp at*)
 |str=>exact aX.str _
 |aq=>exact aX.aq _ rfl
 |own e=>
  refine aX.own e _ (aX.sl e none 0 0 [] rfl (axQ _) ?_ ?_ ?_ ?_) (λl c h=>by cases h;rfl)<;>(intro i;intros;rename_i h;simp at*)
 |dead=>exact aX.dead _ rfl
 |mr Z=>
  refine aX.mr Z [] ?_ ?_ ?_ ?_<;>(intro i;intros;rename_i h;simp at*)
def amS(k:RK)(v:RV):fG (cd k v).val=true:=by
 cases k;simp only[cd];split;rename_i h;rw[h];rfl;rfl;simp only[cd];split<;>rfl;simp only[cd];split;rename_i h;exact h;rfl;simp only[cd];split;rename_i h;rw[h];rfl;rfl;simp only[cd];split;rename_i h;exact h;rfl;simp only[cd];split;rename_i h;rw[h];rfl;rfl
def FC{ty:Ty}(h:aX Q ty k H):fG H.val=true:=by
 cases h with
 |sl e A R N Z=>rfl
 |str s=>rfl
 |aq H X=>exact X
 |own e U h M=>cases h;rfl
 |dead U h=>exact h
 |mr L Z=>rfl
def aco{ty:Ty}(h:aX Q ty k H):aX Q ty k.rd H:=by
 cases h with
 |own e E h C=>exact h
 |sl e A M L Z X U R N J I=>exact aX.sl e A M L Z X U R N J I
 |str s=>exact aX.str s
 |aq H G=>exact aX.aq H G
 |dead _ h=>exact aX.dead _ h
 |mr F Z X U R N=>exact aX.mr F Z X U R N
def amT{ty:Ty}(h:aX Q ty (.sl Z) H)(i:Int)(j:Nat)(k:RK)(X:Cq (ba ty (.sl Z))[j]?=k):aX Q ty k (cd k (cellAt H.rows i j)):=by
 cases h with
 |sl Z A y x I w u G F E C=>
  simp only[RV.jz,cellAt];cases U:I[i.toNat]? with
  |none=>simp only[axN,U,aAe,List.getElem?_nil];exact acn k
  |some R=>
   simp only[axN,U,ayo];cases M:R[j]? with
   |none=>simp only[aAe];exact acn k
   |some c=>
    simp only[ayo];have t:j<(ba ty (.sl Z)).length:=by
     have:=(G _ R U).1;have:=(axJ.1 M).1;omega
    cases N:(ba ty (.sl Z))[j]? with
    |none=>rw[ayC] at N;omega
    |some B=>
     rw[N] at X;cases B with
     |int L=>
      simp only[Cq] at X;subst X;obtain⟨n,J⟩:=F _ _ R c L U M N;simp only[cd,J,fG,if_true];exact aX.aq _ rfl
     |bool=>
      simp only[Cq] at X;subst X;obtain⟨n,J⟩:=E _ _ R c U M N;simp only[cd,J,fG,if_true];exact aX.aq _ rfl
     |aq z L=>
      simp only[Cq] at X;subst X;have:=C _ _ R c z L U M N;rw[acm this];exact this
section
variable{g:List Nat}{m:World}{D:bB}{P:Program}{ty:Ty}{B:List (Nat×Nat×Nat)}{V:List Nat}{O:aa}{s:S}{a:Act}{W:World}
def Uy(R:ao g m D ty V O s a W)(h:s.rs[X]?=some k):aX W ty k (O.rv X):=by
 have Z:X<O.r.length:=by rw[R.er];exact(axJ.1 h).1
 have:=(R.mem.ref X k O.r[X] h (axK Z)).1;simpa[aa.rv,Z] using this
def nZ(R:ao g m D ty V O s a W):∀{r:RE}{e:RK},e≠ .aq->r.kind ty s=e->aX W ty e (r.rv O)
 |.v k,e,Z,h=>by
  simp only[RE.kind,axN] at h;cases X:s.rs[k]? with
  |none=>rw[X] at h;exact absurd (show e=.aq from h.symm) Z
  |some q=>rw[X] at h;simp at h;subst h;exact aco (Uy R X)
 |.cell r i j N,e,Z,h=>by
  simp only[RE.kind] at h;split at h;rename_i M U;split at h;rename_i Q;subst h;exact amT (nZ R (by simp) U) (i.den O) j _ Q;exact absurd h.symm Z;exact absurd h.symm Z
 |.k v,e,Z,h=>by
  cases v<;>simp only[RE.kind] at h
  case string s=>subst h;exact aX.str s
  all_goals exact absurd h.symm Z
def Jy(R:ao g m D ty V O s a W){r:RE}(h:r.kind ty s=.sl Z):∃x l c,r.den O=.slice x l c:=by
 have:=nZ R (by simp) h;unfold RE.den;revert this;generalize r.rv O=v;intro X;cases X with
 |sl Z A U Q N=>exact⟨A,U,Q,rfl⟩
def At(R:ao g m D ty V O s a W){r:RE}(h:r.kind ty s=.str):∃x,r.den O=.string x:=by
 have:=nZ R (by simp) h;unfold RE.den;revert this;generalize r.rv O=v;intro Z;cases Z with
 |str s=>exact⟨s,rfl⟩
def amU(Z:ao g m D ty V O s a W){c:CT}{y:SV}{e:BE}(h:EZ ty s c R y=some e):yv c (R.den O V)/\yv c (y.den O V)/\yu (R.den O V) (y.den O V)=some (e.den O):=by
 unfold EZ at h;split at h;split at h;rename_i X;obtain⟨rfl,rfl⟩:=X;cases h;exact⟨rfl,rfl,by simp[SV.den,yu,yw,eG]⟩;cases h;cases h;exact⟨trivial,trivial,by simp[SV.den,yu,Uu]⟩;split at h;rename_i X;cases h;obtain⟨p,U⟩:=At Z X.1;obtain⟨q,Q⟩:=At Z X.2;simp only[SV.den,U,Q];unfold RE.den at U Q;exact⟨trivial,trivial,by simp[yu,BE.den,U,Q,nV]⟩;cases h;cases h
def acp(R:ao g m D ty V O s a W):∀{Z:List CT}{x y:List SV}{e:BE},nS ty s Z x y=some e->iv Z (SV.ap O V x)/\iv Z (SV.ap O V y)/\gH (SV.ap O V x) (SV.ap O V y)=some (e.den O)
 |[],[],[],e,h=>by simp[nS] at h;subst h;exact⟨trivial,trivial,by simp[SV.ap,gH,BE.den]⟩
 |c::Z,x::H,y::G,e,h=>by
  simp only[nS] at h;split at h;rename_i a b X U;cases h;obtain⟨Q,N,M⟩:=amU R X;obtain⟨L,J,I⟩:=acp R U;exact⟨⟨Q,L⟩,⟨N,J⟩,by simp only[SV.ap,gH,M,I,Ut]⟩;cases h
 |[],[],_::_,e,h=>by simp[nS] at h
 |[],_::_,_,e,h=>by simp[nS] at h
 |_::_,[],_,e,h=>by simp[nS] at h
 |_::_,_::_,[],e,h=>by simp[nS] at h
def acq(R:ao g m D ty V O s a W){Z:Option TI}{y:List SV}{e:BE}(h:E0 ty s Z M y=some e):∃ab d,Z=some ⟨d,ab,true⟩/\iv ab (SV.ap O V M)/\iv ab (SV.ap O V y)/\gH (SV.ap O V M) (SV.ap O V y)=some (e.den O):=by
 unfold E0 at h;split at h;exact⟨_,_,rfl,acp R h⟩;cases h
def acr(J:aX W ty (.sl Z) H)(i:Int)(t:0<=i)(I:i<lenOf H.val):
  ∃U b R,H.rows[i.toNat]?=some U/\U.length=(ba ty (.sl Z)).length/\(∃l c,H.val=.slice (some ⟨b,R,none⟩) l c)/\(∀(j:Nat)(c:RV),U[j]?=some c->W.cell? ⟨b,R+i.toNat*(ba ty (.sl Z)).length+j,none⟩=some c.val)/\
   (∀(j:Nat)(c:RV)(Q:CT),U[j]?=some c->(ba ty (.sl Z))[j]?=some Q->match Q with
    |.int k=>∃n,c.val=.int k n
    |.bool=>∃x,c.val=.bool x
    |.aq _ k=>aX W ty k c):=by
 cases J with
 |sl Z A G F N r q E C B y=>
  simp only[RV.kf,lenOf] at I;have w:i.toNat<N.length:=by omega
  have X:N[i.toNat]?=some N[i.toNat]:=axK w;obtain⟨v,b,R,rfl,p,u⟩:=E i.toNat _ X;refine⟨N[i.toNat],b,R,X,v,⟨G,F,rfl⟩,u,λj c Q M L=> ?_⟩;cases Q with
  |int k=>exact C _ j _ c k X M L
  |bool=>exact B _ j _ c X M L
  |aq z k=>exact y _ j _ c z k X M L
def amV{r:RE}{i:IE}{j:Nat}{Z:CT}(Q:(r.rv O).rows[(i.den O).toNat]?=some h)(N:h[j]?=some H)(X:match Z with
    |.int k=>∃n,H.val=.int k n
    |.bool=>∃y,H.val=.bool y
    |.aq _ k=>aX W ty k H):
  (Ad r i j Z).den O V=H.val:=by
 have U:cellAt (r.rv O).rows (i.den O) j=H:=by simp[cellAt,Q,N]
 cases Z with
 |int M=>obtain⟨n,R⟩:=X;simp[Ad,SV.den,IE.den,U,bg,R]
 |bool=>obtain⟨n,R⟩:=X;simp[Ad,SV.den,BE.den,U,gV,R]
 |aq z e=>simp only[Ad,SV.den,RE.den,RE.rv,U];rw[acm X]
def qV(R:ao g m D ty V O s a W):∀(r:RE),r.Cm=true->fG (r.den O)=true
 |.v k,_=>by
  simp only[RE.den,RE.rv];by_cases Z:k<s.rs.length;exact FC (Uy R (axK Z));have:O.rv k=default:=by
   have:=R.er;simp[aa.rv,show¬k<O.r.length by omega]
  rw[this];rfl
 |.cell r i j k,_=>amS k _
 |.k w,h=>h
def amW(X:ao g m D ty V O s a W)(C:fK P ty)(hg:dC B O)(J:L.op=.load Z G)(hk:(s.ev B G).cR=false)
  (h:(bz ty B s (.load Z G)).gives O R):(execOp a.eval L).run P W=.ok (.value (R.den O V)) W:=by
 have he:=bR X hg G hk;simp only[execOp,J,Sem.run_bind,he];simp only[bz] at h;split at h;rename_i A i I H F;rw[F];split at h;rename_i p E U;split at h;rename_i w Q;cases h;have:=Nn (P:=P) (W:=W) (C _ _ H) (O:=O) (V:=V) (b:=ad V i) (base:=0) Q (λj y n=>by
  obtain⟨U,J⟩:=ut U;have:=X.mem.box i p E U;rw[qU J] at this;simp[World.cell?,this,oY,n])
 simp only[ayg] at this;simp only[SV.den,this,Result.andThen_ok,Sem.run_pure];exact h.elim;exact h.elim;rename_i A r w i I H F;rw[F];split at h;rename_i e a2;split at h;exact h.elim;rename_i hw;split at h;rename_i y Q;obtain⟨U,rfl⟩:=h;rw[FA] at U;simp only[IE.den] at U;have hh:=nZ X (by simp) a2;have a3:w=(ba ty (.sl e)).length:=by simpa using Eq.symm (by simpa using hw:(ba ty (.sl e)).length=w)
 obtain⟨k,b,ag,h1,a9,⟨l,c,h3⟩,h4,h5⟩:=acr hh (i.den O) U.1 U.2;have:=Nn (P:=P) (W:=W) (C _ _ H) (O:=O) (V:=V) (b:=b) (base:=ag+(i.den O).toNat*w) Q (λj z M=>by
  simp only[axO] at M;cases f:(ax6 w)[j]? with
  |none=>rw[f] at M;cases M
  |some N=>
   have a4:j<w/\N=j:=by
    have:=axJ.1 f;obtain⟨q1,q2⟩:=this;simp at q1 q2;exact⟨q1,q2.symm⟩
   obtain⟨bb,rfl⟩:=a4;rw[f] at M;simp only[axR,axM] at M;have a5:(ba ty (.sl e))[N]?=some ((ba ty (.sl e)).getD N .bool):=by
    rw[axN,axK (by omega)];rfl
   have a6:N<k.length:=by omega
   have d:k[N]?=some k[N]:=axK a6;rw[<-M,amV (W:=W) (ty:=ty) h1 d (h5 N _ _ d a5)];rw[a3];exact h4 N _ d)
 have hA:kF (RE.den O r) ((i.den O).toNat*w+I)=⟨b,ag+(i.den O).toNat*w+I,none⟩:=by
  simp only[RE.den,h3,kF,azp]
 simp only[SV.den,hA,this,Result.andThen_ok,Sem.run_pure];exact h.elim;exact h.elim;rename_i A e ks vs H F;rw[F];split at h;rename_i p E U;split at h;rename_i w Q;split at h;rename_i al;obtain⟨an,rfl⟩:=h;simp only[beq_iff_eq] at al;cases ac:ug vs with
 |none=>rw[ac] at U;cases U
 |some i=>
  rw[ac] at U;simp only[azW] at U;rw[Nq al] at an;obtain⟨u,hu⟩:=ax1.1 an;obtain⟨I,rfl⟩:=acl ac (FB hu);cases af:Ah (vs.map (TV A E)) with
  |none=>rw[af] at Q;cases Q
  |some ps=>
   rw[af] at Q;simp only[azW] at Q;obtain⟨q,a0,a7⟩:=Ux af hu;simp only[TV] at a0;have a1:=Nn (P:=P) (W:=W) (C _ _ H) (O:=O) (V:=V) (b:=ad V i) (base:=0) a0 (λj y n=>by
    obtain⟨U,J⟩:=ut U;have:=X.mem.box i p E U;rw[qU J] at this;simp[World.cell?,this,oY,n])
   simp only[ayg] at a1;have a8:(SV.dI e ks vs).den O V=.pointer (some ⟨ad V i,I,none⟩):=by
    simp only[SV.den];rw[Ns hu rfl];rfl
   rw[a8,acj (qV X) Q a7];simp only[a1,Result.andThen_ok,Sem.run_pure]
 exact h.elim;exact h.elim;exact h.elim;exact h.elim
def amX(U:ao g m D ty V O s a W)(l:fK P ty)(e:dC B O)(d:L.op=.fieldAddr Z G X)(c:(s.ev B G).cR=false)
  (h:(bz ty B s (.fieldAddr Z G X)).gives O R):(execOp a.eval L).run P W=.ok (.value (R.den O V)) W:=by
 have he:=bR U e G c;have k:∀(N:List (Nat×TypeId))(ab:List CT)(q:Bool)(J:Nat)(H:TypeId)(Q:TI)(A:Addr),ty Z=some ⟨.struct N,ab,q⟩->N[X]?=some (J,H)->ty H=some Q->(Q.ab.length==0)=false->A.spot=none->
   (Instr.fieldAt Z (.pointer (some A)) X).run P W=.ok (.pointer (some ⟨A.block,A.off+J,none⟩)) W:=by
  intro N ab q J H Q A h1 I h3 h4 j;obtain⟨F,hF,ac⟩:=(l _ _ h1).desc;rw[<-ac,axO] at I;cases M:F.toList[X]? with
  |none=>rw[M] at I;cases I
  |some fd=>
   rw[M] at I;simp only[axR,axM,azq] at I;obtain⟨rfl,rfl⟩:=I;have af:F[X]?=some fd:=by simpa using M
   have ag:¬Q.ab.length=0:=by simpa using h4
   obtain⟨b,of,sp⟩:=A;simp only at j;subst j;simp only[Instr.fieldAt,Instr.sureAddr,fieldPlace,Sem.run_bind,cW.eM hF,Result.andThen_ok,af,Sem.run_pure,(l _ _ h3).ki,if_neg ag,Sem.run_ite,sI]
 simp only[execOp,d,Sem.run_bind,he];simp only[bz] at h;split at h;rename_i N ab q i J E C;rw[C];split at h;rename_i z y M;split at h;rename_i Q u;split at h;exact h.elim;rename_i p;cases h;simp only[SV.den,k N ab q z y Q ⟨ad V i,J,none⟩ E M u (by simpa using p) rfl,Result.andThen_ok,Sem.run_pure];exact h.elim;exact h.elim;rename_i N ab q r w i J E C;rw[C];split at h;rename_i z y M;split at h;rename_i Q u;split at h;exact h.elim;rename_i p;cases h;have al:∀R n,(kF R n).spot=none:=by intro R n;unfold kF;split<;>rfl
 simp only[SV.den,k N ab q z y Q _ E M u (by simpa using p) (al _ _),Result.andThen_ok,Sem.run_pure];congr 4;unfold kF;split;simp only[Addr.mk.injEq,and_true,true_and];omega;simp only[Addr.mk.injEq,and_true,true_and];omega;exact h.elim;exact h.elim;exact h.elim
end
end
section
section
variable{C:List Nat}{E:World}{D:bB}{P:Program}{u:Ty}{B:List (Nat×Nat×Nat)}{V:List Nat}{O:aa}{s:S}{a:Act}{W:World}
def amY(U:ao C E D u V O s a W)(M:fK P u)(J:dC B O)(I:L.op=.field Z G X)(H:(s.ev B G).cR=false)
  (h:(bz u B s (.field Z G X)).gives O R):(execOp a.eval L).run P W=.ok (.value (R.den O V)) W:=by
 have A:=bR U J G H;simp only[execOp,I,Sem.run_bind,A];simp only[bz] at h;split at h;rename_i i ab q l z w;rw[w];split at h;rename_i g e Q;split at h;rename_i d r;split at h;rename_i y p;cases h;obtain⟨F,n,m⟩:=(M _ _ z).desc;rw[<-m,axO] at Q;cases N:F.toList[X]? with
 |none=>rw[N] at Q;cases Q
 |some k=>
  rw[N] at Q;simp only[axR,axM,azq] at Q;obtain⟨rfl,rfl⟩:=Q;have j:F[X]?=some k:=by simpa using N
  simp only[SV.den,Instr.field,Sem.run_bind,cW.eM n,Result.andThen_ok,j,asAgg,Sem.run_pure,Us (M _ _ r) p]
 exact h.elim;exact h.elim;exact h.elim;exact h.elim
def amZ(X:ao C E D u V O s a W)(z:fK P u)(hg:dC B O){y:Operand}(ho:L.op=.indexAddr Z G y)(hk:(s.ev B G).cR=false)(af:(s.ev B y).cR=false)
  (h:(bz u B s (.indexAddr Z G y)).gives O R):(execOp a.eval L).run P W=.ok (.value (R.den O V)) W:=by
 have he:=bR X hg G hk;have ag:=bR X hg y af;have g:∀(n:Nat)(e:TypeId)(ab:List CT)(q:Bool)(Q:TI)(A:Addr)(k:IntKind)(m:Int),u Z=some ⟨.arr n e,ab,q⟩->u e=some Q->0<=m->m<n->A.spot=none->
   (Instr.indexAt Z (.pointer (some A)) (.int k m)).run P W=.ok (.pointer (some ⟨A.block,A.off+m.toNat*Q.ab.length,none⟩)) W:=by
  intro n e ab q Q A k m h1 h2 h3 h4 h5;have f:P.underlying Z=some (.array n e):=(z _ _ h1).desc;obtain⟨b,of,sp⟩:=A;simp only at h5;subst h5;simp only[Instr.indexAt,asIntOf,Sem.run_bind,Sem.run_pure,Result.andThen_ok,cW.eM f,Instr.sureAddr,h3,h4,and_self,if_true,(z _ _ h2).ki,sI]
 simp only[execOp,ho,Sem.run_bind,he,ag];simp only[bz] at h;split at h;rename_i n e ab q i F k m M I H;rw[I,H];split at h;rename_i Q J;split at h;rename_i N;cases h;simp only[axI,decide_eq_true_eq] at N;simp only[SV.den,IE.den,g n e ab q Q ⟨ad V i,F,none⟩ k m M J N.1 N.2 rfl,Result.andThen_ok,Sem.run_pure];exact h.elim;exact h.elim;rename_i n e ab q r w i F k m M I H;rw[I,H];have d:∀R n,(kF R n).spot=none:=by intro R n;unfold kF;split<;>rfl
 have ac:∀(R:Value)(p q:Nat),(⟨(kF R p).block,(kF R p).off+q,none⟩:Addr)=kF R (p+q):=by intro R p q;unfold kF;split<;>simp[azp]
 split at h;rename_i Q J;split at h;rename_i hc;obtain⟨U,rfl⟩:=h;rw[FA] at U;simp only[axI,beq_iff_eq] at hc;obtain⟨⟨⟨h1,h2⟩,h3⟩,-⟩:=hc;subst h1 h2 h3;simp only[IE.den] at U;simp only[SV.den,g n e ab q Q _ k (m.den O) M J U.1 U.2 (d _ _),Result.andThen_ok,Sem.run_pure,ac];simp[IE.den];split at h;rename_i m;split at h;rename_i N;cases h;simp only[axI,decide_eq_true_eq] at N;simp only[SV.den,IE.den,g n e ab q Q _ k m M J N.1 N.2 (d _ _),Result.andThen_ok,Sem.run_pure,ac,azp];exact h.elim;exact h.elim;exact h.elim;rename_i n e ab q r w i F k m a0 M I H;rw[I,H];have d:∀R n,(kF R n).spot=none:=by intro R n;unfold kF;split<;>rfl
 have ac:∀(R:Value)(p q:Nat),(⟨(kF R p).block,(kF R p).off+q,none⟩:Addr)=kF R (p+q):=by intro R p q;unfold kF;split<;>simp[azp]
 split at h;rename_i Q J;split at h;rename_i N;cases h;simp only[axI,decide_eq_true_eq] at N;simp only[SV.den,IE.den,g n e ab q Q _ k m M J N.1 N.2 (d _ _),Result.andThen_ok,Sem.run_pure,ac,azp];exact h.elim;exact h.elim;rename_i e ab q r k m M I H;rw[I,H];split at h;rename_i Q e' J al;obtain⟨U,rfl⟩:=h;rw[FA] at U;simp only[IE.den] at U;have hh:=acr (nZ X (by simp) al) (m.den O) U.1 U.2;obtain⟨a1,b,F,-,-,⟨l,c,hv⟩,-⟩:=hh;have f:P.underlying Z=some (.slice e):=(z _ _ M).desc;rw[hv] at U;simp only[lenOf] at U;simp only[SV.den,RE.den,hv,Instr.indexAt,asIntOf,Sem.run_bind,Sem.run_pure,Result.andThen_ok,cW.eM f,U.1,U.2,and_self,if_true,(z _ _ J).ki,sI,kF,ay4];exact h.elim;rename_i e ab q i F a2 a3 k m M I H;rw[I,H];split at h;rename_i Q J;split at h;rename_i N;cases h;simp only[axI,decide_eq_true_eq] at N;have f:P.underlying Z=some (.slice e):=(z _ _ M).desc;simp only[SV.den,IE.den,Instr.indexAt,asIntOf,Sem.run_bind,Sem.run_pure,Result.andThen_ok,cW.eM f,N.1,N.2,and_self,if_true,(z _ _ J).ki,sI];exact h.elim;exact h.elim;rename_i n e ab q i F k m a4 M I H;rw[I,H];split at h;rename_i Q J;obtain⟨U,rfl⟩:=h;rw[FA] at U;simp only[IE.den] at U;have an:(SV.dI m (yb n) ((ax6 n).map λj=>SV.loc i (F+j*Q.ab.length))).den O V=.pointer (some ⟨ad V i,F+(m.den O).toNat*Q.ab.length,none⟩):=by
  simp only[SV.den];rw[Ns (ack U.1 U.2) rfl];rfl
 rw[an];simp only[SV.den,g n e ab q Q ⟨ad V i,F,none⟩ k (m.den O) M J U.1 U.2 rfl,Result.andThen_ok,Sem.run_pure];exact h.elim;exact h.elim
def am0(X:ao C E D u V O s a W)(Q:fK P u)(c:dC B O){y:Operand}(b:L.op=.index Z G y)(hk:(s.ev B G).cR=false)(ac:(s.ev B y).cR=false)
  (h:(bz u B s (.index Z G y)).gives O R):(execOp a.eval L).run P W=.ok (.value (R.den O V)) W:=by
 have he:=bR X c G hk;have af:=bR X c y ac;simp only[execOp,b,Sem.run_bind,he,af];simp only[bz] at h;split at h;rename_i n e ab q l k m N M J;rw[M,J];split at h;rename_i A I;split at h;rename_i w;split at h;rename_i z hp;cases h;simp only[axI,decide_eq_true_eq] at w;have H:P.underlying Z=some (.array n e):=(Q _ _ N).desc;simp only[SV.den,IE.den,Instr.index,asIntOf,Sem.run_bind,Sem.run_pure,Result.andThen_ok,cW.eM H,w.1,w.2,and_self,if_true,(Q _ _ I).ki,Us (Q _ _ I) hp];exact h.elim;exact h.elim;exact h.elim;rename_i n e ab q l k m a1 N M J;rw[M,J];split at h;rename_i A I;split at h;rename_i z F;obtain⟨U,rfl⟩:=h;rw[FA] at U;simp only[IE.den] at U;cases i:Ah ((ax6 n).map λj=>sr A l (j*A.ab.length)) with
 |none=>rw[i] at F;cases F
 |some ps=>
  rw[i] at F;simp only[azW] at F;obtain⟨p,ag,al⟩:=Ux (vs:=ax6 n) i (by have:=ack (f:=λj=>j) U.1 U.2;simpa using this);have H:P.underlying Z=some (.array n e):=(Q _ _ N).desc;rw[acj (qV X) F al];simp only[SV.den,Instr.index,asIntOf,Sem.run_bind,Sem.run_pure,Result.andThen_ok,cW.eM H,U.1,U.2,and_self,if_true,(Q _ _ I).ki,Us (Q _ _ I) ag]
 exact h.elim;exact h.elim;rename_i ab q r k m N M J;rw[M,J];split at h;rename_i an;obtain⟨U,rfl⟩:=h;rw[FA] at U;obtain⟨g,d⟩:=At X an;unfold RE.den at d;have H:P.underlying Z=some .string:=(Q _ _ N).desc;simp only[IE.den,d,lenOf] at U;have a0:(m.den O).toNat<g.size:=by omega
 simp only[SV.den,RE.den,d,IE.den,Instr.index,asIntOf,Sem.run_bind,Sem.run_pure,Result.andThen_ok,cW.eM H,U.1,if_true,Ar];have:g[(m.den O).toNat]?=some g[(m.den O).toNat]:=by simp[a0]
 rw[this];rfl;exact h.elim;exact h.elim
def am1(Z:BinOp)(X:MJ Z=true)(t:TypeId)(k:IntKind)(m n:Int):(binOp Z t (.int k m) (.int k n)).run P W=.ok (.bool (eG Z m n)) W:=by
 cases Z<;>simp[MJ] at X<;>simp[binOp,Op.intCmp,eG]
def am2(Z:BinOp)(X:TP Z=true)(t:TypeId)(k:IntKind)(m n:Int):(binOp Z t (.int k m) (.int k n)).run P W=.ok (.int k (aR Z k m n)) W:=by
 cases Z<;>simp[TP] at X<;>simp[binOp,Op.intArith,aR]
def acs(Z:BinOp)(X:TQ Z=true)(t:TypeId)(k:IntKind)(m n:Int)(U:n≠0):(binOp Z t (.int k m) (.int k n)).run P W=.ok (.int k (aR Z k m n)) W:=by
 cases Z<;>simp[TQ] at X<;>simp[binOp,Op.intDiv,aR,U]
def acu(Z:BinOp)(t:TypeId)(x y:Operand)(k:IntKind)(n:Int)(w:Value):(eqGuard Z t x y (.int k n) w).run P W=.ok () W:=by cases Z<;>rfl
def am3(Z:BinOp)(t:TypeId)(x y:Operand)(n:Bool)(w:Value):(eqGuard Z t x y (.bool n) w).run P W=.ok () W:=by cases Z<;>rfl
def acv(Z:BinOp)(t:TypeId)(x y:Operand)(n:ByteArray)(w:Value):(eqGuard Z t x y (.string n) w).run P W=.ok () W:=by cases Z<;>rfl
def acw(X:P.underlying Z=some .bool)(m n:Bool):(Op.equal Z (.bool m) (.bool n)).run P W=.ok (m==n) W:=by
 have:Op.equal Z (.bool m) (.bool n)=Op.equalIn (9999+1) Z (.bool m) (.bool n):=rfl;rw[this,Op.equalIn,Sem.run_bind,cW.eM X];rfl
def am4(X:P.underlying Z=some .bool)(m n:Bool):(binOp .eql Z (.bool m) (.bool n)).run P W=.ok (.bool (m==n)) W:=by
 show((Op.equal Z (.bool m) (.bool n))>>=λb=>(pure (.bool b):Sem Value)).run P W=_;rw[Sem.run_bind,acw X];rfl
def am5(X:P.underlying Z=some .bool)(m n:Bool):(binOp .neq Z (.bool m) (.bool n)).run P W=.ok (.bool !(m==n)) W:=by
 show((Op.equal Z (.bool m) (.bool n))>>=λb=>(pure (.bool !b):Sem Value)).run P W=_;rw[Sem.run_bind,acw X];rfl
def Uz(X:fK P u)(h:I4 (u Z)=true):∃a b c,P.underlying Z=some (.func a b c):=by
 unfold I4 at h;split at h;rename_i k q U;obtain⟨d,R,⟨-,Q⟩,-,-⟩:=(X _ _ U).desc;obtain⟨a,b,c,rfl⟩:=Q k rfl;exact⟨a,b,c,R⟩;cases h
def UA{x y:Operand}{U:_}{R:_}{Q:_}(N:P.underlying Z=some (.func U R Q))(v:Value)(n:Bool)(X:(v=.nilFunc/\n=true)\/(∃f a b,v=.func f a b)/\n=false):
  (do eqGuard .eql Z x y v .nilFunc;binOp .eql Z v .nilFunc).run P W=.ok (.bool n) W/\(do eqGuard .neq Z x y v .nilFunc;binOp .neq Z v .nilFunc).run P W=.ok (.bool !n) W:=by
 have M:(Op.equal Z v .nilFunc).run P W=.ok n W:=by
  have L:Op.equal Z v .nilFunc=Op.equalIn (9999+1) Z v .nilFunc:=rfl;rw[L,Op.equalIn,Sem.run_bind,cW.eM N,Result.andThen_ok];rcases X with⟨rfl,rfl⟩|⟨⟨f,a,b,rfl⟩,rfl⟩<;>rfl
 rcases X with⟨rfl,rfl⟩|⟨⟨f,a,b,rfl⟩,rfl⟩<;>constructor<;>simp[eqGuard,binOp,M]
def acx{e:IE}:∀{ks:List Int}{vs:List SV},vs.all E1=true->ks.length=vs.length->
  (gW (e.den O) ks (SV.ap O V vs)=.nilFunc/\(xZ e ks vs).den O=true)\/((∃f a b,gW (e.den O) ks (SV.ap O V vs)=.func f a b)/\(xZ e ks vs).den O=false)
 |[],[],_,_=>.inl ⟨rfl,rfl⟩
 |[],_::_,_,h=>by simp at h
 |_::_,[],_,h=>by simp at h
 |k::ks,v::vs,X,Q=>by
  simp only[azx,axI] at X;have R:=acx (e:=e) (ks:=ks) (vs:=vs) X.2 (by simpa using Q);have U:=X.1;unfold E1 at U;split at U;rename_i g N;simp only[SV.ap,SV.den,gW,xZ,BE.den,eG,IE.den];by_cases Z:e.den O=k;right;simp[Z,fG];simp only[Z,if_false,beq_iff_eq];exact R;simp only[SV.ap,SV.den,gW,xZ,BE.den,eG,IE.den];by_cases Z:e.den O=k;left;simp[Z,RE.den,RE.rv,fG];simp only[Z,if_false,beq_iff_eq];exact R;cases U
def am6(X:ao C E D u V O s a W)(H:fK P u)(hg:dC B O){J:BinOp}{t2:TypeId}{y:Operand}(ho:L.op=.binOp J Z G y t2)(hk:(s.ev B G).cR=false)(ac:(s.ev B y).cR=false)
  (h:(bz u B s (.binOp J Z G y t2)).gives O R):(execOp a.eval L).run P W=.ok (.value (R.den O V)) W:=by
 have i:=bR X hg G hk;have af:=bR X hg y ac;simp only[execOp,ho];rw[Sem.run_bind,i,af];simp only[bz] at h;split at h;rename_i k m k' n U Q;rw[U,Q];split at h;rename_i ag;have al:J=.shr:=by cases J<;>simp[abR] at ag;rfl
 subst al;split at h;rename_i n;split at h;rename_i M;have g:¬n<0:=by simp only[decide_eq_true_eq] at M;omega
 cases h;simp only[SV.den,Jw,IE.den];rw[Sem.run_bind,acu,Result.andThen_ok];simp[binOp,Op.shift,aR,g];exact h.elim;exact h.elim;split at h;exact h.elim;rename_i an;have a0:k=k':=by simpa using an
 subst a0;simp only[SV.den];rw[Sem.run_bind,acu,Result.andThen_ok];split at h;rename_i l;cases h;simp only[am1 J l,Result.andThen_ok,Sem.run_pure,SV.den,yw];split at h;rename_i l;cases h;simp only[am2 J l,Result.andThen_ok,Sem.run_pure,SV.den,Jw];split at h;rename_i l;split at h;rename_i n;split at h;exact h.elim;rename_i M;cases h;have g:n≠0:=by simpa using M
 simp only[SV.den,Jw,IE.den];rw[acs J l _ _ _ _ g];rfl;obtain⟨j,rfl⟩:=h;rw[yw] at j;have g:n.den O≠0:=by simpa[eG,IE.den] using j
 simp only[SV.den,Jw];rw[acs J l _ _ _ _ g];rfl;exact h.elim;rename_i m n U Q;rw[U,Q];simp only[SV.den];rw[Sem.run_bind,am3,Result.andThen_ok];split at h;rename_i q F;cases h;obtain⟨d,N,-,-,j⟩:=(H _ _ F).desc;rw[j rfl] at N;rw[am4 N];simp[SV.den,Uu];rename_i q F;cases h;obtain⟨d,N,-,-,j⟩:=(H _ _ F).desc;rw[j rfl] at N;rw[am5 N];simp[SV.den,Uu,Jx];exact h.elim;rename_i U Q;rw[U,Q];split at h;exact h.elim;rename_i I;obtain⟨d1,d2,d3,N⟩:=Uz H (by simpa using I);obtain⟨c,b⟩:=UA (x:=G) (y:=y) (W:=W) N .nilFunc true (.inl ⟨rfl,rfl⟩);have M:SV.den O V (.ref (.k .nilFunc))=.nilFunc:=rfl;rw[M];split at h;cases h;rw[c];rfl;cases h;rw[b];rfl;exact h.elim;rename_i m n a3 U Q;rw[U,Q];split at h;rename_i A z;cases h;obtain⟨p,w⟩:=At X A;obtain⟨q,r⟩:=At X z;simp only[SV.den,w,r];rw[Sem.run_bind,acv,Result.andThen_ok];unfold RE.den at w r;simp[binOp,Op.stringOp,BE.den,w,r,nV];rename_i A z;cases h;obtain⟨p,w⟩:=At X A;obtain⟨q,r⟩:=At X z;simp only[SV.den,w,r];rw[Sem.run_bind,acv,Result.andThen_ok];unfold RE.den at w r;simp[binOp,Op.stringOp,BE.den,w,r,nV];exact h.elim;rename_i f a1 U Q;rw[U,Q];split at h;exact h.elim;rename_i I;obtain⟨d1,d2,d3,N⟩:=Uz H (by simpa using I);obtain⟨c,b⟩:=UA (x:=G) (y:=y) (W:=W) N ((SV.fn f a1).den O V) false (.inr ⟨⟨_,_,_,rfl⟩,rfl⟩);have M:SV.den O V (.ref (.k .nilFunc))=.nilFunc:=rfl;rw[M];split at h;cases h;rw[c];rfl;cases h;rw[b];rfl;exact h.elim;rename_i e ks vs U Q;rw[U,Q];split at h;rename_i I;simp only[axI,beq_iff_eq] at I;obtain⟨d1,d2,d3,N⟩:=Uz H I.2;have a2:=acx (O:=O) (V:=V) (e:=e) I.1.1 I.1.2;obtain⟨c,b⟩:=UA (x:=G) (y:=y) (W:=W) N (gW (e.den O) ks (SV.ap O V vs)) ((xZ e ks vs).den O) a2;have M:SV.den O V (.ref (.k .nilFunc))=.nilFunc:=rfl;rw[M,SV.den];split at h;cases h;rw[c];rfl;cases h;rw[b];simp[SV.den,Jx];exact h.elim;exact h.elim;rename_i m n U Q;rw[U,Q];simp only[SV.den];split at h;rename_i e i;cases h;obtain⟨ab,d,F,A,z,h3⟩:=acq X i;have:=((H _ _ F).eq rfl _ _ _ G y W A z h3).1;rw[this];rfl;rename_i e i;cases h;obtain⟨ab,d,F,A,z,h3⟩:=acq X i;have:=((H _ _ F).eq rfl _ _ _ G y W A z h3).2;rw[this];simp[SV.den,Jx];exact h.elim;exact h.elim
end
end
section
section
variable{g:List Nat}{u:World}{D:bB}{P:Program}{b:Ty}{d:List (Nat×Nat×Nat)}{V:List Nat}{O:aa}{s:S}{a:Act}{W:World}
def Nt(Z:∀r:RE,r.Cm=true->fG (r.den O)=true)(h:R.Cn=true):(R.den O V).cells.toList=SV.ap O V R.cells:=by
 cases R with
 |agg l=>simp[SV.den,SV.cells,Value.cells]
 |ref r=>
  have:fG (r.den O)=true:=Z r (by cases r<;>simp_all[SV.Cn,RE.Cm]);simp only[SV.den,SV.cells,SV.ap];revert this;cases r.den O<;>simp[fG,Value.cells]
 |dI e X U=>
  simp only[SV.den,SV.cells,SV.ap];exact amM (Ur _ _ _)
 |_=>simp[SV.den,SV.cells,Value.cells,SV.ap,undef]
def acy:∀(Q l:List SV)(Z:Nat),SV.ap O V (iK l Z Q)=(SV.ap O V Q).zipIdx.foldl (λU x=>U.set (Z+x.2) x.1) (SV.ap O V l)
 |[],l,Z=>by simp[iK,SV.ap]
 |v::Q,l,Z=>by
  rw[iK,acy Q (l.set Z v) (Z+1)];simp only[SV.ap,List.zipIdx_cons,ay8,ay4,ayg];rw[show SV.ap O V (l.set Z v)=(SV.ap O V l).set Z (v.den O V) by simp[lL]];generalize(SV.ap O V l).set Z (v.den O V)=X;have:∀(R:List Value)(n:Nat)(X:List Value),(R.zipIdx n).foldl (λU x=>U.set (Z+1+x.2) x.1) X=(R.zipIdx (n+1)).foldl (λU x=>U.set (Z+x.2) x.1) X:=by
   intro R;induction R with
   |nil=>intro n X;rfl
   |cons w R N=>intro n X;simp only[List.zipIdx_cons,ay8];rw[N,show Z+1+n=Z+(n+1) by omega]
  exact this _ 0 X
def acz:∀(l:List (Value×Nat))(Z:Nat)(X:Array Value),(l.foldl (λU (x:Value×Nat)=>U.setIfInBounds (Z+x.2) x.1) X).toList=l.foldl (λU x=>U.set (Z+x.2) x.1) X.toList
 |[],_,_=>rfl
 |x::l,Z,X=>by simp only[ay8];rw[acz l Z];simp
def Jz(X:∀r:RE,r.Cm=true->fG (r.den O)=true)(place:Nat->Option (Nat×Nat)):∀(parts:List (Nat×SV))(cells l:List SV),uf place cells parts=some l->
  Instr.fill place (SV.ap O V cells).toArray (parts.map λp=>(p.1,p.2.den O V))=some (SV.ap O V l).toArray
 |[],cells,l,h=>by simp[uf] at h;simp[Instr.fill,h]
 |(i,v)::N,cells,l,h=>by
  simp only[uf] at h;cases Z:place i with
  |none=>rw[Z] at h;cases h
  |some q=>
   obtain⟨U,M⟩:=q;rw[Z] at h;simp only at h;split at h;cases h;rename_i R;simp only[ayb,bne_iff_ne,decide_eq_true_eq,ax0,not_or,azc,Decidable.not_not,Nat.not_lt] at R;obtain⟨⟨L,F⟩,J⟩:=R;have Q:=Nt (V:=V) X J;have I:(v.den O V).cells.size=M:=by rw[<-ayU,Q];simp[L]
   simp only[axV,Instr.fill,Z,I];rw[if_neg (by simp;omega)];have H:=Jz X place N _ l h;rw[<-H];congr 1;apply ayF;have e:((v.den O V).cells.zipIdx.foldl (λG (x:Value×Nat)=>G.setIfInBounds (U+x.2) x.1) (SV.ap O V cells).toArray).toList=SV.ap O V (iK cells U v.cells):=by
    rw[<-aBd,acz,acy,Array.toList_zipIdx,Q]
   simpa using e
def am7(c:CT):(xX c).den O V=m9 c:=by cases c<;>simp[xX,SV.den,m9,IE.den,BE.den,RE.den,RE.rv]
def acA(Z:TI):SV.ap O V (cA Z)=Z.ab.map m9:=by
 simp only[cA,lL,ayw];congr 1;funext c;exact am7 c
def FD(h:cW P Z J):∃z,(zeroValue Z).run P W=.ok z W/\z.cells=(SV.ap O V (cA J)).toArray:=by
 obtain⟨i,X,-,z,U,R⟩:=h.Fz;exact⟨z,by simp[zeroValue,typeInfo,X,U],by rw[acA,<-R]⟩
def am8(X:ao g u D b V O s a W)(N:fK P b)(k:dC d O){parts:Array (Nat×Operand)}(j:L.op=.build Z parts)(c:∀p∈parts.toList,(s.ev d p.2).cR=false)
  (h:(bz b d s (.build Z parts)).gives O R):(execOp a.eval L).run P W=.ok (.value (R.den O V)) W:=by
 have A:(parts.map λ(i,x)=>(i,a.eval x)).toList=(parts.toList.map λp=>(p.1,s.ev d p.2)).map λp=>(p.1,p.2.den O V):=by
  simp only[ayI,ayw];apply ax7;intro p hp;simp[bR X k p.2 (c p hp)]
 simp only[execOp,j,Sem.run_bind];simp only[bz] at h;split at h;rename_i I ab q M;split at h;exact h.elim;rename_i G;have G:∀f∈I,(b f.2).isSome=true:=by
  have:(I.all λf=>(b f.2).isSome)=true:=by simpa only[ax0,azc] using G
  exact axU.1 this
 split at h;rename_i l Q;cases h;obtain⟨F,hF,y⟩:=(N _ _ M).desc;obtain⟨z,E,C⟩:=FD (P:=P) (W:=W) (O:=O) (V:=V) (N _ _ M);have ac:∀(U:List Field),(∀f∈U,∃J,b f.type=some J)->(U.mapM (m:=Sem) λf=>do pure (f.offset,<-Go.sizeOf f.type)).run P W=.ok (U.map λf=>(f.offset,((b f.type).map (·.ab.length)).getD 0)) W:=by
  intro U w;induction U with
  |nil=>rfl
  |cons f U ih=>
   obtain⟨J,H⟩:=w f (by simp);have:=ih (λf Q=>w f (by simp[Q]));simp only[aAZ,Sem.run_bind,(N _ _ H).ki,Result.andThen_ok,Sem.run_pure,this,axV,H,axR,ayo]
 have r:∀f∈F.toList,∃J,b f.type=some J:=by
  intro f Q;have:(f.offset,f.type)∈I:=by rw[<-y];exact aya.2 ⟨f,Q,rfl⟩
  have:=G _ this;exact ax1.1 this
 have hm:=ac F.toList r;have B:=Jz (V:=V) (qV X) _ _ _ _ Q;simp only[Instr.build,Sem.run_bind,E,Result.andThen_ok,cW.eM hF,aAD,Sem.run_map,hm,A,C];have af:(λi=>(F.toList.map λf=>(f.offset,((b f.type).map (·.ab.length)).getD 0)).toArray[i]?)=TR b I:=by
  funext i;rw[<-y,TR];simp only[aAi,axO];cases hi:F.toList[i]? with
  |none=>simp
  |some f=>
   obtain⟨J,H⟩:=r f (ax4 hi);simp[H]
 rw[af,B];simp[SV.den];exact h.elim;rename_i n e ab q M;split at h;rename_i te ag;split at h;rename_i l Q;cases h;obtain⟨z,E,C⟩:=FD (P:=P) (W:=W) (O:=O) (V:=V) (N _ _ M);have hd:P.underlying Z=some (.array n e):=(N _ _ M).desc;have B:=Jz (V:=V) (qV X) _ _ _ _ Q;simp only[Instr.build,Sem.run_bind,E,Result.andThen_ok,cW.eM hd,(N _ _ ag).ki,A,C,B];simp[SV.den];exact h.elim;exact h.elim;exact h.elim
def am9(X:ao g u D b V O s a W)(M:fK P b)(F:dC d O){U N E:Option Operand}(z:L.op=.slice Z G U N E)(w:(s.ev d G).cR=false)(r:∀y,U=some y->(s.ev d y).cR=false)
  (h:(bz b d s (.slice Z G U N E)).gives O R):(execOp a.eval L).run P W=.ok (.value (R.den O V)) W:=by
 have p:=bR X F G w;simp only[execOp,z,Sem.run_bind,p];simp only[bz] at h;split at h;rename_i n e ab q i ag m j;rw[j];have C:P.underlying Z=some (.array n e):=(M _ _ m).desc;split at h;rename_i f J Q I;cases h;have c:U=none:=by simpa using Q
 have H:N=none:=by simpa using I
 subst c H;simp[SV.den,Instr.sliceAt,cW.eM C,Instr.sureAddr,Instr.sliceBounds,(M _ _ J).ki,sI];rename_i f k l J Q I;split at h;rename_i B;cases h;simp only[axI,decide_eq_true_eq] at B;have H:N=none:=by simpa using I
 subst H;cases U with
 |none=>cases Q
 |some y=>
  simp only[axR,axM] at Q;have A:=bR X F y (r y rfl);rw[Q] at A;have ac:l<=n:=by omega
  have af:¬n=l.toNat:=by omega
  simp[SV.den,IE.den,Instr.sliceAt,cW.eM C,Instr.sureAddr,Instr.sliceBounds,Instr.sliceBound,asIntOf,A,B.1,ac,(M _ _ J).ki,sI,af]
 exact h.elim;exact h.elim;exact h.elim
def ana(Z:ao g u D b V O s a W)(H:fK P b)(E:dC d O){c:Call}(C:L.op=.call c)(F:c.callee=.builtin .len)(B:∀x∈c.args.toList,(s.ev d x).cR=false)
  (h:(bz b d s (.call c)).gives O R):(execOp a.eval L).run P W=.ok (.value (R.den O V)) W:=by
 have z:c.args.map a.eval=((c.args.toList.map (s.ev d)).map (SV.den O V)).toArray:=by
  apply ayF;simp only[ayI,ayw];exact ax7 λx y=>bR Z E x (B x y)
 simp only[execOp,C,resolve,F,Sem.run_bind,Sem.run_pure,Result.andThen_ok,invoke,builtin,z];simp only[bz,F] at h;split at h;rename_i t N M;have Q:c.argTypes[0]?=some t:=by have:=congrArg (λl=>l[0]?) N;simpa using this
 rw[M];split at h;rename_i e ab q X;cases h;have U:P.underlying t=some (.slice e):=(H _ _ X).desc;simp[Builtin.len_,Q,SV.den,IE.den,RE.den,RE.rv,cW.eM U,goInt];exact h.elim;rename_i t r w N M;have Q:c.argTypes[0]?=some t:=by have:=congrArg (λl=>l[0]?) N;simpa using this
 rw[M];split at h;rename_i e ab q p X G;cases h;have U:P.underlying t=some (.slice e):=(H _ _ X).desc;obtain⟨A,l,m,J⟩:=Jy Z G;have I:=J;unfold RE.den at I;simp[Builtin.len_,Q,SV.den,IE.den,J,I,cW.eM U,lenOf,goInt];rename_i ab q X G;cases h;have U:P.underlying t=some .string:=(H _ _ X).desc;obtain⟨k,J⟩:=At Z G;have I:=J;unfold RE.den at I;simp[Builtin.len_,Q,SV.den,IE.den,J,I,cW.eM U,lenOf,goInt];exact h.elim;rename_i t i j n f N M;have Q:c.argTypes[0]?=some t:=by have:=congrArg (λl=>l[0]?) N;simpa using this
 rw[M];split at h;rename_i e ab q X;cases h;have U:P.underlying t=some (.slice e):=(H _ _ X).desc;simp[Builtin.len_,Q,SV.den,IE.den,cW.eM U,goInt];exact h.elim;exact h.elim
def acB(Z:ao g u D b V O s a W)(J:dC d O){c:Call}(N:L.op=.call c)(X:c.callee=.builtin .min\/c.callee=.builtin .max)(I:∀x∈c.args.toList,(s.ev d x).cR=false)
  (h:(bz b d s (.call c)).gives O R):(execOp a.eval L).run P W=.ok (.value (R.den O V)) W:=by
 have M:c.args.map a.eval=((c.args.toList.map (s.ev d)).map (SV.den O V)).toArray:=by
  apply ayF;simp only[ayI,ayw];exact ax7 λx H=>bR Z J x (I x H)
 rcases X with X|X;simp only[execOp,N,resolve,X,Sem.run_bind,Sem.run_pure,Result.andThen_ok,invoke,builtin,M];simp only[bz,X] at h;split at h;rename_i k x l U;rw[U];split at h;rename_i e Q;cases h;have:=Uv (P:=P) (W:=W) (O:=O) (V:=V) false k l x e Q;simp only[ax3,if_false] at this;simp only[axV,SV.den,Builtin.min_,<-lL,this,Result.andThen_ok];exact h.elim;exact h.elim;simp only[execOp,N,resolve,X,Sem.run_bind,Sem.run_pure,Result.andThen_ok,invoke,builtin,M];simp only[bz,X] at h;split at h;rename_i k x l U;rw[U];split at h;rename_i e Q;cases h;have:=Uv (P:=P) (W:=W) (O:=O) (V:=V) true k l x e Q;simp only[if_true] at this;simp only[axV,SV.den,Builtin.max_,<-lL,this,Result.andThen_ok];exact h.elim;exact h.elim
end
end
section
section
variable{A:List Nat}{B:World}{D:bB}{P:Program}{f:Ty}{g:List (Nat×Nat×Nat)}{V:List Nat}{O:aa}{s:S}{a:Act}{W:World}
def UB(h:y=false->t.length=1):sH (ek y t)=t:=by
 cases y;obtain⟨x,rfl⟩:=aye.1 (h rfl);rfl;simp[ek,sH,Function.comp_def,bg]
def UC{x Z z:IE}(h:Cr X y R=some (x,Z,z)):R.den O V=ek y ([x.den O,Z.den O,z.den O].take X)/\([x.den O,Z.den O,z.den O].take X).length=X:=by
 unfold Cr at h;split at h;split at h;rename_i U;cases h;simp only[axI,beq_iff_eq,ax0] at U;obtain⟨rfl,rfl⟩:=U;simp[ek,SV.den];cases h;split at h;rename_i U;cases h;simp only[axI,beq_iff_eq] at U;obtain⟨rfl,rfl⟩:=U;simp[ek,SV.den,SV.ap];cases h;split at h;rename_i U;cases h;simp only[axI,beq_iff_eq] at U;obtain⟨rfl,rfl⟩:=U;simp[ek,SV.den,SV.ap];cases h;split at h;rename_i U;cases h;simp only[axI,beq_iff_eq] at U;obtain⟨rfl,rfl⟩:=U;simp[ek,SV.den,SV.ap];cases h;cases h
def UD:∀{l:List (Value×Value)}{m:Nat}{e:MapEntry},e∈dS m l->∃p∈l,e.key=p.1
 |[],m,e,h=>by simp[dS] at h
 |x::r,m,e,h=>by
  simp only[dS,axT] at h;rcases h with rfl|h;exact⟨x,by simp,rfl⟩;obtain⟨p,Z,X⟩:=UD h;exact⟨p,by simp[Z],X⟩
def Au(n:Nat)(Z:List RV):Prop:=∃l:List Int,l.length=n/\Z.take n=l.map λx=>.mk (.int .i64 x) []
def JA{n:Nat}{ag:Bool}(R:ag=false->n=1){Z:List RV}(h:Au n Z):∃l:List Int,l.length=n/\m8 ag (Z.take n)=ek ag l/\(Z.take n).map (λc=>bg c.val)=l:=by
 obtain⟨l,X,U⟩:=h;refine⟨l,X, ?_,by rw[U];simp[Function.comp_def,bg]⟩;rw[U];cases ag;obtain⟨x,rfl⟩:=aye.1 (X.trans (R rfl));rfl;simp[m8,ek,Function.comp_def]
def acC{n:Nat}{U va:Bool}(R:U=false->n=1){X:List Int}(M:(X.take n).length=n):∀{rows:List (List RV)}{m i:Nat},(∀Z∈rows,Au n Z)->
  (jA n X rows=none/\kH (X.take n) (dS m (rows.map (qS n U va))) i=none)\/∃Z j,jA n X rows=some Z/\Z∈rows/\kH (X.take n) (dS m (rows.map (qS n U va))) i=some (j,m8 va (Z.drop n))
 |[],m,i,_=>.inl ⟨rfl,rfl⟩
 |Z::rows,m,i,h=>by
  obtain⟨l,L,J,I⟩:=JA (ag:=U) R (h Z (by simp));simp only[jA,aAO,axV,dS,kH,qS,J];rw[UB (λe=>L.trans (R e))];have H:i8 n X Z=decide (l=X.take n):=by simp only[i8,I]
  rw[H];by_cases N:l=X.take n;right;simp only[N,decide_true,if_true];exact⟨Z,i,rfl,by simp,rfl⟩;simp only[N,decide_false,if_false];rcases acC (rows:=rows) (m:=m+1) (i:=i+1) (va:=va) R M (λr G=>h r (by simp[G])) with Q|⟨r,j,Q,F,E⟩;exact .inl Q;exact .inr ⟨r,j,Q,by simp[F],E⟩
def acD(O:aa)(V:List Nat){k e:TypeId}(N:P.underlying Z=some (.map k e))(M:pV P k X y)(H:cW P e J){l:List (Value×Value)}(G:W.heap[I]?=some (mu l))(F:t.length=X)
  (E:∀p∈l,∃U:List Int,U.length=X/\p.1=ek y U)(R:Bool):
  ∃z,(zeroValue e).run P W=.ok z W/\(Instr.lookup Z (.map (some I)) (ek y t) R).run P W=.ok (let r:=match kH t (dS 0 l) 0 with
   |some (_,v)=>(v,true)
   |none=>(z,false);if R then .tuple #[r.1,.bool r.2] else r.1) W:=by
 obtain⟨z,Q,g⟩:=FD (P:=P) (W:=W) (O:=O) (V:=V) H;refine⟨z,Q, ?_⟩;have C:∀x∈dS 0 l,∃U:List Int,U.length=X/\x.key=ek y U:=λx B=>by
  obtain⟨p,A,u⟩:=UD B;obtain⟨U,q,o⟩:=E p A;exact⟨U,q,u.trans o⟩
 obtain⟨m,i⟩:=M.2 t (dS 0 l) W F C;have h:=MapKept.run_getObj_map (P:=P) (w:=W) G;simp only[Instr.lookup,Sem.run_bind,cW.eM N,Result.andThen_ok,h,Sem.run_pure,m,i];cases f:kH t (dS 0 l) 0 with
 |none=>simp[Q]
 |some p=>obtain⟨j,v⟩:=p;simp
structure CU(f:Ty)(sh:Sh)(row:List RV):Prop where
 len:row.length=(ba f (.mr sh)).length
 int:∀(j:Nat)(c:RV)(k:IntKind),row[j]?=some c->(ba f (.mr sh))[j]?=some (.int k)->∃n,c=.mk (.int k n) []
 bool:∀(j:Nat)(c:RV),row[j]?=some c->(ba f (.mr sh))[j]?=some .bool->∃x,c=.mk (.bool x) []
def anb{X:Sh}(h:aX W f (.mr X) H):∀Z∈H.rows,CU f X Z:=by
 cases h with
 |mr X I N M L G=>
  intro Z J;obtain⟨i,U⟩:=ayx J;exact⟨N i Z U,λj c k R Q=>M i j Z c k U R Q,λj c R Q=>L i j Z c U R Q⟩
def CV(R:ao A B D f V O s a W){Z:Sh}{r:RE}(h:r.mX f s Z=true):∀X∈(r.rv O).rows,CU f Z X:=by
 unfold RE.mX at h;rcases aAt.1 h with h|h;exact anb (nZ R (by simp) (of_decide_eq_true h));unfold RE.nil at h;split at h;intro X U;simp[RE.rv] at U;cases h
def FE{e:TypeId}{va:Bool}(U:oQ f Z X y=true)(Q:f e=some J):∃R:List CT,ba f (.mr ⟨Z,e,X,y,va⟩)=R++J.ab/\R.length=X/\∀c∈R,c=.int .i64:=by
 unfold oQ at U;split at U;rename_i tk N;simp only[axI,beq_iff_eq] at U;refine⟨tk.ab,by simp[ba,N,Q],U.1.1,λc M=> ?_⟩;have:=axU.1 U.1.2 c M;unfold TU at this;split at this;rfl;cases this;cases U
def FF{k e:TypeId}{n:Nat}{X U:Bool}{M:TI}(L:oQ f k n X=true)(J:f e=some M){Z:List RV}(h:CU f ⟨k,e,n,X,U⟩ Z):Au n Z:=by
 obtain⟨C,R,I,H⟩:=FE (va:=U) L J;have G:=h.len;rw[R,axX,I] at G;refine⟨(Z.take n).map λc=>bg c.val,by simp;omega, ?_⟩;apply ayf;intro j;rw[axO,axO,ayi];by_cases Q:j<n;rw[if_pos Q];have N:j<Z.length:=by omega
 rw[axK N];have F:(ba f (.mr ⟨k,e,n,X,U⟩))[j]?=some (.int .i64):=by
  rw[R,axL (by omega),axK (by omega)];congr 1;exact H _ (ayT _)
 obtain⟨x,E⟩:=h.int j _ .i64 (axK N) F;simp only[axR,E,RV.kf,bg];rw[if_neg Q];rfl
def UE{r:RE}{n:Nat}{x y z:IE}{X:List RV}(N:jA n [x.den O,y.den O,z.den O] (r.rv O).rows=some X):∀{ab:List CT}{j:Nat},ab.all jT=true->X.length=j+ab.length->
  (∀(i:Nat)(k:IntKind),ab[i]?=some (.int k)->∃m,X[j+i]?=some (.mk (.int k m) []))->(∀(i:Nat),ab[i]?=some .bool->∃m,X[j+i]?=some (.mk (.bool m) []))->
  SV.ap O V (mY r n x y z j ab)=(X.drop j).map RV.val
 |[],j,_,U,_,_=>by rw[aAb (by simp at U;omega)];rfl
 |.int k::ab,j,R,U,M,L=>by
  obtain⟨m,Z⟩:=M 0 k rfl;have J:=UE N (ab:=ab) (j:=j+1) (by simpa[jT] using R) (by simp at U⊢;omega) (λi k h=>by have:=M (i+1) k (by simpa using h);rwa [show j+(i+1)=j+1+i by omega] at this) (λi h=>by have:=L (i+1) (by simpa using h);rwa [show j+(i+1)=j+1+i by omega] at this);have I:X.drop j=.mk (.int k m) []::X.drop (j+1):=by
   rw[ay4] at Z;have Q:=(axJ.1 Z).1;rw[ayG Q];congr 1;rw[axK Q] at Z;simpa using Z
  rw[ay4] at Z;simp only[mY,SV.ap,SV.den,IE.den,N,J,I,axV,RV.kf,axN,Z,ayo,bg]
 |.bool::ab,j,R,U,M,L=>by
  obtain⟨m,Z⟩:=L 0 rfl;have J:=UE N (ab:=ab) (j:=j+1) (by simpa[jT] using R) (by simp at U⊢;omega) (λi k h=>by have:=M (i+1) k (by simpa using h);rwa [show j+(i+1)=j+1+i by omega] at this) (λi h=>by have:=L (i+1) (by simpa using h);rwa [show j+(i+1)=j+1+i by omega] at this);have I:X.drop j=.mk (.bool m) []::X.drop (j+1):=by
   rw[ay4] at Z;have Q:=(axJ.1 Z).1;rw[ayG Q];congr 1;rw[axK Q] at Z;simpa using Z
  rw[ay4] at Z;simp only[mY,SV.ap,SV.den,BE.den,N,J,I,axV,RV.kf,axN,Z,ayo,gV]
 |.aq _ _::ab,j,R,_,_,_=>by simp[jT] at R
def UF{r:RE}{n:Nat}{x y z:IE}(X:jA n [x.den O,y.den O,z.den O] (r.rv O).rows=none):∀{ab:List CT}{j:Nat},ab.all jT=true->SV.ap O V (mY r n x y z j ab)=ab.map m9
 |[],j,_=>rfl
 |.int k::ab,j,Z=>by
  simp only[mY,SV.ap,SV.den,IE.den,X,axV,m9,UF X (ab:=ab) (j:=j+1) (by simpa[jT] using Z)]
 |.bool::ab,j,Z=>by
  simp only[mY,SV.ap,SV.den,BE.den,X,axV,m9,UF X (ab:=ab) (j:=j+1) (by simpa[jT] using Z)]
 |.aq _ _::ab,j,Z=>by simp[jT] at Z
def Nu{r:RE}{n:Nat}{x y z:IE}:∀{ab:List CT}{j:Nat},(mY r n x y z j ab).length=ab.length
 |[],j=>rfl
 |.int _::ab,j=>by simp[mY,Nu (ab:=ab)]
 |.bool::ab,j=>by simp[mY,Nu (ab:=ab)]
 |.aq _ _::ab,j=>by simp[mY,Nu (ab:=ab)]
def UG(h:cW P Z J){z:Value}(X:(zeroValue Z).run P W=.ok z W):z=if J.d.isAgg then .agg (J.ab.map m9).toArray else(J.ab.map m9).headD undef:=by
 obtain⟨i,U,-,Q,R,N⟩:=h.Fz;have M:z=Q:=by simp[zeroValue,typeInfo,U,R] at X;exact X.symm
 subst M;have L:=h.acf i z U R;rw[<-L,<-N];cases z<;>simp[Nl,Value.cells]
def wj(h:cW P Z J)(U:J.d.isAgg=false):J.ab.length=1:=by
 obtain⟨i,R,M,z,Q,N⟩:=h.Fz;have:=h.acf i z R Q;rw[U] at this;have X:=congrArg azO N;simp only[ayA] at X;rw[<-X];cases z<;>simp[Nl] at this<;>rfl
def FG:∀{X:List SV}{Z:List Int},mZ X=some Z->yt (SV.ap O V X)=(Z.zip (jt X)).map (λp=>(.int .i64 p.1,p.2.den O V))/\Z.length=(jt X).length
 |[],Z,h=>by simp[mZ] at h;subst h;exact⟨rfl,rfl⟩
 |[v],Z,h=>by unfold mZ at h;split at h<;>simp_all
 |u::v::r,Z,h=>by
  unfold mZ at h;split at h;rename_i U;cases U;rename_i k M L U;cases U;cases R:mZ r with
  |none=>rw[R] at h;cases h
  |some J=>
   rw[R] at h;simp only[axR,axM] at h;subst h;obtain⟨Q,N⟩:=FG R;exact⟨by simp only[SV.ap,SV.den,IE.den,yt,Q,jt,azJ,axV],by simp[jt,N]⟩
  cases h
def acE{x:Int}:∀{ks:List Int}{vs:List SV}{m i:Nat},(kH [x] (dS m ((ks.zip vs).map λp=>(.int .i64 p.1,p.2.den O V))) i).map (·.2)=(cO x ks vs).map (SV.den O V)
 |[],vs,m,i=>by simp[dS,kH,cO]
 |_::_,[],m,i=>by simp[dS,kH,cO]
 |k::ks,v::vs,m,i=>by
  simp only[azJ,axV,dS,kH,sH,ayH,and_true,cO];by_cases h:x=k;subst h;simp;rw[if_neg (λe=>h e.symm),if_neg h];exact acE
def Av{r:RE}{Z:Bool}:jY qK (SV.cg O V [.ref r,.int .i64 (.c (X:Int)),.bool (.c y),.bool (.c Z)])=mu ((r.rv O).rows.map (qS X y Z)):=by
 simp[jY,qK,pK,SV.cg,SV.eL,SV.den,IE.den,BE.den]
def Aw:jY pK (SV.cg O V M)=mu (yt (SV.ap O V M)):=by
 simp only[jY,if_true,acd]
def anc(X:ao A B D f V O s a W)(a0:fK P f)(hg:dC g O){ix:Operand}(ho:L.op=.lookup Z G ix y)(hk:(s.ev g G).cR=false)(br:(s.ev g ix).cR=false)
  (h:(bz f g s (.lookup Z G ix y)).gives O R):(execOp a.eval L).run P W=.ok (.value (R.den O V)) W:=by
 have he:=bR X hg G hk;have bs:=bR X hg ix br;simp only[execOp,ho,Sem.run_bind,he,bs];simp only[bz] at h;split at h;rename_i k e n ag ab q i ht hx;rw[hx];have hd:P.underlying Z=some (.map k e):=(a0 _ _ ht).desc;have hK:pV P k n ag:=(a0 _ _ ht).key k e n ag rfl;unfold MM at h;split at h;rename_i Q M xb xc bt C g1 g2 g3;have H:=a0 _ _ g1;split at h;exact h.elim;rename_i al;have al:oQ f k n ag=true:=by simpa using al
 obtain⟨bx,a1⟩:=UC (O:=O) (V:=V) g2;have ac:=X.mem.box i bt C g3;simp only[SV.den,bx];split at h;rename_i cQ;simp only[beq_iff_eq] at cQ;subst cQ;split at h;rename_i r nk ka va;split at h;rename_i a6;simp only[axI,beq_iff_eq] at a6;obtain⟨⟨⟨⟨⟨c1,c2⟩,c3⟩,c4⟩,c5⟩,-⟩:=a6;subst c2 c3 c4;rw[Av] at ac;have a7:=CV X c1;have a8:∀J∈(r.rv O).rows,Au n J:=λJ hr=>FF al g1 (a7 J hr)
 obtain⟨z,hz,a2⟩:=acD O V hd hK H ac a1 (λp b=>by
  obtain⟨J,hr,rfl⟩:=aya.1 b;obtain⟨l,q1,q2,-⟩:=JA hK.1 (a8 J hr);exact⟨l,q1,q2⟩) y
 rw[a2];simp only[ML,PR.gives] at h;subst h;have an:Q.d.isAgg=false->(mY r n M xb xc n Q.ab).length=1:=λha=>by rw[Nu];exact wj H ha
 rcases acC (m:=0) (i:=0) (va:=Q.d.isAgg) hK.1 a1 a8 with⟨f1,f2⟩|⟨J,j,f1,f2,f3⟩;have hv:(oP Q.d.isAgg (mY r n M xb xc n Q.ab)).den O V=z:=by
  rw[yz an,UF f1 c5];exact(UG H hz).symm
 simp only[f2];cases y;simp only[ax3,if_false,hv];rfl;simp only[if_true,SV.den,SV.ap,hv,BE.den,f1];rfl;obtain⟨kc,r1,r2,r3⟩:=FE (va:=Q.d.isAgg) al g1;have a3:=a7 J f2;have bX:J.length=n+Q.ab.length:=by rw[a3.len,r1,axX,r2]
 have a9:∀(m:Nat)(ct:CT),Q.ab[m]?=some ct->(ba f (.mr ⟨k,e,n,_,Q.d.isAgg⟩))[n+m]?=some ct:=λm ct F=>by
  rw[r1,axP (by omega),r2,show n+m-n=m by omega];exact F
 have bb:∀(m:Nat)(ct:CT),Q.ab[m]?=some ct->∃c,J[n+m]?=some c:=λm ct F=>by
  have:m<Q.ab.length:=(axJ.1 F).1;exact⟨J[n+m]'(by omega),axK _⟩
 have b0:=UE (V:=V) f1 (ab:=Q.ab) (j:=n) c5 bX (λm kk F=>by
  obtain⟨c,hc⟩:=bb m _ F;obtain⟨x',a4⟩:=a3.int (n+m) c kk hc (a9 m _ F);exact⟨x',by rw[hc,a4]⟩) (λm F=>by
  obtain⟨c,hc⟩:=bb m _ F;obtain⟨x',a4⟩:=a3.bool (n+m) c hc (a9 m _ F);exact⟨x',by rw[hc,a4]⟩)
 have hv:(oP Q.d.isAgg (mY r n M xb xc n Q.ab)).den O V=m8 Q.d.isAgg (J.drop n):=by
  rw[yz an,b0,m8];cases b1:Q.d.isAgg;have h1:=wj H b1;obtain⟨c,hc⟩:=aye.1 (show(J.drop n).length=1 by simp;omega);rw[hc];rfl;rfl
 simp only[f3];cases y;simp only[ax3,if_false,hv];rfl;simp only[if_true,SV.den,SV.ap,hv,BE.den,f1];rfl;exact h.elim;exact h.elim;split at h;rename_i cQ;simp only[beq_iff_eq] at cQ;subst cQ;split at h;rename_i bd;simp only[axI,beq_iff_eq,ax0] at bd;obtain⟨rfl,rfl⟩:=bd;rw[Aw] at ac;split at h;rename_i v0 U N;simp only[ML,PR.gives] at h;subst h;unfold abS at N;split at N;rename_i ks b2;obtain⟨p1,p2⟩:=FG (O:=O) (V:=V) b2;rw[p1] at ac;obtain⟨z,hz,a2⟩:=acD O V hd hK H ac a1 (λp b=>by
  obtain⟨u,I,rfl⟩:=aya.1 b;exact⟨[u.1],rfl,rfl⟩) y
 rw[a2];have E:=acE (O:=O) (V:=V) (x:=M.den O) (ks:=ks) (vs:=jt C) (m:=0) (i:=0);have bf:(∀u,cO (M.den O) ks (jt C)=some u->v0.den O V=u.den O V/\U.den O=true)/\(cO (M.den O) ks (jt C)=none->v0.den O V=z/\U.den O=false):=by
  split at N;rename_i x0;simp only[IE.den] at*;split at N;rename_i u I;cases N;exact⟨λu' af=>by rw[I] at af;cases af;exact⟨rfl,rfl⟩,λhn=>by rw[I] at hn;cases hn⟩;rename_i I;cases N;refine⟨λu' af=>(by rw[I] at af;cases af),λ_=>⟨?_,rfl⟩⟩;rw[yz (λha=>by simp[cA];exact wj H ha),acA];exact(UG H hz).symm;rename_i b5;split at N;rename_i b3;cases a5:ya M ks ((jt C).map SV.cells) 0 Q.ab with
  |none=>rw[a5] at N;cases N
  |some l=>
   rw[a5] at N;simp only[axR,axM,azq] at N;obtain⟨rfl,rfl⟩:=N;obtain⟨s0,s1,s2⟩:=Np (O:=O) (V:=V) a5;rw[No] at s1 s2;have an:Q.d.isAgg=false->l.length=1:=λha=>by rw[s0];exact wj H ha
   rw[yz an,Nq p2];refine⟨λu I=> ?_,λI=> ?_⟩;have bk:=axU.1 b3 u (FB I);have b4:u.cells.length=0+Q.ab.length:=by
    simp only[vT,axI,beq_iff_eq] at bk;omega
   rw[s1 u.cells (by rw[I];rfl) b4,I,Nr (qV X) bk];exact⟨rfl,rfl⟩;rw[s2 (by rw[I];rfl),I];exact⟨(UG H hz).symm,rfl⟩
  cases N
 have hL:[M.den O,xb.den O,xc.den O].take 1=[M.den O]:=rfl;rw[hL] at*;cases b:cO (M.den O) ks (jt C) with
 |some u=>
  rw[b] at E;obtain⟨q1,q2⟩:=bf.1 u b;cases hf:kH [M.den O] (dS 0 ((ks.zip (jt C)).map λp=>(.int .i64 p.1,p.2.den O V))) 0 with
  |none=>rw[hf] at E;cases E
  |some jv=>
   obtain⟨j,w⟩:=jv;rw[hf] at E;simp only[axR,axM] at E;subst E;cases y;simp only[ax3,if_false,q1];rfl;simp only[if_true,SV.den,SV.ap,q1,q2];rfl
 |none=>
  rw[b] at E;obtain⟨q1,q2⟩:=bf.2 b;cases hf:kH [M.den O] (dS 0 ((ks.zip (jt C)).map λp=>(.int .i64 p.1,p.2.den O V))) 0 with
  |some jv=>rw[hf] at E;cases E
  |none=>
   cases y;simp only[ax3,if_false,q1];rfl;simp only[if_true,SV.den,SV.ap,q1,q2];rfl
 cases N;exact h.elim;exact h.elim;exact h.elim;exact h.elim;exact h.elim
end
end
section
section
variable{A:List Nat}{B:World}{D:bB}{P:Program}{u:Ty}{g:List (Nat×Nat×Nat)}{V:List Nat}{O:aa}{s:S}{a:Act}{W:World}
def acF(Z:ao A B D u V O s a W)(L:fK P u)(Q:dC g O)(o:Oper)(U:∀x∈o.op.operands.toList,(s.ev g x).cR=false)
  (h:(bz u g s o.op).gives O R):(execOp a.eval o).run P W=.ok (.value (R.den O V)) W:=by
 cases X:o.op with
 |move x=>
  rw[X] at h U;have M:=bR Z Q x (U x (by simp[Op.operands]));simp only[bz,PR.gives] at h;simp[execOp,X,M,h]
 |assign x=>
  rw[X] at h U;have M:=bR Z Q x (U x (by simp[Op.operands]));simp only[bz,PR.gives] at h;simp[execOp,X,M,h]
 |pick c x y=>
  rw[X] at h U;have J:=bR Z Q c (U c (by simp[Op.operands]));have N:=bR Z Q x (U x (by simp[Op.operands]));have z:=bR Z Q y (U y (by simp[Op.operands]));simp only[bz] at h;split at h;rename_i af;cases h;rw[af] at J;simp[execOp,X,J,N,SV.den,BE.den,asBool];rename_i af;cases h;rw[af] at J;simp[execOp,X,J,z,SV.den,BE.den,asBool];exact h.elim
 |load t x=>rw[X] at h U;exact amW Z L Q X (U x (by simp[Op.operands])) h
 |fieldAddr t x f=>rw[X] at h U;exact amX Z L Q X (U x (by simp[Op.operands])) h
 |field t x f=>rw[X] at h U;exact amY Z L Q X (U x (by simp[Op.operands])) h
 |indexAddr t x y=>rw[X] at h U;exact amZ Z L Q X (U x (by simp[Op.operands])) (U y (by simp[Op.operands])) h
 |index t x y=>rw[X] at h U;exact am0 Z L Q X (U x (by simp[Op.operands])) (U y (by simp[Op.operands])) h
 |binOp op t x y t2=>rw[X] at h U;exact am6 Z L Q X (U x (by simp[Op.operands])) (U y (by simp[Op.operands])) h
 |unOp op t x=>
  rw[X] at h U;have M:=bR Z Q x (U x (by simp[Op.operands]));simp only[bz] at h;split at h;rename_i b N;cases h;simp[execOp,X,M,N,SV.den,Op.unary,Jx];rename_i k e N;cases h;simp[execOp,X,M,N,SV.den,Op.unary,Op.intArith,Jw,aR,IE.den];exact h.elim
 |convert t1 t2 x=>
  rw[X] at h U;have M:=bR Z Q x (U x (by simp[Op.operands]));simp only[bz] at h;split at h;rename_i k1 q1 k2 q2 k n H G N;cases h;obtain⟨d1,j,-,ag,-⟩:=(L _ _ H).desc;obtain⟨d2,ac,-,al,-⟩:=(L _ _ G).desc;rw[ag _ rfl] at j;rw[al _ rfl] at ac;simp[execOp,X,M,N,SV.den,convert,cW.eM j,cW.eM ac,Conv.intToInt,IE.den];rename_i k1 q1 k2 q2 k n hn H G N;cases h;obtain⟨d1,j,-,ag,-⟩:=(L _ _ H).desc;obtain⟨d2,ac,-,al,-⟩:=(L _ _ G).desc;rw[ag _ rfl] at j;rw[al _ rfl] at ac;simp[execOp,X,M,N,SV.den,convert,cW.eM j,cW.eM ac,Conv.intToInt,IE.den];exact h.elim
 |makeInterface t x=>
  rw[X] at h U;have M:=bR Z Q x (U x (by simp[Op.operands]));simp only[bz] at h;split at h;exact h.elim;rename_i ti a1 ht;cases h;have E:=(L _ _ ht).desc;have C:∀d,P.underlying t=some d->(∀m,d≠ .interface m)->(Instr.makeInterface t (a.eval x)).run P W=.ok (.iface t (a.eval x)) W:=by
   intro d H G;simp only[Instr.makeInterface,Sem.run_bind,cW.eM H,Result.andThen_ok];cases d<;>first|rfl|exact absurd rfl (G _)
  have:(Instr.makeInterface t (a.eval x)).run P W=.ok (.iface t (a.eval x)) W:=by
   obtain⟨d,ab,q⟩:=ti;cases d with
   |one=>obtain⟨d,H,⟨G,-⟩,-⟩:=E;exact C d H (λm I=>by rw[I] at G;exact G)
   |dV=>exact absurd rfl (a1 _ _)
   |str=>exact C _ E (λm I=>by cases I)
   |slice e=>exact C _ E (λm I=>by cases I)
   |arr n e=>exact C _ E (λm I=>by cases I)
   |struct fs=>obtain⟨F,H,-⟩:=E;exact C _ H (λm I=>by cases I)
   |map k e=>exact C _ E (λm I=>by cases I)
  rw[M] at this;simp[execOp,X,M,this,SV.den];exact h.elim
 |makeFunc fn first a0=>
  rw[X] at h U;simp only[bz] at h;split at h;rename_i f hf;cases h;have a2:first= #[]:=by apply ayF;simpa using hf
  subst a2;have a3:a0.map a.eval=(SV.ap O V (a0.toList.map (s.ev g))).toArray:=by
   apply ayF;simp only[ayI,lL,ayw];exact ax7 λx N=>bR Z Q x (U x (by simp[Op.operands];simpa using N))
  simp[execOp,X,Instr.makeFunc,SV.den,a3];exact h.elim
 |extract x i=>
  rw[X] at h U;have M:=bR Z Q x (U x (by simp[Op.operands]));simp only[bz] at h;split at h;rename_i l N;split at h;rename_i y z;simp only[PR.gives] at h;subst h;have:(SV.ap O V l).toArray[i]?=some (R.den O V):=by simp[oY,z]
  simp[execOp,X,M,N,SV.den,Instr.extract,this,-aAi];exact h.elim;exact h.elim
 |nilCheck x=>
  rw[X] at h U;have M:=bR Z Q x (U x (by simp[Op.operands]));simp only[bz] at h;split at h;rename_i i a4 N;cases h;simp[execOp,X,M,N,SV.den];rename_i r w i a4 N;cases h;simp[execOp,X,M,N,SV.den];rename_i f l N;cases h;simp[execOp,X,M,N,SV.den];exact h.elim
 |slice t x lo hi mx=>
  rw[X] at h U;exact am9 Z L Q X (U x (by simp[Op.operands])) (λy z=>U y (by subst z;simp[Op.operands])) h
 |build t parts=>
  rw[X] at h U;exact am8 Z L Q X (λp hp=>U p.2 (by simp[Op.operands];exact⟨p.1,by simpa using hp⟩)) h
 |lookup t x ix ok=>
  rw[X] at h U;exact anc Z L Q X (U x (by simp[Op.operands])) (U ix (by simp[Op.operands])) h
 |call c=>
  rw[X] at h U;have an:∀x∈c.args.toList,(s.ev g x).cR=false:=λx N=>U x (by simp[Op.operands,Call.operands];exact .inr (by simpa using N))
  cases J:c.callee with
  |builtin b=>
   cases b with
   |len=>exact ana Z L Q X J an h
   |min=>exact acB Z Q X (.inl J) an h
   |max=>exact acB Z Q X (.inr J) an h
   |_=>simp only[bz,J,PR.gives] at h
  |value f=>simp only[bz,J,PR.gives] at h
  |invoke r m=>simp only[bz,J,PR.gives] at h
 |_=>rw[X] at h;simp only[bz,PR.gives] at h
end
end
variable{v:List kV}{F:List Deferred}{x:World}{i:List RK}
section
section
variable{p:List Nat}{f:World}{D:bB}{P:Program}{g:Ty}{q:List (Nat×Nat×Nat)}{V:List Nat}{O:aa}{s:S}{a:Act}{W:World}
def wl{o:Obj}(h:Q.heap[X]?=some o):X<Q.heap.size:=(ax9.1 h).1
def cL.world{W':World}(h:cL f D v U F Q)(Z:∀(b:Nat)(o:Obj),Q.heap[b]?=some o->(∀R t N,o≠ .cells R t N)->W'.heap[b]?=some o):cL f D v U F W':=
 ⟨h.len,h.oZ,λn l r M L J=>let⟨a,b,c⟩:=h.cH n l r M L J;⟨a,Z _ _ b (λ_ _ _ h=>by cases h),c⟩,h.inj,let⟨I,a,H,b,c⟩:=h.kh;⟨I,a,H,b,λd X=>⟨Z _ _ (c d X).1 (λ_ _ _ h=>by cases h),(c d X).2⟩⟩⟩
def FH:Obj->Bool
 |.loop _|.deferred _=>true
 |_=>false
def acG{o:Obj}(h:FH o=true):∀Z t X,o≠ .cells Z t X:=λZ t X e=>by subst e;cases h
def acH{o:Obj}(h:FH o=true):∀t l,o≠jY t l:=by
 intro t l e;subst e;unfold jY at h;split at h;cases h;split at h;split at h<;>cases h;split at h;split at h<;>cases h;cases h
def cL.ane(h:cL f D v U F Q)(Z:∀(b:Nat)(o:Obj),Q.heap[b]?=some o->FH o=true->x.heap[b]?=some o):cL f D v U F x:=
 ⟨h.len,h.oZ,λn l r R N M=>let⟨a,b,c⟩:=h.cH n l r R N M;⟨a,Z _ _ b rfl,c⟩,h.inj,let⟨L,a,J,b,c⟩:=h.kh;⟨L,a,J,b,λd X=>⟨Z _ _ (c d X).1 rfl,(c d X).2⟩⟩⟩
def cL.below(h:cL f D v U F Q)(X:Below Q.heap.size Q x):cL f D v U F x:=
 h.world λb o Z _=>(X.block b (wl Z)).trans Z
def cL.cells(h:cL f D v U F Q){N:Array Value}{M:Nat×Nat}(L:Q.heap[X]?=some (.cells N Z M))(J:∀b,b≠X->b<Q.heap.size->x.heap[b]?=Q.heap[b]?):cL f D v U F x:=
 h.world λb o R I=>(J b (λe=>by subst e;rw[L] at R;cases R;exact I _ _ _ rfl) (wl R)).trans R
def aX.FI(h:aX Q g k H)(L:∀b,cu g k H b->x.heap[b]?=Q.heap[b]?)(hs:Q.heap.size<=x.heap.size):aX x g k H:=by
 induction h with
 |sl e A X B U J I G r q ho F=>
  refine aX.sl e A X B U J I (λi R Z=> ?_) r q (λi j R c z y Z N w=>F i j R c z y Z N w (λb E=>L b (cu.deep e _ _ i j R c z y b Z N w E)));obtain⟨p,b,u,rfl,⟨o,n,m,l⟩,f⟩:=G i R Z;have ac:0<X:=by have:=(axJ.1 Z).1;omega
  obtain⟨C,rfl⟩:∃C,X=C+1:=⟨X-1,by omega⟩;have M:=L b (cu.here e ⟨b,u,none⟩ C B U);refine⟨p,b,u,rfl,⟨o,n,m,M.trans l⟩,λj c N=> ?_⟩;have t:=f j c N;simp only[World.cell?,M] at t⊢;exact t
 |str s=>exact aX.str s
 |aq v d=>exact aX.aq v d
 |own e H h hn F=>exact aX.own e H (F λb E=>L b (cu.own e H b E)) hn
 |dead H h=>exact aX.dead H h
 |mr sh U J I G M=>exact aX.mr sh U J I G M
def aX.lt(h:aX Q g k H)(Z:cu g k H X):X<Q.heap.size:=by
 induction h generalizing X with
 |sl e A B y U x w N u t r R=>
  cases Z with
  |here e a l c U=>
   have M:0<U.length:=by omega
   obtain⟨-,X,q,L,⟨_,_,_,J⟩,-⟩:=N 0 _ (axK M);cases L;exact wl J
  |deep e v U i j I c z k X G F E C=>exact R i j I c z k G F E C
 |str s=>cases Z
 |aq v p=>cases Z
 |own e H h o R=>cases Z with
  |own e H X Z=>exact R Z
 |dead H h=>cases Z
 |mr n U=>cases Z
def aX.grow(h:aX Q g k H)(I:Below Q.heap.size Q x):aX x g k H:=by
 induction h with
 |sl e A G F Z X U R E C f N=>
  refine aX.sl e A G F Z X U (λi B z=> ?_) E C N;obtain⟨y,b,w,rfl,⟨u,t,r,M⟩,q⟩:=R i B z;have L:=I.block b (wl M);refine⟨y,b,w,rfl,⟨u,t,r,L.trans M⟩,λj c p=> ?_⟩;have J:=q j c p;simp only[World.cell?,L] at J⊢;exact J
 |str s=>exact aX.str s
 |aq v o=>exact aX.aq v o
 |own e H h n N=>exact aX.own e H N n
 |dead H h=>exact aX.dead H h
 |mr m Z X U R l=>exact aX.mr m Z X U R l
def gY.lt(R:gY p f V O N g i W)(h:aD N X=true):ad V X<W.heap.size:=by
 unfold aD at h;obtain⟨⟨t,Z⟩,U⟩:=ax1.1 h;exact(ax9.1 (R.box X t Z U)).1
def gY.below(R:gY p f V O N g i W)(X:Below W.heap.size W Q):gY p f V O N g i Q:=by
 refine⟨R.base.call X,R.own,R.inj,λZ t U h=> ?_,λk e M L J=> ?_⟩;rw[X.block _ (R.lt (by simp[aD,h]))];exact R.box Z t U h;obtain⟨I,H⟩:=R.ref k e M L J;exact⟨I.grow X,H⟩
def ur.lt(h:ur p f V O N g i W X Z H I):I<W.heap.size:=by
 obtain⟨R,Q,M,-,U,-⟩:=h.mem;exact(ax9.1 U).1
def ur.world{W':World}(h:ur p f V O N g i W X Z H I)(U:W'.heap[I]?=W.heap[I]?):ur p f V O N g i W' X Z H I:=by
 obtain⟨R,Q,M,L,J,G⟩:=h.mem;exact⟨h.own,⟨R,Q,M,L,U.trans J,G⟩,h.box,h.alone,h.inner⟩
def ao.below{X:World}(R:ao p f D g V O s a W)(Z:Below W.heap.size W X):ao p f D g V O s a X:=
 ⟨R.mem.below Z,R.dX,R.ei,R.eb,R.er,R.bY.below Z,R.size,R.tmps,λk e U b Q N M=>let t:=R.bw k e U b Q N M;t.world (Z.block b t.lt)⟩
def ao.put(R:ao p f D g V O s a W)(Z:Option Nat)(v:SV):ao p f D g V O (s.put Z v) (a.put Z (v.den O V)) W:=by
 cases Z with
 |none=>exact R
 |some d=>
  refine⟨R.mem,R.dX,R.ei,R.eb,R.er,R.bY,by simp[S.put,qL,Act.put,R.size],λt Q h=> ?_,R.bw⟩;simp only[S.put,qL,ayD] at h;simp only[Act.put];split at h;rename_i X;subst X;split at h;rename_i N;cases h;right;have:d<a.tmps.size:=by rw[R.size];exact N
  simp[this];cases h;rename_i X;rcases R.tmps t Q h with U|U;exact .inl U;right;rw[azF X];exact U
def ao.uu(R:ao p f D g V O s a W)(Z:s.bd=true):SV.cq O.i.length O.b.length O.r.length (aD s.boxes) s.tmps=true/\SV.m5 O.i.length O.b.length O.r.length (aD s.boxes) s.boxes=true:=by
 simp only[S.bd,axI] at Z;rw[R.ei,R.eb,R.er];exact Z
structure kj(bx:aY)(O O':aa)(V V':List Nat):Prop where
 agree:fl O O' O.i.length O.b.length O.r.length
 li:O.i.length<=O'.i.length
 lb:O.b.length<=O'.b.length
 lr:O.r.length<=O'.r.length
 ad:∀k,aD bx k=true->ad V' k=ad V k
def kj.refl(Z:aY)(O:aa)(V:List Nat):kj Z O O V V:=⟨fl.refl _ _ _ _,axQ _,axQ _,axQ _,λ_ _=>rfl⟩
def kj.trans{Z X:aY}{O U R:aa}{V Q N:List Nat}(h:kj Z O U V Q)(k:kj X U R Q N)(L:∀i,aD Z i=true->aD X i=true):kj Z O R V N:=
 ⟨h.agree.trans (k.agree.mono h.li h.lb h.lr),ayt h.li k.li,ayt h.lb k.lb,ayt h.lr k.lr,λj M=>(k.ad j (L j M)).trans (h.ad j M)⟩
def anf(O:aa)(x:XV):O.i.length<=(O.add x).i.length/\O.b.length<=(O.add x).b.length/\O.r.length<=(O.add x).r.length:=by cases x<;>simp[aa.add]
def Nv:∀(Z:List XV)(O:aa),O.i.length<=(O.ext Z).i.length/\O.b.length<=(O.ext Z).b.length/\O.r.length<=(O.ext Z).r.length
 |[],O=>by simp[aa.ext]
 |x::Z,O=>by
  have X:=anf O x;have U:=Nv Z (O.add x);simp only[aa.ext];omega
def yA(X:aY)(O:aa)(Z:List XV)(V:List Nat):kj X O (O.ext Z) V V:=by
 have h:=Nv Z O;exact⟨As Z O,h.1,h.2.1,h.2.2,λ_ _=>rfl⟩
def kj.den(h:kj N n c U l)(Z:R.bd n.i.length n.b.length n.r.length (aD N)=true):R.den c l=R.den n U:=SV.cB h.agree h.ad R Z
def kj.ap(h:kj N n c U l)(Z:SV.cq n.i.length n.b.length n.r.length (aD N) M=true):SV.ap c l M=SV.ap n U M:=SV.Fy h.agree h.ad M Z
def kj.cg(h:kj N n c U l)(Z:SV.cq n.i.length n.b.length n.r.length (aD N) M=true):SV.cg c l M=SV.cg n U M:=Jv h.agree h.ad M Z
def dC.ext(h:dC q n)(Z:kj N n c U l):dC q c:=by
 intro x R;obtain⟨X,Q⟩:=h x R;exact⟨azI X Z.lr,by rw[Z.agree.r _ X];exact Q⟩
def yB(h:e≠X):ad (U.set X I) e=ad U e:=by simp[ad,ays (Ne.symm h)]
def yC(h:X<U.length):ad (U.set X I) X=I:=by simp[ad,h]
def o9(h:Bq N X Z=true):dL N X=true:=by simp only[Bq,axI] at h;exact h.1
def FJ(h:Bq N X Z=true):oO Z=false:=by simp only[Bq,axI,ax0] at h;exact h.2
def jZ(h:dL N X=true):aD N X=false/\X<N.length:=by
 unfold dL at h;split at h;rename_i Z;exact⟨by simp[aD,bU,Z],(axJ.1 Z).1⟩;cases h
def acI(h:dL N X=true)(O:aa)(V:List Nat)(x:Nat):kj N O O V (V.set X x):=
 ⟨fl.refl _ _ _ _,axQ _,axQ _,axQ _,λk Z=>yB (λe=>by subst e;rw[(jZ h).1] at Z;cases Z)⟩
def uv{x:Option (TypeId×List SV)}(h:I≠X):bF (N.set X x) I=bF N I:=by simp[bU,ays (Ne.symm h)]
def CW(h:X<N.length):bF (N.set X (some w)) X=some w:=by simp[bU,h]
def lO(h:X<N.length):aD (N.set X (some w)) I=true<->I=X\/aD N I=true:=by
 by_cases Z:I=X;subst Z;simp[aD,CW h];simp[aD,uv Z,Z]
def ao.alloc(R:ao p f D g V O s a W){n:Nat}(B:dL s.boxes n=true)(t:TypeId)(J:List SV)(L:s.da J=true):
  ao p f D g (V.set n W.heap.size) O (s.bN n t J) a (W.alloc (jY t (SV.cg O V J))):=by
 simp only[S.da,axI] at L;obtain⟨I,L⟩:=L;obtain⟨z,y⟩:=R.uu I;rw[<-R.ei,<-R.eb,<-R.er] at L;obtain⟨x,Q⟩:=jZ B;have F:=acI B O V W.heap.size;have H:Below W.heap.size W (W.alloc (jY t (SV.cg O V J))):=(Below.refl _ _).alloc (axQ _) _;have M:n<V.length:=by rw[R.dX];exact Q
 have N:∀i,aD s.boxes i=true->i≠n:=λi X e=>by subst e;rw[x] at X;cases X
 refine⟨⟨R.mem.base.alloc _, ?_, ?_, ?_, ?_⟩,by simp[S.bN,R.dX],R.ei,R.eb,R.er,R.bY.below H,R.size, ?_,λk e E b Z U G=> ?_⟩;intro i X;rcases(lO Q).1 X with rfl|h;rw[yC M];exact .inl R.mem.base.size;rw[yB (N i h)];exact R.mem.own i h;intro i j X A h;rcases(lO Q).1 X with rfl|Z;rcases(lO Q).1 A with rfl|U;rfl;rw[yC M,yB (N j U)] at h;have:=R.mem.lt U;omega;rcases(lO Q).1 A with rfl|U;rw[yC M,yB (N i Z)] at h;have:=R.mem.lt Z;omega;rw[yB (N i Z),yB (N j U)] at h;exact R.mem.inj i j Z U h;intro i C w h;by_cases Z:i=n;subst Z;rw[S.bN,CW Q] at h;simp only[axM,azq] at h;obtain⟨rfl,rfl⟩:=h;rw[yC M,F.cg L];exact World.alloc_heap_new W _;rw[S.bN,uv Z] at h;rw[yB Z,H.block _ (R.mem.lt (by simp[aD,h])),F.cg (o8 y h)];exact R.mem.box i C w h;intro k e E Z U;obtain⟨G,v⟩:=R.mem.ref k e E Z U;refine⟨G.grow H,λb I i X=> ?_⟩;rcases(lO Q).1 X with rfl|h;rw[yC M];have:=G.lt I;omega;rw[yB (N i h)];exact v b I i h;intro C u h;rcases R.tmps C u h with Z|Z;exact .inl Z;right;rw[F.den (qT z h)];exact Z;have t:=R.bw k e E b Z U G;obtain⟨r,q,o,m,l,d⟩:=t.mem;refine⟨t.own,⟨r,q,o,m,(H.block b t.lt).trans l,d⟩,λi X=> ?_,t.alone,t.inner⟩;rcases(lO Q).1 X with rfl|h;rw[yC M];have:=t.lt;omega;rw[yB (N i h)];exact t.box i h
def uw(l:List Value)(Z:Nat):List Value->List Value
 |[]=>l
 |v::r=>uw (l.set Z v) (Z+1) r
def UH:∀(X l:List Value)(Z:Nat),(uw l Z X).length=l.length
 |[],l,Z=>rfl
 |v::X,l,Z=>by rw[uw,UH];simp
def acJ:∀(Z l:List SV)(X:Nat),SV.ap O V (iK l X Z)=uw (SV.ap O V l) X (SV.ap O V Z)
 |[],l,X=>rfl
 |v::Z,l,X=>by
  rw[iK,acJ Z,SV.ap,uw];congr 1;simp[lL]
def acK{v:Value}(h:fG v=true):v.oneCell'=true:=by cases v<;>simp_all[fG,Value.oneCell']
def UI(b Z:Nat)(t:TypeId):∀(R:List Value)(i:Nat)(X:Array Value)(W:World),W.heap[b]?=some (.cells X t (0,0))->Z+i+R.length<=X.size->(∀v∈R,fG v=true)->
  ∃U,(storeCells ⟨b,Z,none⟩ R i).run P W=.ok () U/\U.heap[b]?=some (.cells (uw X.toList (Z+i) R).toArray t (0,0))/\(∀k,k≠b->U.heap[k]?=W.heap[k]?)/\U.heap.size=W.heap.size/\U.os=W.os/\U.tape=W.tape/\U.output=W.output
 |[],i,X,W,Q,_,_=>⟨W,rfl,by simpa[uw] using Q,λ_ _=>rfl,rfl,rfl,rfl,rfl⟩
 |v::R,i,X,W,Q,L,N=>by
  simp only[ayu] at L;have J:Z+i<X.size:=by omega
  have I:W.cell? ⟨b,Z+i,none⟩=some X[Z+i]:=by simp[World.cell?,Q,J]
  have H:W.frozen? ⟨b,Z+i,none⟩=false:=by simp[World.frozen?,Q]
  have G:(store ((⟨b,Z,none⟩:Addr).add i) v).run P W=.ok () (W.setCell ⟨b,Z+i,none⟩ v):=by
   rw[sI,run_store P W _ v _ (acK (N v (by simp))),I];simp[H]
  have F:(W.setCell ⟨b,Z+i,none⟩ v).heap[b]?=some (.cells (X.setIfInBounds (Z+i) v) t (0,0)):=by
   simp[World.setCell,azk,Q]
  obtain⟨U,E,C,B,A,z,y,w⟩:=UI b Z t R (i+1) (X.setIfInBounds (Z+i) v) (W.setCell ⟨b,Z+i,none⟩ v) F (by simp;omega) (λx u=>N x (by simp[u]));refine⟨U,by simp only[storeCells,Sem.run_bind,G,Result.andThen_ok,E], ?_,λk M=>(B k M).trans (Below.heap_setCell _ _ _ _ M),A.trans (by simp[World.setCell]),z,y,w⟩;rw[C,uw];simp[azp]
def acL(R:ao p f D g V O s a W):∀{l:List SV},Ae l=true->∀v∈SV.ap O V l,fG v=true
 |[],_,v,Z=>by simp[SV.ap] at Z
 |x::U,h,v,Z=>by
  simp only[MI,axI] at h;simp only[SV.ap,axT] at Z;rcases Z with rfl|Z;have X:=h.1;cases x<;>simp[SV.single] at X<;>try rfl
  rename_i r;exact qV R r (by cases r<;>simp_all[RE.Cm]);simp only[SV.den];exact Ur _ _ _;exact acL R h.2 v Z
def ao.store(R:ao p f D g V O s a W){L:TypeId}(u:cW P Z J){off:Nat}{v:SV}(Q:bF s.boxes X=some (L,M))(cQ:oO L=false)(r:v.cells.length=J.ab.length)(ho:off+v.cells.length<=M.length)(q:Ae v.cells=true)(z:(v.den O V).cells.toList=SV.ap O V v.cells):
  ∃I,(Instr.storeAt Z (.pointer (some ⟨ad V X,off,none⟩)) (v.den O V)).run P W=.ok () I/\ao p f D g V O (s.bN X L (iK M off v.cells)) a I:=by
 have E:=R.mem.box X L M Q;rw[qU cQ] at E;obtain⟨I,o,n,H,m,l,d,c⟩:=UI (P:=P) (ad V X) off L (SV.ap O V v.cells) 0 _ W E (by simp;omega) (acL R q);have ac:(v.den O V).cells.size=J.ab.length:=by rw[<-ayU,z];simp[r]
 have y:X<s.boxes.length:=(axJ.1 (gG.1 Q)).1;have G:aD s.boxes X=true:=by simp[aD,Q]
 have F:∀j,aD (s.boxes.set X (some (L,iK M off v.cells))) j=true->aD s.boxes j=true:=λj U=>by
  rcases(lO y).1 U with rfl|h;exact G;exact h
 refine⟨I, ?_,⟨⟨?_,λj U=>R.mem.own j (F j U),λj k U C=>R.mem.inj j k (F j U) (F k C), ?_, ?_⟩,by simpa[S.bN] using R.dX,R.ei,R.eb,R.er,R.bY.cells E (λb Q _=>H b Q),R.size,R.tmps,λk e B b q1 q2 q3=> ?_⟩⟩;simp only[Instr.storeAt,Instr.sureAddr,storeVar,Sem.run_bind,Sem.run_pure,Result.andThen_ok,u.ki,ac,z,ne_eq,not_true_eq_false,if_false,o];refine⟨l.trans R.mem.base.os,d.trans R.mem.base.tape,c.trans R.mem.base.output,by rw[m];exact R.mem.base.size,λk C x=> ?_⟩;have af:k≠ad V X:=by
  rintro rfl;rcases R.mem.own X G with h|h;omega;exact x h
 rw[H k af];exact R.mem.base.block k C x;intro j N ag U;by_cases A:j=X;subst A;rw[S.bN,CW y] at U;simp only[axM,azq] at U;obtain⟨rfl,rfl⟩:=U;rw[n,qU cQ,acJ];simp;rw[S.bN,uv A] at U;rw[H _ (λh=>A (R.mem.inj j X (by simp[aD,U]) G h))];exact R.mem.box j N ag U;intro k e B al an;obtain⟨a0,w⟩:=R.mem.ref k e B al an;exact⟨a0.FI (λb Q=>H b (λh=>w b Q X G h.symm)) (by omega),λb Q j U=>w b Q j (F j U)⟩;have Z:=R.bw k e B b q1 q2 q3;have N:=Z.world (W':=I) (H b (λh=>Z.box X G h.symm));exact⟨N.own,N.mem,λj U=>N.box j (F j U),N.alone,N.inner⟩
end
end
end
end Go.Proofs.YtieaiocljdpebaaGreatDoor.Y
