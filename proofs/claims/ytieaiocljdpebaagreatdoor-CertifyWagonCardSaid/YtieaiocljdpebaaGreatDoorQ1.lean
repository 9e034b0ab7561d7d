/- Part 1 of the proof; the last part says what is shown. -/
import GoSem.Step
import Derived.Below
import Derived.Laws.AppendOwn
import Derived.Deep.Draws
import Derived.RangeFuncRecord
import Derived.CallsIn
import Derived.OrdersIn
import Derived.Sort.LoopGhostIn
import Derived.RangeFuncCalls
import Derived.Laws.Cells
import Derived.MapKept
set_option linter.defProp false
set_option linter.unusedVariables false
set_option linter.unusedSimpArgs false
set_option linter.unnecessarySimpa false
open Bool renaming and_eq_true→awF,not_eq_true'→awY,false_eq_true→aw0,or_eq_true→aw9,eq_iff_iff→axO,not_eq_false→ax8,rec→azb,or_eq_true_iff→azs,and_assoc→azU,true_or→aAa
open List renaming getElem?_eq_some_iff→awG,getElem?_eq_getElem→awH,getElem?_append_left→awI,getD_eq_getElem?_getD→awK,getElem?_map→awL,getElem?_append_right→awM,mem_cons→awP,length_append→awQ,replicate→awS,map_cons→awT,all_eq_true→awU,mem_of_getElem?→aw1,range→aw3,map_congr_left→aw5,mem_map→aw7,length_eq_one_iff→axb,getElem?_take→axc,ext_getElem?→axd,getElem?_cons_succ→axh,getElem?_drop→axl,length_cons→axm,getElem?_set_ne→axs,map_map→axu,getElem?_of_mem→axv,getElem?_eq_none_iff→axA,length_map→axB,getElem?_set→axC,drop_eq_getElem_cons→axE,mem_cons_of_mem→axS,range'→ax2,foldl_cons→ax4,getElem_mem→ax6,mem_of_find?_eq_some→ayg,rec→ayt,range_eq_range'→ayv,all_cons→ayF,zip_cons_cons→ayH,range'_succ→ayU,length→ayW,find?_some→ayY,drop_eq_nil_of_le→ay9,length_singleton→azf,getElem?_toArray→azg,drop_zero→azt,find?_cons→azN,mapM_cons→azV
open Option.some renaming injEq→awJ
open Nat renaming le_refl→awN,lor→awW,zero_add→axf,shiftLeft→axk,le_trans→axn,beq→axx,add_zero→ax1,testBit_or→ax7,add_assoc→ayk,testBit_add_one→aym,lt_of_lt_of_le→ayo,gcd→ayR,rec→azd,testBit_shiftLeft→aze,one_shiftLeft→azC,testBit_zero→azG,eq_of_beq_eq_true→azT,beq_eq→az0,testBit_two_pow→az7
open Option renaming map_some→awO,isSome_iff_exists→awZ,getD_some→axi,bind_some→ayV,getD_none→azc
open Array renaming getElem?_eq_some_iff→aw6,toList_map→axq,ext'→axD,length_toList→axP,getElem?_modify→aye,getElem?_setIfInBounds_ne→ayD,getElem?_eq_none→ay8,mapM_eq_mapM_toList→azD,foldl_toList→aAb
open List.cons renaming injEq→axH
open Prod.mk renaming injEq→ayl
namespace Go.Proofs.YtieaiocljdpebaaGreatDoor.Y
structure Sh where
 kt:TypeId
 vt:TypeId
 nk:Nat
 ka:Bool
 va:Bool
 deriving DecidableEq
inductive RK where
 |sl (e:TypeId)
 |str
 |ar
 |own (e:TypeId)
 |dead
 |mr (sh:Sh)
 deriving DecidableEq
def RK.rd:RK->RK
 |.own e=>.sl e
 |k=>k
inductive CT where
 |int (k:IntKind)
 |bool
 |ar (z:Value) (k:RK)
inductive TD where
 |one
 |dH
 |str
 |slice (e:TypeId)
 |arr (n:Nat) (e:TypeId)
 |struct (fs:List (Nat×TypeId))
 |map (k e:TypeId) (n:Nat) (ag:Bool)
structure TI where
 d:TD
 ab:List CT
 eq:Bool:=false
mutual
inductive IE where
 |c (n:Int)
 |v (k:Nat)
 |bin (op:BinOp) (k:IntKind) (a b:IE)
 |conv(k:IntKind) (a:IE)
 |len (r:RE)
 |mm (mx:Bool) (a b:IE)
 |bY (b:BE) (x y:IE)
 |cell (r:RE) (i:IE) (j:Nat)
 |ku (r:RE) (i:IE)
 |look (r:RE) (n:Nat) (a b c:IE) (j:Nat)
inductive BE where
 |c (b:Bool)
 |v (k:Nat)
 |cmp (op:BinOp) (a b:IE)
 |not (a:BE)
 |and (a b:BE)
 |beq (a b:BE)
 |bY (b x y:BE)
 |cell (r:RE) (i:IE) (j:Nat)
 |seq (a b:RE)
 |look (r:RE) (n:Nat) (a b c:IE) (j:Nat)
 |has (r:RE) (n:Nat) (a b c:IE)
inductive RE where
 |v (k:Nat)
 |cell (r:RE) (i:IE) (j:Nat) (k:RK)
 |k (v:Value)
end
inductive SV where
 |int (k:IntKind) (e:IE)
 |bool (b:BE)
 |ref (r:RE)
 |loc (i off:Nat)
 |el (r:RE) (w:Nat) (i:IE) (off:Nat)
 |fo (i off len cap:Nat)
 |agg (l:List SV)
 |bj (l:List SV)
 |fn (f:FuncId) (caps:List SV)
 |dH (t:TypeId) (x:SV)
 |yl (n:Nat)
 |any
 |mp (i:Nat)
 |dI (e:IE) (ks:List Int) (vs:List SV)
inductive PX where
 |ret
 |exit (id:Nat)
 deriving DecidableEq
inductive kO where
 |ready
 |busy
 |done (e:PX)
 deriving DecidableEq
abbrev aX:=List (Option (TypeId×List SV))
structure S where
 tmps:List SV
 boxes:aX
 ni:Nat
 nb:Nat
 rs:List RK
 al:Nat
 lk:Nat
 pd:List kO
noncomputable def bA(l:aX)(i:Nat):Option (TypeId×List SV):=ayt (motive:=λ_=>Nat->Option (TypeId×List SV)) (λ_=>none) (λx _ Z t=>azd (motive:=λ_=>Option (TypeId×List SV)) x (λm _=>Z m) t) l i
def bP:∀(l:aX)(i:Nat),bA l i=(match l[i]? with
  |some (some b)=>some b
  |_=>none)
 |[],_=>rfl
 |none::_,0=>rfl
 |some _::_,0=>rfl
 |_::l,i+1=>by rw[axh];exact bP l i
noncomputable section
def oX:TypeId:=1099511627776
def qc:TypeId:=1099511627777
def rM:TypeId:=1099511627778
def oa(t:TypeId):Bool:=decide (oX<=t)
def iP(l:aX)(i:Nat):Option (TypeId×List SV):=match bA l i with
 |some (t,cs)=>if oa t then none else some (t,cs)
 |none=>none
inductive LK where
 |int (k:IntKind)
 |bool
 |ref (k:RK)
 deriving DecidableEq
inductive XE where
 |normal
 |ret
 |exit (id:Nat)
 |aS (v:SV)
inductive LE where
 |ref (r:RE)
 |lit (l:List (List SV))
 |jG (a b:LE)
 |oc (n:IE) (row:List SV)
 |set (a:LE) (i:IE) (off:Nat) (cs:List SV)
 |sub (a:LE) (lo hi:IE)
 |ins (a:LE) (n:Nat) (cs:List SV)
inductive aJ where
 |lex (cs:List Nat) (desc:Bool)
 |ratio (n d:Nat)
 |co (k:Nat) (o:aJ) (as:List IE)
inductive T where
 |out (e:XE) (s:S)
 |ret (v:SV) (bx:aX) (rs:List RK)
 |aS (v:SV)
 |node (b:BE) (t f:T)
 |az (b:BE) (t:T)
 |call (f:FuncId) (args:List SV) (bx:aX) (rs:List RK) (ks:List LK) (fp:SV) (t:T)
 |loop (al:Nat) (ks:List LK) (x0:List SV) (t:T)
 |back (al:Nat) (x:List SV)
 |new (e:TypeId) (x:LE) (rs rsn:List RK) (t:T)
 |rows (k:RK) (x:LE) (rs:List RK) (t:T)
 |eC (g h:BE) (t f:T)
 |pick (n:IE) (g h:BE) (t f:T)
 |dl (f g:FuncId) (e:TypeId) (sp:aJ) (st:Bool) (r:RE) (rs:List RK) (t:T)
 |stuck (msg:String)
def Eo:Value->SV
 |.int k n=>.int k (.c n)
 |.bool b=>.bool (.c b)
 |v=>.ref (.k v)
def Iw:Value->SV
 |.int k n=>.int k (.c n)
 |.bool b=>.bool (.c b)
 |.agg cs=>.agg (cs.toList.map Eo)
 |v=>.ref (.k v)
def SF(l:List SV)(t:Nat):SV:=ayt (motive:=λ_=>Nat->SV) (λ_=>.any) (λx _ Z t=>azd (motive:=λ_=>SV) x (λm _=>Z m) t) l t
def aaV(l:List SV)(d:Nat)(v:SV):List SV:=ayt (motive:=λ_=>Nat->List SV) (λ_=>[]) (λx xs Z d=>azd (motive:=λ_=>List SV) (v::xs) (λm _=>x::Z m) d) l d
@[simp] def ng:∀(l:List SV)(t:Nat),SF l t=l.getD t .any
 |[],_=>rfl
 |_::_,0=>rfl
 |_::xs,t+1=>ng xs t
@[simp] def nh:∀(l:List SV)(d:Nat)(v:SV),aaV l d v=l.set d v
 |[],_,_=>rfl
 |_::_,0,_=>rfl
 |x::xs,d+1,v=>congrArg (x::·) (nh xs d v)
def S.ev(gl:List (Nat×Nat×Nat))(s:S):Operand->SV
 |.tmp t=>SF s.tmps t
 |.const v=>Iw v
 |.global g=>match gl.find? (λx=>x.1==g) with
  |some (_,k,w)=>.el (.v k) w (.c 0) 0
  |none=>.any
 |.func f=>.fn f []
def S.put(s:S)(Z:Option Nat)(v:SV):S:=
 match Z with
 |some d=>{s with tmps:=aaV s.tmps d v}
 |none=>s
def zH(r:RE)(i:IE)(j:Nat):CT->SV
 |.int k=>.int k (.cell r i j)
 |.bool=>.bool (.cell r i j)
 |.ar _ k=>.ref (.cell r i j k)
def xw:CT->SV
 |.int k=>.int k (.c 0)
 |.bool=>.bool (.c false)
 |.ar z _=>.ref (.k z)
def TD.isAgg:TD->Bool
 |.arr _ _|.struct _=>true
 |_=>false
def SV.cells:SV->List SV
 |.agg l=>l
 |v=>[v]
def fw:Value->Bool
 |.agg _|.tuple _=>false
 |_=>true
def RE.BV:RE->Bool
 |.k w=>fw w
 |_=>true
def SV.BW:SV->Bool
 |.ref (.k w)=>fw w
 |_=>true
def SV.single:SV->Bool
 |.ref (.k w)=>fw w
 |.agg _|.bj _|.any=>false
 |_=>true
noncomputable def zI(l:List SV):Bool:=ayt (motive:=λ_=>Bool) true (λx _ Z=>azb (motive:=λ_=>Bool) false Z x.single) l
def Md:(zI []=true)/\(∀x xs,zI (x::xs)=(x.single&&zI xs)):=⟨rfl,λx xs=>by
 show azb (motive:=λ_=>Bool) false (zI xs) x.single=_;cases x.single<;>rfl⟩
def rN(l:List SV)(off n:Nat):List SV:=(l.drop off).take n
def rO(Z:TI)(l:List SV)(off:Nat):Option SV:=
 if Z.d.isAgg then(if off+Z.ab.length<=l.length then some (.agg (rN l off Z.ab.length)) else none) else l[off]?
def iw(l:List SV)(off:Nat):List SV->List SV
 |[]=>l
 |v::r=>iw (l.set off v) (off+1) r
def tM(place:Nat->Option (Nat×Nat))(cells:List SV):List (Nat×SV)->Option (List SV)
 |[]=>some cells
 |(i,v)::rest=>
  match place i with
  |none=>none
  |some (off,size)=>if v.cells.length !=size||decide (cells.length<off+size)|| !v.BW then none else tM place (iw cells off v.cells) rest
def cq(Z:TI):List SV:=Z.ab.map xw
def rP(n:Nat)(l:List SV):List SV:=match n with
 |0=>[]
 |n+1=>l++rP n l
def Me:BinOp->Bool
 |.eql|.neq|.lss|.leq|.gtr|.geq=>true
 |_=>false
def ew:BinOp->Int->Int->Bool
 |.eql,x,y=>x==y
 |.neq,x,y=>x !=y
 |.lss,x,y=>decide (x<y)
 |.leq,x,y=>decide (x<=y)
 |.gtr,x,y=>decide (x>y)
 |.geq,x,y=>decide (x>=y)
 |_,_,_=>false
def bh:BinOp->IntKind->Int->Int->Int
 |.add,k,x,y=>k.wrap (x+y)
 |.sub,k,x,y=>k.wrap (x-y)
 |.mul,k,x,y=>k.wrap (x*y)
 |.quo,k,x,y=>k.wrap (x.tdiv y)
 |.rem,_,x,y=>x.tmod y
 |.shr,k,x,y=>x.fdiv (2^min y.toNat k.bits)
 |_,_,_,_=>0
def SH:BinOp->Bool
 |.add|.sub|.mul=>true
 |_=>false
def SI:BinOp->Bool
 |.quo|.rem=>true
 |_=>false
def aaW:BinOp->Bool
 |.shr=>true
 |_=>false
inductive PR where
 |ok (v:SV)
 |az (b:BE) (v:SV)
 |no (why:String)
def BX(op:BinOp)(k:IntKind):IE->IE->IE
 |.c x,.c y=>.c (bh op k x y)
 |a,b=>.bin op k a b
def mb(op:BinOp):IE->IE->BE
 |.c x,.c y=>.c (ew op x y)
 |a,b=>.cmp op a b
def zJ:BE->BE
 |.c b=>.c (!b)
 |b=>.not b
def qe:BE->BE->BE
 |.c true,b=>b
 |.c false,_=>.c false
 |a,.c true=>a
 |a,b=>.and a b
def Iy:BE->BE->BE
 |.c a,.c b=>.c (a==b)
 |.c true,b=>b
 |.c false,b=>zJ b
 |a,.c true=>a
 |a,.c false=>zJ a
 |a,b=>.beq a b
def qf(i:IE)(n:IE):BE:=qe (mb .leq (.c 0) i) (mb .lss i n)
def Mf(Z:Bool):IE->IE->IE
 |.c x,.c y=>.c (if Z then max x y else min x y)
 |a,b=>.mm Z a b
def BY(Z:Bool)(k:IntKind):IE->List SV->Option IE
 |e,[]=>some e
 |e,.int X x::r=>if k=X then BY Z k (Mf Z e x) r else none
 |_,_=>none
abbrev Ty:=TypeId->Option TI
def aW(ty:Ty):RK->List CT
 |.sl e=>match ty e with
  |some Z=>Z.ab
  |none=>[]
 |.mr X=>(match ty X.kt with
  |some Z=>Z.ab
  |none=>[])++(match ty X.vt with
  |some Z=>Z.ab
  |none=>[])
 |_=>[]
def BZ:Option CT->RK
 |some (.ar _ k)=>k
 |_=>.ar
def RE.kind(ty:Ty)(s:S):RE->RK
 |.v n=>(s.rs.getD n .ar).rd
 |.cell r _ j Z=>match RE.kind ty s r with
  |.sl e=>if BZ (aW ty (.sl e))[j]?=Z then Z else .ar
  |_=>.ar
 |.k (.string _)=>.str
 |.k _=>.ar
def Ep(ty:Ty)(s:S):CT->SV->SV->Option BE
 |.int k,.int Z a,.int X b=>if Z=k/\X=k then some (mb .eql a b) else none
 |.bool,.bool a,.bool b=>some (Iy a b)
 |.ar _ .str,.ref a,.ref b=>if a.kind ty s=.str/\b.kind ty s=.str then some (.seq a b) else none
 |_,_,_=>none
def nj(ty:Ty)(s:S):List CT->List SV->List SV->Option BE
 |[],[],[]=>some (.c true)
 |c::cs,x::xs,y::ys=>match Ep ty s c x y,nj ty s cs xs ys with
  |some a,some b=>some (qe a b)
  |_,_=>none
 |_,_,_=>none
def Er(ty:Ty)(s:S)(Z:Option TI)(a b:List SV):Option BE:=match Z with
 |some ⟨_,ab,true⟩=>nj ty s ab a b
 |_=>none
def SJ(ty:Ty)(Z:List (Nat×TypeId))(i:Nat):Option (Nat×Nat):=match Z[i]? with
 |some (o,X)=>(ty X).map λf=>(o,f.ab.length)
 |none=>none
def RE.nil:RE->Bool
 |.k (.slice none 0 0)=>true
 |_=>false
def RE.mI(ty:Ty)(s:S)(Z:Sh)(r:RE):Bool:=decide (r.kind ty s=.mr Z)||r.nil
def B3(n:Nat)(ag:Bool):SV->Option (IE×IE×IE)
 |.int .i64 a=>if n==1&& !ag then some (a,.c 0,.c 0) else none
 |.agg [.int .i64 a]=>if n==1&&ag then some (a,.c 0,.c 0) else none
 |.agg [.int .i64 a,.int .i64 b]=>if n==2&&ag then some (a,b,.c 0) else none
 |.agg [.int .i64 a,.int .i64 b,.int .i64 c]=>if n==3&&ag then some (a,b,c) else none
 |_=>none
def jH:CT->Bool
 |.ar _ _=>false
 |_=>true
def mJ(r:RE)(n:Nat)(a b c:IE):Nat->List CT->List SV
 |_,[]=>[]
 |j,.int k::cs=>.int k (.look r n a b c j)::mJ r n a b c (j+1) cs
 |j,.bool::cs=>.bool (.look r n a b c j)::mJ r n a b c (j+1) cs
 |j,.ar z _::cs=>.ref (.k z)::mJ r n a b c (j+1) cs
def od(ag:Bool)(l:List SV):SV:=if ag then .agg l else l.getD 0 .any
def mK:List SV->Option (List Int)
 |[]=>some []
 |.int .i64 (.c k)::_::r=>(mK r).map (k::·)
 |_=>none
def jf:List SV->List SV
 |_::v::r=>v::jf r
 |_=>[]
def vz(e:IE):List Int->List SV->Option IE
 |k::ks,.int _ x::vs=>(vz e ks vs).map λy=>.bY (.cmp .eql e (.c k)) x y
 |[],[]=>some (.c 0)
 |_,_=>none
def xx(e:IE):List Int->List SV->Option BE
 |k::ks,.bool x::vs=>(xx e ks vs).map λy=>.bY (.cmp .eql e (.c k)) x y
 |[],[]=>some (.c false)
 |_,_=>none
def Es:SV->Bool
 |.fn _ _=>true
 |.ref (.k .nilFunc)=>true
 |_=>false
def Iz:Option TI->Bool
 |some ⟨.one,[.ar .nilFunc _],_⟩=>true
 |_=>false
def xz(e:IE):List Int->List SV->BE
 |k::ks,.fn _ _::vs=>.bY (.cmp .eql e (.c k)) (.c false) (xz e ks vs)
 |k::ks,_::vs=>.bY (.cmp .eql e (.c k)) (.c true) (xz e ks vs)
 |_,_=>.c true
def SK(e:IE)(ks:List Int)(vs:List SV):CT->Option SV
 |.int k=>if vs.all λv=>match v with|.int Z _=>decide (k=Z)|_=>false then(vz e ks vs).map (.int k) else none
 |.bool=>(xx e ks vs).map .bool
 |.ar .nilFunc _=>if vs.all Es&&ks.length==vs.length then some (.dI e ks vs) else none
 |_=>none
def xA(e:IE)(ks:List Int)(rows:List (List SV)):Nat->List CT->Option (List SV)
 |_,[]=>some []
 |j,c::cs=>match SK e ks (rows.map λr=>r.getD j .any) c,xA e ks rows (j+1) cs with
  |some v,some r=>some (v::r)
  |_,_=>none
def B4(e:IE):List Int->BE
 |[]=>.c false
 |k::ks=>.bY (.cmp .eql e (.c k)) (.c true) (B4 e ks)
def cJ{α:Type}(x:Int):List Int->List α->Option α
 |k::ks,v::vs=>if x=k then some v else cJ x ks vs
 |_,_=>none
def vA(Z:TI)(v:SV):Bool:=v.cells.length==Z.ab.length&&v.BW&&(match v with
 |.agg _=>Z.d.isAgg
 |_=> !Z.d.isAgg)
def aaX(Z:TI)(e:IE)(cs:List SV):Option (SV×BE):=match mK cs with
 |some ks=>match e with
  |.c x=>match cJ x ks (jf cs) with
   |some v=>some (v,.c true)
   |none=>some (od Z.d.isAgg (cq Z),.c false)
  |e=>if(jf cs).all (vA Z) then(xA e ks ((jf cs).map SV.cells) 0 Z.ab).map λl=>(od Z.d.isAgg l,B4 e ks) else none
 |none=>none
def SL:CT->Bool
 |.int .i64=>true
 |_=>false
def oe(ty:Ty)(k:TypeId)(n:Nat)(ag:Bool):Bool:=match ty k with
 |some tk=>tk.ab.length==n&&tk.ab.all SL&&tk.d.isAgg==ag
 |none=>false
def Mg(Z:Bool)(v:SV)(b:BE):PR:=.ok (if Z then .bj [v,.bool b] else v)
def Mh(ty:Ty)(s:S)(k e:TypeId)(n:Nat)(ag X:Bool)(i:Nat)(kv:SV):PR:=match ty e,B3 n ag kv,bA s.boxes i with
 |some Z,some (a,b,c),some (W,cs)=>if !oe ty k n ag then .no "" else
  if W==qc then(match cs with
   |[.ref r,.int .i64 (.c V),.bool (.c U),.bool (.c va)]=>if r.mI ty s ⟨k,e,n,ag,Z.d.isAgg⟩&&V==(n:Int)&&U==ag&&va==Z.d.isAgg&&Z.ab.all jH&&Z.ab.length !=0 then Mg X (od Z.d.isAgg (mJ r n a b c n Z.ab)) (.has r n a b c) else .no ""
   |_=>.no "")
  else if W==oX then(if n==1&& !ag then(match aaX Z a cs with
   |some (v,x)=>Mg X v x
   |none=>.no "") else .no "")
  else .no ""
 |_,_,_=>.no ""
def xB(n:Nat):List Int:=(aw3 n).map λ(i:Nat)=>(i:Int)
def Mi(Z:TI)(e:IE)(ks:List Int)(ps:List SV):Option SV:=if ps.all (vA Z) then(xA e ks (ps.map SV.cells) 0 Z.ab).map (od Z.d.isAgg) else none
def tN(vs:List SV):Option Nat:=match vs with
 |.loc i _::_=>if vs.all λv=>match v with
  |.loc j _=>i==j
  |_=>false then some i else none
 |_=>none
def zK{α:Type}:List (Option α)->Option (List α)
 |[]=>some []
 |some x::r=>(zK r).map (x::·)
 |none::_=>none
def SM(Z:TI)(cs:List SV):SV->Option SV
 |.loc _ off=>rO Z cs off
 |_=>none
def bq(ty:Ty)(gl:List (Nat×Nat×Nat))(s:S):Op->PR
 |.move x|.assign x=>.ok (s.ev gl x)
 |.pick c a b=>match s.ev gl c with
  |.bool (.c true)=>.ok (s.ev gl a)
  |.bool (.c false)=>.ok (s.ev gl b)
  |_=>.no ""
 |.load t a=>match ty t,s.ev gl a with
  |some X,.loc i off=>match iP s.boxes i with
   |some (_,cs)=>match rO X cs off with
    |some v=>.ok v
    |none=>.no ""
   |none=>.no ""
  |some X,.el r w i off=>match r.kind ty s with
   |.sl e=>
    if(aW ty (.sl e)).length !=w then .no "" else
    match rO X ((aw3 w).map λj=>zH r i j ((aW ty (.sl e)).getD j .bool)) off with
    |some v=>.az (qf i (.len r)) v
    |none=>.no ""
   |_=>.no ""
  |some X,.dI e ks vs=>match(tN vs).bind λi=>iP s.boxes i with
   |some (_,cs)=>match(zK (vs.map (SM X cs))).bind (Mi X e ks) with
    |some v=>if ks.length==vs.length then .az (B4 e ks) v else .no ""
    |none=>.no ""
   |none=>.no ""
  |_,_=>.no ""
 |.fieldAddr V x f=>match ty V,s.ev gl x with
  |some ⟨.struct W,_,_⟩,.loc i off=>match W[f]? with
   |some (o,t)=>match ty t with
    |some X=>if X.ab.length==0 then .no "" else .ok (.loc i (off+o))
    |none=>.no ""
   |none=>.no ""
  |some ⟨.struct W,_,_⟩,.el r w i off=>match W[f]? with
   |some (o,t)=>match ty t with
    |some X=>if X.ab.length==0 then .no "" else .ok (.el r w i (off+o))
    |none=>.no ""
   |none=>.no ""
  |_,_=>.no ""
 |.field V x f=>match ty V,s.ev gl x with
  |some ⟨.struct W,_,_⟩,.agg l=>match W[f]? with
   |some (o,t)=>match ty t with
    |some X=>match rO X l o with
     |some v=>.ok v
     |none=>.no ""
    |none=>.no ""
   |none=>.no ""
  |_,_=>.no ""
 |.indexAddr t x ix=>match ty t,s.ev gl x,s.ev gl ix with
  |some ⟨.arr n e,_,_⟩,.loc i off,.int _ (.c m)=>match ty e with
   |some Z=>if decide (0<=m)&&decide (m<(n:Int)) then .ok (.loc i (off+m.toNat*Z.ab.length)) else .no ""
   |none=>.no ""
  |some ⟨.arr n e,_,_⟩,.el r w (.c i) off,.int _ m=>match ty e with
   |some Z=>if Z.ab.length==w&&i==0&&off==0&&Z.ab.length !=0 then .az (qf m (.c n)) (.el r w m 0) else
    match m with
    |.c m=>if decide (0<=m)&&decide (m<(n:Int)) then .ok (.el r w (.c i) (off+m.toNat*Z.ab.length)) else .no ""
    |_=>.no ""
   |none=>.no ""
  |some ⟨.arr n e,_,_⟩,.el r w i off,.int _ (.c m)=>match ty e with
   |some Z=>if decide (0<=m)&&decide (m<(n:Int)) then .ok (.el r w i (off+m.toNat*Z.ab.length)) else .no ""
   |none=>.no ""
  |some ⟨.slice e,_,_⟩,.ref r,.int _ m=>match ty e,r.kind ty s with
   |some Z,.sl _=>.az (qf m (.len r)) (.el r Z.ab.length m 0)
   |_,_=>.no ""
  |some ⟨.slice e,_,_⟩,.fo i off R _,.int _ (.c m)=>match ty e with
   |some Z=>if decide (0<=m)&&decide (m<(R:Int)) then .ok (.loc i (off+m.toNat*Z.ab.length)) else .no ""
   |none=>.no ""
  |some ⟨.arr n e,_,_⟩,.loc i off,.int _ m=>match ty e with
   |some Z=>.az (qf m (.c n)) (.dI m (xB n) ((aw3 n).map λj=>.loc i (off+j*Z.ab.length)))
   |none=>.no ""
  |_,_,_=>.no ""
 |.index t x ix=>match ty t,s.ev gl x,s.ev gl ix with
  |some ⟨.arr n e,_,_⟩,.agg l,.int _ (.c m)=>match ty e with
   |some Z=>if decide (0<=m)&&decide (m<(n:Int)) then(match rO Z l (m.toNat*Z.ab.length) with
    |some v=>.ok v
    |none=>.no "") else .no ""
   |none=>.no ""
  |some ⟨.arr n e,_,_⟩,.agg l,.int _ m=>match ty e with
   |some Z=>match(zK ((aw3 n).map λj=>rO Z l (j*Z.ab.length))).bind (Mi Z m (xB n)) with
    |some v=>.az (qf m (.c n)) v
    |none=>.no ""
   |none=>.no ""
  |some ⟨.str,_,_⟩,.ref r,.int _ m=>match r.kind ty s with
   |.str=>.az (qf m (.len r)) (.int .u8 (.ku r m))
   |_=>.no ""
  |_,_,_=>.no ""
 |.binOp op t x y _=>match s.ev gl x,s.ev gl y with
  |.int k a,.int Q b=>
   if aaW op then(match b with
    |.c n=>if decide (0<=n) then .ok (.int k (BX op k a (.c n))) else .no ""
    |_=>.no "") else
   if k≠Q then .no "" else
   if Me op then .ok (.bool (mb op a b)) else
   if SH op then .ok (.int k (BX op k a b)) else
   if SI op then(match b with
    |.c n=>if n==0 then .no "" else .ok (.int k (BX op k a b))
    |_=>.az (mb .neq b (.c 0)) (.int k (BX op k a b))) else .no ""
  |.bool a,.bool b=>match ty t,op with
   |some ⟨.one,[.bool],_⟩,.eql=>.ok (.bool (Iy a b))
   |some ⟨.one,[.bool],_⟩,.neq=>.ok (.bool (zJ (Iy a b)))
   |_,_=>.no ""
  |.ref (.k .nilFunc),.ref (.k .nilFunc)=>if !Iz (ty t) then .no "" else match op with
   |.eql=>.ok (.bool (.c true))
   |.neq=>.ok (.bool (.c false))
   |_=>.no ""
  |.ref a,.ref b=>match a.kind ty s,b.kind ty s,op with
   |.str,.str,.eql=>.ok (.bool (.seq a b))
   |.str,.str,.neq=>.ok (.bool (.not (.seq a b)))
   |_,_,_=>.no ""
  |.fn _ _,.ref (.k .nilFunc)=>if !Iz (ty t) then .no "" else match op with
   |.eql=>.ok (.bool (.c false))
   |.neq=>.ok (.bool (.c true))
   |_=>.no ""
  |.dI e ks vs,.ref (.k .nilFunc)=>if vs.all Es&&ks.length==vs.length&&Iz (ty t) then(match op with
   |.eql=>.ok (.bool (xz e ks vs))
   |.neq=>.ok (.bool (zJ (xz e ks vs)))
   |_=>.no "") else .no ""
  |.agg a,.agg b=>match op,Er ty s (ty t) a b with
   |.eql,some e=>.ok (.bool e)
   |.neq,some e=>.ok (.bool (zJ e))
   |_,_=>.no ""
  |_,_=>.no ""
 |.unOp op _ x=>match op,s.ev gl x with
  |.not,.bool b=>.ok (.bool (zJ b))
  |.neg,.int k e=>.ok (.int k (BX .sub k (.c 0) e))
  |_,_=>.no ""
 |.convert P O x=>match ty P,ty O,s.ev gl x with
  |some ⟨.one,[.int _],_⟩,some ⟨.one,[.int k],_⟩,.int _ (.c n)=>.ok (.int k (.c (k.wrap n)))
  |some ⟨.one,[.int _],_⟩,some ⟨.one,[.int k],_⟩,.int _ e=>.ok (.int k (.conv k e))
  |_,_,_=>.no ""
 |.makeInterface t x=>match ty t with
  |some ⟨.dH,_,_⟩=>.no ""
  |some _=>.ok (.dH t (s.ev gl x))
  |none=>.no ""
 |.makeFunc fn first U=>match fn,first.toList with
  |.func f,[]=>.ok (.fn f (U.toList.map (s.ev gl)))
  |_,_=>.no ""
 |.extract x i=>match s.ev gl x with
  |.bj l=>match l[i]? with
   |some v=>.ok v
   |none=>.no ""
  |_=>.no ""
 |.nilCheck x=>match s.ev gl x with
  |.loc i off=>.ok (.loc i off)
  |.el r w i off=>.ok (.el r w i off)
  |.fn f U=>.ok (.fn f U)
  |_=>.no ""
 |.slice t x lo hi N=>match ty t,s.ev gl x,N with
  |some ⟨.arr n e,_,_⟩,.loc i off,none=>match ty e,lo.map (s.ev gl),hi.map (s.ev gl) with
   |some _,none,none=>.ok (.fo i off n n)
   |some Z,some (.int _ (.c l)),none=>if decide (0<=l)&&decide (l<(n:Int)) then .ok (.fo i (off+l.toNat*Z.ab.length) (n-l.toNat) (n-l.toNat)) else .no ""
   |_,_,_=>.no ""
  |_,_,_=>.no ""
 |.build t parts=>match ty t with
  |some ⟨.struct W,ab,q⟩=>if !(W.all λf=>(ty f.2).isSome) then .no "" else match tM (SJ ty W) (cq ⟨.struct W,ab,q⟩) (parts.toList.map λp=>(p.1,s.ev gl p.2)) with
   |some l=>.ok (.agg l)
   |none=>.no ""
  |some ⟨.arr n e,ab,q⟩=>match ty e with
   |some Z=>match tM (λi=>some (i*Z.ab.length,Z.ab.length)) (cq ⟨.arr n e,ab,q⟩) (parts.toList.map λp=>(p.1,s.ev gl p.2)) with
    |some l=>.ok (.agg l)
    |none=>.no ""
   |none=>.no ""
  |_=>.no ""
 |.call c=>match c.callee with
  |.builtin .len=>match c.argTypes.toList,c.args.toList.map (s.ev gl) with
   |[t],[.ref (.k (.slice none 0 0))]=>match ty t with
    |some ⟨.slice _,_,_⟩=>.ok (.int .i64 (.c 0))
    |_=>.no ""
   |[t],[.ref r]=>match ty t,r.kind ty s with
    |some ⟨.slice _,_,_⟩,.sl _=>.ok (.int .i64 (.len r))
    |some ⟨.str,_,_⟩,.str=>.ok (.int .i64 (.len r))
    |_,_=>.no ""
   |[t],[.fo _ _ n _]=>match ty t with
    |some ⟨.slice _,_,_⟩=>.ok (.int .i64 (.c n))
    |_=>.no ""
   |_,_=>.no ""
  |.builtin .min=>match c.args.toList.map (s.ev gl) with
   |.int k x::r=>match BY false k x r with
    |some e=>.ok (.int k e)
    |none=>.no ""
   |_=>.no ""
  |.builtin .max=>match c.args.toList.map (s.ev gl) with
   |.int k x::r=>match BY true k x r with
    |some e=>.ok (.int k e)
    |none=>.no ""
   |_=>.no ""
  |_=>.no ""
 |.lookup t x ix M=>match ty t,s.ev gl x with
  |some ⟨.map k e n ag,_,_⟩,.mp i=>Mh ty s k e n ag M i (s.ev gl ix)
  |_,_=>.no ""
 |_=>.no ""
def vC(gl:List (Nat×Nat×Nat))(s:S):Op->Option Nat
 |.load _ x=>match s.ev gl x with
  |.loc i _=>some i
  |.dI _ _ vs=>tN vs
  |_=>none
 |.lookup _ x _ _=>match s.ev gl x with
  |.mp i=>some i
  |_=>none
 |_=>none
def B5:Value->Value->Bool
 |.string a,.string b=>a.data.toList==b.data.toList
 |.slice none a b,.slice none c d=>a==c&&b==d
 |.pointer none,.pointer none=>true
 |.nilFunc,.nilFunc=>true
 |.nilIface,.nilIface=>true
 |.map none,.map none=>true
 |_,_=>false
def vD(a b:BinOp):Bool:=decide (a=b)
noncomputable def IE.same(e:IE):IE->Bool:=IE.rec (motive_1:=λ_=>IE->Bool) (motive_2:=λ_=>BE->Bool) (motive_3:=λ_=>RE->Bool) (λn e=>match e with|IE.c n'=>n==n'|_=>false) (λk e=>match e with|IE.v R=>k==R|_=>false) (λo k _ _ Z X e=>match e with|IE.bin M R a' W=>vD o M&&decide (k=R)&&Z a'&&X W|_=>false) (λk _ Z e=>match e with|IE.conv R a'=>decide (k=R)&&Z a'|_=>false) (λ_ V e=>match e with|IE.len U=>V U|_=>false) (λm _ _ Z X e=>match e with|IE.mm G a' W=>m==G&&Z a'&&X W|_=>false) (λ_ _ _ X L J e=>match e with|IE.bY W I H=>X W&&L I&&J H|_=>false) (λ_ _ j V hi e=>match e with|IE.cell U P Q=>V U&&hi P&&j==Q|_=>false) (λ_ _ V hi e=>match e with|IE.ku U P=>V U&&hi P|_=>false) (λ_ n _ _ _ j V Z X O e=>match e with|IE.look U n' a' W N Q=>V U&&n==n'&&Z a'&&X W&&O N&&j==Q|_=>false) (λn e=>match e with|BE.c n'=>n==n'|_=>false) (λk e=>match e with|BE.v R=>k==R|_=>false) (λo _ _ Z X e=>match e with|BE.cmp M a' W=>vD o M&&Z a'&&X W|_=>false) (λ_ Z e=>match e with|BE.not a'=>Z a'|_=>false) (λ_ _ Z X e=>match e with|BE.and a' W=>Z a'&&X W|_=>false) (λ_ _ Z X e=>match e with|BE.beq a' W=>Z a'&&X W|_=>false) (λ_ _ _ X L J e=>match e with|BE.bY W I H=>X W&&L I&&J H|_=>false) (λ_ _ j V hi e=>match e with|BE.cell U P Q=>V U&&hi P&&j==Q|_=>false) (λ_ _ Z X e=>match e with|BE.seq a' W=>Z a'&&X W|_=>false) (λ_ n _ _ _ j V Z X O e=>match e with|BE.look U n' a' W N Q=>V U&&n==n'&&Z a'&&X W&&O N&&j==Q|_=>false) (λ_ n _ _ _ V Z X O e=>match e with|BE.has U n' a' W N=>V U&&n==n'&&Z a'&&X W&&O N|_=>false) (λk e=>match e with|RE.v R=>k==R|_=>false) (λ_ _ j k V hi e=>match e with|RE.cell U P Q R=>V U&&hi P&&j==Q&&decide (k=R)|_=>false) (λv e=>match e with|RE.k F=>B5 v F|_=>false) e
noncomputable def BE.same(e:BE):BE->Bool:=BE.rec (motive_1:=λ_=>IE->Bool) (motive_2:=λ_=>BE->Bool) (motive_3:=λ_=>RE->Bool) (λn e=>match e with|IE.c n'=>n==n'|_=>false) (λk e=>match e with|IE.v R=>k==R|_=>false) (λo k _ _ Z X e=>match e with|IE.bin M R a' W=>vD o M&&decide (k=R)&&Z a'&&X W|_=>false) (λk _ Z e=>match e with|IE.conv R a'=>decide (k=R)&&Z a'|_=>false) (λ_ V e=>match e with|IE.len U=>V U|_=>false) (λm _ _ Z X e=>match e with|IE.mm G a' W=>m==G&&Z a'&&X W|_=>false) (λ_ _ _ X L J e=>match e with|IE.bY W I H=>X W&&L I&&J H|_=>false) (λ_ _ j V hi e=>match e with|IE.cell U P Q=>V U&&hi P&&j==Q|_=>false) (λ_ _ V hi e=>match e with|IE.ku U P=>V U&&hi P|_=>false) (λ_ n _ _ _ j V Z X O e=>match e with|IE.look U n' a' W N Q=>V U&&n==n'&&Z a'&&X W&&O N&&j==Q|_=>false) (λn e=>match e with|BE.c n'=>n==n'|_=>false) (λk e=>match e with|BE.v R=>k==R|_=>false) (λo _ _ Z X e=>match e with|BE.cmp M a' W=>vD o M&&Z a'&&X W|_=>false) (λ_ Z e=>match e with|BE.not a'=>Z a'|_=>false) (λ_ _ Z X e=>match e with|BE.and a' W=>Z a'&&X W|_=>false) (λ_ _ Z X e=>match e with|BE.beq a' W=>Z a'&&X W|_=>false) (λ_ _ _ X L J e=>match e with|BE.bY W I H=>X W&&L I&&J H|_=>false) (λ_ _ j V hi e=>match e with|BE.cell U P Q=>V U&&hi P&&j==Q|_=>false) (λ_ _ Z X e=>match e with|BE.seq a' W=>Z a'&&X W|_=>false) (λ_ n _ _ _ j V Z X O e=>match e with|BE.look U n' a' W N Q=>V U&&n==n'&&Z a'&&X W&&O N&&j==Q|_=>false) (λ_ n _ _ _ V Z X O e=>match e with|BE.has U n' a' W N=>V U&&n==n'&&Z a'&&X W&&O N|_=>false) (λk e=>match e with|RE.v R=>k==R|_=>false) (λ_ _ j k V hi e=>match e with|RE.cell U P Q R=>V U&&hi P&&j==Q&&decide (k=R)|_=>false) (λv e=>match e with|RE.k F=>B5 v F|_=>false) e
noncomputable def RE.same(e:RE):RE->Bool:=RE.rec (motive_1:=λ_=>IE->Bool) (motive_2:=λ_=>BE->Bool) (motive_3:=λ_=>RE->Bool) (λn e=>match e with|IE.c n'=>n==n'|_=>false) (λk e=>match e with|IE.v R=>k==R|_=>false) (λo k _ _ Z X e=>match e with|IE.bin M R a' W=>vD o M&&decide (k=R)&&Z a'&&X W|_=>false) (λk _ Z e=>match e with|IE.conv R a'=>decide (k=R)&&Z a'|_=>false) (λ_ V e=>match e with|IE.len U=>V U|_=>false) (λm _ _ Z X e=>match e with|IE.mm G a' W=>m==G&&Z a'&&X W|_=>false) (λ_ _ _ X L J e=>match e with|IE.bY W I H=>X W&&L I&&J H|_=>false) (λ_ _ j V hi e=>match e with|IE.cell U P Q=>V U&&hi P&&j==Q|_=>false) (λ_ _ V hi e=>match e with|IE.ku U P=>V U&&hi P|_=>false) (λ_ n _ _ _ j V Z X O e=>match e with|IE.look U n' a' W N Q=>V U&&n==n'&&Z a'&&X W&&O N&&j==Q|_=>false) (λn e=>match e with|BE.c n'=>n==n'|_=>false) (λk e=>match e with|BE.v R=>k==R|_=>false) (λo _ _ Z X e=>match e with|BE.cmp M a' W=>vD o M&&Z a'&&X W|_=>false) (λ_ Z e=>match e with|BE.not a'=>Z a'|_=>false) (λ_ _ Z X e=>match e with|BE.and a' W=>Z a'&&X W|_=>false) (λ_ _ Z X e=>match e with|BE.beq a' W=>Z a'&&X W|_=>false) (λ_ _ _ X L J e=>match e with|BE.bY W I H=>X W&&L I&&J H|_=>false) (λ_ _ j V hi e=>match e with|BE.cell U P Q=>V U&&hi P&&j==Q|_=>false) (λ_ _ Z X e=>match e with|BE.seq a' W=>Z a'&&X W|_=>false) (λ_ n _ _ _ j V Z X O e=>match e with|BE.look U n' a' W N Q=>V U&&n==n'&&Z a'&&X W&&O N&&j==Q|_=>false) (λ_ n _ _ _ V Z X O e=>match e with|BE.has U n' a' W N=>V U&&n==n'&&Z a'&&X W&&O N|_=>false) (λk e=>match e with|RE.v R=>k==R|_=>false) (λ_ _ j k V hi e=>match e with|RE.cell U P Q R=>V U&&hi P&&j==Q&&decide (k=R)|_=>false) (λv e=>match e with|RE.k F=>B5 v F|_=>false) e
def IE.ey:(∀n e,IE.same (.c n) e=match e with|IE.c n'=>n==n'|_=>false)/\(∀k e,IE.same (.v k) e=match e with|IE.v W=>k==W|_=>false)/\(∀o k a b e,IE.same (.bin o k a b) e=match e with|IE.bin R W a' Z=>vD o R&&decide (k=W)&&IE.same a a'&&IE.same b Z|_=>false)/\(∀k a e,IE.same (.conv k a) e=match e with|IE.conv W a'=>decide (k=W)&&IE.same a a'|_=>false)/\(∀r e,IE.same (.len r) e=match e with|IE.len X=>RE.same r X|_=>false)/\(∀m a b e,IE.same (.mm m a b) e=match e with|IE.mm Q a' Z=>m==Q&&IE.same a a'&&IE.same b Z|_=>false)/\(∀b x y e,IE.same (.bY b x y) e=match e with|IE.bY Z P O=>BE.same b Z&&IE.same x P&&IE.same y O|_=>false)/\(∀r i j e,IE.same (.cell r i j) e=match e with|IE.cell X V U=>RE.same r X&&IE.same i V&&j==U|_=>false)/\(∀r i e,IE.same (.ku r i) e=match e with|IE.ku X V=>RE.same r X&&IE.same i V|_=>false)/\(∀r n a b c j e,IE.same (.look r n a b c j) e=match e with|IE.look X n' a' Z N U=>RE.same r X&&n==n'&&IE.same a a'&&IE.same b Z&&IE.same c N&&j==U|_=>false):=⟨λ_ _=>rfl,λ_ _=>rfl,λ_ _ _ _ _=>rfl,λ_ _ _=>rfl,λ_ _=>rfl,λ_ _ _ _=>rfl,λ_ _ _ _=>rfl,λ_ _ _ _=>rfl,λ_ _ _=>rfl,λ_ _ _ _ _ _ _=>rfl⟩
def BE.ey:(∀n e,BE.same (.c n) e=match e with|BE.c n'=>n==n'|_=>false)/\(∀k e,BE.same (.v k) e=match e with|BE.v U=>k==U|_=>false)/\(∀o a b e,BE.same (.cmp o a b) e=match e with|BE.cmp R a' Z=>vD o R&&IE.same a a'&&IE.same b Z|_=>false)/\(∀a e,BE.same (.not a) e=match e with|BE.not a'=>BE.same a a'|_=>false)/\(∀a b e,BE.same (.and a b) e=match e with|BE.and a' Z=>BE.same a a'&&BE.same b Z|_=>false)/\(∀a b e,BE.same (.beq a b) e=match e with|BE.beq a' Z=>BE.same a a'&&BE.same b Z|_=>false)/\(∀b x y e,BE.same (.bY b x y) e=match e with|BE.bY Z Q P=>BE.same b Z&&BE.same x Q&&BE.same y P|_=>false)/\(∀r i j e,BE.same (.cell r i j) e=match e with|BE.cell X O W=>RE.same r X&&IE.same i O&&j==W|_=>false)/\(∀a b e,BE.same (.seq a b) e=match e with|BE.seq a' Z=>RE.same a a'&&RE.same b Z|_=>false)/\(∀r n a b c j e,BE.same (.look r n a b c j) e=match e with|BE.look X n' a' Z V W=>RE.same r X&&n==n'&&IE.same a a'&&IE.same b Z&&IE.same c V&&j==W|_=>false)/\(∀r n a b c e,BE.same (.has r n a b c) e=match e with|BE.has X n' a' Z V=>RE.same r X&&n==n'&&IE.same a a'&&IE.same b Z&&IE.same c V|_=>false):=⟨λ_ _=>rfl,λ_ _=>rfl,λ_ _ _ _=>rfl,λ_ _=>rfl,λ_ _ _=>rfl,λ_ _ _=>rfl,λ_ _ _ _=>rfl,λ_ _ _ _=>rfl,λ_ _ _=>rfl,λ_ _ _ _ _ _ _=>rfl,λ_ _ _ _ _ _=>rfl⟩
def RE.ey:(∀k e,RE.same (.v k) e=match e with|RE.v Z=>k==Z|_=>false)/\(∀r i j k e,RE.same (.cell r i j k) e=match e with|RE.cell X W V Z=>RE.same r X&&IE.same i W&&j==V&&decide (k=Z)|_=>false)/\(∀v e,RE.same (.k v) e=match e with|RE.k U=>B5 v U|_=>false):=⟨λ_ _=>rfl,λ_ _ _ _ _=>rfl,λ_ _=>rfl⟩
noncomputable def SV.same(v:SV):SV->Bool:=SV.rec (motive_1:=λ_=>SV->Bool) (motive_2:=λ_=>List SV->Bool) (λk e v=>match v with|SV.int Q W=>decide (k=Q)&&e.same W|_=>false) (λb v=>match v with|SV.bool V=>b.same V|_=>false) (λr v=>match v with|SV.ref U=>r.same U|_=>false) (λi o v=>match v with|SV.loc Z R=>i==Z&&o==R|_=>false) (λr w i o v=>match v with|SV.el U P Z R=>r.same U&&w==P&&i.same Z&&o==R|_=>false) (λa b c d v=>match v with|SV.fo a' V O N=>a==a'&&b==V&&c==O&&d==N|_=>false) (λ_ h v=>match v with|SV.agg X=>h X|_=>false) (λ_ h v=>match v with|SV.bj X=>h X|_=>false) (λf _ h v=>match v with|SV.fn M X=>f==M&&h X|_=>false) (λt _ h v=>match v with|SV.dH L J=>t==L&&h J|_=>false) (λn v=>match v with|SV.yl n'=>n==n'|_=>false) (λv=>match v with|SV.any=>true|_=>false) (λi v=>match v with|SV.mp Z=>i==Z|_=>false) (λe ks _ h v=>match v with|SV.dI W I H=>e.same W&&ks==I&&h H|_=>false) (λl=>match l with|[]=>true|_=>false) (λ_ _ h G l=>match l with|y::ys=>h y&&G ys|_=>false) v
noncomputable def SV.mL(l:List SV):List SV->Bool:=SV.rec_1 (motive_1:=λ_=>SV->Bool) (motive_2:=λ_=>List SV->Bool) (λk e v=>match v with|SV.int Q W=>decide (k=Q)&&e.same W|_=>false) (λb v=>match v with|SV.bool V=>b.same V|_=>false) (λr v=>match v with|SV.ref U=>r.same U|_=>false) (λi o v=>match v with|SV.loc Z R=>i==Z&&o==R|_=>false) (λr w i o v=>match v with|SV.el U P Z R=>r.same U&&w==P&&i.same Z&&o==R|_=>false) (λa b c d v=>match v with|SV.fo a' V O N=>a==a'&&b==V&&c==O&&d==N|_=>false) (λ_ h v=>match v with|SV.agg X=>h X|_=>false) (λ_ h v=>match v with|SV.bj X=>h X|_=>false) (λf _ h v=>match v with|SV.fn M X=>f==M&&h X|_=>false) (λt _ h v=>match v with|SV.dH L J=>t==L&&h J|_=>false) (λn v=>match v with|SV.yl n'=>n==n'|_=>false) (λv=>match v with|SV.any=>true|_=>false) (λi v=>match v with|SV.mp Z=>i==Z|_=>false) (λe ks _ h v=>match v with|SV.dI W I H=>e.same W&&ks==I&&h H|_=>false) (λl=>match l with|[]=>true|_=>false) (λ_ _ h G l=>match l with|y::ys=>h y&&G ys|_=>false) l
def SV.ey:(∀k e v,SV.same (.int k e) v=match v with|SV.int Q W=>decide (k=Q)&&e.same W|_=>false)/\(∀b v,SV.same (.bool b) v=match v with|SV.bool V=>b.same V|_=>false)/\(∀r v,SV.same (.ref r) v=match v with|SV.ref U=>r.same U|_=>false)/\(∀i o v,SV.same (.loc i o) v=match v with|SV.loc Z R=>i==Z&&o==R|_=>false)/\(∀r w i o v,SV.same (.el r w i o) v=match v with|SV.el U P Z R=>r.same U&&w==P&&i.same Z&&o==R|_=>false)/\(∀a b c d v,SV.same (.fo a b c d) v=match v with|SV.fo a' V O N=>a==a'&&b==V&&c==O&&d==N|_=>false)/\(∀l v,SV.same (.agg l) v=match v with|SV.agg X=>SV.mL l X|_=>false)/\(∀l v,SV.same (.bj l) v=match v with|SV.bj X=>SV.mL l X|_=>false)/\(∀f l v,SV.same (.fn f l) v=match v with|SV.fn M X=>f==M&&SV.mL l X|_=>false)/\(∀t x v,SV.same (.dH t x) v=match v with|SV.dH L J=>t==L&&SV.same x J|_=>false)/\(∀n v,SV.same (.yl n) v=match v with|SV.yl n'=>n==n'|_=>false)/\(∀v,SV.same (.any) v=match v with|SV.any=>true|_=>false)/\(∀i v,SV.same (.mp i) v=match v with|SV.mp Z=>i==Z|_=>false)/\(∀e ks vs v,SV.same (.dI e ks vs) v=match v with|SV.dI W I H=>e.same W&&ks==I&&SV.mL vs H|_=>false):=⟨λ_ _ _=>rfl,λ_ _=>rfl,λ_ _=>rfl,λ_ _ _=>rfl,λ_ _ _ _ _=>rfl,λ_ _ _ _ _=>rfl,λ_ _=>rfl,λ_ _=>rfl,λ_ _ _=>rfl,λ_ _ _=>rfl,λ_ _=>rfl,λ_=>rfl,λ_ _=>rfl,λ_ _ _ _=>rfl⟩
def SV.aaY:(∀l,SV.mL [] l=match l with|[]=>true|_=>false)/\(∀x xs l,SV.mL (x::xs) l=match l with|y::ys=>SV.same x y&&SV.mL xs ys|_=>false):=⟨λ_=>rfl,λ_ _ _=>rfl⟩
def aaZ:∀n:Nat,∃q,8^n=7*q+1
 |0=>⟨0,rfl⟩
 |n+1=>by
  obtain⟨q,h⟩:=aaZ n;exact⟨8*q+1,by rw[Nat.pow_succ,h];omega⟩
def A3(n:Nat):Nat:=Nat.div (Nat.sub (Nat.pow 8 n) 1) 7
def aa0(n:Nat):8^n=7*A3 n+1:=by
 obtain⟨q,h⟩:=aaZ n;have:A3 n=q:=by
  show(8^n-1)/7=q;rw[h];omega
 rw[this];exact h
def Mj(n:Nat):A3 (n+1)=8*A3 n+1:=by
 have Z:=aa0 n;have X:=aa0 (n+1);rw[Nat.pow_succ,Z] at X;omega
def aa1:∀(n j:Nat),(A3 n).testBit j=(decide (j%3=0)&&decide (j/3<n))
 |0,j=>by simp[show A3 0=0 from rfl]
 |n+1,0=>by rw[Mj,azG];simp;omega
 |n+1,1=>by rw[Mj,aym,show(8*A3 n+1)/2=4*A3 n by omega,azG];simp;omega
 |n+1,2=>by rw[Mj,aym,aym,show(8*A3 n+1)/2/2=2*A3 n by omega,azG];simp
 |n+1,j+3=>by
  rw[Mj,aym,aym,aym,show(8*A3 n+1)/2/2/2=A3 n by omega,aa1 n j,Nat.add_mod_right,Nat.add_div_right _ (by omega)];simp
def jg(ni nb Z:Nat):Nat:=awW (A3 ni) (awW (axk (A3 nb) 1) (axk (A3 Z) 2))
def SN(ni nb Z j:Nat):(jg ni nb Z).testBit j=if j%3=0 then decide (j/3<ni) else if j%3=1 then decide (j/3<nb) else decide (j/3<Z):=by
 change(A3 ni|||(A3 nb<<<1|||A3 Z<<<2)).testBit j=_;simp only[ax7,aze,aa1];rw[axO];simp only[aw9,awF,decide_eq_true_eq];split;simp only[decide_eq_true_eq];omega;split;simp only[decide_eq_true_eq];omega;simp only[decide_eq_true_eq];omega
def IA{a A:Nat}:axx (awW a A) A=true<->∀j,a.testBit j=true->A.testBit j=true:=by
 rw[az0];constructor;intro h j Z;have:(a|||A).testBit j=A.testBit j:=congrArg (λx=>Nat.testBit x j) h;rw[<-this,ax7,Z,aAa];intro h;refine Nat.eq_of_testBit_eq λj=> ?_
 change(a|||A).testBit j=_;rw[ax7];cases X:a.testBit j with
 |true=>rw[h j X];rfl
 |false=>simp
def iA(a b A:Nat):axx (awW (awW a b) A) A=(axx (awW a A) A&&axx (awW b A) A):=by
 rw[axO,awF,IA,IA,IA];change(∀j,(a|||b).testBit j=true->_)<->_;simp only[ax7,aw9];exact⟨λh=>⟨λj k=>h j (.inl k),λj k=>h j (.inr k)⟩,λh j k=>k.elim (h.1 j) (h.2 j)⟩
def SO(k A:Nat):axx (awW (axk 1 k) A) A=A.testBit k:=by
 rw[axO,IA];change(∀j,(1<<<k).testBit j=true->_)<->_;simp only[azC,az7,decide_eq_true_eq];exact⟨λh=>h k rfl,λh j e=>e▸h⟩
def B6(A:Nat):axx (awW 0 A) A=true:=IA.2 λj h=>by simp at h
noncomputable def IE.jh(e:IE):Nat:=IE.rec (motive_1:=λ_=>Nat) (motive_2:=λ_=>Nat) (motive_3:=λ_=>Nat) (λ_=>0) (λk=>axk 1 (3*k)) (λ_ _ _ _ a b=>awW a b) (λ_ _ a=>a) (λ_ r=>r) (λ_ _ _ a b=>awW a b) (λ_ _ _ b x y=>awW (awW b x) y) (λ_ _ _ r i=>awW r i) (λ_ _ r i=>awW r i) (λ_ _ _ _ _ _ r a b c=>awW (awW (awW r a) b) c) (λ_=>0) (λk=>axk 1 (3*k+1)) (λ_ _ _ a b=>awW a b) (λ_ a=>a) (λ_ _ a b=>awW a b) (λ_ _ a b=>awW a b) (λ_ _ _ b x y=>awW (awW b x) y) (λ_ _ _ r i=>awW r i) (λ_ _ a b=>awW a b) (λ_ _ _ _ _ _ r a b c=>awW (awW (awW r a) b) c) (λ_ _ _ _ _ r a b c=>awW (awW (awW r a) b) c) (λk=>axk 1 (3*k+2)) (λ_ _ _ _ r i=>awW r i) (λ_=>0) e
noncomputable def BE.jh(e:BE):Nat:=BE.rec (motive_1:=λ_=>Nat) (motive_2:=λ_=>Nat) (motive_3:=λ_=>Nat) (λ_=>0) (λk=>axk 1 (3*k)) (λ_ _ _ _ a b=>awW a b) (λ_ _ a=>a) (λ_ r=>r) (λ_ _ _ a b=>awW a b) (λ_ _ _ b x y=>awW (awW b x) y) (λ_ _ _ r i=>awW r i) (λ_ _ r i=>awW r i) (λ_ _ _ _ _ _ r a b c=>awW (awW (awW r a) b) c) (λ_=>0) (λk=>axk 1 (3*k+1)) (λ_ _ _ a b=>awW a b) (λ_ a=>a) (λ_ _ a b=>awW a b) (λ_ _ a b=>awW a b) (λ_ _ _ b x y=>awW (awW b x) y) (λ_ _ _ r i=>awW r i) (λ_ _ a b=>awW a b) (λ_ _ _ _ _ _ r a b c=>awW (awW (awW r a) b) c) (λ_ _ _ _ _ r a b c=>awW (awW (awW r a) b) c) (λk=>axk 1 (3*k+2)) (λ_ _ _ _ r i=>awW r i) (λ_=>0) e
noncomputable def RE.jh(e:RE):Nat:=RE.rec (motive_1:=λ_=>Nat) (motive_2:=λ_=>Nat) (motive_3:=λ_=>Nat) (λ_=>0) (λk=>axk 1 (3*k)) (λ_ _ _ _ a b=>awW a b) (λ_ _ a=>a) (λ_ r=>r) (λ_ _ _ a b=>awW a b) (λ_ _ _ b x y=>awW (awW b x) y) (λ_ _ _ r i=>awW r i) (λ_ _ r i=>awW r i) (λ_ _ _ _ _ _ r a b c=>awW (awW (awW r a) b) c) (λ_=>0) (λk=>axk 1 (3*k+1)) (λ_ _ _ a b=>awW a b) (λ_ a=>a) (λ_ _ a b=>awW a b) (λ_ _ a b=>awW a b) (λ_ _ _ b x y=>awW (awW b x) y) (λ_ _ _ r i=>awW r i) (λ_ _ a b=>awW a b) (λ_ _ _ _ _ _ r a b c=>awW (awW (awW r a) b) c) (λ_ _ _ _ _ r a b c=>awW (awW (awW r a) b) c) (λk=>axk 1 (3*k+2)) (λ_ _ _ _ r i=>awW r i) (λ_=>0) e
noncomputable def IE.bd(ni nb Z:Nat)(e:IE):Bool:=axx (awW e.jh (jg ni nb Z)) (jg ni nb Z)
noncomputable def BE.bd(ni nb Z:Nat)(e:BE):Bool:=axx (awW e.jh (jg ni nb Z)) (jg ni nb Z)
noncomputable def RE.bd(ni nb Z:Nat)(e:RE):Bool:=axx (awW e.jh (jg ni nb Z)) (jg ni nb Z)
def alB(ni nb Z k:Nat):(jg ni nb Z).testBit (3*k)=decide (k<ni):=by
 rw[SN,if_pos (by omega),show 3*k/3=k by omega]
def alC(ni nb Z k:Nat):(jg ni nb Z).testBit (3*k+1)=decide (k<nb):=by
 rw[SN,if_neg (by omega),if_pos (by omega),show(3*k+1)/3=k by omega]
def alD(ni nb Z k:Nat):(jg ni nb Z).testBit (3*k+2)=decide (k<Z):=by
 rw[SN,if_neg (by omega),if_neg (by omega),show(3*k+2)/3=k by omega]
def IE.aG{ni nb Z:Nat}:(∀n,IE.bd ni nb Z (.c n)=true)/\(∀k,IE.bd ni nb Z (.v k)=decide (k<ni))/\(∀o k a b,IE.bd ni nb Z (.bin o k a b)=(IE.bd ni nb Z a&&IE.bd ni nb Z b))/\(∀k a,IE.bd ni nb Z (.conv k a)=(IE.bd ni nb Z a))/\(∀r,IE.bd ni nb Z (.len r)=(RE.bd ni nb Z r))/\(∀m a b,IE.bd ni nb Z (.mm m a b)=(IE.bd ni nb Z a&&IE.bd ni nb Z b))/\(∀b x y,IE.bd ni nb Z (.bY b x y)=(BE.bd ni nb Z b&&IE.bd ni nb Z x&&IE.bd ni nb Z y))/\(∀r i j,IE.bd ni nb Z (.cell r i j)=(RE.bd ni nb Z r&&IE.bd ni nb Z i))/\(∀r i,IE.bd ni nb Z (.ku r i)=(RE.bd ni nb Z r&&IE.bd ni nb Z i))/\(∀r n a b c j,IE.bd ni nb Z (.look r n a b c j)=(RE.bd ni nb Z r&&IE.bd ni nb Z a&&IE.bd ni nb Z b&&IE.bd ni nb Z c)):=⟨λ_=>B6 _,λ_=>(SO _ _).trans (alB _ _ _ _),λ_ _ _ _=>iA _ _ _,λ_ _=>rfl,λ_=>rfl,λ_ _ _=>iA _ _ _,λ_ _ _=>(iA _ _ _).trans (congrArg (· &&_) (iA _ _ _)),λ_ _ _=>iA _ _ _,λ_ _=>iA _ _ _,λ_ _ _ _ _ _=>(iA _ _ _).trans (congrArg (· &&_) ((iA _ _ _).trans (congrArg (· &&_) (iA _ _ _))))⟩
def BE.aG{ni nb Z:Nat}:(∀n,BE.bd ni nb Z (.c n)=true)/\(∀k,BE.bd ni nb Z (.v k)=decide (k<nb))/\(∀o a b,BE.bd ni nb Z (.cmp o a b)=(IE.bd ni nb Z a&&IE.bd ni nb Z b))/\(∀a,BE.bd ni nb Z (.not a)=(BE.bd ni nb Z a))/\(∀a b,BE.bd ni nb Z (.and a b)=(BE.bd ni nb Z a&&BE.bd ni nb Z b))/\(∀a b,BE.bd ni nb Z (.beq a b)=(BE.bd ni nb Z a&&BE.bd ni nb Z b))/\(∀b x y,BE.bd ni nb Z (.bY b x y)=(BE.bd ni nb Z b&&BE.bd ni nb Z x&&BE.bd ni nb Z y))/\(∀r i j,BE.bd ni nb Z (.cell r i j)=(RE.bd ni nb Z r&&IE.bd ni nb Z i))/\(∀a b,BE.bd ni nb Z (.seq a b)=(RE.bd ni nb Z a&&RE.bd ni nb Z b))/\(∀r n a b c j,BE.bd ni nb Z (.look r n a b c j)=(RE.bd ni nb Z r&&IE.bd ni nb Z a&&IE.bd ni nb Z b&&IE.bd ni nb Z c))/\(∀r n a b c,BE.bd ni nb Z (.has r n a b c)=(RE.bd ni nb Z r&&IE.bd ni nb Z a&&IE.bd ni nb Z b&&IE.bd ni nb Z c)):=⟨λ_=>B6 _,λ_=>(SO _ _).trans (alC _ _ _ _),λ_ _ _=>iA _ _ _,λ_=>rfl,λ_ _=>iA _ _ _,λ_ _=>iA _ _ _,λ_ _ _=>(iA _ _ _).trans (congrArg (· &&_) (iA _ _ _)),λ_ _ _=>iA _ _ _,λ_ _=>iA _ _ _,λ_ _ _ _ _ _=>(iA _ _ _).trans (congrArg (· &&_) ((iA _ _ _).trans (congrArg (· &&_) (iA _ _ _)))),λ_ _ _ _ _=>(iA _ _ _).trans (congrArg (· &&_) ((iA _ _ _).trans (congrArg (· &&_) (iA _ _ _))))⟩
def RE.aG{ni nb Z:Nat}:(∀k,RE.bd ni nb Z (.v k)=decide (k<Z))/\(∀r i j k,RE.bd ni nb Z (.cell r i j k)=(RE.bd ni nb Z r&&IE.bd ni nb Z i))/\(∀v,RE.bd ni nb Z (.k v)=true):=⟨λ_=>(SO _ _).trans (alD _ _ _ _),λ_ _ _ _=>iA _ _ _,λ_=>B6 _⟩
noncomputable def SV.jh(v:SV):Nat:=SV.rec (motive_1:=λ_=>Nat) (motive_2:=λ_=>Nat) (λ_ e=>e.jh) (λb=>b.jh) (λr=>r.jh) (λ_ _=>0) (λr _ i _=>awW r.jh i.jh) (λ_ _ _ _=>0) (λ_ l=>l) (λ_ l=>l) (λ_ _ l=>l) (λ_ _ x=>x) (λ_=>0) 0 (λ_=>0) (λe _ _ l=>awW e.jh l) 0 (λ_ _ a b=>awW a b) v
noncomputable def SV.Et(l:List SV):Nat:=SV.rec_1 (motive_1:=λ_=>Nat) (motive_2:=λ_=>Nat) (λ_ e=>e.jh) (λb=>b.jh) (λr=>r.jh) (λ_ _=>0) (λr _ i _=>awW r.jh i.jh) (λ_ _ _ _=>0) (λ_ l=>l) (λ_ l=>l) (λ_ _ l=>l) (λ_ _ x=>x) (λ_=>0) 0 (λ_=>0) (λe _ _ l=>awW e.jh l) 0 (λ_ _ a b=>awW a b) l
noncomputable def SV.vE(v:SV):Nat:=SV.rec (motive_1:=λ_=>Nat) (motive_2:=λ_=>Nat) (λ_ _=>0) (λ_=>0) (λ_=>0) (λi _=>axk 1 i) (λ_ _ _ _=>0) (λi _ _ _=>axk 1 i) (λ_ l=>l) (λ_ l=>l) (λ_ _ l=>l) (λ_ _ x=>x) (λ_=>0) 0 (λi=>axk 1 i) (λ_ _ _ l=>l) 0 (λ_ _ a b=>awW a b) v
noncomputable def SV.B7(l:List SV):Nat:=SV.rec_1 (motive_1:=λ_=>Nat) (motive_2:=λ_=>Nat) (λ_ _=>0) (λ_=>0) (λ_=>0) (λi _=>axk 1 i) (λ_ _ _ _=>0) (λi _ _ _=>axk 1 i) (λ_ l=>l) (λ_ l=>l) (λ_ _ l=>l) (λ_ _ x=>x) (λ_=>0) 0 (λi=>axk 1 i) (λ_ _ _ l=>l) 0 (λ_ _ a b=>awW a b) l
noncomputable def SV.Eu(pr:Nat->Bool)(v:SV):Bool:=SV.rec (motive_1:=λ_=>Bool) (motive_2:=λ_=>Bool) (λ_ _=>true) (λ_=>true) (λ_=>true) (λi _=>pr i) (λ_ _ _ _=>true) (λi _ _ _=>pr i) (λ_ l=>l) (λ_ l=>l) (λ_ _ l=>l) (λ_ _ x=>x) (λ_=>true) true (λi=>pr i) (λ_ _ _ l=>l) true (λ_ _ a b=>a&&b) v
noncomputable def SV.Ew(pr:Nat->Bool)(l:List SV):Bool:=SV.rec_1 (motive_1:=λ_=>Bool) (motive_2:=λ_=>Bool) (λ_ _=>true) (λ_=>true) (λ_=>true) (λi _=>pr i) (λ_ _ _ _=>true) (λi _ _ _=>pr i) (λ_ l=>l) (λ_ l=>l) (λ_ _ l=>l) (λ_ _ x=>x) (λ_=>true) true (λi=>pr i) (λ_ _ _ l=>l) true (λ_ _ a b=>a&&b) l
noncomputable def SV.bd(ni nb Z:Nat)(pr:Nat->Bool)(v:SV):Bool:=azb (motive:=λ_=>Bool) false (azb (motive:=λ_=>Bool) (v.Eu pr) true (axx v.vE 0)) (axx (awW v.jh (jg ni nb Z)) (jg ni nb Z))
def SV.aa2(ni nb Z:Nat)(pr:Nat->Bool)(v:SV):SV.bd ni nb Z pr v=(axx (awW v.jh (jg ni nb Z)) (jg ni nb Z)&&(axx v.vE 0||v.Eu pr)):=by
 unfold SV.bd;cases axx (awW v.jh (jg ni nb Z)) (jg ni nb Z)<;>cases axx v.vE 0<;>rfl
noncomputable def SV.ck(ni nb Z:Nat)(pr:Nat->Bool)(l:List SV):Bool:=ayt (motive:=λ_=>Bool) true (λx _ X=>azb (motive:=λ_=>Bool) false X (SV.bd ni nb Z pr x)) l
def SV.eY{ni nb Z:Nat}{pr:Nat->Bool}:(SV.ck ni nb Z pr []=true)/\(∀x xs,SV.ck ni nb Z pr (x::xs)=(SV.bd ni nb Z pr x&&SV.ck ni nb Z pr xs)):=⟨rfl,λx xs=>by
 show azb (motive:=λ_=>Bool) false (SV.ck ni nb Z pr xs) (SV.bd ni nb Z pr x)=_;cases SV.bd ni nb Z pr x<;>rfl⟩
def aa3{a b:Nat}:axx (awW a b) 0=(axx a 0&&axx b 0):=by
 rw[axO,awF,az0,az0,az0];exact Nat.or_eq_zero_iff
def Mk(i:Nat):axx (axk 1 i) 0=false:=by
 have:axk 1 i≠0:=by
  change 1<<<i≠0;rw[azC];exact Nat.ne_of_gt (Nat.two_pow_pos i)
 cases h:axx (axk 1 i) 0 with
 |false=>rfl
 |true=>exact absurd (azT h) this
mutual
def SP(pr:Nat->Bool):∀v:SV,axx v.vE 0=true->v.Eu pr=true
 |.int _ _,_=>rfl
 |.bool _,_=>rfl
 |.ref _,_=>rfl
 |.loc i _,h=>by rw[show(SV.loc i _).vE=axk 1 i from rfl,Mk] at h;cases h
 |.el _ _ _ _,_=>rfl
 |.fo i _ _ _,h=>by rw[show(SV.fo i _ _ _).vE=axk 1 i from rfl,Mk] at h;cases h
 |.agg l,h=>Ex pr l h
 |.bj l,h=>Ex pr l h
 |.fn _ l,h=>Ex pr l h
 |.dH _ x,h=>SP pr x h
 |.yl _,_=>rfl
 |.any,_=>rfl
 |.mp i,h=>by rw[show(SV.mp i).vE=axk 1 i from rfl,Mk] at h;cases h
 |.dI _ _ l,h=>Ex pr l h
def Ex(pr:Nat->Bool):∀l:List SV,axx (SV.B7 l) 0=true->SV.Ew pr l=true
 |[],_=>rfl
 |x::xs,h=>by
  rw[show SV.B7 (x::xs)=awW x.vE (SV.B7 xs) from rfl,aa3,awF] at h;show(x.Eu pr&&SV.Ew pr xs)=true;rw[SP pr x h.1,Ex pr xs h.2];rfl
end
def IB(ni nb Z:Nat)(pr:Nat->Bool):∀l:List SV,(axx (awW (SV.Et l) (jg ni nb Z)) (jg ni nb Z)&&(axx (SV.B7 l) 0||SV.Ew pr l))=SV.ck ni nb Z pr l
 |[]=>by rw[show SV.Et []=0 from rfl,B6];rfl
 |x::xs=>by
  rw[SV.eY.2,<-IB ni nb Z pr xs,SV.aa2,show SV.Et (x::xs)=awW x.jh (SV.Et xs) from rfl,show SV.B7 (x::xs)=awW x.vE (SV.B7 xs) from rfl,iA,aa3,show SV.Ew pr (x::xs)=(x.Eu pr&&SV.Ew pr xs) from rfl];have X:=SP pr x;have W:=Ex pr xs;cases V:axx x.vE 0<;>cases U:axx (SV.B7 xs) 0<;>cases R:x.Eu pr<;>cases Q:SV.Ew pr xs<;>cases axx (awW x.jh (jg ni nb Z)) (jg ni nb Z)<;>cases axx (awW (SV.Et xs) (jg ni nb Z)) (jg ni nb Z)<;>simp_all
def SV.aG{ni nb Z:Nat}{pr:Nat->Bool}:(∀k e,SV.bd ni nb Z pr (.int k e)=e.bd ni nb Z)/\(∀b,SV.bd ni nb Z pr (.bool b)=b.bd ni nb Z)/\(∀r,SV.bd ni nb Z pr (.ref r)=r.bd ni nb Z)/\(∀i o,SV.bd ni nb Z pr (.loc i o)=pr i)/\(∀i a b c,SV.bd ni nb Z pr (.fo i a b c)=pr i)/\(∀r w i o,SV.bd ni nb Z pr (.el r w i o)=(r.bd ni nb Z&&i.bd ni nb Z))/\(∀l,SV.bd ni nb Z pr (.agg l)=SV.ck ni nb Z pr l)/\(∀l,SV.bd ni nb Z pr (.bj l)=SV.ck ni nb Z pr l)/\(∀f l,SV.bd ni nb Z pr (.fn f l)=SV.ck ni nb Z pr l)/\(∀t x,SV.bd ni nb Z pr (.dH t x)=SV.bd ni nb Z pr x)/\(∀n,SV.bd ni nb Z pr (.yl n)=true)/\(SV.bd ni nb Z pr .any=true)/\(∀i,SV.bd ni nb Z pr (.mp i)=pr i)/\(∀e ks vs,SV.bd ni nb Z pr (.dI e ks vs)=(e.bd ni nb Z&&SV.ck ni nb Z pr vs)):=by
 have X:∀b:Bool,(b&&(axx 0 0||true))=b:=λb=>by cases b<;>rfl
 have W:∀i,(axx (awW 0 (jg ni nb Z)) (jg ni nb Z)&&(axx (axk 1 i) 0||pr i))=pr i:=λi=>by rw[B6,Mk];rfl
 simp only[SV.aa2];refine⟨λ_ _=>X _,λ_=>X _,λ_=>X _,λ_ _=>W _,λ_ _ _ _=>W _,λr _ i _=> ?_,λl=>IB _ _ _ _ l,λl=>IB _ _ _ _ l,λ_ l=>IB _ _ _ _ l,λ_ _=>rfl,λ_=>(X _).trans (B6 _),(X _).trans (B6 _),λ_=>W _,λe _ l=> ?_⟩;exact(X _).trans (iA _ _ _);rw[<-IB];show(axx (awW (awW e.jh (SV.Et l)) _) _&&_)=_;rw[iA,azU];rfl
def SV.mM(ni nb Z:Nat)(pr:Nat->Bool):aX->Bool
 |[]=>true
 |some x::xs=>SV.ck ni nb Z pr x.2&&SV.mM ni nb Z pr xs
 |none::xs=>SV.mM ni nb Z pr xs
def aA(l:aX)(i:Nat):Bool:=(bA l i).isSome
def S.bd(s:S):Bool:=SV.ck s.ni s.nb s.rs.length (aA s.boxes) s.tmps&&SV.mM s.ni s.nb s.rs.length (aA s.boxes) s.boxes
def S.cU(s:S)(l:List SV):Bool:=s.bd&&SV.ck s.ni s.nb s.rs.length (aA s.boxes) l
structure du where
 tm:List (Nat×LK)
 cl:List (Nat×Nat×LK)
inductive alE where
 |alF
 |inv (a:du)
inductive FK where
 |box
 |slot (t:Nat) (vs:List Int)
structure bc where
 ty:Ty
 gl:List (Nat×Nat×Nat)
 inl:FuncId->Option (Code×Nat×List ResultVar)
 sig:FuncId->Option (List TypeId)
 loop:FuncId->Nat->alE
 aa4:TypeId:=3
 B8:FuncId->FuncId->Option (TypeId×aJ×Bool):=λ_ _=>none
 mc:Bool:=false
 SQ:FuncId->Nat->Bool:=λ_ _=>false
 frk:FuncId->Nat->Option FK:=λ_ _=>none
def S.fresh(s:S):LK->SV×S
 |.int k=>(.int k (.v s.ni),{s with ni:=s.ni+1})
 |.bool=>(.bool (.v s.nb),{s with nb:=s.nb+1})
 |.ref e=>(.ref (.v s.rs.length),{s with rs:=s.rs++[e]})
def rQ:CT->LK
 |.int k=>.int k
 |.bool=>.bool
 |.ar _ k=>.ref k
def S.bz(s:S):List LK->List SV×S
 |[]=>([],s)
 |k::ks=>let r:=s.fresh k;let q:=r.2.bz ks;(r.1::q.1,q.2)
def vF(ty:Ty):List TypeId->List SV->Option (List SV)
 |[],_=>some []
 |t::X,l=>match ty t with
  |some Z=>match vF ty X (l.drop Z.ab.length) with
   |some r=>some ((if Z.d.isAgg then .agg (l.take Z.ab.length) else l.getD 0 .any)::r)
   |none=>none
  |none=>none
def eZ(ty:Ty):List TypeId->Option (List LK)
 |[]=>some []
 |t::Z=>match ty t,eZ ty Z with
  |some X,some r=>some (X.ab.map rQ++r)
  |_,_=>none
def one(l:List SV):SV:=match l with
 |[v]=>v
 |l=>.bj l
def Code.kP:Code->List Nat
 |.region _ ops _=>ops.toList.filterMap (·.dst)
 |.seq a b=>Code.kP a++Code.kP b
 |.cond _ a b=>Code.kP a++Code.kP b
 |.block _ c=>Code.kP c
 |.loop c=>Code.kP c
 |.scope c=>Code.kP c
 |.rangeFunc _ ps a b=>ps.toList++Code.kP a++Code.kP b
 |_=>[]
def Code.first:Code->Option Nat
 |.region id _ _=>some id
 |.seq a b=>match Code.first a with
  |some i=>some i
  |none=>Code.first b
 |.cond _ a b=>match Code.first a with
  |some i=>some i
  |none=>Code.first b
 |.block _ c=>Code.first c
 |.loop c=>Code.first c
 |.scope c=>Code.first c
 |_=>none
mutual
def SV.B9:SV->List Nat
 |.loc i _=>[i]
 |.fo i _ _ _=>[i]
 |.agg l=>SV.ly l
 |.bj l=>SV.ly l
 |.fn _ l=>SV.ly l
 |.dH _ x=>SV.B9 x
 |.mp i=>[i]
 |.dI _ _ vs=>SV.ly vs
 |_=>[]
def SV.ly:List SV->List Nat
 |[]=>[]
 |x::xs=>SV.B9 x++SV.ly xs
end
def nl(Z:List Nat):Nat->aX->aX
 |_,[]=>[]
 |n,x::xs=>(if Z.contains n then x else none)::nl Z (n+1) xs
def qg:aX->aX
 |[]=>[]
 |x::xs=>match x,qg xs with
  |none,[]=>[]
  |x,r=>x::r
def SV.cN:SV->Bool
 |.any=>true
 |_=>false
inductive Ca where
 |fn (g:FuncId)
 |yl (n:Nat)
abbrev og:=Ca->List SV->S->(SV->S->T)->(SV->S->T)->T
abbrev YH:=Nat->List SV->S->(SV->S->T)->(SV->S->T)->T
def fK:YH:=λ_ _ _ _ _=>.stuck ""
structure OM where
 o:Oper
 ix:Nat
 aY:Bool
 j:Nat
 dr:Bool
 so:Bool
inductive OR where
 |ok (s:S)
 |az (b:BE) (s:S)
 |split(b:BE) (s1 s2:S)
 |no (why:String)
def RE.isNil:RE->Bool
 |.k (.slice none 0 0)=>true
 |_=>false
def RE.fits(ty:Ty)(s:S)(k:RK)(r:RE):Bool:=match k with
 |.sl e=>decide (r.kind ty s=.sl e)||r.isNil
 |.str=>decide (r.kind ty s=.str)
 |_=>false
def oh(ty:Ty)(s:S):CT->SV->Bool
 |.int k,.int Z _=>decide (k=Z)
 |.bool,.bool _=>true
 |.ar _ k,.ref r=>r.fits ty s k
 |_,_=>false
def ji(ty:Ty)(s:S):List CT->List SV->Bool
 |[],[]=>true
 |c::cs,v::vs=>oh ty s c v&&ji ty s cs vs
 |_,_=>false
def jX(ty:Ty)(s:S)(ab:List CT):List (List SV)->Bool
 |[]=>true
 |r::rs=>ji ty s ab r&&jX ty s ab rs
def fW(w:Nat):Nat->List SV->List (List SV)
 |0,_=>[]
 |n+1,l=>l.take w::fW w n (l.drop w)
def LE.bd(ni nb Z:Nat):LE->Bool
 |.ref r=>r.bd ni nb Z
 |.lit l=>l.all (SV.ck ni nb Z λ_=>false)
 |.jG a b=>LE.bd ni nb Z a&&LE.bd ni nb Z b
 |.oc n row=>n.bd ni nb Z&&SV.ck ni nb Z (λ_=>false) row
 |.set a i _ cs=>LE.bd ni nb Z a&&i.bd ni nb Z&&SV.ck ni nb Z (λ_=>false) cs
 |.sub a lo hi=>LE.bd ni nb Z a&&lo.bd ni nb Z&&hi.bd ni nb Z
 |.ins a _ cs=>LE.bd ni nb Z a&&SV.ck ni nb Z (λ_=>false) cs
def RE.root:RE->Option Nat
 |.v n=>some n
 |.cell r _ _ _=>r.root
 |.k _=>none
mutual
def SV.SR:SV->List Nat
 |.ref r=>r.root.toList
 |.el r _ _ _=>r.root.toList
 |.agg l=>SV.lz l
 |.bj l=>SV.lz l
 |.fn _ l=>SV.lz l
 |.dH _ x=>SV.SR x
 |.dI _ _ vs=>SV.lz vs
 |_=>[]
def SV.lz:List SV->List Nat
 |[]=>[]
 |x::xs=>SV.SR x++SV.lz xs
end
def tO(b:Bool):RK->RK
 |.own e=>if b then .sl e else .own e
 |x=>x
def IC(b:Bool):RK->RK
 |.own e=>if b then .sl e else .dead
 |x=>x
def iQ(Z:List Nat):Nat->List RK->List RK
 |_,[]=>[]
 |n,x::xs=>tO (Z.contains n) x::iQ Z (n+1) xs
def gj(Z:List Nat):Nat->List RK->List RK
 |_,[]=>[]
 |n,x::xs=>(if Z.contains n then .dead else x)::gj Z (n+1) xs
def xC(Z:List Nat):Nat->List RK->List RK
 |_,[]=>[]
 |n,x::xs=>IC (Z.contains n) x::xC Z (n+1) xs
mutual
def SV.fa(k n:Nat):SV->SV
 |.ref (.v j)=>if j==k then .ref (.v n) else .ref (.v j)
 |.el (.v j) w i o=>if j==k then .el (.v n) w i o else .el (.v j) w i o
 |.agg l=>.agg (SV.lA k n l)
 |.bj l=>.bj (SV.lA k n l)
 |.fn f l=>.fn f (SV.lA k n l)
 |.dH t x=>.dH t (SV.fa k n x)
 |.dI e ks vs=>.dI e ks (SV.lA k n vs)
 |v=>v
def SV.lA(k n:Nat):List SV->List SV
 |[]=>[]
 |x::xs=>SV.fa k n x::SV.lA k n xs
end
def oY(k n:Nat):aX->aX
 |[]=>[]
 |none::xs=>none::oY k n xs
 |some (t,cs)::xs=>some (t,if oa t then cs else SV.lA k n cs)::oY k n xs
def S.fa(s:S)(k n:Nat):S:={s with tmps:=SV.lA k n s.tmps,boxes:=oY k n s.boxes}
structure BI where
 az:BE
 e:TypeId
 x:LE
 s:S
def Ey:Int:=536870912
def Ez(n:IE):BE:=mb .leq n (.c Ey)
def nq(ty:Ty)(s:S)(e:TypeId)(Z:TI):SV->Option (LE×BE×List Nat)
 |.ref r=>if r.isNil then some (.lit [],.c true,[]) else if r.kind ty s=.sl e then some (.ref r,Ez (.len r),[]) else none
 |.fo i off X _=>match iP s.boxes i with
  |some (_,cs)=>if jX ty s Z.ab (fW Z.ab.length X (rN cs off (X*Z.ab.length)))&&decide (off+X*Z.ab.length<=cs.length)&&decide ((X:Int)<=Ey) then some (.lit (fW Z.ab.length X (rN cs off (X*Z.ab.length))),.c true,SV.lz (rN cs off (X*Z.ab.length))) else none
  |none=>none
 |_=>none
def rR(s:S)(e:TypeId)(aY:Bool):SV->Option (LE×BE×List Nat)
 |.ref (.v k)=>if s.rs[k]?=some (.own e)/\ !(aY&&s.lk.testBit (2*k+1)) then some (.ref (.v k),Ez (.len (.v k)),[k]) else none
 |.ref r=>if r.isNil then some (.lit [],.c true,[]) else none
 |.fo _ _ 0 0=>some (.lit [],.c true,[])
 |_=>none
def gF(s:S)(d:Option Nat)(az:BE)(e:TypeId)(k:RK)(x:LE)(kill frz:List Nat):Option BI:=
 if s.bd&&kill.all (λk=> !frz.contains k)&&LE.bd s.ni s.nb s.rs.length x&&az.bd s.ni s.nb s.rs.length then some ⟨az,e,x,{s with rs:=iQ frz 0 (gj kill 0 s.rs)++[k]}.put d (.ref (.v s.rs.length))⟩ else none
def cK(cf:bc)(o:Oper)(aY W:Bool)(s:S):Option BI:=match o.op with
 |.call c=>match c.callee with
  |.builtin .append=>match c.argTypes.toList,c.args.toList.map (s.ev cf.gl) with
   |[t,t2],[x,y]=>match cf.ty t,cf.ty t2 with
    |some ⟨.slice e,_,_⟩,some ⟨.slice U,_,_⟩=>match cf.ty e with
     |some Z=>if e≠U\/Z.ab.length=0 then none else match rR s e aY x,nq cf.ty s e Z y with
      |some (a,n1,kill),some (b,n2,frz)=>gF s o.dst (qe n1 n2) e (.own e) (.jG a b) kill frz
      |_,_=>none
     |none=>none
    |_,_=>none
   |_,_=>none
  |_=>none
 |.makeSlice t n m=>match cf.ty t,s.ev cf.gl n,s.ev cf.gl m with
  |some ⟨.slice e,_,_⟩,.int .i64 n,.int .i64 m=>match cf.ty e with
   |some Z=>if n.same m&&jX cf.ty s Z.ab [cq Z]&&Z.ab.length !=0 then gF s o.dst (qe (mb .leq (.c 0) n) (Ez n)) e (.own e) (.oc n (cq Z)) [] [] else none
   |none=>none
  |_,_,_=>none
 |.buildSlice t X parts=>if W|| !cf.mc then none else match cf.ty t with
  |some ⟨.slice e,_,_⟩=>match cf.ty e with
   |some Z=>match tM (λi=>some (i*Z.ab.length,Z.ab.length)) (rP X (cq Z)) (parts.toList.map λp=>(p.1,s.ev cf.gl p.2)) with
    |some l=>if(l.length==X*Z.ab.length&&jX cf.ty s Z.ab (fW Z.ab.length X l)&&Z.ab.length !=0&&decide ((X:Int)<=Ey)&&decide (X*Z.ab.length<=16777216)&& !(parts.toList.any λp=>(s.ev cf.gl p.2).cN)) then gF s o.dst (.c true) e (.own e) (.lit (fW Z.ab.length X l)) [] (SV.lz l) else none
    |none=>none
   |none=>none
  |_=>none
 |.slice t x lo hi R=>if W then none else match cf.ty t,s.ev cf.gl x,R.map (s.ev cf.gl),hi.map (s.ev cf.gl),lo.map (s.ev cf.gl) with
  |some ⟨.slice e,_,_⟩,.ref r,some (.int _ (.c 0)),some (.int _ (.c 0)),none=>match cf.ty e with
   |some _=>if r.kind cf.ty s=.sl e\/r.isNil then gF s o.dst (.c true) e (.own e) (.lit []) [] [] else none
   |none=>none
  |some ⟨.slice e,_,_⟩,.ref r,none,some (.int .i64 h),some (.int .i64 l)=>match cf.ty e with
   |some _=>if r.kind cf.ty s=.sl e then gF s o.dst (qe (mb .leq (.c 0) l) (qe (mb .leq l h) (mb .leq h (.len r)))) e (.sl e) (.sub (.ref r) l h) [] r.root.toList else none
   |none=>none
  |some ⟨.slice e,_,_⟩,.ref r,none,some (.int .i64 h),none=>match cf.ty e with
   |some _=>if r.kind cf.ty s=.sl e then gF s o.dst (qe (mb .leq (.c 0) h) (mb .leq h (.len r))) e (.sl e) (.sub (.ref r) (.c 0) h) [] r.root.toList else none
   |none=>none
  |some ⟨.slice e,_,_⟩,.ref r,none,none,some (.int .i64 l)=>match cf.ty e with
   |some _=>if r.kind cf.ty s=.sl e then gF s o.dst (qe (mb .leq (.c 0) l) (mb .leq l (.len r))) e (.sl e) (.sub (.ref r) l (.len r)) [] r.root.toList else none
   |none=>none
  |_,_,_,_,_=>none
 |.store t a x=>if W then none else match cf.ty t,s.ev cf.gl a with
  |some V,.el (.v k) w i off=>match s.rs[k]? with
   |some (.own e)=>match cf.ty e with
    |some Z=>if(Z.ab.length==w&&(s.ev cf.gl x).cells.length==V.ab.length&&decide (off+V.ab.length<=w)&&ji cf.ty s ((Z.ab.drop off).take V.ab.length) (s.ev cf.gl x).cells&&(s.ev cf.gl x).BW) then
      (gF s none (qf i (.len (.v k))) e (.own e) (.set (.ref (.v k)) i off (s.ev cf.gl x).cells) [k] (SV.lz (s.ev cf.gl x).cells)).map λb=>{b with s:=(b.s.fa k s.rs.length).put o.dst (.bj [])} else none
    |none=>none
   |_=>none
  |_,_=>none
 |_=>none
def S.bI(s:S)(n:Nat)(t:TypeId)(cs:List SV):S:={s with boxes:=s.boxes.set n (some (t,cs))}
def ID(aY:Bool):SV->Nat
 |.loc i _=>if aY then 1<<<(2*i) else 0
 |.el r _ _ _=>if aY then(match r.root with
  |some k=>1<<<(2*k+1)
  |none=>0) else 0
 |.dI _ _ vs=>if aY then(match tN vs with
  |some i=>1<<<(2*i)
  |none=>0) else 0
 |_=>0
def S.bL(s:S)(d:Option Nat)(v:SV)(l:Nat):S:={s with lk:=s.lk|||l}.put d v
def oj(s:S)(d:Option Nat)(l:Nat):PR->OR
 |.ok v=>.ok (s.bL d v l)
 |.az b v=>if b.bd s.ni s.nb s.rs.length then .az b (s.bL d v l) else .no ""
 |.no w=>.no w
def dL(l:aX)(n:Nat):Bool:=match l[n]? with
 |some none=>true
 |_=>false
def md(l:aX)(n:Nat)(t:TypeId):Bool:=dL l n&& !oa t
def dR(cf:bc)(m:OM)(s:S):OR:=
 if m.o.op.operands.toList.any λx=>(s.ev cf.gl x).cN then .no (""++toString m.j++ ""++toString m.o.dst) else
 match m.o.op with
 |.alloc t=>match cf.ty t with
  |some Z=>if s.cU (cq Z)&&md s.boxes m.ix t then .ok ((s.bI m.ix t (cq Z)).put m.o.dst (.loc m.ix 0)) else .no ""
  |none=>.no ""
 |.box t x=>match cf.ty t with
  |some Z=>if(s.ev cf.gl x).cells.length==Z.ab.length&&s.cU (s.ev cf.gl x).cells&&(s.ev cf.gl x).BW&&md s.boxes m.ix t then .ok ((s.bI m.ix t (s.ev cf.gl x).cells).put m.o.dst (.loc m.ix 0)) else .no ""
  |none=>.no ""
 |.buildSlice t X parts=>match cf.ty t with
  |some ⟨.slice e,_,_⟩=>match cf.ty e with
   |some W=>match tM (λi=>some (i*W.ab.length,W.ab.length)) (rP X (cq W)) (parts.toList.map λp=>(p.1,s.ev cf.gl p.2)) with
    |some l=>if s.cU l&&decide (X*W.ab.length<=16777216)&&md s.boxes m.ix e then .ok ((s.bI m.ix e l).put m.o.dst (.fo m.ix 0 X X)) else .no ""
    |none=>.no ""
   |none=>.no ""
  |_=>.no ""
 |.store t a x=>match cf.ty t,s.ev cf.gl a with
  |some Z,.loc i off=>match iP s.boxes i with
   |some (V,cs)=>if(s.ev cf.gl x).cells.length==Z.ab.length&&decide (off+(s.ev cf.gl x).cells.length<=cs.length)&&zI (s.ev cf.gl x).cells&&(s.ev cf.gl x).BW&& !(m.aY&&s.lk.testBit (2*i)) then .ok ((s.bI i V (iw cs off (s.ev cf.gl x).cells)).put m.o.dst (.bj [])) else .no ""
   |none=>.no ""
  |_,_=>.no ""
 |.pick c x y=>match s.ev cf.gl c with
  |.bool b=>.split b (s.put m.o.dst (s.ev cf.gl x)) (s.put m.o.dst (s.ev cf.gl y))
  |_=>.no ""
 |.load t a=>oj s m.o.dst (ID m.aY (s.ev cf.gl a)) (bq cf.ty cf.gl s (.load t a))
 |op=>oj s m.o.dst 0 (bq cf.ty cf.gl s op)
inductive MR where
 |ok (s:S)
 |rows (k:RK) (x:LE) (s:S)
def Cb(Z:TI)(n:Nat)(ag:Bool):TypeId×List SV:=if Z.ab.all jH&&Z.ab.length !=0 then(qc,[.ref (.k (.slice none 0 0)),.int .i64 (.c n),.bool (.c ag),.bool (.c Z.d.isAgg)]) else(oX,[])
def S.tP(s:S)(b:TypeId×List SV):S:={s with boxes:=s.boxes++[some b]}
def Cc(cf:bc)(s:S)(k e:TypeId)(n:Nat)(ag:Bool)(Z:TI):List SV->Option RE
 |[.ref r,.int .i64 (.c X),.bool (.c W),.bool (.c va)]=>if r.mI cf.ty s ⟨k,e,n,ag,Z.d.isAgg⟩&&X==(n:Int)&&W==ag&&va==Z.d.isAgg&&Z.ab.all jH then some r else none
 |_=>none
def Ml(cf:bc)(d:Option Nat)(s:S)(t:TypeId)(W kv v:SV):Option MR:=match cf.ty t,W with
 |some ⟨.map k e n ag,_,_⟩,.mp i=>match cf.ty e,B3 n ag kv,bA s.boxes i with
  |some Z,some (V,_,_),some (X,cs)=>if !oe cf.ty k n ag|| !s.cU [kv,v]|| !vA Z v then none else
   if X==qc then(match Cc cf s k e n ag Z cs with
    |some r=>if ji cf.ty s Z.ab v.cells then
      some (.rows (RK.mr ⟨k,e,n,ag,Z.d.isAgg⟩) (.ins (.ref r) n (kv.cells++v.cells)) (S.put {s with rs:=s.rs++[RK.mr ⟨k,e,n,ag,Z.d.isAgg⟩],boxes:=s.boxes.set i (some (qc,[.ref (.v s.rs.length),.int .i64 (.c n),.bool (.c ag),.bool (.c Z.d.isAgg)]))} d (.bj []))) else none
    |none=>none)
   else if X==oX&&n==1&& !ag then(match V,mK cs with
    |.c x,some ks=>if ks.contains x then none else some (.ok ((s.bI i oX (cs++[.int .i64 (.c x),v])).put d (.bj [])))
    |_,_=>none)
   else none
  |_,_,_=>none
 |_,_=>none
def Mm(cf:bc)(d:Option Nat)(s:S)(t:TypeId):Option S:=match cf.ty t with
 |some ⟨.map k e n ag,_,_⟩=>match cf.ty e with
  |some Z=>if s.bd&&oe cf.ty k n ag then some ((s.tP (Cb Z n ag)).put d (.mp s.boxes.length)) else none
  |none=>none
 |_=>none
def rS(cf:bc):Sh:=⟨cf.aa4,rM,1,false,false⟩
def Cd(cf:bc):Bool:=oe cf.ty cf.aa4 1 false&&(cf.ty rM).isNone
def SS(cf:bc)(s:S)(k e:TypeId)(n:Nat)(ag:Bool)(X:TI)(i:Nat):Option IE:=match bA s.boxes i with
 |some (Z,cs)=>if Z==qc then(Cc cf s k e n ag X cs).map .len
  else if Z==oX&&n==1&& !ag then(mK cs).map λks=>.c ks.length else none
 |none=>none
def Mn(cf:bc)(d:Option Nat)(s:S)(t:TypeId)(Z:SV):Option S:=match cf.ty t,Z with
 |some ⟨.map k e n ag,_,_⟩,.mp i=>match cf.ty e with
  |some X=>match SS cf s k e n ag X i with
   |some c=>if s.bd&&c.bd s.ni s.nb s.rs.length&&aA s.boxes i then some ((s.tP (rM,[.mp i,.int .i64 (.c t),.int .i64 c,.ref (.k (.slice none 0 0))])).put d (.loc s.boxes.length 0)) else none
   |none=>none
  |none=>none
 |_,_=>none
def oZ(r:RE)(i:IE):Nat->List CT->List SV
 |_,[]=>[]
 |j,c::cs=>zH r i j c::oZ r i (j+1) cs
def EA(r:RE)(i:IE)(n:Nat)(ag:Bool):SV:=od ag ((aw3 n).map λj=>.int .i64 (.cell r i j))
def SU(cf:bc)(d:Option Nat)(s:S)(q ni:Nat)(i t:Nat)(c:IE)(kv v:SV):S:=
 S.put {s with ni:=ni,rs:=s.rs++[RK.mr (rS cf)],boxes:=s.boxes.set q (some (rM,[.mp i,.int .i64 (.c t),.int .i64 c,.ref (.v s.rs.length)]))} d (.bj [.bool (.c true),kv,v])
def Mo(rs:RE)(j:IE):BE:=.not (.has rs 1 j (.c 0) (.c 0))
def Mp(Z:TI)(e:IE)(ks:List Int)(vs:List SV):Option (SV×SV):=if vs.all (vA Z) then(match vz e (xB ks.length) (ks.map λk=>.int .i64 (.c k)),xA e (xB ks.length) (vs.map SV.cells) 0 Z.ab with
 |some a,some l=>some (.int .i64 a,od Z.d.isAgg l)
 |_,_=>none) else none
def Mq(cf:bc)(s:S)(c:IE)(rs:RE)(t Z:T):T:=
 .pick c (Mo rs (.v s.ni)) (.cmp .leq c (.len rs)) (.rows (.mr (rS cf)) (.ins (.ref rs) 1 [.int .i64 (.v s.ni)]) s.rs t) Z
def SX(cf:bc)(d:Option Nat)(s:S)(R:SV)(W V:S->T):Option T:=match R with
 |.loc q 0=>match bA s.boxes q with
  |some (Q,[.mp i,.int .i64 (.c t),.int .i64 c,.ref rs])=>if !(Q==rM&&Cd cf&&rs.mI cf.ty s (rS cf)&&s.bd&&({s with ni:=s.ni+1}:S).bd&&decide (0<=t)) then none else match cf.ty t.toNat,bA s.boxes i with
   |some ⟨.map k e n ag,_,_⟩,some (U,X)=>match cf.ty e with
    |some Z=>if !oe cf.ty k n ag then none else
     if U==qc then(match Cc cf s k e n ag Z X with
      |some r=>if c.same (.len r)&&Z.ab.length !=0 then some (Mq cf s c rs (W (SU cf d s q (s.ni+1) i t.toNat c (EA r (.v s.ni) n ag) (od Z.d.isAgg (oZ r (.v s.ni) n Z.ab)))) (V (s.put d (.bj [.bool (.c false)])))) else none
      |none=>none)
     else if U==oX&&n==1&& !ag then(match mK X with
      |some ks=>if c.same (.c ks.length) then(match Mp Z (.v s.ni) ks (jf X) with
       |some (kv,v)=>some (Mq cf s c rs (W (SU cf d s q (s.ni+1) i t.toNat c kv v)) (V (s.put d (.bj [.bool (.c false)]))))
       |none=>none) else none
      |none=>none)
     else none
    |none=>none
   |_,_=>none
  |_=>none
 |_=>none
def qh(rs:RE):IE:=.cell rs (.bin .sub .i64 (.len rs) (.c 1)) 0
def SY(c:IE)(rs:RE):BE:=qe (qe (mb .leq (.c 1) (.len rs)) (Ez (.len rs))) (qf (qh rs) c)
def SZ(cf:bc)(d:Option Nat)(s:S)(U:SV)(W:S->T):Option T:=match U with
 |.loc q 0=>match bA s.boxes q with
  |some (R,[.mp i,.int .i64 (.c t),.int .i64 c,.ref rs])=>if !(R==rM&&Cd cf&&rs.mI cf.ty s (rS cf)&&s.bd&&decide (0<=t)) then none else match cf.ty t.toNat,bA s.boxes i with
   |some ⟨.map k e n ag,_,_⟩,some (V,X)=>match cf.ty e with
    |some Z=>if !oe cf.ty k n ag then none else
     if V==qc then(match Cc cf s k e n ag Z X with
      |some r=>if c.same (.len r) then some (.az (SY c rs) (W (s.put d (.bj [EA r (qh rs) n ag,od Z.d.isAgg (oZ r (qh rs) n Z.ab)])))) else none
      |none=>none)
     else if V==oX&&n==1&& !ag then(match mK X with
      |some ks=>if c.same (.c ks.length) then(match Mp Z (qh rs) ks (jf X) with
       |some (kv,v)=>some (.az (SY c rs) (W (s.put d (.bj [kv,v]))))
       |none=>none) else none
      |none=>none)
     else none
    |none=>none
   |_,_=>none
  |_=>none
 |_=>none
def Mr(cf:bc)(d:Option Nat)(s:S)(t:TypeId)(Z:Bool)(x y:SV)(X:S->T):Option T:=match cf.ty t,x,y with
 |some ⟨.slice e,_,_⟩,.ref r,.ref (.k (.slice none 0 0))=>if r.kind cf.ty s=.sl e then some (.eC (.c true) (.cmp .leq (.len r) (.c 0)) (X (s.put d (.bool (.c Z)))) (X (s.put d (.bool (.c (!Z)))))) else none
 |_,_,_=>none
abbrev Fx:=List (BE×Bool)
def IF(Z:Fx):BE->Option Bool
 |.c v=>some v
 |b=>(Z.find? λx=>x.1.same b).map (·.2)
def xD(s:S)(Z:Fx)(b:BE)(t f:Fx->T):T:=match IF Z b with
 |some true=>t Z
 |some false=>f Z
 |none=>if b.bd s.ni s.nb s.rs.length then .node b (t ((b,true)::Z)) (f ((b,false)::Z)) else .stuck ""
inductive CK where
 |call (g:Ca) (args:List SV)
 |aS (v:SV)
 |op
 |no
def cV(cf:bc)(s:S)(o:Oper):CK:=
 match o.op with
 |.panic x=>match s.ev cf.gl x with
  |.dH t y=>.aS (.dH t y)
  |_=>.no
 |.call c=>match c.callee with
  |.value f=>match s.ev cf.gl f with
   |.fn g Z=>if c.args.toList.any λx=>(s.ev cf.gl x).cN then .no else .call (.fn g) (c.args.toList.map (s.ev cf.gl)++Z)
   |.yl n=>if c.args.toList.any λx=>(s.ev cf.gl x).cN then .no else .call (.yl n) (c.args.toList.map (s.ev cf.gl))
   |_=>.no
  |.invoke _ _=>.no
  |.builtin .panic=>match c.args.toList with
   |[x]=>match s.ev cf.gl x with
    |.dH t y=>.aS (.dH t y)
    |_=>.no
   |_=>.no
  |.builtin _=>.op
 |_=>.op
def lB(s:S)(Z:Fx):Fx:=Z.filter λx=>x.1.bd s.ni s.nb s.rs.length
def S2(b:BE):SV->SV->Option SV
 |.int k x,.int Z y=>if k=Z then some (.int k (.bY b x y)) else none
 |.bool x,.bool y=>some (.bool (.bY b x y))
 |_,_=>none
def IG(b:BE):List SV->Nat->List SV->Option (List SV)
 |[],_,cs=>some cs
 |x::xs,off,cs=>match cs[off]? with
  |some old=>match S2 b x old with
   |some c=>IG b xs (off+1) (cs.set off c)
   |none=>none
  |none=>none
def Ce(e:IE)(Z:List SV):List Int->List SV->List SV->Option (List SV)
 |[],[],cs=>some cs
 |k::ks,.loc _ off::vs,cs=>match IG (.cmp .eql e (.c k)) Z off cs with
  |some X=>Ce e Z ks vs X
  |none=>none
 |_,_,_=>none
def Ms:List Int->Bool
 |[]=>true
 |x::xs=> !xs.contains x&&Ms xs
def II:SV->Bool
 |.int _ _|.bool _=>true
 |_=>false
def EB:List SV->Bool
 |[]=>false
 |[x]=>II x
 |x::xs=>II x&&EB xs
def S3(d:Option Nat)(s:S)(X:TI)(e:IE)(ks:List Int)(vs:List SV)(Z:SV)(k:S->T):Option T:=match tN vs with
 |some i=>match iP s.boxes i with
  |some (W,cs)=>match Ce e Z.cells ks vs cs with
   |some cs'=>if X.ab.length==Z.cells.length&&ks.length==vs.length&&Ms ks&&EB Z.cells then some (.az (B4 e ks) (k ((s.bI i W cs').put d (.bj [])))) else none
   |none=>none
  |none=>none
 |none=>none
def vG(cf:bc)(m:OM)(s:S)(Z:S->Fx->T)(X:Fx):Option T:=if m.dr||m.o.op.operands.toList.any λx=>(s.ev cf.gl x).cN then none else match m.o.op with
 |.makeMap t none=>(Mm cf m.o.dst s t).map λs'=>Z s' X
 |.mapUpdate t x y z=>match Ml cf m.o.dst s t (s.ev cf.gl x) (s.ev cf.gl y) (s.ev cf.gl z) with
  |some (.ok s')=>some (Z s' X)
  |some (.rows k x s')=>some (.rows k x s.rs (Z s' (lB s X)))
  |none=>none
 |.insert t x y z=>match Ml cf m.o.dst s t (s.ev cf.gl x) (s.ev cf.gl y) (s.ev cf.gl z) with
  |some (.ok s')=>some (Z s' X)
  |some (.rows k x s')=>some (.rows k x s.rs (Z s' (lB s X)))
  |none=>none
 |.range t x=>(Mn cf m.o.dst s t (s.ev cf.gl x)).map λs'=>Z s' X
 |.next W false=>SX cf m.o.dst s (s.ev cf.gl W) (λs'=>Z s' (lB s X)) (λs'=>Z s' X)
 |.entry W=>SZ cf m.o.dst s (s.ev cf.gl W) λs'=>Z s' X
 |.store t a x=>match cf.ty t,s.ev cf.gl a with
  |some V,.dI e ks vs=>S3 m.o.dst s V e ks vs (s.ev cf.gl x) λs'=>Z s' X
  |_,_=>none
 |.binOp op t x y _=>match op with
  |.eql=>Mr cf m.o.dst s t false (s.ev cf.gl x) (s.ev cf.gl y) λs'=>Z s' X
  |.neq=>Mr cf m.o.dst s t true (s.ev cf.gl x) (s.ev cf.gl y) λs'=>Z s' X
  |_=>none
 |_=>none
def vH(cf:bc)(m:OM)(s:S):Option (IE×List Int×List SV×List SV):=if m.dr then none else match m.o.op with
 |.call c=>match c.callee with
  |.value f=>match s.ev cf.gl f with
   |.dI e ks vs=>if(c.args.toList.any λx=>(s.ev cf.gl x).cN)|| !e.bd s.ni s.nb s.rs.length then none else some (e,ks,vs,c.args.toList.map (s.ev cf.gl))
   |_=>none
  |_=>none
 |_=>none
def zL(e:IE)(Z:FuncId->List SV->T):List Int->List SV->T
 |k::ks,.fn g X::vs=>.node (.cmp .eql e (.c k)) (Z g X) (zL e Z ks vs)
 |k::ks,.ref (.k .nilFunc)::vs=>.node (.cmp .eql e (.c k)) (.stuck "") (zL e Z ks vs)
 |_,_=>.stuck ""
structure TuI where
 f:FuncId
 g:FuncId
 e:TypeId
 sp:aJ
 st:Bool
 r:RE
 s:S
def IJ:List SV->Option (List IE×FuncId)
 |[.fn g []]=>some ([],g)
 |.int .i64 e::r=>match IJ r with
  |some x=>some (e::x.1,x.2)
  |none=>none
 |_=>none
def aJ.fill:aJ->List IE->Option aJ
 |.co k o _,as=>some (.co k o as)
 |sp,[]=>some sp
 |_,_::_=>none
def xE(cf:bc)(m:OM)(s:S):Option TuI:=if m.dr|| !s.bd then none else match cV cf s m.o with
 |.call (.fn f) (.ref r::rest)=>match IJ rest with
  |some (as,g)=>match cf.B8 f g with
   |some (e,sp,Z)=>match sp.fill as with
    |some X=>match r with
     |.v k=>if s.rs[k]?=some (.own e) then some ⟨f,g,e,X,Z,.v k,(({s with rs:=iQ [] 0 (gj [k] 0 s.rs)++[.own e]}:S).fa k s.rs.length).put m.o.dst (.bj [])⟩ else none
     |.k (.slice none 0 0)=>some ⟨f,g,e,X,Z,.k (.slice none 0 0),({s with rs:=iQ [] 0 (gj [] 0 s.rs)++[.own e]}:S).put m.o.dst (.bj [])⟩
     |_=>none
    |none=>none
   |none=>none
  |none=>none
 |_=>none
def vI(cf:bc)(W:og)(m:OM)(s:S)(Z:S->Fx->T)(kp:SV->S->T)(X:Fx):T:=
 match vH cf m s with
 |some (e,ks,vs,args)=>zL e (λg V=>W (.fn g) (args++V) s (λv s'=>Z (s'.put m.o.dst v) (lB s X)) kp) ks vs
 |none=>
 match xE cf m s with
 |some u=>.dl u.f u.g u.e u.sp u.st u.r s.rs (Z u.s (lB s X))
 |none=>
 match cV cf s m.o with
 |.call (.fn g) args=>W (.fn g) args s (λv s'=>Z (s'.put m.o.dst v) (lB s X)) kp
 |.call (.yl n) args=>if m.so then W (.yl n) args s (λv s'=>Z (s'.put m.o.dst v) (lB s X)) kp else .stuck ""
 |.aS v=>kp v s
 |.no=>.stuck ""
 |.op=>match vG cf m s Z X with
  |some t=>t
  |none=>match cK cf m.o m.aY m.dr s with
  |some b=>.az b.az (.new b.e b.x s.rs b.s.rs (Z b.s (lB s X)))
  |none=>match dR cf m s with
  |.ok s'=>Z s' X
  |.az b s'=>.az b (Z s' X)
  |.split b U R=>xD s X b (Z U) (Z R)
  |.no Q=>.stuck Q
def Mt(V:Array Oper)(m:OM)(s:S)(Z:Fx)(X W:Fx->T):T:=
 match m.o.guard with
 |none=>X Z
 |some (j,U)=>match(V[j]?).bind (·.dst) with
  |some d=>match s.tmps[d]? with
   |some (.bool b)=>if U then xD s Z b X W else xD s Z b W X
   |some (.bj [])=>W Z
   |_=>.stuck ""
  |none=>.stuck ""
def kw(cf:bc)(Z:og)(X:Array Oper)(k:S->T)(kp:SV->S->T):List OM->S->Fx->T
 |[],s,_=>k s
 |m::rest,s,W=>Mt X m s W (vI cf Z m s (kw cf Z X k kp rest) kp) (kw cf Z X k kp rest (s.put m.o.dst (.bj [])))
def dW:Op->Bool
 |.alloc _|.box _ _|.buildSlice _ _ _=>true
 |_=>false
def jI(l:List Oper):Nat:=(l.filter λo=>dW o.op).length
def ek(aY:Nat->Bool)(so Z:Bool):Nat->Nat->List Oper->List OM
 |_,_,[]=>[]
 |j,n,o::r=>⟨o,n,aY j,j,Z,so⟩::ek aY so Z (j+1) (if dW o.op then n+1 else n) r
def S.room(s:S)(n:Nat):S:={s with boxes:=s.boxes++awS n none,lk:=0}
def o7(cf:bc)(s:S):List ResultVar->Option (List SV)
 |[]=>some []
 |.tmp t::rs=>match o7 cf s rs with
  |some l=>if(s.tmps.getD t .any).cN then none else some (s.tmps.getD t .any::l)
  |none=>none
 |.cell a t::rs=>match o7 cf s rs,s.tmps.getD a .any,cf.ty t with
  |some l,.loc i off,some Z=>match iP s.boxes i with
   |some (_,cs)=>match rO Z cs off with
    |some v=>some (v::l)
    |none=>none
   |none=>none
  |_,_,_=>none
def qi(n:Nat):List (Nat×LK)->List SV->Option SV
 |(t,_)::r,v::vs=>if t==n then some v else qi n r vs
 |_,_=>none
def vJ(b n:Nat):List (Nat×Nat×LK)->List SV->Option SV
 |(Z,off,_)::r,v::vs=>if Z==b&&off==n then some v else vJ b n r vs
 |_,_=>none
def aa7(l:aX)(x:Nat×Nat×LK):SV:=match bA l x.1 with
 |some (_,cs)=>cs.getD x.2.1 .any
 |none=>.any
def du.ks(a:du):List LK:=a.tm.map (·.2)++a.cl.map (·.2.2)
def gM(a:du)(s:S):List SV:=a.tm.map (λx=>s.tmps.getD x.1 .any)++a.cl.map (aa7 s.boxes)
def Mu:LK->SV->List Nat
 |.ref (.own _),.ref (.v k)=>[k]
 |_,_=>[]
def xF:List LK->List SV->List Nat
 |k::ks,v::vs=>Mu k v++xF ks vs
 |_,_=>[]
def Cf(a:du)(s:S):List Nat:=xF a.ks (gM a s)
def fy(a:du)(s:S):List RK:=gj (Cf a s) 0 s.rs
def tQ:List RK->List RK->Bool
 |[],_=>true
 |x::xs,y::ys=>(decide (x=.dead)||decide (x=y))&&tQ xs ys
 |_::_,[]=>false
def jJ:List Nat->Bool
 |[]=>true
 |x::xs=> !xs.contains x&&jJ xs
def Cg(Z:List RK)(l:List Nat):Bool:=jJ l&&l.all λk=>decide (Z.length<=k)||decide (Z[k]?=some .dead)
def vK(a:du)(ds:List Nat)(fr:List SV):Nat->List SV->List SV
 |_,[]=>[]
 |n,x::xs=>(qi n a.tm fr).getD (if ds.contains n then .any else x)::vK a ds fr (n+1) xs
def Ch(a:du)(fr:List SV)(b:Nat):Nat->List SV->List SV
 |_,[]=>[]
 |n,x::xs=>(vJ b n a.cl fr).getD x::Ch a fr b (n+1) xs
def o8(a:du)(fr:List SV):Nat->aX->aX
 |_,[]=>[]
 |n,none::xs=>none::o8 a fr (n+1) xs
 |n,some (t,cs)::xs=>some (t,Ch a fr n 0 cs)::o8 a fr (n+1) xs
def mN(a:du)(ds:List Nat)(s:S):S:=
 let r:List SV×S:=S.bz {s with al:=s.al+1,rs:=fy a s} a.ks
 {r.2 with tmps:=vK a ds r.1 0 s.tmps,boxes:=o8 a (r.1.drop a.tm.length) 0 s.boxes}
def tR(a:du)(ds:List Nat):Nat->List SV->List SV->Bool
 |_,[],[]=>true
 |n,x::xs,y::ys=>(a.tm.any (·.1==n)||ds.contains n||SV.same x y)&&tR a ds (n+1) xs ys
 |_,_,_=>false
def Ci(a:du)(b:Nat):Nat->List SV->List SV->Bool
 |_,[],[]=>true
 |n,x::xs,y::ys=>(a.cl.any (λc=>c.1==b&&c.2.1==n)||SV.same x y)&&Ci a b (n+1) xs ys
 |_,_,_=>false
def ol(a:du):Nat->aX->aX->Bool
 |_,[],_=>true
 |n,none::xs,_::ys=>ol a (n+1) xs ys
 |n,some x::xs,some y::ys=>x.1==y.1&&Ci a n 0 x.2 y.2&&ol a (n+1) xs ys
 |_,_,_=>false
def xG(s:S):LK->SV->Bool
 |.int k,.int Z _=>decide (k=Z)
 |.bool,.bool _=>true
 |.ref e,.ref (.v k)=>s.rs[k]?==some e
 |.ref (.sl _),.ref (.k (.slice none 0 0))=>true
 |.ref (.own _),.ref (.k (.slice none 0 0))=>true
 |.ref (.mr _),.ref (.k (.slice none 0 0))=>true
 |_,_=>false
def oo(s:S):List LK->List SV->Bool
 |[],[]=>true
 |k::ks,v::vs=>xG s k v&&oo s ks vs
 |_,_=>false
def Cj:LK->Bool
 |.ref (.own _)=>false
 |_=>true
def me:List LK->Bool
 |[]=>true
 |k::ks=>Cj k&&me ks
def IK:List LK->Bool
 |[]=>false
 |.ref _::_=>true
 |_::ks=>IK ks
def IL(args:List SV)(n:Nat):List Nat:=if(SV.ly args).isEmpty then SV.lz args else aw3 n
def IM(args:List SV)(rs:List RK):List RK:=xC (IL args rs.length) 0 rs
def xH(args:List SV)(ks:List LK)(rs:List RK):List RK:=if IK ks then iQ (IL args rs.length) 0 rs else rs
def S.cut(s:S)(args:List SV)(ks:List LK):S:={s with rs:=xH args ks s.rs}
def vL(cf:bc)(f:FuncId)(args:List SV)(s:S)(k:SV->S->T):T:=
 match cf.sig f with
 |some Z=>match eZ cf.ty Z with
  |some ks=>match vF cf.ty Z ((s.cut args ks).bz ks).1 with
   |some l=>if s.cU args&&me ks then .call f args (qg (nl (SV.ly args) 0 s.boxes)) (IM args s.rs) ks (one l) (k (one l) ((s.cut args ks).bz ks).2) else .stuck ""
   |none=>.stuck ""
  |none=>.stuck ""
 |none=>.stuck (""++toString f)
def iB(o:Oper):List Nat:=(o.after.toList.filter λe=>Region.binds .any e).map (·.on)
def lC(ops:List Oper):List Nat:=ops.foldl (λacc o=>acc++[(iB o).foldl (λl e=>l|||(1<<<e)|||acc.getD e 0) 0]) []
def vM:Op->Bool
 |.load _ _=>true
 |_=>false
def tS:Op->Bool
 |.store _ _ _=>true
 |_=>false
def jY:Op->Bool
 |.call c=>match c.callee with
  |.builtin .len|.builtin .min|.builtin .max=>true
  |_=>false
 |.move _|.assign _|.pick _ _ _|.load _ _|.fieldAddr _ _ _|.field _ _ _|.indexAddr _ _ _|.index _ _ _|.binOp _ _ _ _ _|.unOp _ _ _|.convert _ _ _|.makeInterface _ _|.makeFunc _ _ _|.extract _ _|.nilCheck _|.slice _ _ _ _ _|.build _ _|.lookup _ _ _ _=>true
 |_=>false
def gu(ops:Array Oper)(o:Oper):List Nat:=o.op.operands.toList.filterMap (λx=>match x with
  |.tmp t=>some t
  |_=>none)++(match o.guard with
  |some (j,_)=>((ops[j]?).bind (·.dst)).toList
  |none=>[])
def EC:Op->Bool
 |.panic _=>true
 |.call c=>match c.callee with
  |.builtin .panic=>true
  |_=>false
 |_=>false
def xI:Op->Bool
 |.call c=>match c.callee with
  |.builtin .append=>true
  |_=>false
 |_=>false
def o9:Op->Bool
 |.call c=>match c.callee with
  |.builtin .append=>true
  |_=>false
 |.makeSlice _ _ _=>true
 |_=>false
def looks:Op->Bool
 |.call _|.load _ _|.indexAddr _ _ _|.index _ _ _|.lookup _ _ _ _=>true
 |.binOp op _ _ _ _=>Me op
 |_=>false
def Mv(ops:Array Oper)(x y:OM):Bool:=
 x.dr&&y.dr&&jY x.o.op&& !EC y.o.op&&(match x.o.dst with
  |some d=> !(gu ops y.o).contains d&&y.o.dst !=some d&& !(gu ops x.o).contains d
  |none=>false)&&(match y.o.dst with
  |some d=> !(gu ops x.o).contains d
  |none=>true)&&(!(tS y.o.op)|| !(vM x.o.op)||(x.aY&&y.aY))&&(!(xI y.o.op)|| !(looks x.o.op)||(vM x.o.op&&x.aY&&y.aY))
def rT:Operand->Bool
 |.global _=>false
 |_=>true
def tT:Op->Bool
 |.call c=>match c.callee with
  |.value _=>true
  |_=>false
 |_=>false
def Ck:Op->Bool
 |.alloc _=>true
 |_=>false
def Mw(ops:Array Oper)(x y:OM):Bool:=(match x.o.dst with
  |some d=> !(gu ops y.o).contains d&&y.o.dst !=some d
  |none=>true)&&(match y.o.dst with
  |some d=> !(gu ops x.o).contains d
  |none=>true)
def ED:Op->Bool
 |.call c=>match c.callee with
  |.value (.func _)=>c.args.toList.isEmpty
  |_=>false
 |_=>false
def Mx(ops:Array Oper):Bool:=(aw3 ops.size).all λi=>(aw3 ops.size).all λj=>match ops[i]?,ops[j]? with
 |some x,some y=> !(tT x.op)|| !(dW y.op||o9 y.op)||((lC ops.toList).getD i 0).testBit j||((lC ops.toList).getD j 0).testBit i||(ED x.op&&Ck y.op)
 |_,_=>true
def EE(ops:Array Oper)(x y:OM):Bool:=
 x.dr&&y.dr&&Ck y.o.op&&y.o.guard.isNone&&(dW x.o.op||o9 x.o.op||tT x.o.op)&&(!dW x.o.op||x.ix !=y.ix)&&x.o.op.operands.toList.all rT&&Mw ops x y&&(!tT x.o.op|| !Mx ops||ED x.o.op)
def zM:Op->Bool
 |.move _|.assign _|.fieldAddr _ _ _=>true
 |_=>false
def IN(ops:Array Oper)(x y:OM):Bool:=
 x.dr&&y.dr&&dW x.o.op&& !Ck x.o.op&&x.o.guard.isNone&&x.o.op.operands.toList.all rT&&y.o.op.operands.toList.all rT&&(dW y.o.op||o9 y.o.op||tT y.o.op||zM y.o.op||tS y.o.op)&&(!dW y.o.op||x.ix !=y.ix)&&Mw ops x y&&(!tT y.o.op|| !Mx ops)
def pf(ops:Array Oper)(x y:OM):Bool:= !x.so&& !y.so&&(Mv ops x y||EE ops x y||IN ops x y)
def IP(ops:List Oper):Nat->List Nat->List Nat
 |0,acc=>acc
 |n+1,acc=>
  let Z:=(aw3 ops.length).filter λi=> !acc.contains i&&(match ops[i]? with
   |some o=>(iB o).all acc.contains
   |none=>false)
  match Z.find? λi=>match ops[i]? with
   |some o=>jY o.op
   |none=>false with
  |some i=>IP ops n (acc++[i])
  |none=>match(Z.find? λi=>match ops[i]? with
   |some o=>dW o.op&& !Ck o.op
   |none=>false).or (Z.find? λi=>match ops[i]? with
   |some o=> !Ck o.op
   |none=>false) with
   |some i=>IP ops n (acc++[i])
   |none=>match Z with
   |i::_=>IP ops n (acc++[i])
   |[]=>acc
def zN(ops:Array Oper)(Z:List Nat):List OM->Bool
 |[]=>true
 |x::r=>(r.all λy=>(Z.getD y.j 0).testBit x.j||pf ops x y)&&zN ops Z r
def zO(ops:Array Oper):List Nat->List OM->Bool
 |_,[]=>true
 |done,x::r=>(match ops[x.j]? with
  |some o=>(iB o).all done.contains
  |none=>false)&&zO ops (x.j::done) r
def My(ops:List Oper)(Z:List Nat):Bool:=(aw3 ops.length).all λj=>match ops[j]? with
 |some o=>(iB o).all (λe=>decide (e<j))&&(aw3 ops.length).all λi=> !(Z.getD j 0).testBit i||(iB o).contains i||(iB o).any λe=>(Z.getD e 0).testBit i
 |none=>false
def IQ(ops:List Oper)(Z:List Nat)(j:Nat):Bool:=match ops[j]? with
 |some o=>(vM o.op&&(aw3 ops.length).any λi=>(match ops[i]? with
   |some q=>tS q.op||xI q.op
   |none=>false)&& !(Z.getD i 0).testBit j&& !(Z.getD j 0).testBit i)||
  ((tS o.op||xI o.op)&&(aw3 ops.length).any λi=>(match ops[i]? with
   |some q=>vM q.op
   |none=>false)&& !(Z.getD i 0).testBit j&& !(Z.getD j 0).testBit i)
 |none=>false
def vN(Z:List Nat):List OM->Bool
 |[]=>true
 |x::r=>(r.all λy=>(Z.getD y.j 0).testBit x.j)&&vN Z r
def alG:Op->Bool
 |.call c=>match c.callee with
  |.value (.tmp _)=>true
  |_=>false
 |_=>false
def pg(Z:List Nat):List OM->List OM->List OM
 |_,[]=>[]
 |X,m::r=>{m with so:=alG m.o.op&&vN Z (m::r)&&X.all (λx=>(Z.getD m.j 0).testBit x.j)}::pg Z (X++[m]) r
def oq(ds:List Nat):Nat->List SV->List SV
 |_,[]=>[]
 |n,x::xs=>(if ds.contains n then .any else x)::oq ds (n+1) xs
def S.plus(s:S)(ex:aX):S:={s with boxes:=s.boxes++ex}
abbrev rU:=FuncId->List SV->S->Option (SV×aX)
def tU(cf:bc)(Z:rU)(yh:YH):og
 |.fn f,args,s,k,_=>match Z f args s with
  |some (v,ex)=>if s.bd then k v (s.plus ex) else .stuck ""
  |none=>vL cf f args s k
 |.yl n,args,s,k,kp=>yh n args s k kp
def EF(l:List OM)(Z:List Nat):List OM:=Z.filterMap λi=>l[i]?
def zP(l:List Oper):List Nat:=l.filterMap (·.dst)
def EG(ops:Array Oper)(n:Nat):Option (List OM):=
 let X:=lC ops.toList;let Z:=pg X [] (EF (ek (IQ ops.toList X) false true 0 n ops.toList) (IP ops.toList ops.size []))
 if My ops.toList X&&zO ops [] Z&&zN ops X Z&&jJ (Z.filterMap (·.o.dst))&&jJ (Z.map (·.j))&&jJ ((Z.filter λm=>dW m.o.op).map (·.ix))&&Z.length==ops.size&&(aw3 ops.size).all (λi=>Z.any λm=>m.j==i) then some Z else none
def Cl(cf:bc)(t:TypeId):Bool:=(cf.ty t).isSome&& !oa t
def EH(cf:bc):List Oper->Bool
 |[]=>true
 |o::r=>(match o.op with
  |.alloc t=>Cl cf t
  |_=>true)&&EH cf r
def aa8(s:S)(ds:List Nat):List Nat:=ds.filter λd=>match s.tmps[d]? with
 |some w=> !(w.bd s.ni s.nb s.rs.length (aA s.boxes))
 |none=>true
def S.vO(s:S)(ops:Array Oper)(Z:List OM):S:={s.room (jI ops.toList) with tmps:=oq (aa8 s (zP (Z.dropLast.map (·.o)))) 0 s.tmps}
def Mz(Z:S->T)(k:XE->S->T):XE->S->T
 |.normal,s=>Z s
 |e,s=>k e s
def S4(id:Nat)(k:XE->S->T):XE->S->T
 |.exit j,s=>if j==id then k .normal s else k (.exit j) s
 |e,s=>k e s
def EI(cf:bc)(s:S)(rs:List ResultVar)(k kp:SV->S->T):XE->S->T
 |.normal,s'=>match o7 cf s' rs with
  |some l=>k (one l) {s' with tmps:=s.tmps}
  |none=>.stuck ""
 |.ret,s'=>match o7 cf s' rs with
  |some l=>k (one l) {s' with tmps:=s.tmps}
  |none=>.stuck ""
 |.aS v,s'=>kp v {s' with tmps:=s.tmps}
 |.exit _,_=>.stuck ""
def gN(cf:bc)(Z:FuncId->Code->S->(XE->S->T)->T)(yh:YH):og
 |.fn f,args,s,k,kp=>match cf.inl f with
  |some (c,X,rs)=>if s.cU args then Z f c {s with tmps:=args++awS (X-args.length) (.bj [])} (EI cf s rs k kp) else .stuck ""
  |none=>vL cf f args s k
 |.yl n,args,s,k,kp=>yh n args s k kp
def alH:T:=.eC (.c false) (.c false) (.stuck "") (.stuck "")
def S5:T->Bool
 |.eC (.c false) (.c false) _ _=>true
 |_=>false
mutual
def SV.vP:SV->Bool
 |.agg l=>SV.rV l
 |.bj l=>SV.rV l
 |.fn _ l=>SV.rV l
 |.dH _ x=>SV.vP x
 |.yl _=>false
 |.dI _ _ vs=>SV.rV vs
 |_=>true
def SV.rV:List SV->Bool
 |[]=>true
 |x::xs=>SV.vP x&&SV.rV xs
end
def zQ:aX->Bool
 |[]=>true
 |none::xs=>zQ xs
 |some x::xs=>SV.rV x.2&&zQ xs
def jK:aX->aX->Bool
 |[],[]=>true
 |none::xs,none::ys=>jK xs ys
 |some x::xs,some y::ys=>x.1==y.1&&SV.mL x.2 y.2&&jK xs ys
 |_,_=>false
def ky(args:List SV)(bx:aX):aX:=if args.isEmpty then bx.map (λ_=>none) else bx
def ph(args:List SV)(s:S):S:=⟨[],ky args s.boxes,s.ni,s.nb,s.rs.map RK.rd,0,0,[]⟩
def aa9(s0 s' Z:S):Bool:=jK Z.boxes s'.boxes&&Z.ni==s0.ni&&Z.nb==s0.nb&&decide (Z.rs=s0.rs)
def EJ(cf:bc)(Z:FuncId->Code->S->(XE->S->T)->T)(g:FuncId)(args:List SV)(s:S):Option (SV×aX):=
 match gN cf Z fK (.fn g) args (ph args s) (λv s'=>.out .normal {s' with tmps:=[v]}) (λ_ _=>.stuck "") with
 |.out .normal s'=>match s'.tmps with
  |[v]=>if SV.rV args&&zQ (ky args s.boxes)&&v.vP&&zQ s'.boxes&&jK (s'.boxes.take s.boxes.length) (ky args s.boxes)&&v.bd s.ni s.nb s.rs.length (aA s'.boxes)&&SV.mM s.ni s.nb s.rs.length (aA s'.boxes) s'.boxes&&S5 (gN cf Z fK (.fn g) args (ph args s) (λX W=>if X.same v&&aa9 (ph args s) s' W then alH else .stuck "") (λ_ _=>.stuck "")) then some (v,s'.boxes.drop s.boxes.length) else none
  |_=>none
 |_=>none
def zR(cf:bc)(ops:Array Oper)(Z:FuncId->Code->S->(XE->S->T)->T):rU:=λg args s=>if Mx ops&&(cf.inl g).isSome then EJ cf Z g args s else none
def S6:Op->Bool
 |.pick _ _ _=>true
 |_=>false
def aba:Op->Bool
 |.buildSlice _ _ _=>true
 |_=>false
def IR:Op->Bool
 |.buildSlice _ _ _|.alloc _|.box _ _|.store _ _ _=>true
 |_=>false
def vQ(cf:bc)(s:S)(o:Oper):Option (BE×SV):=
 if(o.op.operands.toList.any λx=>(s.ev cf.gl x).cN)||S6 o.op then none else match bq cf.ty cf.gl s o.op with
 |.ok v=>some (.c true,v)
 |.az b v=>if b.bd s.ni s.nb s.rs.length then some (b,v) else none
 |.no _=>none
def BE.S7:BE->Bool
 |.c b=>b
 |_=>false
def zS(cf:bc):List OM->S->Option (S×List BE)
 |[],s=>some (s,[])
 |q::r,s=>match vQ cf s q.o with
  |some (b,v)=>(zS cf r (s.put q.o.dst v)).map λx=>(x.1,if b.S7 then x.2 else b::x.2)
  |none=>none
def S8(cf:bc)(jk:List BE)(s:S)(Z:List OM):Bool:=Z.all λq=>match q.o.dst,vQ cf s q.o with
 |some d,some (b,v)=>(match s.tmps[d]? with
  |some w=>v.same w&&(b.S7||jk.any λx=>x.same b)
  |none=>false)
 |_,_=>false
def MA:List BE->T->T
 |[],t=>t
 |b::r,t=>.az b (MA r t)
def S.bE(s:S)(ds:List Nat):S:={s with tmps:=oq ds 0 s.tmps}
def EK{α:Type}:List α->List (α×List α)
 |[]=>[]
 |x::r=>(x,r)::(EK r).map λy=>(y.1,x::y.2)
def S9(Z:List Nat)(x:OM×List OM):Bool:=x.2.all λy=> !(Z.getD x.1.j 0).testBit y.j
def EL:List (List SV)->List (List SV)->Bool
 |[],[]=>true
 |x::xs,y::ys=>SV.mL x y&&EL xs ys
 |_,_=>false
def LE.same:LE->LE->Bool
 |.ref r,.ref Z=>r.same Z
 |.lit l,.lit X=>EL l X
 |.jG a b,.jG a' W=>LE.same a a'&&LE.same b W
 |.oc n row,.oc n' V=>n.same n'&&SV.mL row V
 |.set a i off cs,.set a' U R cs'=>LE.same a a'&&i.same U&&off==R&&SV.mL cs cs'
 |.sub a lo hi,.sub a' Q P=>LE.same a a'&&lo.same Q&&hi.same P
 |.ins a n cs,.ins a' n' cs'=>LE.same a a'&&n==n'&&SV.mL cs cs'
 |_,_=>false
def S.same(s s':S):Bool:=SV.mL s.tmps s'.tmps&&jK s.boxes s'.boxes&&s.ni==s'.ni&&s.nb==s'.nb&&decide (s.rs=s'.rs)&&s.al==s'.al&&s.lk==s'.lk&&decide (s.pd=s'.pd)
def T.same:T->T->Bool
 |.ret v bx rs,.ret U R X=>v.same U&&jK bx R&&decide (rs=X)
 |.aS v,.aS U=>v.same U
 |.node b t f,.node Q Z W=>b.same Q&&T.same t Z&&T.same f W
 |.az b t,.az Q Z=>b.same Q&&T.same t Z
 |.call f args bx rs ks fp t,.call W L R X P J Z=>f==W&&SV.mL args L&&jK bx R&&decide (rs=X)&&decide (ks=P)&&fp.same J&&T.same t Z
 |.loop al ks I t,.loop O P H Z=>al==O&&decide (ks=P)&&SV.mL I H&&T.same t Z
 |.back al x,.back O V=>al==O&&SV.mL x V
 |.new e x rs G t,.new F V X E Z=>e==F&&LE.same x V&&decide (rs=X)&&decide (G=E)&&T.same t Z
 |.rows k x rs t,.rows D V X Z=>decide (k=D)&&LE.same x V&&decide (rs=X)&&T.same t Z
 |.eC g h t f,.eC N M Z W=>g.same N&&h.same M&&T.same t Z&&T.same f W
 |.pick n g h t f,.pick n' N M Z W=>n.same n'&&g.same N&&h.same M&&T.same t Z&&T.same f W
 |.out .normal s,.out .normal s'=>S.same s s'
 |_,_=>false
def Cm:List T->List T
 |[]=>[]
 |t::Z=>if Z.any (T.same t) then Cm Z else t::Cm Z
def xJ:List T->T
 |[]=>.stuck ""
 |[t]=>t
 |t::Z=>.eC (.c true) (.c true) t (xJ Z)
def EM:Op->Bool
 |.call c=>match c.callee with
  |.builtin .append=>true
  |_=>false
 |.makeSlice _ _ _|.buildSlice _ _ _|.slice _ _ _ _ _|.store _ _ _=>true
 |_=>false
def zT(cf:bc)(X:og)(ds:List Nat)(kp:SV->S->T)(m:OM)(Z:S->T)(s:S):T:=match cV cf s m.o with
  |.call (.fn g) args=>X (.fn g) args s (λv s'=>Z (s'.put m.o.dst v)) (λv s'=>kp v (s'.bE ds))
  |.op=>match(if EM m.o.op then cK cf m.o m.aY false s else none) with
   |some b=>.az b.az (.new b.e b.x s.rs b.s.rs (Z b.s))
   |none=>if jY m.o.op then(match vQ cf s m.o with
    |some (b,v)=>.az b (Z (s.put m.o.dst v))
    |none=>.stuck "") else
   if IR m.o.op then(match dR cf m s with
    |.ok s'=>Z s'
    |_=>.stuck "") else .stuck ""
  |_=>.stuck ""
def EN(Z:List Nat)(m:OM)(X:List OM):List OM:=X.filter λq=> !(Z.getD m.j 0).testBit q.j
def lD(cf:bc)(W:og)(Z:List Nat)(jk:List BE)(X:List OM)(ds:List Nat)(k:S->T)(kp:SV->S->T):Nat->List OM->S->T
 |_,[],s=>if S8 cf jk s X then k s else .stuck ""
 |0,_::_,_=>.stuck ""
 |n+1,m::r,s=>if !S8 cf jk s X then .stuck "" else xJ (Cm (((EK (m::r)).filter (S9 Z)).map λx=>zT cf W ds kp x.1 (λs'=>lD cf W Z jk (EN Z x.1 X) ds k kp n x.2 s') s))
def T.lE(k:S->T)(kp:SV->S->T):T->T
 |.out .normal s=>k s
 |.out (.aS v) s=>kp v s
 |.node b t f=>.node b (t.lE k kp) (f.lE k kp)
 |.az b t=>.az b (t.lE k kp)
 |.call f a bx rs ks fp t=>.call f a bx rs ks fp (t.lE k kp)
 |.new e x rs Z t=>.new e x rs Z (t.lE k kp)
 |.eC g h t f=>.eC g h (t.lE k kp) (f.lE k kp)
 |t=>t
def MB(cf:bc):og
 |.fn g,args,s,k,_=>if(cf.inl g).isNone then vL cf g args s k else .stuck ""
 |_,_,_,_,_=>.stuck ""
def alI:Op->Bool
 |.slice _ _ _ _ _=>true
 |_=>false
def alJ:Op->Bool
 |.indexAddr .. =>true
 |_=>false
def alK:Op->Bool
 |.store _ _ _=>true
 |_=>false
def MC(so:Bool)(ops:Array Oper):List Nat:=(aw3 ops.size).foldl (λacc i=>match ops[i]? with
 |some o=>if jY o.op&&(so|| !alI o.op)&& !(alJ o.op&&(aw3 i).any λj=>match ops[j]? with
   |some x=>alK x.op
   |none=>false)&&((aw3 ops.size).all λj=>match(ops[j]?).bind (·.dst) with
   |some d=> !(gu ops o).contains d||acc.contains j
   |none=>true) then acc++[i] else acc
 |none=>acc) []
structure IS where
 qs:List OM
 ch:List OM
 s:S
 jk:List BE
def Ta(cf:bc)(s:S)(ops:List Oper):Bool:=ops.any λo=>match o.op with
 |.call c=>(match c.callee with
  |.value (.func g)=>(cf.inl g).isSome
  |.value (.tmp t)=>(zP ops).contains t||(match s.tmps[t]? with
   |some (.fn g _)=>(cf.inl g).isSome
   |_=>false)
  |_=>false)
 |_=>false
def Tb(ops:Array Oper)(V:List Nat)(Z X W:List OM):Bool:=
 My ops.toList V&&Z.all (λm=>m.o.guard.isNone&& !m.aY)&&jJ (Z.filterMap (·.o.dst))&&
 Z.all (λm=>Z.all λx=>match x.o.dst with
  |some d=> !(gu ops m.o).contains d||(V.getD m.j 0).testBit x.j
  |none=>true)&&X.all (λq=>jY q.o.op&&q.o.dst.isSome)&&(aw3 ops.size).all (λi=>(X++W).any λm=>m.j==i)&&(X++W).length==ops.size&&jJ ((X++W).map (·.j))&&
 W.all (λm=>jY m.o.op||IR m.o.op||EM m.o.op||(match m.o.op with
  |.call _=>true
  |_=>false))
def xK(so:Bool)(ops:Array Oper)(n:Nat):List OM:=(ek (λ_=>false) false true 0 n ops.toList).filter λm=>(MC so ops).contains m.j
def xL(so:Bool)(ops:Array Oper)(n:Nat):List OM:=(ek (λ_=>false) false true 0 n ops.toList).filter λm=> !(MC so ops).contains m.j
def EO(so:Bool)(ops:Array Oper)(n:Nat):Bool:=Tb ops (lC ops.toList) (ek (λ_=>false) false true 0 n ops.toList) (xK so ops n) (xL so ops n)
def alL:CK->Bool
 |.call (.yl _) _=>true
 |_=>false
def Tc(cf:bc)(X Z:List OM)(x:S×List BE):Option IS:=if Z.any λm=>alL (cV cf x.1 m.o) then none else some ⟨X,Z,x.1,x.2⟩
def EP(cf:bc)(so:Bool)(ops:Array Oper)(s:S):Option IS:=
 if(!so||(Ta cf s ops.toList||(cf.mc&&ops.toList.any λo=>aba o.op))&&vN (lC ops.toList) (xL so ops s.boxes.length))&&EO so ops s.boxes.length then(zS cf (xK so ops s.boxes.length) (s.room (jI ops.toList))).bind (Tc cf (xK so ops s.boxes.length) (xL so ops s.boxes.length)) else none
def abb(Z:du)(s s':S):String:= ""
def MD(Z:du)(ds:List Nat)(s:S)(k:XE->S->T):XE->S->T
 |.normal,s'=>if tR Z ds 0 s.tmps s'.tmps&&ol Z 0 s.boxes s'.boxes&&oo s' Z.ks (gM Z s')&&tQ (fy Z s) s'.rs&&Cg (fy Z s) (Cf Z s')&&decide (s'.pd=s.pd) then .back s.al (gM Z s') else .stuck (abb Z s s')
 |e,s'=>k e s'
mutual
def SV.rW(n:Nat):SV->Bool
 |.agg l=>SV.mO n l
 |.bj l=>SV.mO n l
 |.fn _ l=>SV.mO n l
 |.dH _ x=>SV.rW n x
 |.yl m=>m==n
 |.dI _ _ vs=>SV.mO n vs
 |_=>false
def SV.mO(n:Nat):List SV->Bool
 |[]=>false
 |x::xs=>SV.rW n x||SV.mO n xs
end
def rX(n:Nat):aX->Bool
 |[]=>false
 |none::xs=>rX n xs
 |some x::xs=>SV.mO n x.2||rX n xs
def S.rW(s:S)(n:Nat):Bool:=SV.mO n s.tmps||rX n s.boxes
def Cn:List Nat->List SV->List SV->List SV
 |p::ps,v::vs,l=>Cn ps vs (l.set p v)
 |_,_,l=>l
def S.xM(s s':S):S:={s' with tmps:=s.tmps,pd:=s'.pd.take s.pd.length}
def Co(s:S)(k:XE->S->T):XE->S->T
 |.aS v,s'=>if v.rW s.pd.length||rX s.pd.length s'.boxes then .stuck "" else k (.aS v) (s.xM s')
 |.exit _,_=>.stuck ""
 |_,s'=>if rX s.pd.length s'.boxes then .stuck "" else match s'.pd[s.pd.length]? with
  |some .ready=>k .normal (s.xM s')
  |some (.done .ret)=>k .ret (s.xM s')
  |some (.done (.exit id))=>k (.exit id) (s.xM s')
  |_=>.stuck ""
def gv:Code->Bool
 |.seq a b=>gv a||gv b
 |.cond _ a b=>gv a||gv b
 |.block _ c=>gv c
 |.loop c=>gv c
 |.scope c=>gv c
 |.rangeFunc _ _ _ _=>true
 |_=>false
def ME(n:Nat)(Z:S)(k kp:SV->S->T):XE->S->T
 |.normal,s'=>k (.bool (.c true)) {s' with tmps:=Z.tmps,pd:=s'.pd.set n .ready}
 |.ret,s'=>k (.bool (.c false)) {s' with tmps:=Z.tmps,pd:=s'.pd.set n (.done .ret)}
 |.exit id,s'=>k (.bool (.c false)) {s' with tmps:=Z.tmps,pd:=s'.pd.set n (.done (.exit id))}
 |.aS v,s'=>kp v {s' with tmps:=Z.tmps}
def IU(n:Nat)(k:S->T):XE->S->T
 |.normal,s'=>if decide (s'.pd[n]?=some .ready) then k s' else .stuck ""
 |_,_=>.stuck ""
def EQ(s:S)(X:Nat)(Z:List SV):S:={s with tmps:=(.yl s.pd.length::Z)++awS (X-(SV.yl s.pd.length::Z).length) (.bj []),pd:=s.pd++[.ready]}
def IW(n X:Nat)(W:List SV->S->(SV->S->T)->(SV->S->T)->T):YH:=λm args Z V U=>
 if m==n&&decide (Z.pd.length=n+1)&&decide (Z.pd[n]?=some .ready)&&args.length==X&&Z.cU args then W args Z V U else .stuck ""
def xN(Z s:S)(ps:List Nat)(args:List SV):S:={Z with tmps:=Cn ps args s.tmps}
def S.Cp(s:S)(n:Nat)(x:kO):S:={s with pd:=s.pd.set n x}
def abc(Z:du)(ds:List Nat)(s:S):String:= ""
def du.at(a:du)(s:S):du:=⟨a.tm,a.cl.filterMap λx=>match bA s.boxes (x.1%1000) with
 |some (t,cs)=>(match cs[x.2.1]? with
  |some v=>if xG s x.2.2 v&&(!oa t||(match x.2.2 with
   |.ref _=>true
   |_=>false))&&(x.1/1000==0||decide (s.boxes.length<=x.1/1000)) then some (x.1%1000,x.2) else none
  |none=>none)
 |none=>none⟩
def abd:List SV->Option (IE×List Int)
 |[]=>none
 |.dI e ks _::_=>some (e,ks)
 |_::r=>abd r
def MF:aX->Option (IE×List Int)
 |[]=>none
 |some x::r=>match abd x.2 with
  |some y=>some y
  |none=>MF r
 |none::r=>MF r
def Cq(k:Int):List Int->List SV->Option SV
 |Z::ks,.fn f l::vs=>if k=Z then some (.fn f l) else Cq k ks vs
 |Z::ks,.ref (.k .nilFunc)::vs=>if k=Z then some (.ref (.k .nilFunc)) else Cq k ks vs
 |_,_=>none
def IX(e:IE)(k:Int):Nat->BE->BE
 |0,b=>b
 |n+1,.bY (.cmp .eql Z (.c X)) x y=>if IE.same e Z then(if k=X then IX e k n x else IX e k n y) else .bY (.cmp .eql Z (.c X)) x y
 |_,b=>b
def IY(e:IE)(k:Int):Nat->IE->IE
 |0,b=>b
 |n+1,.bY (.cmp .eql Z (.c X)) x y=>if IE.same e Z then(if k=X then IY e k n x else IY e k n y) else .bY (.cmp .eql Z (.c X)) x y
 |_,b=>b
def Td(e:IE)(k:Int):SV->SV
 |.bool b=>.bool (IX e k 20 b)
 |.int t b=>.int t (IY e k 20 b)
 |.dI Z ks vs=>if IE.same e Z then(match Cq k ks vs with
  |some v=>v
  |none=>.dI Z ks vs) else .dI Z ks vs
 |v=>v
def MG(e:IE)(X:List Int):SV->SV
 |.dI Z ks vs=>if IE.same e Z&&ks.all X.contains then .ref (.k .nilFunc) else .dI Z ks vs
 |v=>v
def Cr(f:SV->SV)(l:aX):aX:=l.map λx=>match x with
 |some y=>some (y.1,y.2.map f)
 |none=>none
def S.fix(f:SV->SV)(s:S):S:={s with boxes:=Cr f s.boxes}
def ER(e:IE)(eC:Int->S)(ar:T)(g:S->T):List Int->T
 |[]=>ar
 |k::ks=>.node (.cmp .eql e (.c k)) (g (eC k)) (ER e eC ar g ks)
def MH(cf:bc)(Z id:Nat)(s:S):Option (IE×List Int×(Int->S)×Option S):=match cf.frk Z id with
 |some .box=>match MF s.boxes with
  |some (e,ks)=>some (e,ks,λk=>s.fix (Td e k),match MF (Cr (MG e ks) s.boxes) with
   |none=>some (s.fix (MG e ks))
   |some _=>none)
  |none=>none
 |some (.slot t vs)=>match SF s.tmps t with
  |.int _ (.c _)=>none
  |.int k e=>some (e,vs,λv=>{s with tmps:=s.tmps.set t (.int k (.c v))},none)
  |_=>none
 |none=>none
def Te(g:S->T):Option S->T
 |some s=>g s
 |none=>.stuck ""
def IZ(cf:bc)(Z:og)(ops:Array Oper)(k:XE->S->T)(c:IS):T:=MA c.jk (if vN (lC ops.toList) c.ch||Ta cf c.s ops.toList then lD cf Z (lC ops.toList) c.jk c.qs (zP ops.toList) (k .normal) (λv=>k (.aS v)) c.ch.length c.ch c.s
 else(lD cf (MB cf) (lC ops.toList) c.jk c.qs (zP ops.toList) (.out .normal) (λv=>.out (.aS v)) c.ch.length c.ch c.s).lE (k .normal) λv=>k (.aS v))
def dJ(cf:bc):Nat->FuncId->Code->S->YH->(XE->S->T)->T
 |0,_,_,_,_,_=>.stuck ""
 |n+1,Z,c,s,yh,k=>
  match c with
  |.skip=>k .normal s
  |.label _=>k .normal s
  |.ret=>k .ret s
  |.exit id=>k (.exit id) s
  |.seq a b=>dJ cf n Z a s yh (Mz (λs'=>dJ cf n Z b s' yh k) k)
  |.block id a=>dJ cf n Z a s yh (S4 id k)
  |.scope a=>dJ cf n Z a s yh k
  |.cond c a b=>match s.ev cf.gl c with
   |.bool (.c true)=>dJ cf n Z a s yh k
   |.bool (.c false)=>dJ cf n Z b s yh k
   |.bool x=>match c with
    |.tmp t=>.node x (dJ cf n Z a {s with tmps:=s.tmps.set t (.bool (.c true))} yh k) (dJ cf n Z b {s with tmps:=s.tmps.set t (.bool (.c false))} yh k)
    |_=>.stuck ""
   |_=>.stuck ""
  |.region id ops W=>match MH cf Z id s with
   |some (e,ks,eC,ar)=>ER e eC (Te (λs'=>dJ cf n Z (.region id ops W) s' yh k) ar) (λs'=>dJ cf n Z (.region id ops W) s' yh k) ks
   |none=>if W then
    match EP cf (!cf.SQ Z id) ops s with
    |some c=>IZ cf (gN cf (λf c s k=>dJ cf n f c s yh k) yh) ops k c
    |none=>match EG ops s.boxes.length with
    |some U=>if !EH cf ops.toList then .stuck "" else kw cf (tU cf (zR cf ops λf c s k=>dJ cf n f c s fK k) yh) ops (k .normal) (λv=>k (.aS v)) U (s.vO ops U) []
    |none=>match EP cf false ops s with
     |some c=>IZ cf (gN cf (λf c s k=>dJ cf n f c s yh k) yh) ops k c
     |none=>.stuck ""
   else
   kw cf (gN cf (λf c s k=>dJ cf n f c s yh k) yh) ops (k .normal) (λv=>k (.aS v)) (ek (λ_=>false) true false 0 s.boxes.length ops.toList) (s.room (jI ops.toList)) []
  |.loop a=>match(Code.first a).map (cf.loop Z) with
   |some (.inv X)=>
    if !s.bd|| !oo s (X.at s).ks (gM (X.at s) s)|| !tR (X.at s) (Code.kP a) 0 s.tmps s.tmps|| !ol (X.at s) 0 s.boxes s.boxes|| !tQ (fy (X.at s) s) s.rs|| !Cg (fy (X.at s) s) (Cf (X.at s) s) then .stuck (abc (X.at s) (Code.kP a) s) else
    .loop s.al (X.at s).ks (gM (X.at s) s) (dJ cf n Z a (mN (X.at s) (Code.kP a) s) yh (MD (X.at s) (Code.kP a) s k))
   |_=>dJ cf n Z a s yh (Mz (λs'=>dJ cf n Z (.loop a) s' yh k) k)
  |.rangeFunc f ps assign body=>match s.ev cf.gl f with
   |.fn g V=>match cf.inl g with
    |some (c,Q,[])=>
     if !s.cU V||s.rW s.pd.length||SV.mO s.pd.length V||gv assign||gv body then .stuck "" else
     dJ cf n g c (EQ s Q V)
      (IW s.pd.length ps.size λargs R P O=>
       dJ cf n Z assign (xN R s ps.toList args) fK (IU s.pd.length λN=>
        dJ cf n Z body (N.Cp s.pd.length .busy) fK (ME s.pd.length R P O))) (Co s k)
    |_=>.stuck ""
   |_=>.stuck ""
  |_=>.stuck ""
def ES{α:Type}(f:SV->List RK->(SV->List RK->α)->α):List SV->List RK->(List SV->List RK->α)->α
 |[],rs,k=>k [] rs
 |x::xs,rs,k=>f x rs λZ X=>ES f xs X λW V=>k (Z::W) V
def S.cm(rs:List RK):S:=⟨[],[],0,0,rs,0,0,[]⟩
def ET(cf:bc)(bx:aX):Nat->SV->List RK->(SV->List RK->T)->T
 |0,_,_,_=>.stuck ""
 |n+1,.fo i off W cap,rs,k=>match iP bx i with
  |some (e,cs)=>match cf.ty e with
   |some X=>ES (ET cf bx n) cs rs λcs' Z=>if jX cf.ty (.cm Z) X.ab (fW X.ab.length W cs')&&cs'.length==W*X.ab.length&&off==0&&decide (W<=cap)&&X.ab.length !=0 then .new e (.lit (fW X.ab.length W cs')) Z (Z++[.sl e]) (k (.ref (.v Z.length)) (Z++[.sl e])) else .stuck ""
   |none=>.stuck ""
  |none=>.stuck ""
 |n+1,.agg l,rs,k=>ES (ET cf bx n) l rs λV Z=>k (.agg V) Z
 |_+1,.int q e,rs,k=>k (.int q e) rs
 |_+1,.bool e,rs,k=>k (.bool e) rs
 |_+1,.ref r,rs,k=>k (.ref r) rs
 |_+1,_,_,_=>.stuck ""
mutual
def SV.alM:SV->Bool
 |.fo _ _ _ _=>true
 |.agg l=>SV.Tf l
 |_=>false
def SV.Tf:List SV->Bool
 |[]=>false
 |x::xs=>SV.alM x||SV.Tf xs
end
def I0(cf:bc)(nb:Nat)(l:List SV)(s':S):T:=if nb==0&&SV.Tf l&&s'.bd&&SV.ck s'.ni s'.nb s'.rs.length (aA s'.boxes) l then ES (ET cf s'.boxes 9) l (s'.rs.map RK.rd) λZ X=>.ret (one Z) [] X else .ret (one l) (qg (s'.boxes.take nb)) (s'.rs.map RK.rd)
def MI(cf:bc)(nb:Nat)(rs:List ResultVar):XE->S->T
 |.normal,s'=>match o7 cf s' rs with
  |some l=>I0 cf nb l s'
  |none=>.stuck ""
 |.ret,s'=>match o7 cf s' rs with
  |some l=>I0 cf nb l s'
  |none=>.stuck ""
 |.aS v,_=>.aS v
 |.exit _,_=>.stuck ""
def I1(cf:bc)(n:Nat)(Z:FuncId)(c:Code)(X:Nat)(rs:List ResultVar)(args:List SV)(s:S):T:=
 dJ cf n Z c {s with tmps:=args++awS (X-args.length) (.bj [])} fK (MI cf s.boxes.length rs)
structure DI where
 ot:Array Oper
 rest:Code
 g:FuncId
 te:Nat
 tf:Nat
def abe(ot:Array Oper)(rest:Code):List Oper->Option DI
 |[Z,X]=>match Z.op,Z.dst,Z.guard,X.op,X.guard,X.dst with
  |.makeFunc (.func g) first U,some W,none,.defer V,none,none=>match first.toList,U.toList,V.callee,V.args.toList with
   |[],[.tmp R],.value (.tmp Q),[]=>if W==Q then some ⟨ot,rest,g,R,W⟩ else none
   |_,_,_,_=>none
  |_,_,_,_,_,_=>none
 |_=>none
def qj:Code->Option DI
 |.seq (.region _ ot false) (.seq (.region _ Z false) rest)=>abe ot rest Z.toList
 |_=>none
def EU(cf:bc)(nb:Nat)(rs:List ResultVar)(s':S):T:=match o7 cf s' rs with
 |some l=>.ret (one l) (qg (s'.boxes.take nb)) (s'.rs.map RK.rd)
 |none=>.stuck ""
def Tg(cf:bc)(nb:Nat)(Z:TypeId)(X:Nat)(rs:List ResultVar):XE->S->T
 |.normal,s'=>EU cf nb rs s'
 |.ret,s'=>EU cf nb rs s'
 |.aS v,s'=>match v with
  |.dH t (.int .i64 x)=>match bA s'.boxes X with
   |some (W,[.int .i64 _])=>if t==Z&&W==Z then EU cf nb rs {s' with boxes:=s'.boxes.set X (some (Z,[.int .i64 x]))} else .stuck ""
   |_=>.stuck ""
  |_=>.stuck ""
 |.exit _,_=>.stuck ""
def Th(cf:bc)(n:Nat)(W:FuncId)(d:DI)(X:TypeId)(nb:Nat)(rs:List ResultVar)(Z:S):T:=match Z.tmps[d.te]? with
 |some (.loc i 0)=>if !oa X&&aA Z.boxes i&&decide (d.tf<Z.tmps.length) then dJ cf n W d.rest (Z.put (some d.tf) (.fn d.g [.loc i 0])) fK (Tg cf nb X i rs) else .stuck ""
 |_=>.stuck ""
def I2(cf:bc)(n:Nat)(Z:FuncId)(c:Code)(X:Nat)(rs:List ResultVar)(W:TypeId)(args:List SV)(s:S):T:=match qj c with
 |some d=>kw cf (gN cf (λf c s k=>dJ cf n f c s fK k) fK) d.ot (Th cf n Z d W s.boxes.length rs) (λ_ _=>.stuck "") (ek (λ_=>false) true false 0 s.boxes.length d.ot.toList) (({s with tmps:=args++awS (X-args.length) (SV.bj [])}:S).room (jI d.ot.toList)) []
 |none=>.stuck ""
end
end Go.Proofs.YtieaiocljdpebaaGreatDoor.Y
namespace Go.Proofs.YtieaiocljdpebaaGreatDoor
open Go.RowKit
structure bS(S:List Nat)(w w':World):Prop where
 os:w'.os=w.os
 tape:w'.tape=w.tape
 output:w'.output=w.output
 size:w.heap.size<=w'.heap.size
 block:∀k,k<w.heap.size->k∉S->w'.heap[k]?=w.heap[k]?
def bS.refl(S:List Nat)(w:World):bS S w w:=⟨rfl,rfl,rfl,awN _,λ_ _ _=>rfl⟩
def bS.trans{S:List Nat}{a b c:World}(h:bS S a b)(k:bS S b c):bS S a c:=
 ⟨k.os.trans h.os,k.tape.trans h.tape,k.output.trans h.output,axn h.size k.size,λi hi Z=>(k.block i (ayo hi h.size) Z).trans (h.block i hi Z)⟩
def bS.mono{S Z:List Nat}{a b:World}(h:bS S a b)(X:∀x,x∈S->x∈Z):bS Z a b:=
 ⟨h.os,h.tape,h.output,h.size,λi hi W=>h.block i hi (λm=>W (X i m))⟩
def bS.alloc{S:List Nat}{a w:World}(h:bS S a w)(o:Obj):bS S a (w.alloc o):=
 h.trans ⟨rfl,rfl,rfl,by simp,λk Z _=>Below.heap_alloc _ _ _ Z⟩
def bS.drew{S:List Nat}{a w:World}(h:bS S a w):bS S a w.drew:=⟨h.os,h.tape,h.output,h.size,h.block⟩
def bS.drewN{S:List Nat}{a w:World}(h:bS S a w)(n:Nat):bS S a (w.drewN n):=⟨h.os,h.tape,h.output,h.size,h.block⟩
def bS.setCell{S:List Nat}{a w:World}(h:bS S a w){p:Addr}(Z:p.block∈S)(u:Value):bS S a (w.setCell p u):=
 h.trans ⟨rfl,rfl,rfl,by simp[World.setCell],λk _ X=>Below.heap_setCell _ _ _ _ (λe=>X (e▸Z))⟩
def bS.putObj{S:List Nat}{a w:World}(h:bS S a w){r:Nat}(Z:r∈S)(o:Obj):bS S a (w.putObj r o):=
 h.trans ⟨rfl,rfl,rfl,by simp[World.putObj],λk _ X=>World.putObj_heap_other (λe=>X (e▸Z))⟩
def bS.alN{S:List Nat}{w Z:World}(h:Below w.heap.size w Z):bS S w Z:=⟨h.os,h.tape,h.output,h.size,λk X _=>h.block k X⟩
def bS.call{S:List Nat}{a w Z:World}(h:bS S a w)(k:Below w.heap.size w Z):bS S a Z:=h.trans (bS.alN k)
def bS.grown{S:List Nat}{a w X:World}{row:Option Nat}(h:bS S a w)(Z:w.grownBy X row)(R:∀k,row=some k->k∈S\/a.heap.size<=k):bS S a X:=
 ⟨Z.os.trans h.os,Z.tape.trans h.tape,Z.output.trans h.output,axn h.size Z.size,λk W V=>(Z.block k (ayo W h.size) (λe=>by rcases R k e.symm with U|U;exact V U;omega)).trans (h.block k W V)⟩
def bS.heap{S:List Nat}{w W:World}(h:bS S w W){b:Nat}{o:Obj}(Z:w.heap[b]?=some o)(V:b∉S):W.heap[b]?=some o:=by
 have X:b<w.heap.size:=by
  by_cases X:b<w.heap.size;exact X;rw[ay8 (by omega)] at Z;cases Z
 exact(h.block b X V).trans Z
def alO{B:Nat}{S:List Nat}{a w X:World}(h:Below B a w)(V:B<=w.heap.size)(Z:bS S w X)(W:∀x,x∈S->B<=x):Below B a X:=
 h.trans ⟨Z.os,Z.tape,Z.output,Z.size,λk U=>Z.block k (by omega) (λm=>by have:=W k m;omega)⟩
end Go.Proofs.YtieaiocljdpebaaGreatDoor
namespace Go.Proofs.YtieaiocljdpebaaGreatDoor.Y
open Go.RowKit
noncomputable section
inductive RV where
 |mk (val:Value) (rows:List (List RV))
def RV.val:RV->Value
 |.mk v _=>v
def RV.rows:RV->List (List RV)
 |.mk _ r=>r
@[simp] def RV.jZ (v:Value) (r:List (List RV)):(RV.mk v r).val=v:=rfl
@[simp] def RV.jl (v:Value) (r:List (List RV)):(RV.mk v r).rows=r:=rfl
instance:Inhabited RV:=⟨.mk (.pointer none) []⟩
structure aa where
 i:List Int
 b:List Bool
 r:List RV
 y:List Nat
def aa.at(ρ:aa)(y:List Nat):aa:={ρ with y:=y}
def aa.rv(ρ:aa)(k:Nat):RV:=ρ.r.getD k default
def ba:Value->Int
 |.int _ n=>n
 |_=>0
def jm:Value->Bool
 |.bool b=>b
 |_=>false
def lenOf:Value->Int
 |.slice _ n _=>n
 |.string s=>s.size
 |_=>0
def zU(v:Value)(i:Int):Int:=match v with
 |.string s=>match s[i.toNat]? with
  |some b=>b.toNat
  |none=>0
 |_=>0
def ql:Value->Value->Bool
 |.string a,.string b=>a.toList==b.toList
 |_,_=>false
def iR(n:Nat)(ks:List Int)(row:List RV):Bool:=decide ((row.take n).map (λc=>ba c.val)=ks.take n)
def jo(n:Nat)(ks:List Int)(rows:List (List RV)):Option (List RV):=rows.find? (iR n ks)
def eD(n:Nat)(row:List RV):List (List RV)->List (List RV)
 |[]=>[row]
 |r::rs=>if iR n ((row.take n).map λc=>ba c.val) r then row::rs else r::eD n row rs
def gO(x:Int):List Int->List Value->Value
 |k::ks,v::vs=>if x=k then(if fw v then v else .nilFunc) else gO x ks vs
 |_,_=>.nilFunc
def cellAt(rows:List (List RV))(i:Int)(j:Nat):RV:=(rows.getD i.toNat []).getD j default
def dv:RK->RV->RV
 |.sl _,v|.own _,v=>match v.val with
  |.slice _ _ _=>v
  |_=>.mk (.slice none 0 0) []
 |.str,v=>match v.val with
  |.string s=>.mk (.string s) []
  |_=>.mk (.string ⟨#[]⟩) []
 |.ar,v=>if fw v.val then .mk v.val [] else .mk (.pointer none) []
 |.dead,v=>if fw v.val then v else .mk (.pointer none) []
 |.mr _,v=>match v.val with
  |.slice _ _ _=>v
  |_=>.mk (.slice none 0 0) []
mutual
def IE.den(ρ:aa):IE->Int
 |.c n=>n
 |.v k=>ρ.i.getD k 0
 |.bin op k a b=>bh op k (a.den ρ) (b.den ρ)
 |.conv k a=>k.wrap (a.den ρ)
 |.len r=>lenOf (r.rv ρ).val
 |.mm Z a b=>if Z then max (a.den ρ) (b.den ρ) else min (a.den ρ) (b.den ρ)
 |.bY b x y=>if b.den ρ then x.den ρ else y.den ρ
 |.cell r i j=>ba (cellAt (r.rv ρ).rows (i.den ρ) j).val
 |.ku r i=>zU (r.rv ρ).val (i.den ρ)
 |.look r n a b c j=>match jo n [a.den ρ,b.den ρ,c.den ρ] (r.rv ρ).rows with
  |some row=>ba (row.getD j default).val
  |none=>0
def BE.den(ρ:aa):BE->Bool
 |.c b=>b
 |.v k=>ρ.b.getD k false
 |.cmp op a b=>ew op (a.den ρ) (b.den ρ)
 |.not a=> !(a.den ρ)
 |.and a b=>a.den ρ&&b.den ρ
 |.beq a b=>a.den ρ==b.den ρ
 |.bY b x y=>if b.den ρ then x.den ρ else y.den ρ
 |.cell r i j=>jm (cellAt (r.rv ρ).rows (i.den ρ) j).val
 |.seq a b=>ql (a.rv ρ).val (b.rv ρ).val
 |.look r n a b c j=>match jo n [a.den ρ,b.den ρ,c.den ρ] (r.rv ρ).rows with
  |some row=>jm (row.getD j default).val
  |none=>false
 |.has r n a b c=>(jo n [a.den ρ,b.den ρ,c.den ρ] (r.rv ρ).rows).isSome
def RE.rv(ρ:aa):RE->RV
 |.v k=>ρ.rv k
 |.cell r i j k=>dv k (cellAt (r.rv ρ).rows (i.den ρ) j)
 |.k v=>.mk v []
end
def RE.den(ρ:aa)(r:RE):Value:=(r.rv ρ).val
def SV.bp(ρ:aa):SV->RV
 |.int k e=>.mk (.int k (e.den ρ)) []
 |.bool b=>.mk (.bool (b.den ρ)) []
 |.ref r=>r.rv ρ
 |_=>default
def eR(row:List RV)(off:Nat):List RV->List RV
 |[]=>row
 |v::r=>eR (row.set off v) (off+1) r
def LE.rows(ρ:aa):LE->List (List RV)
 |.ref r=>(r.rv ρ).rows
 |.lit l=>l.map λrow=>row.map (SV.bp ρ)
 |.jG a b=>a.rows ρ++b.rows ρ
 |.oc n row=>awS (n.den ρ).toNat (row.map (SV.bp ρ))
 |.set a i off cs=>(a.rows ρ).modify (i.den ρ).toNat λrow=>eR row off (cs.map (SV.bp ρ))
 |.sub a lo hi=>((a.rows ρ).take (hi.den ρ).toNat).drop (lo.den ρ).toNat
 |.ins a n cs=>eD n (cs.map (SV.bp ρ)) (a.rows ρ)
def fb(x:LE)(ρ:aa):RV:=.mk (.slice none (x.rows ρ).length (x.rows ρ).length) (x.rows ρ)
def aK(c:Nat)(row:List RV):Int:=ba (row.getD c default).val
def fz(Z:Bool):List Nat->List RV->List RV->Bool
 |[],_,_=>false
 |c::cs,x,y=>if aK c x=aK c y then fz Z cs x y else if Z then decide (aK c y<aK c x) else decide (aK c x<aK c y)
def aJ.lt:aJ->List RV->List RV->Bool
 |.lex cs d,x,y=>fz d cs x y
 |.ratio n d,x,y=>decide (aK n x*aK d y<aK n y*aK d x)
 |.co _ _ _,_,_=>false
def jL(n d:Int):Bool:=decide (1<=d)&&decide (d<=1073741824)&&decide (-1073741824<=n)&&decide (n<=1073741824)&&ayR n.natAbs d.toNat==1
def aJ.ok:aJ->List RV->Bool
 |.lex _ _,_=>true
 |.ratio n d,x=>jL (aK n x) (aK d x)
 |.co _ _ _,_=>false
def cQ(lt:List RV->List RV->Bool)(x:List RV):List (List RV)->List (List RV)
 |[]=>[x]
 |y::r=>if lt x y then x::y::r else y::cQ lt x r
def be(lt:List RV->List RV->Bool)(l:List (List RV)):List (List RV):=l.foldl (λacc x=>cQ lt x acc) []
def pi(lt:List RV->List RV->Bool):List (List RV)->Bool
 |[]=>true
 |x::r=>r.all (λy=>lt x y||lt y x)&&pi lt r
def dw:aJ->Bool->List (List RV)->Option (List (List RV))
 |.co _ _ _,_,_=>none
 |sp,Z,rows=>if decide (rows.length<=1099511627776)&&(rows.all sp.ok&&(Z||pi sp.lt rows)) then some (be sp.lt rows) else none
def aF(rows:List (List RV))(a b:Nat):List (List RV):=(rows.drop a).take (b-a)
def rY(lt:List RV->List RV->Bool):List (List RV)->Bool
 |[]=>true
 |x::r=>r.all (λy=> !lt y x)&&rY lt r
def jM(k:Nat)(o:aJ)(as:List Int)(rows:List (List RV)):Option (List (List RV)):=match k,as with
 |0,[a,b,n]=>if decide (0<=a)&&decide (0<=n)&&decide (a+n<=b)&&decide (b+n<=rows.length) then some (rows.take a.toNat++(aF rows b.toNat (b+n).toNat++(aF rows (a+n).toNat b.toNat++(aF rows a.toNat (a+n).toNat++rows.drop (b+n).toNat)))) else none
 |1,[a,m,b]=>if decide (0<=a)&&decide (a<m)&&decide (m<b)&&decide (b<=rows.length) then some (rows.take a.toNat++(aF rows m.toNat b.toNat++(aF rows a.toNat m.toNat++rows.drop b.toNat))) else none
 |2,[a,b]=>if decide (0<=a)&&decide (a<=b)&&decide (b<=rows.length)&&rows.all o.ok then some (rows.take a.toNat++(be o.lt (aF rows a.toNat b.toNat)++rows.drop b.toNat)) else none
 |n+3,[a,m,b]=>if decide (0<=a)&&decide (a<m)&&decide (m<b)&&decide (b<=rows.length)&&decide (b-a<n)&&rows.all o.ok&&rY o.lt (aF rows a.toNat m.toNat)&&rY o.lt (aF rows m.toNat b.toNat) then some (rows.take a.toNat++(be o.lt (aF rows a.toNat b.toNat)++rows.drop b.toNat)) else none
 |_,_=>none
def ad(β:List Nat)(i:Nat):Nat:=β.getD i 0
def kz(v:Value)(n:Nat):Addr:=match v with
 |.slice (some a) _ _=>⟨a.block,a.off+n,none⟩
 |_=>⟨0,n,none⟩
mutual
def SV.den(ρ:aa)(β:List Nat):SV->Value
 |.int k e=>.int k (e.den ρ)
 |.bool b=>.bool (b.den ρ)
 |.ref r=>r.den ρ
 |.loc i off=>.pointer (some ⟨ad β i,off,none⟩)
 |.el r w i off=>.pointer (some (kz (r.den ρ) ((i.den ρ).toNat*w+off)))
 |.fo i off Z cap=>.slice (some ⟨ad β i,off,none⟩) Z cap
 |.agg l=>.agg (SV.ap ρ β l).toArray
 |.bj l=>.tuple (SV.ap ρ β l).toArray
 |.fn f l=>.func (.func f) #[] (SV.ap ρ β l).toArray
 |.dH t x=>.iface t (SV.den ρ β x)
 |.yl n=>.func (.yield (ρ.y.getD n 0)) #[] #[]
 |.any=>undef
 |.mp i=>.map (some (ad β i))
 |.dI e ks vs=>gO (e.den ρ) ks (SV.ap ρ β vs)
def SV.ap(ρ:aa)(β:List Nat):List SV->List Value
 |[]=>[]
 |x::xs=>SV.den ρ β x::SV.ap ρ β xs
end
def lF(ρ:aa)(β:List Nat):∀l,SV.ap ρ β l=l.map (SV.den ρ β)
 |[]=>rfl
 |x::xs=>by rw[SV.ap,lF ρ β xs];rfl
@[simp] def Cs (ρ:aa) (β:List Nat) (l:List SV):(SV.ap ρ β l).length=l.length:=by rw[lF];simp
def ou(ρ:aa)(β:List Nat)(l:List SV)(i:Nat):(SV.ap ρ β l)[i]?=(l[i]?).map (SV.den ρ β):=by rw[lF];simp
def MJ(ρ:aa)(β:List Nat)(l m:List SV):SV.ap ρ β (l++m)=SV.ap ρ β l++SV.ap ρ β m:=by simp[lF]
inductive aT(W:World)(ty:Ty):RK->RV->Prop where
 |sl (e:TypeId) (A:Option Addr) (len cap:Nat) (rows:List (List RV)) (h1:rows.length=len) (h2:len<=cap)
   (h3:∀(i:Nat)(row:List RV),rows[i]?=some row->row.length=(aW ty (.sl e)).length/\∃b off,A=some ⟨b,off,none⟩/\(∃cs t fr,W.heap[b]?=some (.cells cs t fr))/\
    ∀(j:Nat)(c:RV),row[j]?=some c->W.cell? ⟨b,off+i*(aW ty (.sl e)).length+j,none⟩=some c.val)
   (hi:∀(i j:Nat)(row:List RV)(c:RV)(k:IntKind),rows[i]?=some row->row[j]?=some c->(aW ty (.sl e))[j]?=some (.int k)->∃n,c.val=.int k n)
   (hb:∀(i j:Nat)(row:List RV)(c:RV),rows[i]?=some row->row[j]?=some c->(aW ty (.sl e))[j]?=some .bool->∃x,c.val=.bool x)
   (ho:∀(i j:Nat)(row:List RV)(c:RV)(z:Value)(k:RK),rows[i]?=some row->row[j]?=some c->(aW ty (.sl e))[j]?=some (.ar z k)->aT W ty k c):
   aT W ty (.sl e) (.mk (.slice A len cap) rows)
 |str (s:ByteArray):aT W ty .str (.mk (.string s) [])
 |ar (v:Value) (h:fw v=true):aT W ty .ar (.mk v [])
 |own (e:TypeId) (rv:RV) (h:aT W ty (.sl e) rv) (hn:∀l c,rv.val=.slice none l c->c=0):aT W ty (.own e) rv
 |dead (rv:RV) (h:fw rv.val=true):aT W ty .dead rv
 |mr (sh:Sh) (rows:List (List RV)) (h1:∀(i:Nat)(row:List RV),rows[i]?=some row->row.length=(aW ty (.mr sh)).length)
   (hi:∀(i j:Nat)(row:List RV)(c:RV)(k:IntKind),rows[i]?=some row->row[j]?=some c->(aW ty (.mr sh))[j]?=some (.int k)->∃n,c=.mk (.int k n) [])
   (hb:∀(i j:Nat)(row:List RV)(c:RV),rows[i]?=some row->row[j]?=some c->(aW ty (.mr sh))[j]?=some .bool->∃x,c=.mk (.bool x) [])
   (ho:∀(i j:Nat)(row:List RV)(c:RV)(z:Value)(k:RK),rows[i]?=some row->row[j]?=some c->(aW ty (.mr sh))[j]?≠some (.ar z k)):
   aT W ty (.mr sh) (.mk (.slice none rows.length rows.length) rows)
inductive cn(ty:Ty):RK->RV->Nat->Prop where
 |here (e:TypeId) (a:Addr) (len cap:Nat) (rows:List (List RV)):cn ty (.sl e) (.mk (.slice (some a) (len+1) cap) rows) a.block
 |deep (e:TypeId) (v:Value) (rows:List (List RV)) (i j:Nat) (row:List RV) (c:RV) (z:Value) (k:RK) (b:Nat):rows[i]?=some row->row[j]?=some c->(aW ty (.sl e))[j]?=some (.ar z k)->cn ty k c b->cn ty (.sl e) (.mk v rows) b
 |own (e:TypeId) (rv:RV) (b:Nat):cn ty (.sl e) rv b->cn ty (.own e) rv b
def RV.iC(rv:RV):Option Nat:=match rv.val with
 |.slice (some a) _ (_+1)=>some a.block
 |_=>none
def tV(ty:Ty)(e:RK)(rv:RV)(b:Nat):Prop:=cn ty e rv b\/(∃t,e=.own t)/\rv.iC=some b
def j5(ty:Ty)(e:TypeId)(rows:List (List RV))(b:Nat):Prop:=∃(i j:Nat)(row:List RV)(c:RV)(z:Value)(k:RK),rows[i]?=some row/\row[j]?=some c/\(aW ty (.sl e))[j]?=some (.ar z k)/\cn ty k c b
structure tW(S0:List Nat)(w0:World)(β:List Nat)(ρ:aa)(bx:aX)(ty:Ty)(rs:List RK)(W:World)(k:Nat)(e:TypeId)(rv:RV)(b:Nat):Prop where
 own:w0.heap.size<=b\/b∈S0
 mem:∃len cap cur,rv.val=.slice (some ⟨b,0,none⟩) len cap/\W.heap[b]?=some (.cells cur e (0,0))/\len<=cap/\cap<=maxLen/\cur.size=cap*(aW ty (.sl e)).length
 box:∀i,aA bx i=true->ad β i≠b
 alone:∀(k':Nat)(e':RK)(rv':RV),k'≠k->rs[k']?=some e'->ρ.r[k']?=some rv'->¬tV ty e' rv' b
 inner:¬j5 ty e rv.rows b
def SV.eE(ρ:aa)(β:List Nat)(v:SV):RV:=match v with
 |.ref r=>r.rv ρ
 |v=>.mk (v.den ρ β) []
def SV.b9(ρ:aa)(β:List Nat)(l:List SV):List RV:=l.map (SV.eE ρ β)
def dS:Nat->List (Value×Value)->List MapEntry
 |_,[]=>[]
 |n,x::r=>⟨x.1,x.2,n⟩::dS (n+1) r
def mf(l:List (Value×Value)):Obj:=.map (dS 0 l).toArray l.length
def xO:List Value->List (Value×Value)
 |k::v::r=>(k,v)::xO r
 |_=>[]
def mP(a:Bool)(l:List RV):Value:=if a then .agg (l.map RV.val).toArray else(l.headD default).val
def qm(n:Nat)(Z va:Bool)(row:List RV):Value×Value:=(mP Z (row.take n),mP va (row.drop n))
def abf:Value->Option Nat
 |.map a=>a
 |_=>none
def lG(row:List RV):Nat:=(ba (row.headD default).val).toNat
def jN(t:TypeId)(l:List RV):Obj:=
 if t=oX then mf (xO (l.map RV.val)) else
 if t=qc then(match l with
  |[rv,.mk (.int _ n) _,.mk (.bool Z) _,.mk (.bool va) _]=>mf (rv.rows.map (qm n.toNat Z va))
  |_=>mf []) else
 if t=rM then(match l with
  |[X,_,.mk (.int _ n) _,W]=>.mapIter (abf X.val) n.toNat (W.rows.map lG).toArray n.toNat
  |_=>mf []) else
 .cells (l.map RV.val).toArray t (0,0)
structure gP(S0:List Nat)(w0:World)(β:List Nat)(ρ:aa)(bx:aX)(ty:Ty)(rs:List RK)(W:World):Prop where
 base:bS S0 w0 W
 own:∀i,aA bx i=true->w0.heap.size<=ad β i\/ad β i∈S0
 inj:∀i j,aA bx i=true->aA bx j=true->ad β i=ad β j->i=j
 box:∀(i:Nat)(t:TypeId)(cs:List SV),bA bx i=some (t,cs)->W.heap[ad β i]?=some (jN t (SV.b9 ρ β cs))
 ref:∀(k:Nat)(e:RK)(rv:RV),rs[k]?=some e->ρ.r[k]?=some rv->aT W ty e rv/\∀b,cn ty e rv b->∀i,aA bx i=true->ad β i≠b
structure bw where
 out:List Nat
 cC:List (Nat×Loop)
 rd:Bool
 base:List Deferred
def bw.none:bw:=⟨[],[],false,[]⟩
def iS(r:Nat):Deferred:={target:=.collected r,args:= #[]}
def PX.code:PX->Code
 |.ret=>.ret
 |.exit id=>.exit id
def nu(r:Loop):kO->Loop
 |.ready=>{r with state:=.ready,pending:=none}
 |.busy=>{r with state:=.busy,pending:=none}
 |.done e=>{r with state:=.done,pending:=some e.code}
structure cF(w0:World)(D:bw)(pd:List kO)(y:List Nat)(dfr:List Deferred)(W:World):Prop where
 len:D.cC.length=pd.length
 ov:y.length=pd.length
 cC:∀(n l:Nat)(r:Loop)(st:kO),D.cC[n]?=some (l,r)->pd[n]?=some st->y[n]?=some l/\W.heap[l]?=some (.loop (nu r st))/\w0.heap.size<=l
 inj:∀(n n' l:Nat)(r r':Loop),D.cC[n]?=some (l,r)->D.cC[n']?=some (l,r')->n=n'
 j6:∃ms:List Nat,dfr=ms.map iS++D.base/\(D.rd=true->ms=[])/\(ms++D.out).Nodup/\∀d∈ms++D.out,W.heap[d]?=some (.deferred (some []))/\w0.heap.size<=d
structure ao(S0:List Nat)(w0:World)(D:bw)(ty:Ty)(β:List Nat)(ρ:aa)(s:S)(a:Act)(W:World):Prop where
 mem:gP S0 w0 β ρ s.boxes ty s.rs W
 dX:β.length=s.boxes.length
 ei:ρ.i.length=s.ni
 eb:ρ.b.length=s.nb
 er:ρ.r.length=s.rs.length
 bT:cF w0 D s.pd ρ.y a.defers W
 size:a.tmps.size=s.tmps.length
 tmps:∀(t:Nat)(sv:SV),s.tmps[t]?=some sv->sv=.any\/a.tmps[t]?=some (sv.den ρ β)
 cO:∀(k:Nat)(e:TypeId)(rv:RV)(b:Nat),s.rs[k]?=some (.own e)->ρ.r[k]?=some rv->rv.iC=some b->tW S0 w0 β ρ s.boxes ty s.rs W k e rv b
def aa.mg(ty:Ty)(ρ:aa)(rs:List RK)(b:Nat):Prop:=∃(k:Nat)(e:RK),rs[k]?=some e/\cn ty e (ρ.rv k) b
inductive XV where
 |i (n:Int)
 |b (x:Bool)
 |r (v:RV)
def aa.add(ρ:aa):XV->aa
 |.i n=>{ρ with i:=ρ.i++[n]}
 |.b x=>{ρ with b:=ρ.b++[x]}
 |.r v=>{ρ with r:=ρ.r++[v]}
def aa.ext(ρ:aa):List XV->aa
 |[]=>ρ
 |x::xs=>(ρ.add x).ext xs
def SV.xv(ρ:aa):SV->XV
 |.int _ e=>.i (e.den ρ)
 |.bool b=>.b (b.den ρ)
 |.ref r=>.r (r.rv ρ)
 |_=>.i 0
def nx:LK->XV->Prop
 |.int _,.i _=>True
 |.bool,.b _=>True
 |.ref _,.r _=>True
 |_,_=>False
def cR:List LK->List XV->Prop
 |[],[]=>True
 |k::ks,x::xs=>nx k x/\cR ks xs
 |_,_=>False
def alP(ty:Ty)(W:World)(B:Nat)(old:Nat->Prop):LK->XV->Prop
 |.ref e,.r rv=>aT W ty e rv/\∀b,cn ty e rv b->B<=b\/old b
 |_,_=>True
def EV(ty:Ty)(W:World)(B:Nat)(old:Nat->Prop):List LK->List XV->Prop
 |k::ks,x::xs=>alP ty W B old k x/\EV ty W B old ks xs
 |_,_=>True
structure Ct(ty:Ty)(S0:List Nat)(w0:World)(e:TypeId)(x:LE)(rs:List RK)(ρ:aa)(rv:RV):Prop where
 val:∃A n c,rv=.mk (.slice A n c) (x.rows ρ)/\(x.rows ρ).length=n
 mg:∀b,cn ty (.sl e) rv b->w0.heap.size<=b\/b∈S0\/ρ.mg ty rs b
 Ti:∀(k:Nat)(i:IE)(off:Nat)(cs:List SV),x=.set (.ref (.v k)) i off cs->rv.val=(ρ.rv k).val
structure LC where
 al:Nat
 I:List XV->Prop
 μ:List XV->Nat
 m:Nat
def kQ(al:Nat):List LC->Option LC
 |[]=>none
 |x::xs=>if x.al=al then some x else kQ al xs
def XE.to(ρ:aa)(β:List Nat):XE->Exit
 |.normal=>.normal
 |.ret=>.ret
 |.exit id=>.exit id
 |.aS v=>.panic [{v:=v.den ρ β,recovered:=false}]
structure Sp where
 P:Program
 ty:Ty
 S0:List Nat
 w0:World
 D:bw
 R:Ending->World->Prop
 Q:Exit->Act->World->Prop
def lH(k:Nat)(o:aJ)(as:List Int)(rows:List (List RV)):Option (List (List RV)):=if rows.length<=1099511627776 then jM k o as rows else none
def kR(ρ:aa):aJ->Bool->List (List RV)->Option (List (List RV))
 |.co k o as,_,rows=>lH k o (as.map (IE.den ρ)) rows
 |sp,Z,rows=>dw sp Z rows
def alQ{ρ:aa}{sp:aJ}{Z:Bool}{rows r:List (List RV)}(h:dw sp Z rows=some r):kR ρ sp Z rows=some r:=by
 cases sp with
 |co k o as=>simp[dw] at h
 |lex cs d=>exact h
 |ratio n d=>exact h
def T.aD(p:Sp):T->aa->List LC->Prop
 |.out e s,ρ,_=>∀y β a W,ao p.S0 p.w0 p.D p.ty β (ρ.at y) s a W->p.Q (e.to (ρ.at y) β) a W
 |.ret v bx rs,ρ,_=>∀y β W,gP p.S0 p.w0 β (ρ.at y) bx p.ty rs W->p.R (.returned (v.den (ρ.at y) β)) W
 |.aS v,ρ,_=>∀y β W,bS p.S0 p.w0 W->p.R (.panicked [{v:=v.den (ρ.at y) β,recovered:=false}]) W
 |.node b t f,ρ,L=>(b.den ρ=true->t.aD p ρ L)/\(b.den ρ=false->f.aD p ρ L)
 |.az b t,ρ,L=>b.den ρ=true/\t.aD p ρ L
 |.call f args bx rs ks fp t,ρ,L=>∀y β W,gP p.S0 p.w0 β (ρ.at y) bx p.ty rs W->Calls p.P f (SV.ap (ρ.at y) β args).toArray W λ
   |.returned v,W'=>∃xs,cR ks xs/\v=fp.den ((ρ.ext xs).at y) β/\Below W.heap.size W W'/\EV p.ty W' W.heap.size (ρ.mg p.ty rs) ks xs/\t.aD p (ρ.ext xs) L
   |.panicked X,W'=>Below W.heap.size W W'/\p.R (.panicked X) W'
   |.outgrown,_=>False
 |.loop al ks V t,ρ,L=>∃I Z,I (V.map (SV.xv ρ))/\∀xs,cR ks xs->I xs->t.aD p (ρ.ext xs) (⟨al,I,Z,Z xs⟩::L)
 |.back al x,ρ,L=>match kQ al L with
   |some c=>c.I (x.map (SV.xv ρ))/\c.μ (x.map (SV.xv ρ))<c.m
   |none=>False
 |.new e x rs _ t,ρ,L=>∀rv,Ct p.ty p.S0 p.w0 e x rs ρ rv->t.aD p (ρ.add (.r rv)) L
 |.rows _ x _ t,ρ,L=>t.aD p (ρ.add (.r (fb x ρ))) L
 |.eC g h t f,ρ,L=>(g.den ρ=true->t.aD p ρ L)/\(h.den ρ=true->f.aD p ρ L)
 |.pick n g h t f,ρ,L=>(∀j:Int,0<=j->j<n.den ρ->g.den (ρ.add (.i j))=true->t.aD p (ρ.add (.i j)) L)/\(h.den ρ=true->f.aD p ρ L)
 |.dl _ _ _ sp U r _ t,ρ,L=>∃rows,kR ρ sp U (r.rv ρ).rows=some rows/\t.aD p (ρ.add (.r (.mk (r.rv ρ).val rows))) L
 |.stuck _,_,_=>False
def abg:∀(a b:Value),B5 a b=true->a=b:=by
 intro a b h;unfold B5 at h;split at h;rename_i a b;have Z:a.data.toList=b.data.toList:=by simpa using h
 have X:a.data=b.data:=by simpa using Z
 cases a;cases b;simp_all;simp at h;rw[h.1,h.2]
 all_goals first|rfl|cases h
mutual
def IE.bl:∀(a b:IE),IE.same a b=true->a=b
 |.c a,b,h=>by cases b<;>simp[IE.ey] at h;rw[h]
 |.v a,b,h=>by cases b<;>simp[IE.ey] at h;rw[h]
 |.bin o k a b,x,h=>by
  cases x<;>simp[IE.ey,vD] at h;obtain⟨⟨⟨rfl,rfl⟩,Z⟩,X⟩:=h;rw[IE.bl _ _ Z,IE.bl _ _ X]
 |.conv k a,x,h=>by
  cases x<;>simp[IE.ey] at h;obtain⟨rfl,Z⟩:=h;rw[IE.bl _ _ Z]
 |.len r,x,h=>by
  cases x<;>simp[IE.ey] at h;rw[RE.bl _ _ h]
 |.mm m a b,x,h=>by
  cases x<;>simp[IE.ey] at h;obtain⟨⟨rfl,Z⟩,X⟩:=h;rw[IE.bl _ _ Z,IE.bl _ _ X]
 |.bY b a c,x,h=>by
  cases x<;>simp[IE.ey] at h;obtain⟨⟨W,Z⟩,X⟩:=h;rw[BE.bl _ _ W,IE.bl _ _ Z,IE.bl _ _ X]
 |.cell r i j,x,h=>by
  cases x<;>simp[IE.ey] at h;obtain⟨⟨W,Z⟩,rfl⟩:=h;rw[RE.bl _ _ W,IE.bl _ _ Z]
 |.ku r i,x,h=>by
  cases x<;>simp[IE.ey] at h;obtain⟨W,Z⟩:=h;rw[RE.bl _ _ W,IE.bl _ _ Z]
 |.look r n a b c j,x,h=>by
  cases x<;>simp[IE.ey] at h;obtain⟨⟨⟨⟨⟨W,rfl⟩,Z⟩,X⟩,V⟩,rfl⟩:=h;rw[RE.bl _ _ W,IE.bl _ _ Z,IE.bl _ _ X,IE.bl _ _ V]
def BE.bl:∀(a b:BE),BE.same a b=true->a=b
 |.c a,b,h=>by cases b<;>simp[BE.ey] at h;rw[h]
 |.v a,b,h=>by cases b<;>simp[BE.ey] at h;rw[h]
 |.cmp o a b,x,h=>by
  cases x<;>simp[BE.ey,vD] at h;obtain⟨⟨rfl,Z⟩,X⟩:=h;rw[IE.bl _ _ Z,IE.bl _ _ X]
 |.not a,x,h=>by
  cases x<;>simp[BE.ey] at h;rw[BE.bl _ _ h]
 |.and a b,x,h=>by
  cases x<;>simp[BE.ey] at h;rw[BE.bl _ _ h.1,BE.bl _ _ h.2]
 |.beq a b,x,h=>by
  cases x<;>simp[BE.ey] at h;rw[BE.bl _ _ h.1,BE.bl _ _ h.2]
 |.bY b a c,x,h=>by
  cases x<;>simp[BE.ey] at h;obtain⟨⟨W,Z⟩,X⟩:=h;rw[BE.bl _ _ W,BE.bl _ _ Z,BE.bl _ _ X]
 |.cell r i j,x,h=>by
  cases x<;>simp[BE.ey] at h;obtain⟨⟨W,Z⟩,rfl⟩:=h;rw[RE.bl _ _ W,IE.bl _ _ Z]
 |.seq a b,x,h=>by
  cases x<;>simp[BE.ey] at h;rw[RE.bl _ _ h.1,RE.bl _ _ h.2]
 |.look r n a b c j,x,h=>by
  cases x<;>simp[BE.ey] at h;obtain⟨⟨⟨⟨⟨W,rfl⟩,Z⟩,X⟩,V⟩,rfl⟩:=h;rw[RE.bl _ _ W,IE.bl _ _ Z,IE.bl _ _ X,IE.bl _ _ V]
 |.has r n a b c,x,h=>by
  cases x<;>simp[BE.ey] at h;obtain⟨⟨⟨⟨W,rfl⟩,Z⟩,X⟩,V⟩:=h;rw[RE.bl _ _ W,IE.bl _ _ Z,IE.bl _ _ X,IE.bl _ _ V]
def RE.bl:∀(a b:RE),RE.same a b=true->a=b
 |.v a,b,h=>by cases b<;>simp[RE.ey] at h;rw[h]
 |.cell r i j k,x,h=>by
  cases x<;>simp[RE.ey] at h;obtain⟨⟨⟨Z,X⟩,rfl⟩,rfl⟩:=h;rw[RE.bl _ _ Z,IE.bl _ _ X]
 |.k a,b,h=>by cases b<;>simp[RE.ey] at h;rw[abg _ _ h]
end
mutual
def SV.bl:∀(a b:SV),SV.same a b=true->a=b
 |.int k e,x,h=>by cases x<;>simp[SV.ey] at h;rw[h.1,IE.bl _ _ h.2]
 |.bool b,x,h=>by cases x<;>simp[SV.ey] at h;rw[BE.bl _ _ h]
 |.ref r,x,h=>by cases x<;>simp[SV.ey] at h;rw[RE.bl _ _ h]
 |.loc i o,x,h=>by cases x<;>simp[SV.ey] at h;rw[h.1,h.2]
 |.el r w i o,x,h=>by
  cases x<;>simp[SV.ey] at h;obtain⟨⟨⟨Z,rfl⟩,X⟩,rfl⟩:=h;rw[RE.bl _ _ Z,IE.bl _ _ X]
 |.fo a b c d,x,h=>by
  cases x<;>simp[SV.ey] at h;obtain⟨⟨⟨rfl,rfl⟩,rfl⟩,rfl⟩:=h;rfl
 |.agg l,x,h=>by cases x<;>simp[SV.ey] at h;rw[SV.ow _ _ h]
 |.bj l,x,h=>by cases x<;>simp[SV.ey] at h;rw[SV.ow _ _ h]
 |.fn f l,x,h=>by cases x<;>simp[SV.ey] at h;rw[h.1,SV.ow _ _ h.2]
 |.dH t y,x,h=>by cases x<;>simp[SV.ey] at h;rw[h.1,SV.bl _ _ h.2]
 |.yl n,x,h=>by cases x<;>simp[SV.ey] at h;rw[h]
 |.any,x,h=>by cases x<;>simp[SV.ey] at h;rfl
 |.mp i,x,h=>by cases x<;>simp[SV.ey] at h;rw[h]
 |.dI e ks vs,x,h=>by cases x<;>simp[SV.ey] at h;rw[IE.bl _ _ h.1.1,h.1.2,SV.ow _ _ h.2]
def SV.ow:∀(a b:List SV),SV.mL a b=true->a=b
 |[],b,h=>by cases b<;>simp[SV.aaY] at h;rfl
 |x::xs,b,h=>by cases b<;>simp[SV.aaY] at h;rw[SV.bl _ _ h.1,SV.ow _ _ h.2]
end
structure fj(ρ ρ':aa)(ni nb nr:Nat):Prop where
 i:∀k,k<ni->ρ'.i.getD k 0=ρ.i.getD k 0
 b:∀k,k<nb->ρ'.b.getD k false=ρ.b.getD k false
 r:∀k,k<nr->ρ'.rv k=ρ.rv k
 y:ρ'.y=ρ.y
mutual
def IE.cu{ρ ρ':aa}{ni nb X:Nat}(Z:fj ρ ρ' ni nb X):∀(e:IE),e.bd ni nb X=true->e.den ρ'=e.den ρ
 |.c n,_=>by simp[IE.den]
 |.v k,h=>by simp[IE.aG] at h;simp only[IE.den];exact Z.i k h
 |.bin o k a b,h=>by simp[IE.aG] at h;simp only[IE.den,IE.cu Z a h.1,IE.cu Z b h.2]
 |.conv k a,h=>by simp[IE.aG] at h;simp only[IE.den,IE.cu Z a h]
 |.len r,h=>by simp[IE.aG] at h;simp only[IE.den,RE.ny Z r h]
 |.mm m a b,h=>by simp[IE.aG] at h;simp only[IE.den,IE.cu Z a h.1,IE.cu Z b h.2]
 |.bY b x y,h=>by simp[IE.aG] at h;simp only[IE.den,BE.cu Z b h.1.1,IE.cu Z x h.1.2,IE.cu Z y h.2]
 |.cell r i j,h=>by simp[IE.aG] at h;simp only[IE.den,IE.cu Z i h.2,RE.ny Z r h.1]
 |.ku r i,h=>by simp[IE.aG] at h;simp only[IE.den,RE.ny Z r h.1,IE.cu Z i h.2]
 |.look r n a b c j,h=>by simp[IE.aG] at h;simp only[IE.den,RE.ny Z r h.1.1.1,IE.cu Z a h.1.1.2,IE.cu Z b h.1.2,IE.cu Z c h.2]
def BE.cu{ρ ρ':aa}{ni nb X:Nat}(Z:fj ρ ρ' ni nb X):∀(e:BE),e.bd ni nb X=true->e.den ρ'=e.den ρ
 |.c n,_=>by simp[BE.den]
 |.v k,h=>by simp[BE.aG] at h;simp only[BE.den];exact Z.b k h
 |.cmp o a b,h=>by simp[BE.aG] at h;simp only[BE.den,IE.cu Z a h.1,IE.cu Z b h.2]
 |.not a,h=>by simp[BE.aG] at h;simp only[BE.den,BE.cu Z a h]
 |.and a b,h=>by simp[BE.aG] at h;simp only[BE.den,BE.cu Z a h.1,BE.cu Z b h.2]
 |.beq a b,h=>by simp[BE.aG] at h;simp only[BE.den,BE.cu Z a h.1,BE.cu Z b h.2]
 |.bY b x y,h=>by simp[BE.aG] at h;simp only[BE.den,BE.cu Z b h.1.1,BE.cu Z x h.1.2,BE.cu Z y h.2]
 |.cell r i j,h=>by simp[BE.aG] at h;simp only[BE.den,IE.cu Z i h.2,RE.ny Z r h.1]
 |.seq a b,h=>by simp[BE.aG] at h;simp only[BE.den,RE.ny Z a h.1,RE.ny Z b h.2]
 |.look r n a b c j,h=>by simp[BE.aG] at h;simp only[BE.den,RE.ny Z r h.1.1.1,IE.cu Z a h.1.1.2,IE.cu Z b h.1.2,IE.cu Z c h.2]
 |.has r n a b c,h=>by simp[BE.aG] at h;simp only[BE.den,RE.ny Z r h.1.1.1,IE.cu Z a h.1.1.2,IE.cu Z b h.1.2,IE.cu Z c h.2]
def RE.ny{ρ ρ':aa}{ni nb X:Nat}(Z:fj ρ ρ' ni nb X):∀(e:RE),e.bd ni nb X=true->e.rv ρ'=e.rv ρ
 |.v k,h=>by simp[RE.aG] at h;simp only[RE.rv,Z.r k h]
 |.cell r i j k,h=>by simp[RE.aG] at h;simp only[RE.rv,IE.cu Z i h.2,RE.ny Z r h.1]
 |.k v,_=>by simp[RE.rv]
end
def RE.cu{ρ ρ':aa}{ni nb Z:Nat}(X:fj ρ ρ' ni nb Z)(e:RE)(h:e.bd ni nb Z=true):e.den ρ'=e.den ρ:=by simp only[RE.den,RE.ny X e h]
mutual
def SV.cu{ρ ρ':aa}{β W:List Nat}{ni nb V:Nat}{pr:Nat->Bool}(Z:fj ρ ρ' ni nb V)(X:∀k,pr k=true->ad W k=ad β k):∀(v:SV),v.bd ni nb V pr=true->v.den ρ' W=v.den ρ β
 |.int k e,h=>by simp[SV.aG] at h;simp only[SV.den,IE.cu Z e h]
 |.bool e,h=>by simp[SV.aG] at h;simp only[SV.den,BE.cu Z e h]
 |.ref e,h=>by simp[SV.aG] at h;simp only[SV.den,RE.cu Z e h]
 |.loc i o,h=>by simp[SV.aG] at h;simp only[SV.den,X i h]
 |.el r w i o,h=>by simp[SV.aG] at h;simp only[SV.den,RE.cu Z r h.1,IE.cu Z i h.2]
 |.fo i o l c,h=>by simp[SV.aG] at h;simp only[SV.den,X i h]
 |.agg l,h=>by simp[SV.aG] at h;simp only[SV.den,SV.EW Z X l h]
 |.bj l,h=>by simp[SV.aG] at h;simp only[SV.den,SV.EW Z X l h]
 |.fn f l,h=>by simp[SV.aG] at h;simp only[SV.den,SV.EW Z X l h]
 |.dH t x,h=>by simp[SV.aG] at h;simp only[SV.den,SV.cu Z X x h]
 |.yl n,_=>by simp only[SV.den,Z.y]
 |.any,_=>by simp[SV.den]
 |.mp i,h=>by simp[SV.aG] at h;simp only[SV.den,X i h]
 |.dI e ks vs,h=>by simp[SV.aG] at h;simp only[SV.den,IE.cu Z e h.1,SV.EW Z X vs h.2]
def SV.EW{ρ ρ':aa}{β Z:List Nat}{ni nb X:Nat}{pr:Nat->Bool}(W:fj ρ ρ' ni nb X)(V:∀k,pr k=true->ad Z k=ad β k):∀(l:List SV),SV.ck ni nb X pr l=true->SV.ap ρ' Z l=SV.ap ρ β l
 |[],_=>rfl
 |x::xs,h=>by simp[SV.eY] at h;simp only[SV.ap,SV.cu W V x h.1,SV.EW W V xs h.2]
end
def qn{ni nb X:Nat}{pr:Nat->Bool}:∀{l:List SV}{i:Nat}{v:SV},SV.ck ni nb X pr l=true->l[i]?=some v->v.bd ni nb X pr=true
 |[],i,v,_,h=>by simp at h
 |x::xs,0,v,Z,h=>by simp[SV.eY] at Z;simp at h;exact h▸Z.1
 |x::xs,i+1,v,Z,h=>by simp[SV.eY] at Z;simp at h;exact qn Z.2 h
def gw{l:aX}{i:Nat}{b:TypeId×List SV}:bA l i=some b<->l[i]?=some (some b):=by
 simp only[bP];cases h:l[i]? with
 |none=>simp
 |some x=>cases x<;>simp
def oz{ni nb X:Nat}{pr:Nat->Bool}:∀{l:aX}{i:Nat}{v:TypeId×List SV},SV.mM ni nb X pr l=true->bA l i=some v->SV.ck ni nb X pr v.2=true
 |[],i,v,_,h=>by simp[bP] at h
 |some x::xs,0,v,Z,h=>by simp[SV.mM] at Z;simp[bP] at h;exact h▸Z.1
 |none::xs,0,v,Z,h=>by simp[bP] at h
 |some x::xs,i+1,v,Z,h=>by simp[SV.mM] at Z;exact oz Z.2 (by simpa[bP] using h)
 |none::xs,i+1,v,Z,h=>by simp[SV.mM] at Z;exact oz Z (by simpa[bP] using h)
def fj.refl(ρ:aa)(ni nb Z:Nat):fj ρ ρ ni nb Z:=⟨λ_ _=>rfl,λ_ _=>rfl,λ_ _=>rfl,rfl⟩
def fj.trans{a b c:aa}{ni nb X:Nat}(h:fj a b ni nb X)(k:fj b c ni nb X):fj a c ni nb X:=
 ⟨λj Z=>(k.i j Z).trans (h.i j Z),λj Z=>(k.b j Z).trans (h.b j Z),λj Z=>(k.r j Z).trans (h.r j Z),k.y.trans h.y⟩
def fj.mono{a b:aa}{ni nb Z X W V:Nat}(h:fj a b ni nb Z)(R:X<=ni)(Q:W<=nb)(P:V<=Z):fj a b X W V:=
 ⟨λj U=>h.i j (by omega),λj U=>h.b j (by omega),λj U=>h.r j (by omega),h.y⟩
def MK(ρ:aa)(x:XV):fj ρ (ρ.add x) ρ.i.length ρ.b.length ρ.r.length:=by
 cases x<;>refine⟨λk Z=> ?_,λk Z=> ?_,λk Z=> ?_,rfl⟩<;>simp[aa.add,aa.rv,awI,Z]
def zV:∀(xs:List XV)(ρ:aa),fj ρ (ρ.ext xs) ρ.i.length ρ.b.length ρ.r.length
 |[],ρ=>fj.refl _ _ _ _
 |x::xs,ρ=>by
  have Z:=MK ρ x;have X:=zV xs (ρ.add x);exact Z.trans (X.mono (by cases x<;>simp[aa.add]) (by cases x<;>simp[aa.add]) (by cases x<;>simp[aa.add]))
mutual
def ML{ρ:aa}{β Z:List Nat}(h:ad Z=ad β):∀(v:SV),v.den ρ Z=v.den ρ β
 |.int k e=>by simp only[SV.den]
 |.bool e=>by simp only[SV.den]
 |.ref e=>by simp only[SV.den]
 |.loc i o=>by simp only[SV.den,h]
 |.el r w i o=>by simp only[SV.den]
 |.fo i o l c=>by simp only[SV.den,h]
 |.agg l=>by simp only[SV.den,I3 h l]
 |.bj l=>by simp only[SV.den,I3 h l]
 |.fn f l=>by simp only[SV.den,I3 h l]
 |.dH t x=>by simp only[SV.den,ML h x]
 |.yl n=>by simp only[SV.den]
 |.any=>by simp only[SV.den]
 |.mp i=>by simp only[SV.den,h]
 |.dI e ks vs=>by simp only[SV.den,I3 h vs]
def I3{ρ:aa}{β Z:List Nat}(h:ad Z=ad β):∀(l:List SV),SV.ap ρ Z l=SV.ap ρ β l
 |[]=>rfl
 |x::xs=>by simp only[SV.ap,ML h x,I3 h xs]
end
def alR(ρ:aa)(β:List Nat)(v:SV):(v.eE ρ β).val=v.den ρ β:=by
 cases v<;>simp[SV.eE,SV.den,RE.den]
def abh(ρ:aa)(β:List Nat)(l:List SV):(SV.b9 ρ β l).map RV.val=SV.ap ρ β l:=by
 rw[lF,SV.b9,axu];exact aw5 λv _=>alR ρ β v
def qo{t:TypeId}(h:oa t=false)(ρ:aa)(β:List Nat)(l:List SV):jN t (SV.b9 ρ β l)=.cells (SV.ap ρ β l).toArray t (0,0):=by
 have Z:=of_decide_eq_false h;unfold jN;rw[if_neg (λe=>Z (by rw[e];exact awN _)),if_neg (λe=>Z (by rw[e];decide)),if_neg (λe=>Z (by rw[e];decide)),abh]
def tX{l:aX}{i:Nat}{t:TypeId}{cs:List SV}(h:iP l i=some (t,cs)):bA l i=some (t,cs)/\oa t=false:=by
 unfold iP at h;split at h;rename_i W cs' Z;split at h;cases h;rename_i X;cases h;exact⟨Z,by simpa using X⟩;cases h
def I4{l Z:aX}{i j:Nat}(h:bA Z j=bA l i):iP Z j=iP l i:=by simp[iP,h]
def Tj{ρ ρ':aa}{β Z:List Nat}{ni nb X:Nat}{pr:Nat->Bool}(W:fj ρ ρ' ni nb X)(V:∀k,pr k=true->ad Z k=ad β k)(v:SV)(h:v.bd ni nb X pr=true):v.eE ρ' Z=v.eE ρ β:=by
 have U:=SV.cu W V v h;cases v<;>simp only[SV.eE]<;>try rw[U]
 simp only[SV.aG] at h;exact RE.ny W _ h
def I5{ρ ρ':aa}{β Z:List Nat}{ni nb X:Nat}{pr:Nat->Bool}(W:fj ρ ρ' ni nb X)(V:∀k,pr k=true->ad Z k=ad β k):∀(l:List SV),SV.ck ni nb X pr l=true->SV.b9 ρ' Z l=SV.b9 ρ β l
 |[],_=>rfl
 |x::xs,h=>by
  simp only[SV.eY,awF] at h;have:=I5 W V xs h.2;simp only[SV.b9,awT] at this⊢;rw[Tj W V x h.1,this]
def abi{ρ:aa}{β Z:List Nat}(h:ad Z=ad β)(l:List SV):SV.b9 ρ Z l=SV.b9 ρ β l:=by
 refine aw5 λv _=> ?_
 have X:=ML (ρ:=ρ) h v;cases v<;>simp only[SV.eE]<;>rw[X]
def Tk(x:Int):∀(ks:List Int)(vs:List Value),fw (gO x ks vs)=true
 |[],_=>by simp[gO,fw]
 |_::_,[]=>by simp[gO,fw]
 |k::ks,v::vs=>by
  simp only[gO];split;split;rename_i h;exact h;rfl;exact Tk x ks vs
def alS{v:Value}(h:fw v=true):v.cells.toList=[v]:=by
 cases v<;>simp[fw] at h<;>rfl
section
def mQ(c:CT):Value:=match c with
 |.int k=>.int k 0
 |.bool=>.bool false
 |.ar z _=>z
def TD.Ok(P:Program)(t:TypeId)(ab:List CT):TD->Prop
 |.struct Z=>∃F:Array Field,P.underlying t=some (.struct F)/\F.toList.map (λf=>(f.offset,f.type))=Z
 |.arr n e=>P.underlying t=some (.array n e)
 |.slice e=>P.underlying t=some (.slice e)
 |.str=>P.underlying t=some .string
 |.one=>∃d,P.underlying t=some d/\((match d with|.struct _|.array _ _|.slice _|.string|.interface _=>False|_=>True)/\∀k,ab=[.ar .nilFunc k]->∃a b c,d=.func a b c)/\(∀k,ab=[.int k]->d=.int k)/\(ab=[.bool]->d=.bool)
 |.dH=>∃m,P.underlying t=some (.interface m)
 |.map k e _ _=>P.underlying t=some (.map k e)
def xP:Value->Value->Option Bool
 |.int k a,.int Z b=>if k=Z then some (a==b) else none
 |.bool a,.bool b=>some (a==b)
 |.string a,.string b=>some (a.toList==b.toList)
 |_,_=>none
def xQ:CT->Value->Prop
 |.int k,.int Z _=>k=Z
 |.bool,.bool _=>True
 |.ar _ .str,.string _=>True
 |_,_=>False
def gW:List CT->List Value->Prop
 |[],[]=>True
 |c::cs,v::vs=>xQ c v/\gW cs vs
 |_,_=>False
def gz:List Value->List Value->Option Bool
 |[],[]=>some true
 |x::xs,y::ys=>match xP x y,gz xs ys with
  |some a,some b=>some (a&&b)
  |_,_=>none
 |_,_=>none
def ee(ag:Bool)(l:List Int):Value:=if ag then .agg (l.map (Value.int .i64)).toArray else .int .i64 (l.headD 0)
def rZ:Value->List Int
 |.int _ x=>[x]
 |.agg cs=>cs.toList.map ba
 |_=>[]
def kA(l:List Int):List MapEntry->Nat->Option (Nat×Value)
 |[],_=>none
 |e::es,i=>if rZ e.key=l then some (i,e.val) else kA l es (i+1)
def pj(P:Program)(k:TypeId)(n:Nat)(ag:Bool):Prop:=(ag=false->n=1)/\∀(l:List Int)(es:List MapEntry)(W:World),l.length=n->(∀e∈es,∃Z:List Int,Z.length=n/\e.key=ee ag Z)->
 (∀b,(Instr.checkKey b 10000 k (ee ag l)).run P W=.ok () W)/\(Instr.findKey k (ee ag l) es).run P W=.ok (kA l es 0) W
def MM:Value->Bool
 |.agg _=>true
 |_=>false
structure cS(P:Program)(t:TypeId)(ti:TI):Prop where
 EX:∃i,P.info? t=some i/\i.size=ti.ab.length/\∃z,i.zero=some z/\z.cells.toList=ti.ab.map mQ
 desc:ti.d.Ok P t ti.ab
 bytes:∀i,P.info? t=some i->i.bytes<=131072
 eq:ti.eq=true->∀(xs ys:List Value)(r:Bool)(x y:Operand)(w:World),gW ti.ab xs->gW ti.ab ys->gz xs ys=some r->
  (do eqGuard .eql t x y (.agg xs.toArray) (.agg ys.toArray);binOp .eql t (.agg xs.toArray) (.agg ys.toArray)).run P w=.ok (.bool r) w/\
  (do eqGuard .neq t x y (.agg xs.toArray) (.agg ys.toArray);binOp .neq t (.agg xs.toArray) (.agg ys.toArray)).run P w=.ok (.bool !r) w
 key:∀k e n ag,ti.d=.map k e n ag->pj P k n ag
 abj:∀i z,P.info? t=some i->i.zero=some z->MM z=ti.d.isAgg
def fA(P:Program)(ty:Ty):Prop:=∀t Z,ty t=some Z->cS P t Z
def dA(gl:List (Nat×Nat×Nat))(ρ:aa):Prop:=∀x∈gl,x.2.1<ρ.r.length/\∃Z cap,(ρ.rv x.2.1).val=.slice (some ⟨x.1,0,none⟩) Z cap
section
variable{P:Program}{ty:Ty}{gl:List (Nat×Nat×Nat)}{W:World}
def cS.eF{t:TypeId}{d:TypeDesc}(h:P.underlying t=some d):(underlying t).run P W=.ok d W:=by simp[underlying,h]
def cS.j7{t:TypeId}{Z:TI}(h:cS P t Z):(Go.sizeOf t).run P W=.ok Z.ab.length W:=by
 obtain⟨i,X,V,_⟩:=h.EX;simp[Go.sizeOf,typeInfo,X,V]
def cS.abk{t:TypeId}{X:TI}(h:cS P t X):(isAgg t).run P W=.ok X.d.isAgg W:=by
 have V:=h.desc;revert V;cases X.d<;>simp only[TD.Ok,TD.isAgg];rintro⟨d,Z,⟨U,-⟩,-,-⟩;cases d<;>simp[isAgg,underlying,Z]<;>simp at U;rintro⟨m,Z⟩;simp[isAgg,underlying,Z];intro Z;simp[isAgg,underlying,Z];intro Z;simp[isAgg,underlying,Z];intro Z;simp[isAgg,underlying,Z];rintro⟨F,Z,-⟩;simp[isAgg,underlying,Z];intro Z;simp[isAgg,underlying,Z]
def sa(b off n:Nat):(⟨b,off,none⟩:Addr).add n=⟨b,off+n,none⟩:=by
 unfold Addr.add;split;rename_i h;subst h;rfl;rfl
def Tl{t:TypeId}{X:TI}(h:cS P t X){ρ:aa}{β:List Nat}{l:List SV}{off:Nat}{v:SV}(Z:rO X l off=some v):
  (part t (SV.ap ρ β l).toArray off).run P W=.ok (v.den ρ β) W:=by
 unfold rO at Z;simp only[part,Sem.run_bind,h.abk,Result.andThen_ok];by_cases V:X.d.isAgg=true;simp only[V,if_true] at Z⊢;split at Z;rename_i R;cases Z;simp only[SV.den,rN,Sem.run_bind,h.j7,Result.andThen_ok,Sem.run_pure];congr 2;apply axD;simp only[lF,List.map_take,List.map_drop,Array.toList_extract,List.extract_eq_take_drop];simp;cases Z;have U:X.d.isAgg=false:=by simpa using V
 simp only[U,aw0,if_false] at Z⊢;have:(SV.ap ρ β l).toArray[off]?=some (v.den ρ β):=by simp[ou,Z]
 rw[this];rfl
def MN{t:TypeId}{Z:TI}(h:cS P t Z){ρ:aa}{β:List Nat}{l:List SV}{b base off:Nat}{v:SV}(X:rO Z l off=some v)
  (R:∀j x,l[j]?=some x->W.cell? ⟨b,base+j,none⟩=some (x.den ρ β)):
  (Instr.loadAt t (.pointer (some ⟨b,base+off,none⟩))).run P W=.ok (v.den ρ β) W:=by
 unfold rO at X;simp only[Instr.loadAt,Instr.sureAddr,loadVar,Sem.run_bind,Sem.run_pure,Result.andThen_ok,h.abk];by_cases Q:Z.d.isAgg=true;simp only[Q,if_true] at X⊢;split at X;rename_i M;cases X;simp only[Sem.run_bind,h.j7,Result.andThen_ok,SV.den];have O:(SV.ap ρ β (rN l off Z.ab.length)).length=Z.ab.length:=by simp[rN];omega
 have:=run_loadCells_list (P:=P) W ⟨b,base+off,none⟩ (SV.ap ρ β (rN l off Z.ab.length)) (λj v V=>by
  rw[ou] at V;cases U:(rN l off Z.ab.length)[j]? with
  |none=>rw[U] at V;cases V
  |some x=>
   rw[U] at V;simp at V;simp only[rN,axc,axl] at U;split at U;rw[sa,<-V,ayk];exact R _ _ U;cases U)
 rw[O] at this;rw[this];simp;cases X;have N:Z.d.isAgg=false:=by simpa using Q
 simp only[N,aw0,if_false] at X⊢;have:=R off v X;simp[this]
end
section
variable{S0:List Nat}{w0:World}{D:bw}{P:Program}{ty:Ty}{gl:List (Nat×Nat×Nat)}{β:List Nat}{ρ:aa}{s:S}{a:Act}{W:World}
def alT(v:Value):(Eo v).den ρ β=v:=by unfold Eo;split<;>simp[SV.den,IE.den,BE.den,RE.den,RE.rv]
def alU(v:Value):(Iw v).den ρ β=v:=by
 unfold Iw;split;simp[SV.den,IE.den];simp[SV.den,BE.den];rename_i cs;simp only[SV.den,lF,axu];congr 1;have:(SV.den ρ β∘Eo)=id:=by funext v;simp[alT]
 rw[this];simp;simp[SV.den,RE.den,RE.rv]
def bM(R:ao S0 w0 D ty β ρ s a W)(Q:dA gl ρ)(x:Operand)(h:(s.ev gl x).cN=false):a.eval x=(s.ev gl x).den ρ β:=by
 cases x with
 |tmp t=>
  simp only[S.ev,ng,awK] at h⊢;cases Z:s.tmps[t]? with
  |none=>rw[Z] at h;simp[SV.cN] at h
  |some O=>
   rw[Z] at h;simp only[axi] at h⊢;rcases R.tmps t O Z with rfl|X;simp[SV.cN] at h;simp[Act.eval,X]
 |const v=>simp only[S.ev,ng,Act.eval,alU]
 |global g=>
  simp only[S.ev,ng] at h⊢;split at h;rename_i k w V;obtain⟨X,M,cap,N⟩:=Q _ (ayg V);have U:=ayY V;simp only[beq_iff_eq] at U;simp only[SV.den,RE.den,RE.rv,Act.eval,kz,N,IE.den,U];simp;simp[SV.cN] at h
 |func f=>simp[S.ev,ng,Act.eval,SV.den,SV.ap]
def I6(op:BinOp)(k:IntKind)(x y:IE):(BX op k x y).den ρ=bh op k (x.den ρ) (y.den ρ):=by unfold BX;split<;>simp[IE.den]
def xR(op:BinOp)(x y:IE):(mb op x y).den ρ=ew op (x.den ρ) (y.den ρ):=by unfold mb;split<;>simp[IE.den,BE.den]
def I7(x:BE):(zJ x).den ρ= !(x.den ρ):=by unfold zJ;split<;>simp[BE.den]
def Tm(x y:BE):(qe x y).den ρ=(x.den ρ&&y.den ρ):=by unfold qe;split<;>simp[BE.den]
def Tn(x y:BE):(Iy x y).den ρ=(x.den ρ==y.den ρ):=by unfold Iy;split<;>simp[BE.den,I7]<;>cases BE.den ρ _<;>simp
def alV(m:Bool)(x y:IE):(Mf m x y).den ρ=if m then max (x.den ρ) (y.den ρ) else min (x.den ρ) (y.den ρ):=by unfold Mf;split<;>simp[IE.den]
def EY(i n:IE):(qf i n).den ρ=true<->0<=i.den ρ/\i.den ρ<n.den ρ:=by
 rw[qf,Tm,xR,xR,awF];exact and_congr decide_eq_true_iff decide_eq_true_iff
def To(Z:Bool)(k:IntKind):∀(l:List SV)(e r:IE),BY Z k e l=some r->
  ((SV.ap ρ β l).foldlM (if Z then Builtin.max2 else Builtin.min2) (.int k (e.den ρ)):Sem Value).run P W=.ok (.int k (r.den ρ)) W
 |[],e,r,h=>by simp[BY] at h;subst h;simp[SV.ap]
 |.int V x::l,e,r,h=>by
  simp only[BY] at h;split at h;have X:=To Z k l (Mf Z e x) r h;rw[alV] at X;simp only[SV.ap,SV.den,List.foldlM_cons,Sem.run_bind];cases Z;simp only[aw0,if_false] at X⊢;simp only[Builtin.min2,Sem.run_pure,Result.andThen_ok];rw[show(if x.den ρ<e.den ρ then x.den ρ else e.den ρ)=min (e.den ρ) (x.den ρ) by omega];exact X;simp only[if_true] at X⊢;simp only[Builtin.max2,Sem.run_pure,Result.andThen_ok];rw[show(if x.den ρ>e.den ρ then x.den ρ else e.den ρ)=max (e.den ρ) (x.den ρ) by omega];exact X;cases h
 |.bool _::_,_,_,h|.ref _::_,_,_,h|.loc _ _::_,_,_,h|.el _ _ _ _::_,_,_,h|.fo _ _ _ _::_,_,_,h|.agg _::_,_,_,h|.bj _::_,_,_,h|.fn _ _::_,_,_,h|.dH _ _::_,_,_,h|.any::_,_,_,h=>by simp[BY] at h
end
end
section
section
variable{β:List Nat}{ρ:aa}
def MO{α Z:Type}{x:Int}{f:α->Z}:∀{ks:List Int}{vs:List α},cJ x ks (vs.map f)=(cJ x ks vs).map f
 |[],vs=>by simp[cJ]
 |_::_,[]=>by simp[cJ]
 |k::ks,v::vs=>by
  simp only[awT,cJ];split;rfl;exact MO
def EZ{α:Type}{x:Int}:∀{ks:List Int}{vs:List α}{v:α},cJ x ks vs=some v->v∈vs
 |[],vs,v,h=>by simp[cJ] at h
 |_::_,[],v,h=>by simp[cJ] at h
 |k::ks,u::vs,v,h=>by
  simp only[cJ] at h;split at h;cases h;simp;exact axS _ (EZ h)
def Tp{e:IE}:∀{ks:List Int}{vs:List SV}{y:IE},vz e ks vs=some y->∃w,y.den ρ=w/\(∀v,cJ (e.den ρ) ks vs=some v->∃k z,v=.int k z/\w=z.den ρ)/\(cJ (e.den ρ) ks vs=none->w=0)
 |[],[],y,h=>by simp[vz] at h;subst h;exact⟨0,rfl,λv h=>by simp[cJ] at h,λ_=>rfl⟩
 |k::ks,v::vs,y,h=>by
  cases v<;>simp only[vz] at h<;>try cases h
  rename_i V x;cases W:vz e ks vs with
  |none=>rw[W] at h;cases h
  |some P=>
   rw[W] at h;simp only[awO,awJ] at h;subst h;obtain⟨w,U,R,Q⟩:=Tp W;simp only[IE.den,BE.den,ew,cJ];by_cases X:e.den ρ=k;refine⟨x.den ρ,by simp[X],λv Z=> ?_,λZ=> ?_⟩;rw[if_pos X] at Z;cases Z;exact⟨V,x,rfl,rfl⟩;rw[if_pos X] at Z;cases Z;refine⟨w,by simp[X,U],λv Z=> ?_,λZ=> ?_⟩;rw[if_neg X] at Z;exact R v Z;rw[if_neg X] at Z;exact Q Z
 |[],_::_,y,h=>by simp[vz] at h
 |_::_,[],y,h=>by simp[vz] at h
def abl{e:IE}:∀{ks:List Int}{vs:List SV}{y:BE},xx e ks vs=some y->∃w,y.den ρ=w/\(∀v,cJ (e.den ρ) ks vs=some v->∃z,v=.bool z/\w=z.den ρ)/\(cJ (e.den ρ) ks vs=none->w=false)
 |[],[],y,h=>by simp[xx] at h;subst h;exact⟨false,rfl,λv h=>by simp[cJ] at h,λ_=>rfl⟩
 |k::ks,v::vs,y,h=>by
  cases v<;>simp only[xx] at h<;>try cases h
  rename_i x;cases W:xx e ks vs with
  |none=>rw[W] at h;cases h
  |some Q=>
   rw[W] at h;simp only[awO,awJ] at h;subst h;obtain⟨w,V,U,R⟩:=abl W;simp only[BE.den,IE.den,ew,cJ];by_cases X:e.den ρ=k;refine⟨x.den ρ,by simp[X],λv Z=> ?_,λZ=> ?_⟩;rw[if_pos X] at Z;cases Z;exact⟨x,rfl,rfl⟩;rw[if_pos X] at Z;cases Z;refine⟨w,by simp[X,V],λv Z=> ?_,λZ=> ?_⟩;rw[if_neg X] at Z;exact U v Z;rw[if_neg X] at Z;exact R Z
 |[],_::_,y,h=>by simp[xx] at h
 |_::_,[],y,h=>by simp[xx] at h
def abm{x:Int}:∀{ks:List Int}{vs:List SV},vs.all Es=true->(∀v,cJ x ks vs=some v->gO x ks (SV.ap ρ β vs)=v.den ρ β)/\(cJ x ks vs=none->gO x ks (SV.ap ρ β vs)=.nilFunc)
 |[],vs,_=>⟨λv h=>by simp[cJ] at h,λ_=>by simp[gO]⟩
 |_::_,[],_=>⟨λv h=>by simp[cJ] at h,λ_=>by simp[gO,SV.ap]⟩
 |k::ks,u::vs,Z=>by
  simp only[ayF,awF] at Z;obtain⟨V,U⟩:=abm (ks:=ks) Z.2;simp only[cJ,SV.ap,gO];by_cases W:x=k;simp only[W,if_true];refine⟨λv X=> ?_,λX=>by cases X⟩;cases X;have R:fw (u.den ρ β)=true:=by
   have:=Z.1;unfold Es at this;split at this;rfl;rfl;cases this
  rw[if_pos R];simp only[W,if_false];exact⟨V,U⟩
def alW{e:IE}{ks:List Int}{vs:List SV}{Q:CT}{w:SV}(h:SK e ks vs Q=some w):(∀v,cJ (e.den ρ) ks vs=some v->w.den ρ β=v.den ρ β)/\(cJ (e.den ρ) ks vs=none->w.den ρ β=mQ Q):=by
 unfold SK at h;split at h;rename_i k;split at h;rename_i U;cases X:vz e ks vs with
 |none=>rw[X] at h;cases h
 |some y=>
  rw[X] at h;simp only[awO,awJ] at h;subst h;obtain⟨x,W,V,R⟩:=Tp (ρ:=ρ) X;refine⟨λv Z=> ?_,λZ=>by simp only[SV.den,W,R Z,mQ]⟩;obtain⟨P,z,rfl,rfl⟩:=V v Z;have:=awU.1 U _ (EZ Z);simp at this;subst this;simp only[SV.den,W]
 cases h;cases X:xx e ks vs with
 |none=>rw[X] at h;cases h
 |some y=>
  rw[X] at h;simp only[awO,awJ] at h;subst h;obtain⟨x,W,V,R⟩:=abl (ρ:=ρ) X;refine⟨λv Z=> ?_,λZ=>by simp only[SV.den,W,R Z,mQ]⟩;obtain⟨z,rfl,rfl⟩:=V v Z;simp only[SV.den,W]
 split at h;rename_i U;simp only[awF] at U;cases h;obtain⟨W,V⟩:=abm (ρ:=ρ) (β:=β) (x:=e.den ρ) (ks:=ks) U.1;exact⟨λv Z=>by simp only[SV.den];exact W v Z,λZ=>by simp only[SV.den,mQ];exact V Z⟩;cases h;cases h
def MP{e:IE}{ks:List Int}{rows:List (List SV)}:∀{ab:List CT}{j:Nat}{l:List SV},xA e ks rows j ab=some l->
  l.length=ab.length/\(∀row,cJ (e.den ρ) ks rows=some row->row.length=j+ab.length->SV.ap ρ β l=SV.ap ρ β (row.drop j))/\(cJ (e.den ρ) ks rows=none->SV.ap ρ β l=ab.map mQ)
 |[],j,l,h=>by
  simp[xA] at h;subst h;exact⟨rfl,λrow _ X=>by rw[ay9 (by simp at X;omega)],λ_=>rfl⟩
 |c::ab,j,l,h=>by
  simp only[xA] at h;split at h;rename_i v r R Q;cases h;obtain⟨P,O,N⟩:=MP Q;obtain⟨W,V⟩:=alW (ρ:=ρ) (β:=β) R;rw[MO] at W V;refine⟨by simp[P],λrow Z X=> ?_,λZ=> ?_⟩;have U:j<row.length:=by simp at X;omega
  rw[axE U];simp only[SV.ap];rw[O row Z (by simp at X⊢;omega),W _ (by rw[Z];rfl)];simp[awK,U];simp only[SV.ap,awT];rw[N Z,V (by rw[Z];rfl)];cases h
def MQ{e:IE}:∀{ks:List Int}{α:Type}{vs:List α},ks.length=vs.length->(B4 e ks).den ρ=(cJ (e.den ρ) ks vs).isSome
 |[],α,vs,h=>by simp[B4,BE.den,cJ]
 |k::ks,α,[],h=>by simp at h
 |k::ks,α,v::vs,h=>by
  simp only[B4,BE.den,IE.den,ew,cJ];by_cases Z:e.den ρ=k;simp[Z];simp only[Z,if_false,beq_iff_eq];exact MQ (by simpa using h)
def MS{Z:TI}{v:SV}(W:∀r:RE,r.BV=true->fw (r.den ρ)=true)(h:vA Z v=true):v.den ρ β=if Z.d.isAgg then .agg (SV.ap ρ β v.cells).toArray else(SV.ap ρ β v.cells).headD undef:=by
 simp only[vA,awF] at h;obtain⟨⟨-,V⟩,X⟩:=h;cases v<;>simp only[awY] at X<;>rw[X]<;>rfl
def xS{ag:Bool}{l:List SV}(h:ag=false->l.length=1):(od ag l).den ρ β=if ag then .agg (SV.ap ρ β l).toArray else(SV.ap ρ β l).headD undef:=by
 cases ag;obtain⟨x,rfl⟩:=axb.1 (h rfl);rfl;rfl
def MT{x:Int}:∀{ks:List Int}{vs:List SV}{v:SV},cJ x ks vs=some v->fw (v.den ρ β)=true->gO x ks (SV.ap ρ β vs)=v.den ρ β
 |[],vs,v,h,_=>by simp[cJ] at h
 |_::_,[],v,h,_=>by simp[cJ] at h
 |k::ks,u::vs,v,h,X=>by
  simp only[cJ] at h;simp only[SV.ap,gO];split at h;rename_i Z;cases h;rw[if_pos Z,if_pos X];rename_i Z;rw[if_neg Z];exact MT h X
def alX{Z:TI}{v:SV}(h:vA Z v=true):(Z.d.isAgg=false->Z.ab.length=1)/\v.cells.length=Z.ab.length:=by
 simp only[vA,awF,beq_iff_eq] at h;obtain⟨⟨X,U⟩,W⟩:=h;refine⟨λV=> ?_,X⟩;cases v<;>simp only[SV.cells,azf] at X<;>first|exact X.symm|(rw[V] at W;cases W)
def abn(R:∀r:RE,r.BV=true->fw (r.den ρ)=true){X:TI}{e:IE}{ks:List Int}{ps:List SV}{v p:SV}(h:Mi X e ks ps=some v)(W:cJ (e.den ρ) ks ps=some p):v.den ρ β=p.den ρ β:=by
 unfold Mi at h;split at h;rename_i Q;cases Z:xA e ks (ps.map SV.cells) 0 X.ab with
 |none=>rw[Z] at h;cases h
 |some l=>
  rw[Z] at h;cases h;obtain⟨P,O,-⟩:=MP (ρ:=ρ) (β:=β) Z;have N:=EZ W;have V:=awU.1 Q p N;obtain⟨M,L⟩:=alX V;have U:=O p.cells (by rw[MO,W];rfl) (by rw[L,axf]);rw[azt] at U;rw[xS (λJ=>by rw[P];exact M J),MS R V,U]
 cases h
def abo{α:Type}{x:Int}{n:Nat}{f:Nat->α}(U:0<=x)(R:x<(n:Int)):cJ x (xB n) ((aw3 n).map f)=some (f x.toNat):=by
 unfold xB;have key:∀(m k:Nat),(k:Int)<=x->x<((k+m:Nat):Int)->cJ x ((ax2 k m).map λi:Nat=>(i:Int)) ((ax2 k m).map f)=some (f x.toNat):=by
  intro m;induction m with
  |zero=>intro k Z X;omega
  |succ m W=>
   intro k Z X;simp only[ayU,awT,cJ];split;rename_i V;subst V;simp;exact W (k+1) (by omega) (by omega)
 rw[ayv];exact key n 0 (by omega) (by omega)
def Tq{α U:Type}{f:α->Option U}{x:Int}:∀{ks:List Int}{vs:List α}{ps:List U}{v:α},zK (vs.map f)=some ps->cJ x ks vs=some v->∃p,f v=some p/\cJ x ks ps=some p
 |[],vs,ps,v,_,h=>by simp[cJ] at h
 |_::_,[],ps,v,_,h=>by simp[cJ] at h
 |k::ks,u::vs,ps,v,Z,h=>by
  simp only[awT] at Z;cases X:f u with
  |none=>rw[X] at Z;cases Z
  |some p=>
   rw[X] at Z;simp only[zK] at Z;cases W:zK (vs.map f) with
   |none=>rw[W] at Z;cases Z
   |some R=>
    rw[W] at Z;simp only[awO,awJ] at Z;subst Z;simp only[cJ] at h⊢;split at h;rename_i V;cases h;rw[if_pos V];exact⟨p,X,rfl⟩;rename_i V;rw[if_neg V];exact Tq W h
def abp{vs:List SV}{i:Nat}(h:tN vs=some i){v:SV}(Z:v∈vs):∃off,v=.loc i off:=by
 unfold tN at h;split at h;rename_i j o r;split at h;rename_i X;cases h;have:=awU.1 X v Z;split at this;rename_i W off;simp only[beq_iff_eq] at this;subst this;exact⟨off,rfl⟩;cases this;cases h;cases h
end
end
section
def PR.gives(ρ:aa)(v:SV):PR->Prop
 |.ok x=>v=x
 |.az b x=>b.den ρ=true/\v=x
 |_=>False
def abq{W:World}{ty:Ty}{k:RK}{v:RV}(h:aT W ty k v):dv k v=v:=by
 cases h with
 |sl e A X cap rows=>rfl
 |str s=>rfl
 |ar v Z=>simp[dv,Z]
 |own e rv h V=>cases h;rfl
 |dead rv h=>simp[dv,h]
 |mr U rows=>rfl
def abr{W:World}{ty:Ty}(k:RK):aT W ty k (dv k default):=by
 cases k with
 |sl e=>
  refine aT.sl e none 0 0 [] rfl (awN _) ?_ ?_ ?_ ?_<;>(intro i;intros;rename_i h;simp at*)
 |str=>exact aT.str _
 |ar=>exact aT.ar _ rfl
 |own e=>
  refine aT.own e _ (aT.sl e none 0 0 [] rfl (awN _) ?_ ?_ ?_ ?_) (λl c h=>by cases h;rfl)<;>(intro i;intros;rename_i h;simp at*)
 |dead=>exact aT.dead _ rfl
 |mr Z=>
  refine aT.mr Z [] ?_ ?_ ?_ ?_<;>(intro i;intros;rename_i h;simp at*)
def alY(k:RK)(v:RV):fw (dv k v).val=true:=by
 cases k;simp only[dv];split;rename_i h;rw[h];rfl;rfl;simp only[dv];split<;>rfl;simp only[dv];split;rename_i h;exact h;rfl;simp only[dv];split;rename_i h;rw[h];rfl;rfl;simp only[dv];split;rename_i h;exact h;rfl;simp only[dv];split;rename_i h;rw[h];rfl;rfl
def E0{W:World}{ty:Ty}{k:RK}{v:RV}(h:aT W ty k v):fw v.val=true:=by
 cases h with
 |sl e A X cap rows=>rfl
 |str s=>rfl
 |ar v Z=>exact Z
 |own e rv h V=>cases h;rfl
 |dead rv h=>exact h
 |mr U rows=>rfl
def abs{W:World}{ty:Ty}{k:RK}{v:RV}(h:aT W ty k v):aT W ty k.rd v:=by
 cases h with
 |own e rv h L=>exact h
 |sl e A R cap rows Z X V U Q O=>exact aT.sl e A R cap rows Z X V U Q O
 |str s=>exact aT.str s
 |ar v N=>exact aT.ar v N
 |dead _ h=>exact aT.dead _ h
 |mr M rows Z X V U=>exact aT.mr M rows Z X V U
def alZ{W:World}{ty:Ty}{e:TypeId}{v:RV}(h:aT W ty (.sl e) v)(i:Int)(j:Nat)(k:RK)(Z:BZ (aW ty (.sl e))[j]?=k):aT W ty k (dv k (cellAt v.rows i j)):=by
 cases h with
 |sl e A J cap rows I H O hi N M=>
  simp only[RV.jl,cellAt];cases X:rows[i.toNat]? with
  |none=>simp only[awK,X,azc,List.getElem?_nil];exact abr k
  |some row=>
   simp only[awK,X,axi];cases U:row[j]? with
   |none=>simp only[azc];exact abr k
   |some c=>
    simp only[axi];have G:j<(aW ty (.sl e)).length:=by
     have:=(O _ row X).1;have:=(awG.1 U).1;omega
    cases V:(aW ty (.sl e))[j]? with
    |none=>rw[axA] at V;omega
    |some L=>
     rw[V] at Z;cases L with
     |int R=>
      simp only[BZ] at Z;subst Z;obtain⟨n,Q⟩:=hi _ _ row c R X U V;simp only[dv,Q,fw,if_true];exact aT.ar _ rfl
     |bool=>
      simp only[BZ] at Z;subst Z;obtain⟨n,Q⟩:=N _ _ row c X U V;simp only[dv,Q,fw,if_true];exact aT.ar _ rfl
     |ar z R=>
      simp only[BZ] at Z;subst Z;have:=M _ _ row c z R X U V;rw[abq this];exact this
section
variable{S0:List Nat}{w0:World}{D:bw}{P:Program}{ty:Ty}{gl:List (Nat×Nat×Nat)}{β:List Nat}{ρ:aa}{s:S}{a:Act}{W:World}
def Tr(R:ao S0 w0 D ty β ρ s a W){k:Nat}{e:RK}(h:s.rs[k]?=some e):aT W ty e (ρ.rv k):=by
 have Z:k<ρ.r.length:=by rw[R.er];exact(awG.1 h).1
 have:=(R.mem.ref k e ρ.r[k] h (awH Z)).1;simpa[aa.rv,Z] using this
def nz(R:ao S0 w0 D ty β ρ s a W):∀{r:RE}{e:RK},e≠ .ar->r.kind ty s=e->aT W ty e (r.rv ρ)
 |.v k,e,Z,h=>by
  simp only[RE.kind,awK] at h;cases X:s.rs[k]? with
  |none=>rw[X] at h;exact absurd (show e=.ar from h.symm) Z
  |some q=>rw[X] at h;simp at h;subst h;exact abs (Tr R X)
 |.cell r i j Q,e,Z,h=>by
  simp only[RE.kind] at h;split at h;rename_i O V;split at h;rename_i U;subst h;exact alZ (nz R (by simp) V) (i.den ρ) j _ U;exact absurd h.symm Z;exact absurd h.symm Z
 |.k v,e,Z,h=>by
  cases v<;>simp only[RE.kind] at h
  case string s=>subst h;exact aT.str s
  all_goals exact absurd h.symm Z
def I8(R:ao S0 w0 D ty β ρ s a W){r:RE}{e:TypeId}(h:r.kind ty s=.sl e):∃x l c,r.den ρ=.slice x l c:=by
 have:=nz R (by simp) h;unfold RE.den;revert this;generalize r.rv ρ=v;intro Z;cases Z with
 |sl e A X cap rows=>exact⟨A,X,cap,rfl⟩
def zW(R:ao S0 w0 D ty β ρ s a W){r:RE}(h:r.kind ty s=.str):∃x,r.den ρ=.string x:=by
 have:=nz R (by simp) h;unfold RE.den;revert this;generalize r.rv ρ=v;intro Z;cases Z with
 |str s=>exact⟨s,rfl⟩
def al0(R:ao S0 w0 D ty β ρ s a W){c:CT}{x y:SV}{e:BE}(h:Ep ty s c x y=some e):xQ c (x.den ρ β)/\xQ c (y.den ρ β)/\xP (x.den ρ β) (y.den ρ β)=some (e.den ρ):=by
 unfold Ep at h;split at h;split at h;rename_i Z;obtain⟨rfl,rfl⟩:=Z;cases h;exact⟨rfl,rfl,by simp[SV.den,xP,xR,ew]⟩;cases h;cases h;exact⟨trivial,trivial,by simp[SV.den,xP,Tn]⟩;split at h;rename_i Z;cases h;obtain⟨p,X⟩:=zW R Z.1;obtain⟨q,V⟩:=zW R Z.2;simp only[SV.den,X,V];unfold RE.den at X V;exact⟨trivial,trivial,by simp[xP,BE.den,X,V,ql]⟩;cases h;cases h
def abt(R:ao S0 w0 D ty β ρ s a W):∀{cs:List CT}{x y:List SV}{e:BE},nj ty s cs x y=some e->gW cs (SV.ap ρ β x)/\gW cs (SV.ap ρ β y)/\gz (SV.ap ρ β x) (SV.ap ρ β y)=some (e.den ρ)
 |[],[],[],e,h=>by simp[nj] at h;subst h;exact⟨trivial,trivial,by simp[SV.ap,gz,BE.den]⟩
 |c::cs,x::xs,y::ys,e,h=>by
  simp only[nj] at h;split at h;rename_i a b Z X;cases h;obtain⟨V,a2,a3⟩:=al0 R Z;obtain⟨U,Q,O⟩:=abt R X;exact⟨⟨V,U⟩,⟨a2,Q⟩,by simp only[SV.ap,gz,a3,O,Tm]⟩;cases h
 |[],[],_::_,e,h=>by simp[nj] at h
 |[],_::_,_,e,h=>by simp[nj] at h
 |_::_,[],_,e,h=>by simp[nj] at h
 |_::_,_::_,[],e,h=>by simp[nj] at h
def abu(R:ao S0 w0 D ty β ρ s a W){Z:Option TI}{x y:List SV}{e:BE}(h:Er ty s Z x y=some e):∃ab d,Z=some ⟨d,ab,true⟩/\gW ab (SV.ap ρ β x)/\gW ab (SV.ap ρ β y)/\gz (SV.ap ρ β x) (SV.ap ρ β y)=some (e.den ρ):=by
 unfold Er at h;split at h;exact⟨_,_,rfl,abt R h⟩;cases h
def abv{e:TypeId}{rv:RV}(R:aT W ty (.sl e) rv)(i:Int)(F:0<=i)(Q:i<lenOf rv.val):
  ∃row b off,rv.rows[i.toNat]?=some row/\row.length=(aW ty (.sl e)).length/\(∃l c,rv.val=.slice (some ⟨b,off,none⟩) l c)/\(∀(j:Nat)(c:RV),row[j]?=some c->W.cell? ⟨b,off+i.toNat*(aW ty (.sl e)).length+j,none⟩=some c.val)/\
   (∀(j:Nat)(c:RV)(X:CT),row[j]?=some c->(aW ty (.sl e))[j]?=some X->match X with
    |.int k=>∃n,c.val=.int k n
    |.bool=>∃x,c.val=.bool x
    |.ar _ k=>aT W ty k c):=by
 cases R with
 |sl e A O cap rows E C N M L J=>
  simp only[RV.jZ,lenOf] at Q;have I:i.toNat<rows.length:=by omega
  have Z:rows[i.toNat]?=some rows[i.toNat]:=awH I;obtain⟨H,b,off,rfl,B,G⟩:=N i.toNat _ Z;refine⟨rows[i.toNat],b,off,Z,H,⟨O,cap,rfl⟩,G,λj c X V U=> ?_⟩;cases X with
  |int k=>exact M _ j _ c k Z V U
  |bool=>exact L _ j _ c Z V U
  |ar z k=>exact J _ j _ c z k Z V U
def al1{r:RE}{i:IE}{row:List RV}{j:Nat}{Z:CT}{x:RV}(R:(r.rv ρ).rows[(i.den ρ).toNat]?=some row)(Q:row[j]?=some x)(X:match Z with
    |.int k=>∃n,x.val=.int k n
    |.bool=>∃y,x.val=.bool y
    |.ar _ k=>aT W ty k x):
  (zH r i j Z).den ρ β=x.val:=by
 have V:cellAt (r.rv ρ).rows (i.den ρ) j=x:=by simp[cellAt,R,Q]
 cases Z with
 |int O=>obtain⟨n,U⟩:=X;simp[zH,SV.den,IE.den,V,ba,U]
 |bool=>obtain⟨n,U⟩:=X;simp[zH,SV.den,BE.den,V,jm,U]
 |ar z e=>simp only[zH,SV.den,RE.den,RE.rv,V];rw[abq X]
def qp(R:ao S0 w0 D ty β ρ s a W):∀(r:RE),r.BV=true->fw (r.den ρ)=true
 |.v k,_=>by
  simp only[RE.den,RE.rv];by_cases Z:k<s.rs.length;exact E0 (Tr R (awH Z));have:ρ.rv k=default:=by
   have:=R.er;simp[aa.rv,show¬k<ρ.r.length by omega]
  rw[this];rfl
 |.cell r i j k,_=>alY k _
 |.k w,h=>h
def al2(R:ao S0 w0 D ty β ρ s a W)(M:fA P ty)(g:dA gl ρ){o:Oper}{t:TypeId}{x:Operand}(Q:o.op=.load t x)(f:(s.ev gl x).cN=false){v:SV}
  (h:(bq ty gl s (.load t x)).gives ρ v):(execOp a.eval o).run P W=.ok (.value (v.den ρ β)) W:=by
 have d:=bM R g x f;simp only[execOp,Q,Sem.run_bind,d];simp only[bq] at h;split at h;rename_i L i off O N;rw[N];split at h;rename_i J cs Z;split at h;rename_i w X;cases h;have:=MN (P:=P) (W:=W) (M _ _ O) (ρ:=ρ) (β:=β) (b:=ad β i) (base:=0) X (λj y I=>by
  obtain⟨Z,Q⟩:=tX Z;have:=R.mem.box i J cs Z;rw[qo Q] at this;simp[World.cell?,this,ou,I])
 simp only[axf] at this;simp only[SV.den,this,Result.andThen_ok,Sem.run_pure];exact h.elim;exact h.elim;rename_i L r w i off O N;rw[N];split at h;rename_i e af;split at h;exact h.elim;rename_i hw;split at h;rename_i y X;obtain⟨Z,rfl⟩:=h;rw[EY] at Z;simp only[IE.den] at Z;have hh:=nz R (by simp) af;have ag:w=(aW ty (.sl e)).length:=by simpa using Eq.symm (by simpa using hw:(aW ty (.sl e)).length=w)
 obtain⟨row,b,base,h1,a4,⟨l,c,h3⟩,h4,h5⟩:=abv hh (i.den ρ) Z.1 Z.2;have:=MN (P:=P) (W:=W) (M _ _ O) (ρ:=ρ) (β:=β) (b:=b) (base:=base+(i.den ρ).toNat*w) X (λj z U=>by
  simp only[awL] at U;cases H:(aw3 w)[j]? with
  |none=>rw[H] at U;cases U
  |some V=>
   have an:j<w/\V=j:=by
    have:=awG.1 H;obtain⟨B,A⟩:=this;simp at B A;exact⟨B,A.symm⟩
   obtain⟨a5,rfl⟩:=an;rw[H] at U;simp only[awO,awJ] at U;have a0:(aW ty (.sl e))[V]?=some ((aW ty (.sl e)).getD V .bool):=by
    rw[awK,awH (by omega)];rfl
   have a1:V<row.length:=by omega
   have G:row[V]?=some row[V]:=awH a1;rw[<-U,al1 (W:=W) (ty:=ty) h1 G (h5 V _ _ G a0)];rw[ag];exact h4 V _ G)
 have hA:kz (RE.den ρ r) ((i.den ρ).toNat*w+off)=⟨b,base+(i.den ρ).toNat*w+off,none⟩:=by
  simp only[RE.den,h3,kz,ayk]
 simp only[SV.den,hA,this,Result.andThen_ok,Sem.run_pure];exact h.elim;exact h.elim;rename_i L e ks vs O N;rw[N];split at h;rename_i J cs Z;split at h;rename_i w X;split at h;rename_i p;obtain⟨n,rfl⟩:=h;simp only[beq_iff_eq] at p;cases F:tN vs with
 |none=>rw[F] at Z;cases Z
 |some i=>
  rw[F] at Z;simp only[ayV] at Z;rw[MQ p] at n;obtain⟨u,E⟩:=awZ.1 n;obtain⟨off,rfl⟩:=abp F (EZ E);cases C:zK (vs.map (SM L cs)) with
  |none=>rw[C] at X;cases X
  |some ps=>
   rw[C] at X;simp only[ayV] at X;obtain⟨q,m,a2⟩:=Tq C E;simp only[SM] at m;have k:=MN (P:=P) (W:=W) (M _ _ O) (ρ:=ρ) (β:=β) (b:=ad β i) (base:=0) m (λj y I=>by
    obtain⟨Z,Q⟩:=tX Z;have:=R.mem.box i J cs Z;rw[qo Q] at this;simp[World.cell?,this,ou,I])
   simp only[axf] at k;have a3:(SV.dI e ks vs).den ρ β=.pointer (some ⟨ad β i,off,none⟩):=by
    simp only[SV.den];rw[MT E rfl];rfl
   rw[a3,abn (qp R) X a2];simp only[k,Result.andThen_ok,Sem.run_pure]
 exact h.elim;exact h.elim;exact h.elim;exact h.elim
def al3(R:ao S0 w0 D ty β ρ s a W)(H:fA P ty)(E:dA gl ρ){o:Oper}{t:TypeId}{x:Operand}{f:Nat}(C:o.op=.fieldAddr t x f)(B:(s.ev gl x).cN=false){v:SV}
  (h:(bq ty gl s (.fieldAddr t x f)).gives ρ v):(execOp a.eval o).run P W=.ok (.value (v.den ρ β)) W:=by
 have z:=bM R E x B;have key:∀(X:List (Nat×TypeId))(ab:List CT)(q:Bool)(off:Nat)(Q:TypeId)(Z:TI)(A:Addr),ty t=some ⟨.struct X,ab,q⟩->X[f]?=some (off,Q)->ty Q=some Z->(Z.ab.length==0)=false->A.spot=none->
   (Instr.fieldAt t (.pointer (some A)) f).run P W=.ok (.pointer (some ⟨A.block,A.off+off,none⟩)) W:=by
  intro X ab q off Q Z A y U u p G;obtain⟨F,m,l⟩:=(H _ _ y).desc;rw[<-l,awL] at U;cases V:F.toList[f]? with
  |none=>rw[V] at U;cases U
  |some k=>
   rw[V] at U;simp only[awO,awJ,ayl] at U;obtain⟨rfl,rfl⟩:=U;have j:F[f]?=some k:=by simpa using V
   have g:¬Z.ab.length=0:=by simpa using p
   obtain⟨b,d,sp⟩:=A;simp only at G;subst G;simp only[Instr.fieldAt,Instr.sureAddr,fieldPlace,Sem.run_bind,cS.eF m,Result.andThen_ok,j,Sem.run_pure,(H _ _ u).j7,if_neg g,Sem.run_ite,sa]
 simp only[execOp,C,Sem.run_bind,z];simp only[bq] at h;split at h;rename_i X ab q i off O N;rw[N];split at h;rename_i M L V;split at h;rename_i Z J;split at h;exact h.elim;rename_i I;cases h;simp only[SV.den,key X ab q M L Z ⟨ad β i,off,none⟩ O V J (by simpa using I) rfl,Result.andThen_ok,Sem.run_pure];exact h.elim;exact h.elim;rename_i X ab q r w i off O N;rw[N];split at h;rename_i M L V;split at h;rename_i Z J;split at h;exact h.elim;rename_i I;cases h;have e:∀v n,(kz v n).spot=none:=by intro v n;unfold kz;split<;>rfl
 simp only[SV.den,key X ab q M L Z _ O V J (by simpa using I) (e _ _),Result.andThen_ok,Sem.run_pure];congr 4;unfold kz;split;simp only[Addr.mk.injEq,and_true,true_and];omega;simp only[Addr.mk.injEq,and_true,true_and];omega;exact h.elim;exact h.elim;exact h.elim
end
end
section
section
variable{S0:List Nat}{w0:World}{D:bw}{P:Program}{ty:Ty}{gl:List (Nat×Nat×Nat)}{β:List Nat}{ρ:aa}{s:S}{a:Act}{W:World}
def al4(R:ao S0 w0 D ty β ρ s a W)(V:fA P ty)(U:dA gl ρ){o:Oper}{t:TypeId}{x:Operand}{f:Nat}(Q:o.op=.field t x f)(O:(s.ev gl x).cN=false){v:SV}
  (h:(bq ty gl s (.field t x f)).gives ρ v):(execOp a.eval o).run P W=.ok (.value (v.den ρ β)) W:=by
 have N:=bM R U x O;simp only[execOp,Q,Sem.run_bind,N];simp only[bq] at h;split at h;rename_i B ab q l M L;rw[L];split at h;rename_i A z Z;split at h;rename_i w J;split at h;rename_i y I;cases h;obtain⟨F,H,G⟩:=(V _ _ M).desc;rw[<-G,awL] at Z;cases X:F.toList[f]? with
 |none=>rw[X] at Z;cases Z
 |some E=>
  rw[X] at Z;simp only[awO,awJ,ayl] at Z;obtain⟨rfl,rfl⟩:=Z;have C:F[f]?=some E:=by simpa using X
  simp only[SV.den,Instr.field,Sem.run_bind,cS.eF H,Result.andThen_ok,C,asAgg,Sem.run_pure,Tl (V _ _ J) I]
 exact h.elim;exact h.elim;exact h.elim;exact h.elim
def al5(R:ao S0 w0 D ty β ρ s a W)(M:fA P ty)(C:dA gl ρ){o:Oper}{t:TypeId}{x y:Operand}(g:o.op=.indexAddr t x y)(f:(s.ev gl x).cN=false)(d:(s.ev gl y).cN=false){v:SV}
  (h:(bq ty gl s (.indexAddr t x y)).gives ρ v):(execOp a.eval o).run P W=.ok (.value (v.den ρ β)) W:=by
 have he:=bM R C x f;have af:=bM R C y d;have L:∀(n:Nat)(e:TypeId)(ab:List CT)(q:Bool)(X:TI)(A:Addr)(k:IntKind)(m:Int),ty t=some ⟨.arr n e,ab,q⟩->ty e=some X->0<=m->m<n->A.spot=none->
   (Instr.indexAt t (.pointer (some A)) (.int k m)).run P W=.ok (.pointer (some ⟨A.block,A.off+m.toNat*X.ab.length,none⟩)) W:=by
  intro n e ab q X A k m G F E h4 B;have J:P.underlying t=some (.array n e):=(M _ _ G).desc;obtain⟨b,of,sp⟩:=A;simp only at B;subst B;simp only[Instr.indexAt,asIntOf,Sem.run_bind,Sem.run_pure,Result.andThen_ok,cS.eF J,Instr.sureAddr,E,h4,and_self,if_true,(M _ _ F).j7,sa]
 simp only[execOp,g,Sem.run_bind,he,af];simp only[bq] at h;split at h;rename_i n e ab q i off k m U O N;rw[O,N];split at h;rename_i X Q;split at h;rename_i V;cases h;simp only[awF,decide_eq_true_eq] at V;simp only[SV.den,IE.den,L n e ab q X ⟨ad β i,off,none⟩ k m U Q V.1 V.2 rfl,Result.andThen_ok,Sem.run_pure];exact h.elim;exact h.elim;rename_i n e ab q r w i off k m U O N;rw[O,N];have I:∀v n,(kz v n).spot=none:=by intro v n;unfold kz;split<;>rfl
 have H:∀(v:Value)(p q:Nat),(⟨(kz v p).block,(kz v p).off+q,none⟩:Addr)=kz v (p+q):=by intro v p q;unfold kz;split<;>simp[ayk]
 split at h;rename_i X Q;split at h;rename_i z;obtain⟨Z,rfl⟩:=h;rw[EY] at Z;simp only[awF,beq_iff_eq] at z;obtain⟨⟨⟨G,F⟩,E⟩,-⟩:=z;subst G F E;simp only[IE.den] at Z;simp only[SV.den,L n e ab q X _ k (m.den ρ) U Q Z.1 Z.2 (I _ _),Result.andThen_ok,Sem.run_pure,H];simp[IE.den];split at h;rename_i m;split at h;rename_i V;cases h;simp only[awF,decide_eq_true_eq] at V;simp only[SV.den,IE.den,L n e ab q X _ k m U Q V.1 V.2 (I _ _),Result.andThen_ok,Sem.run_pure,H,ayk];exact h.elim;exact h.elim;exact h.elim;rename_i n e ab q r w i off k m a0 U O N;rw[O,N];have I:∀v n,(kz v n).spot=none:=by intro v n;unfold kz;split<;>rfl
 have H:∀(v:Value)(p q:Nat),(⟨(kz v p).block,(kz v p).off+q,none⟩:Addr)=kz v (p+q):=by intro v p q;unfold kz;split<;>simp[ayk]
 split at h;rename_i X Q;split at h;rename_i V;cases h;simp only[awF,decide_eq_true_eq] at V;simp only[SV.den,IE.den,L n e ab q X _ k m U Q V.1 V.2 (I _ _),Result.andThen_ok,Sem.run_pure,H,ayk];exact h.elim;exact h.elim;rename_i e ab q r k m U O N;rw[O,N];split at h;rename_i X e' Q ag;obtain⟨Z,rfl⟩:=h;rw[EY] at Z;simp only[IE.den] at Z;have hh:=abv (nz R (by simp) ag) (m.den ρ) Z.1 Z.2;obtain⟨row,b,off,-,-,⟨l,c,u⟩,-⟩:=hh;have J:P.underlying t=some (.slice e):=(M _ _ U).desc;rw[u] at Z;simp only[lenOf] at Z;simp only[SV.den,RE.den,u,Instr.indexAt,asIntOf,Sem.run_bind,Sem.run_pure,Result.andThen_ok,cS.eF J,Z.1,Z.2,and_self,if_true,(M _ _ Q).j7,sa,kz,ax1];exact h.elim;rename_i e ab q i off a1 cap k m U O N;rw[O,N];split at h;rename_i X Q;split at h;rename_i V;cases h;simp only[awF,decide_eq_true_eq] at V;have J:P.underlying t=some (.slice e):=(M _ _ U).desc;simp only[SV.den,IE.den,Instr.indexAt,asIntOf,Sem.run_bind,Sem.run_pure,Result.andThen_ok,cS.eF J,V.1,V.2,and_self,if_true,(M _ _ Q).j7,sa];exact h.elim;exact h.elim;rename_i n e ab q i off k m a2 U O N;rw[O,N];split at h;rename_i X Q;obtain⟨Z,rfl⟩:=h;rw[EY] at Z;simp only[IE.den] at Z;have an:(SV.dI m (xB n) ((aw3 n).map λj=>SV.loc i (off+j*X.ab.length))).den ρ β=.pointer (some ⟨ad β i,off+(m.den ρ).toNat*X.ab.length,none⟩):=by
  simp only[SV.den];rw[MT (abo Z.1 Z.2) rfl];rfl
 rw[an];simp only[SV.den,L n e ab q X ⟨ad β i,off,none⟩ k (m.den ρ) U Q Z.1 Z.2 rfl,Result.andThen_ok,Sem.run_pure];exact h.elim;exact h.elim
def al6(R:ao S0 w0 D ty β ρ s a W)(X:fA P ty)(F:dA gl ρ){o:Oper}{t:TypeId}{x y:Operand}(E:o.op=.index t x y)(C:(s.ev gl x).cN=false)(B:(s.ev gl y).cN=false){v:SV}
  (h:(bq ty gl s (.index t x y)).gives ρ v):(execOp a.eval o).run P W=.ok (.value (v.den ρ β)) W:=by
 have A:=bM R F x C;have w:=bM R F y B;simp only[execOp,E,Sem.run_bind,A,w];simp only[bq] at h;split at h;rename_i n e ab q l k m V U Q;rw[U,Q];split at h;rename_i L O;split at h;rename_i J;split at h;rename_i z u;cases h;simp only[awF,decide_eq_true_eq] at J;have N:P.underlying t=some (.array n e):=(X _ _ V).desc;simp only[SV.den,IE.den,Instr.index,asIntOf,Sem.run_bind,Sem.run_pure,Result.andThen_ok,cS.eF N,J.1,J.2,and_self,if_true,(X _ _ O).j7,Tl (X _ _ O) u];exact h.elim;exact h.elim;exact h.elim;rename_i n e ab q l k m b V U Q;rw[U,Q];split at h;rename_i L O;split at h;rename_i z M;obtain⟨Z,rfl⟩:=h;rw[EY] at Z;simp only[IE.den] at Z;cases I:zK ((aw3 n).map λj=>rO L l (j*L.ab.length)) with
 |none=>rw[I] at M;cases M
 |some ps=>
  rw[I] at M;simp only[ayV] at M;obtain⟨p,i,g⟩:=Tq (vs:=aw3 n) I (by have:=abo (f:=λj=>j) Z.1 Z.2;simpa using this);have N:P.underlying t=some (.array n e):=(X _ _ V).desc;rw[abn (qp R) M g];simp only[SV.den,Instr.index,asIntOf,Sem.run_bind,Sem.run_pure,Result.andThen_ok,cS.eF N,Z.1,Z.2,and_self,if_true,(X _ _ O).j7,Tl (X _ _ O) i]
 exact h.elim;exact h.elim;rename_i ab q r k m V U Q;rw[U,Q];split at h;rename_i d;obtain⟨Z,rfl⟩:=h;rw[EY] at Z;obtain⟨H,G⟩:=zW R d;unfold RE.den at G;have N:P.underlying t=some .string:=(X _ _ V).desc;simp only[IE.den,G,lenOf] at Z;have c:(m.den ρ).toNat<H.size:=by omega
 simp only[SV.den,RE.den,G,IE.den,Instr.index,asIntOf,Sem.run_bind,Sem.run_pure,Result.andThen_ok,cS.eF N,Z.1,if_true,zU];have:H[(m.den ρ).toNat]?=some H[(m.den ρ).toNat]:=by simp[c]
 rw[this];rfl;exact h.elim;exact h.elim
def al7(op:BinOp)(Z:Me op=true)(t:TypeId)(k:IntKind)(m n:Int):(binOp op t (.int k m) (.int k n)).run P W=.ok (.bool (ew op m n)) W:=by
 cases op<;>simp[Me] at Z<;>simp[binOp,Op.intCmp,ew]
def al8(op:BinOp)(Z:SH op=true)(t:TypeId)(k:IntKind)(m n:Int):(binOp op t (.int k m) (.int k n)).run P W=.ok (.int k (bh op k m n)) W:=by
 cases op<;>simp[SH] at Z<;>simp[binOp,Op.intArith,bh]
def abw(op:BinOp)(Z:SI op=true)(t:TypeId)(k:IntKind)(m n:Int)(X:n≠0):(binOp op t (.int k m) (.int k n)).run P W=.ok (.int k (bh op k m n)) W:=by
 cases op<;>simp[SI] at Z<;>simp[binOp,Op.intDiv,bh,X]
def abx(op:BinOp)(t:TypeId)(x y:Operand)(k:IntKind)(n:Int)(w:Value):(eqGuard op t x y (.int k n) w).run P W=.ok () W:=by cases op<;>rfl
def al9(op:BinOp)(t:TypeId)(x y:Operand)(n:Bool)(w:Value):(eqGuard op t x y (.bool n) w).run P W=.ok () W:=by cases op<;>rfl
def aby(op:BinOp)(t:TypeId)(x y:Operand)(n:ByteArray)(w:Value):(eqGuard op t x y (.string n) w).run P W=.ok () W:=by cases op<;>rfl
def abz{t:TypeId}(Z:P.underlying t=some .bool)(m n:Bool):(Op.equal t (.bool m) (.bool n)).run P W=.ok (m==n) W:=by
 have:Op.equal t (.bool m) (.bool n)=Op.equalIn (9999+1) t (.bool m) (.bool n):=rfl;rw[this,Op.equalIn,Sem.run_bind,cS.eF Z];rfl
def ama{t:TypeId}(Z:P.underlying t=some .bool)(m n:Bool):(binOp .eql t (.bool m) (.bool n)).run P W=.ok (.bool (m==n)) W:=by
 show((Op.equal t (.bool m) (.bool n))>>=λb=>(pure (.bool b):Sem Value)).run P W=_;rw[Sem.run_bind,abz Z];rfl
def amc{t:TypeId}(Z:P.underlying t=some .bool)(m n:Bool):(binOp .neq t (.bool m) (.bool n)).run P W=.ok (.bool !(m==n)) W:=by
 show((Op.equal t (.bool m) (.bool n))>>=λb=>(pure (.bool !b):Sem Value)).run P W=_;rw[Sem.run_bind,abz Z];rfl
def Ts(Z:fA P ty){t:TypeId}(h:Iz (ty t)=true):∃a b c,P.underlying t=some (.func a b c):=by
 unfold Iz at h;split at h;rename_i k q X;obtain⟨d,V,⟨-,U⟩,-,-⟩:=(Z _ _ X).desc;obtain⟨a,b,c,rfl⟩:=U k rfl;exact⟨a,b,c,V⟩;cases h
def Tt{t:TypeId}{x y:Operand}{X:_}{V:_}{U:_}(R:P.underlying t=some (.func X V U))(v:Value)(n:Bool)(Z:(v=.nilFunc/\n=true)\/(∃f a b,v=.func f a b)/\n=false):
  (do eqGuard .eql t x y v .nilFunc;binOp .eql t v .nilFunc).run P W=.ok (.bool n) W/\(do eqGuard .neq t x y v .nilFunc;binOp .neq t v .nilFunc).run P W=.ok (.bool !n) W:=by
 have Q:(Op.equal t v .nilFunc).run P W=.ok n W:=by
  have O:Op.equal t v .nilFunc=Op.equalIn (9999+1) t v .nilFunc:=rfl;rw[O,Op.equalIn,Sem.run_bind,cS.eF R,Result.andThen_ok];rcases Z with⟨rfl,rfl⟩|⟨⟨f,a,b,rfl⟩,rfl⟩<;>rfl
 rcases Z with⟨rfl,rfl⟩|⟨⟨f,a,b,rfl⟩,rfl⟩<;>constructor<;>simp[eqGuard,binOp,Q]
def abA{e:IE}:∀{ks:List Int}{vs:List SV},vs.all Es=true->ks.length=vs.length->
  (gO (e.den ρ) ks (SV.ap ρ β vs)=.nilFunc/\(xz e ks vs).den ρ=true)\/((∃f a b,gO (e.den ρ) ks (SV.ap ρ β vs)=.func f a b)/\(xz e ks vs).den ρ=false)
 |[],[],_,_=>.inl ⟨rfl,rfl⟩
 |[],_::_,_,h=>by simp at h
 |_::_,[],_,h=>by simp at h
 |k::ks,v::vs,X,R=>by
  simp only[ayF,awF] at X;have U:=abA (e:=e) (ks:=ks) (vs:=vs) X.2 (by simpa using R);have V:=X.1;unfold Es at V;split at V;rename_i g Q;simp only[SV.ap,SV.den,gO,xz,BE.den,ew,IE.den];by_cases Z:e.den ρ=k;right;simp[Z,fw];simp only[Z,if_false,beq_iff_eq];exact U;simp only[SV.ap,SV.den,gO,xz,BE.den,ew,IE.den];by_cases Z:e.den ρ=k;left;simp[Z,RE.den,RE.rv,fw];simp only[Z,if_false,beq_iff_eq];exact U;cases V
def amd(R:ao S0 w0 D ty β ρ s a W)(O:fA P ty)(z:dA gl ρ){o:Oper}{op:BinOp}{t t2:TypeId}{x y:Operand}(l:o.op=.binOp op t x y t2)(j:(s.ev gl x).cN=false)(i:(s.ev gl y).cN=false){v:SV}
  (h:(bq ty gl s (.binOp op t x y t2)).gives ρ v):(execOp a.eval o).run P W=.ok (.value (v.den ρ β)) W:=by
 have F:=bM R z x j;have g:=bM R z y i;simp only[execOp,l];rw[Sem.run_bind,F,g];simp only[bq] at h;split at h;rename_i k m c n Z X;rw[Z,X];split at h;rename_i b;have af:op=.shr:=by cases op<;>simp[aaW] at b;rfl
 subst af;split at h;rename_i n;split at h;rename_i U;have E:¬n<0:=by simp only[decide_eq_true_eq] at U;omega
 cases h;simp only[SV.den,I6,IE.den];rw[Sem.run_bind,abx,Result.andThen_ok];simp[binOp,Op.shift,bh,E];exact h.elim;exact h.elim;split at h;exact h.elim;rename_i ag;have an:k=c:=by simpa using ag
 subst an;simp only[SV.den];rw[Sem.run_bind,abx,Result.andThen_ok];split at h;rename_i H;cases h;simp only[al7 op H,Result.andThen_ok,Sem.run_pure,SV.den,xR];split at h;rename_i H;cases h;simp only[al8 op H,Result.andThen_ok,Sem.run_pure,SV.den,I6];split at h;rename_i H;split at h;rename_i n;split at h;exact h.elim;rename_i U;cases h;have E:n≠0:=by simpa using U
 simp only[SV.den,I6,IE.den];rw[abw op H _ _ _ _ E];rfl;obtain⟨G,rfl⟩:=h;rw[xR] at G;have E:n.den ρ≠0:=by simpa[ew,IE.den] using G
 simp only[SV.den,I6];rw[abw op H _ _ _ _ E];rfl;exact h.elim;rename_i m n Z X;rw[Z,X];simp only[SV.den];rw[Sem.run_bind,al9,Result.andThen_ok];split at h;rename_i q N;cases h;obtain⟨d,V,-,-,G⟩:=(O _ _ N).desc;rw[G rfl] at V;rw[ama V];simp[SV.den,Tn];rename_i q N;cases h;obtain⟨d,V,-,-,G⟩:=(O _ _ N).desc;rw[G rfl] at V;rw[amc V];simp[SV.den,Tn,I7];exact h.elim;rename_i Z X;rw[Z,X];split at h;exact h.elim;rename_i Q;obtain⟨w,u,r,V⟩:=Ts O (by simpa using Q);obtain⟨C,B⟩:=Tt (x:=x) (y:=y) (W:=W) V .nilFunc true (.inl ⟨rfl,rfl⟩);have U:SV.den ρ β (.ref (.k .nilFunc))=.nilFunc:=rfl;rw[U];split at h;cases h;rw[C];rfl;cases h;rw[B];rfl;exact h.elim;rename_i m n a2 Z X;rw[Z,X];split at h;rename_i M L;cases h;obtain⟨p,J⟩:=zW R M;obtain⟨q,I⟩:=zW R L;simp only[SV.den,J,I];rw[Sem.run_bind,aby,Result.andThen_ok];unfold RE.den at J I;simp[binOp,Op.stringOp,BE.den,J,I,ql];rename_i M L;cases h;obtain⟨p,J⟩:=zW R M;obtain⟨q,I⟩:=zW R L;simp only[SV.den,J,I];rw[Sem.run_bind,aby,Result.andThen_ok];unfold RE.den at J I;simp[binOp,Op.stringOp,BE.den,J,I,ql];exact h.elim;rename_i f a0 Z X;rw[Z,X];split at h;exact h.elim;rename_i Q;obtain⟨w,u,r,V⟩:=Ts O (by simpa using Q);obtain⟨C,B⟩:=Tt (x:=x) (y:=y) (W:=W) V ((SV.fn f a0).den ρ β) false (.inr ⟨⟨_,_,_,rfl⟩,rfl⟩);have U:SV.den ρ β (.ref (.k .nilFunc))=.nilFunc:=rfl;rw[U];split at h;cases h;rw[C];rfl;cases h;rw[B];rfl;exact h.elim;rename_i e ks vs Z X;rw[Z,X];split at h;rename_i Q;simp only[awF,beq_iff_eq] at Q;obtain⟨w,u,r,V⟩:=Ts O Q.2;have a1:=abA (ρ:=ρ) (β:=β) (e:=e) Q.1.1 Q.1.2;obtain⟨C,B⟩:=Tt (x:=x) (y:=y) (W:=W) V (gO (e.den ρ) ks (SV.ap ρ β vs)) ((xz e ks vs).den ρ) a1;have U:SV.den ρ β (.ref (.k .nilFunc))=.nilFunc:=rfl;rw[U,SV.den];split at h;cases h;rw[C];rfl;cases h;rw[B];simp[SV.den,I7];exact h.elim;exact h.elim;rename_i m n Z X;rw[Z,X];simp only[SV.den];split at h;rename_i e F;cases h;obtain⟨ab,d,N,M,L,A⟩:=abu R F;have:=((O _ _ N).eq rfl _ _ _ x y W M L A).1;rw[this];rfl;rename_i e F;cases h;obtain⟨ab,d,N,M,L,A⟩:=abu R F;have:=((O _ _ N).eq rfl _ _ _ x y W M L A).2;rw[this];simp[SV.den,I7];exact h.elim;exact h.elim
end
end
section
section
variable{S0:List Nat}{w0:World}{D:bw}{P:Program}{ty:Ty}{gl:List (Nat×Nat×Nat)}{β:List Nat}{ρ:aa}{s:S}{a:Act}{W:World}
def MU(Z:∀r:RE,r.BV=true->fw (r.den ρ)=true){v:SV}(h:v.BW=true):(v.den ρ β).cells.toList=SV.ap ρ β v.cells:=by
 cases v with
 |agg l=>simp[SV.den,SV.cells,Value.cells]
 |ref r=>
  have:fw (r.den ρ)=true:=Z r (by cases r<;>simp_all[SV.BW,RE.BV]);simp only[SV.den,SV.cells,SV.ap];revert this;cases r.den ρ<;>simp[fw,Value.cells]
 |dI e ks vs=>
  simp only[SV.den,SV.cells,SV.ap];exact alS (Tk _ _ _)
 |_=>simp[SV.den,SV.cells,Value.cells,SV.ap,undef]
def abB:∀(vs l:List SV)(off:Nat),SV.ap ρ β (iw l off vs)=(SV.ap ρ β vs).zipIdx.foldl (λcs x=>cs.set (off+x.2) x.1) (SV.ap ρ β l)
 |[],l,off=>by simp[iw,SV.ap]
 |v::vs,l,off=>by
  rw[iw,abB vs (l.set off v) (off+1)];simp only[SV.ap,List.zipIdx_cons,ax4,ax1,axf];rw[show SV.ap ρ β (l.set off v)=(SV.ap ρ β l).set off (v.den ρ β) by simp[lF]];generalize(SV.ap ρ β l).set off (v.den ρ β)=X;have:∀(Z:List Value)(n:Nat)(X:List Value),(Z.zipIdx n).foldl (λcs x=>cs.set (off+1+x.2) x.1) X=(Z.zipIdx (n+1)).foldl (λcs x=>cs.set (off+x.2) x.1) X:=by
   intro Z;induction Z with
   |nil=>intro n X;rfl
   |cons w Z V=>intro n X;simp only[List.zipIdx_cons,ax4];rw[V,show off+1+n=off+(n+1) by omega]
  exact this _ 0 X
def abC:∀(l:List (Value×Nat))(off:Nat)(X:Array Value),(l.foldl (λcs (x:Value×Nat)=>cs.setIfInBounds (off+x.2) x.1) X).toList=l.foldl (λcs x=>cs.set (off+x.2) x.1) X.toList
 |[],_,_=>rfl
 |x::l,off,X=>by simp only[ax4];rw[abC l off];simp
def I9(X:∀r:RE,r.BV=true->fw (r.den ρ)=true)(place:Nat->Option (Nat×Nat)):∀(parts:List (Nat×SV))(cells l:List SV),tM place cells parts=some l->
  Instr.fill place (SV.ap ρ β cells).toArray (parts.map λp=>(p.1,p.2.den ρ β))=some (SV.ap ρ β l).toArray
 |[],cells,l,h=>by simp[tM] at h;simp[Instr.fill,h]
 |(i,v)::rest,cells,l,h=>by
  simp only[tM] at h;cases Z:place i with
  |none=>rw[Z] at h;cases h
  |some q=>
   obtain⟨off,size⟩:=q;rw[Z] at h;simp only at h;split at h;cases h;rename_i V;simp only[aw9,bne_iff_ne,decide_eq_true_eq,awY,not_or,ax8,Decidable.not_not,Nat.not_lt] at V;obtain⟨⟨R,M⟩,Q⟩:=V;have U:=MU (β:=β) X Q;have O:(v.den ρ β).cells.size=size:=by rw[<-axP,U];simp[R]
   simp only[awT,Instr.fill,Z,O];rw[if_neg (by simp;omega)];have N:=I9 X place rest _ l h;rw[<-N];congr 1;apply axD;have e:((v.den ρ β).cells.zipIdx.foldl (λcs (x:Value×Nat)=>cs.setIfInBounds (off+x.2) x.1) (SV.ap ρ β cells).toArray).toList=SV.ap ρ β (iw cells off v.cells):=by
    rw[<-aAb,abC,abB,Array.toList_zipIdx,U]
   simpa using e
def ame(c:CT):(xw c).den ρ β=mQ c:=by cases c<;>simp[xw,SV.den,mQ,IE.den,BE.den,RE.den,RE.rv]
def abD(Z:TI):SV.ap ρ β (cq Z)=Z.ab.map mQ:=by
 simp only[cq,lF,axu];congr 1;funext c;exact ame c
def E3{t:TypeId}{Z:TI}(h:cS P t Z):∃z,(zeroValue t).run P W=.ok z W/\z.cells=(SV.ap ρ β (cq Z)).toArray:=by
 obtain⟨i,X,-,z,V,U⟩:=h.EX;exact⟨z,by simp[zeroValue,typeInfo,X,V],by rw[abD,<-U]⟩
def amf(R:ao S0 w0 D ty β ρ s a W)(X:fA P ty)(B:dA gl ρ){o:Oper}{t:TypeId}{parts:Array (Nat×Operand)}(A:o.op=.build t parts)(y:∀p∈parts.toList,(s.ev gl p.2).cN=false){v:SV}
  (h:(bq ty gl s (.build t parts)).gives ρ v):(execOp a.eval o).run P W=.ok (.value (v.den ρ β)) W:=by
 have H:(parts.map λ(i,x)=>(i,a.eval x)).toList=(parts.toList.map λp=>(p.1,s.ev gl p.2)).map λp=>(p.1,p.2.den ρ β):=by
  simp only[axq,axu];apply aw5;intro p w;simp[bM R B p.2 (y p w)]
 simp only[execOp,A,Sem.run_bind];simp only[bq] at h;split at h;rename_i Q ab q V;split at h;exact h.elim;rename_i N;have N:∀f∈Q,(ty f.2).isSome=true:=by
  have:(Q.all λf=>(ty f.2).isSome)=true:=by simpa only[awY,ax8] using N
  exact awU.1 this
 split at h;rename_i l Z;cases h;obtain⟨F,u,G⟩:=(X _ _ V).desc;obtain⟨z,M,J⟩:=E3 (P:=P) (W:=W) (ρ:=ρ) (β:=β) (X _ _ V);have r:∀(L:List Field),(∀f∈L,∃U,ty f.type=some U)->(L.mapM (m:=Sem) λf=>do pure (f.offset,<-Go.sizeOf f.type)).run P W=.ok (L.map λf=>(f.offset,((ty f.type).map (·.ab.length)).getD 0)) W:=by
  intro L E;induction L with
  |nil=>rfl
  |cons f L k=>
   obtain⟨U,O⟩:=E f (by simp);have:=k (λf Z=>E f (by simp[Z]));simp only[azV,Sem.run_bind,(X _ _ O).j7,Result.andThen_ok,Sem.run_pure,this,awT,O,awO,axi]
 have C:∀f∈F.toList,∃U,ty f.type=some U:=by
  intro f Z;have:(f.offset,f.type)∈Q:=by rw[<-G];exact aw7.2 ⟨f,Z,rfl⟩
  have:=N _ this;exact awZ.1 this
 have j:=r F.toList C;have I:=I9 (β:=β) (qp R) _ _ _ _ Z;simp only[Instr.build,Sem.run_bind,M,Result.andThen_ok,cS.eF u,azD,Sem.run_map,j,H,J];have g:(λi=>(F.toList.map λf=>(f.offset,((ty f.type).map (·.ab.length)).getD 0)).toArray[i]?)=SJ ty Q:=by
  funext i;rw[<-G,SJ];simp only[azg,awL];cases hi:F.toList[i]? with
  |none=>simp
  |some f=>
   obtain⟨U,O⟩:=C f (aw1 hi);simp[O]
 rw[g,I];simp[SV.den];exact h.elim;rename_i n e ab q V;split at h;rename_i b d;split at h;rename_i l Z;cases h;obtain⟨z,M,J⟩:=E3 (P:=P) (W:=W) (ρ:=ρ) (β:=β) (X _ _ V);have c:P.underlying t=some (.array n e):=(X _ _ V).desc;have I:=I9 (β:=β) (qp R) _ _ _ _ Z;simp only[Instr.build,Sem.run_bind,M,Result.andThen_ok,cS.eF c,(X _ _ d).j7,H,J,I];simp[SV.den];exact h.elim;exact h.elim;exact h.elim
def amg(R:ao S0 w0 D ty β ρ s a W)(X:fA P ty)(O:dA gl ρ){o:Oper}{t:TypeId}{x:Operand}{lo hi N:Option Operand}(I:o.op=.slice t x lo hi N)(H:(s.ev gl x).cN=false)(G:∀y,lo=some y->(s.ev gl y).cN=false){v:SV}
  (h:(bq ty gl s (.slice t x lo hi N)).gives ρ v):(execOp a.eval o).run P W=.ok (.value (v.den ρ β)) W:=by
 have F:=bM R O x H;simp only[execOp,I,Sem.run_bind,F];simp only[bq] at h;split at h;rename_i n e ab q i off E C;rw[C];have M:P.underlying t=some (.array n e):=(X _ _ E).desc;split at h;rename_i B V Z U;cases h;have A:lo=none:=by simpa using Z
 have Q:hi=none:=by simpa using U
 subst A Q;simp[SV.den,Instr.sliceAt,cS.eF M,Instr.sureAddr,Instr.sliceBounds,(X _ _ V).j7,sa];rename_i B k l V Z U;split at h;rename_i L;cases h;simp only[awF,decide_eq_true_eq] at L;have Q:hi=none:=by simpa using U
 subst Q;cases lo with
 |none=>cases Z
 |some y=>
  simp only[awO,awJ] at Z;have J:=bM R O y (G y rfl);rw[Z] at J;have z:l<=n:=by omega
  have w:¬n=l.toNat:=by omega
  simp[SV.den,IE.den,Instr.sliceAt,cS.eF M,Instr.sureAddr,Instr.sliceBounds,Instr.sliceBound,asIntOf,J,L.1,z,(X _ _ V).j7,sa,w]
 exact h.elim;exact h.elim;exact h.elim
def amh(R:ao S0 w0 D ty β ρ s a W)(M:fA P ty)(I:dA gl ρ){o:Oper}{c:Call}(H:o.op=.call c)(J:c.callee=.builtin .len)(G:∀x∈c.args.toList,(s.ev gl x).cN=false){v:SV}
  (h:(bq ty gl s (.call c)).gives ρ v):(execOp a.eval o).run P W=.ok (.value (v.den ρ β)) W:=by
 have F:c.args.map a.eval=((c.args.toList.map (s.ev gl)).map (SV.den ρ β)).toArray:=by
  apply axD;simp only[axq,axu];exact aw5 λx E=>bM R I x (G x E)
 simp only[execOp,H,resolve,J,Sem.run_bind,Sem.run_pure,Result.andThen_ok,invoke,builtin,F];simp only[bq,J] at h;split at h;rename_i t U Q;have V:c.argTypes[0]?=some t:=by have:=congrArg (λl=>l[0]?) U;simpa using this
 rw[Q];split at h;rename_i e ab q Z;cases h;have X:P.underlying t=some (.slice e):=(M _ _ Z).desc;simp[Builtin.len_,V,SV.den,IE.den,RE.den,RE.rv,cS.eF X,goInt];exact h.elim;rename_i t r C U Q;have V:c.argTypes[0]?=some t:=by have:=congrArg (λl=>l[0]?) U;simpa using this
 rw[Q];split at h;rename_i e ab q B Z L;cases h;have X:P.underlying t=some (.slice e):=(M _ _ Z).desc;obtain⟨A,l,z,O⟩:=I8 R L;have N:=O;unfold RE.den at N;simp[Builtin.len_,V,SV.den,IE.den,O,N,cS.eF X,lenOf,goInt];rename_i ab q Z L;cases h;have X:P.underlying t=some .string:=(M _ _ Z).desc;obtain⟨y,O⟩:=zW R L;have N:=O;unfold RE.den at N;simp[Builtin.len_,V,SV.den,IE.den,O,N,cS.eF X,lenOf,goInt];exact h.elim;rename_i t i off n cap U Q;have V:c.argTypes[0]?=some t:=by have:=congrArg (λl=>l[0]?) U;simpa using this
 rw[Q];split at h;rename_i e ab q Z;cases h;have X:P.underlying t=some (.slice e):=(M _ _ Z).desc;simp[Builtin.len_,V,SV.den,IE.den,cS.eF X,goInt];exact h.elim;exact h.elim
def abE(R:ao S0 w0 D ty β ρ s a W)(O:dA gl ρ){o:Oper}{c:Call}(U:o.op=.call c)(Z:c.callee=.builtin .min\/c.callee=.builtin .max)(N:∀x∈c.args.toList,(s.ev gl x).cN=false){v:SV}
  (h:(bq ty gl s (.call c)).gives ρ v):(execOp a.eval o).run P W=.ok (.value (v.den ρ β)) W:=by
 have Q:c.args.map a.eval=((c.args.toList.map (s.ev gl)).map (SV.den ρ β)).toArray:=by
  apply axD;simp only[axq,axu];exact aw5 λx M=>bM R O x (N x M)
 rcases Z with Z|Z;simp only[execOp,U,resolve,Z,Sem.run_bind,Sem.run_pure,Result.andThen_ok,invoke,builtin,Q];simp only[bq,Z] at h;split at h;rename_i k x l X;rw[X];split at h;rename_i e V;cases h;have:=To (P:=P) (W:=W) (ρ:=ρ) (β:=β) false k l x e V;simp only[aw0,if_false] at this;simp only[awT,SV.den,Builtin.min_,<-lF,this,Result.andThen_ok];exact h.elim;exact h.elim;simp only[execOp,U,resolve,Z,Sem.run_bind,Sem.run_pure,Result.andThen_ok,invoke,builtin,Q];simp only[bq,Z] at h;split at h;rename_i k x l X;rw[X];split at h;rename_i e V;cases h;have:=To (P:=P) (W:=W) (ρ:=ρ) (β:=β) true k l x e V;simp only[if_true] at this;simp only[awT,SV.den,Builtin.max_,<-lF,this,Result.andThen_ok];exact h.elim;exact h.elim
end
end
section
section
variable{S0:List Nat}{w0:World}{D:bw}{P:Program}{ty:Ty}{gl:List (Nat×Nat×Nat)}{β:List Nat}{ρ:aa}{s:S}{a:Act}{W:World}
def Tu{ag:Bool}{l:List Int}(h:ag=false->l.length=1):rZ (ee ag l)=l:=by
 cases ag;obtain⟨x,rfl⟩:=axb.1 (h rfl);rfl;simp[ee,rZ,Function.comp_def,ba]
def Tv{n:Nat}{ag:Bool}{kv:SV}{x y z:IE}(h:B3 n ag kv=some (x,y,z)):kv.den ρ β=ee ag ([x.den ρ,y.den ρ,z.den ρ].take n)/\([x.den ρ,y.den ρ,z.den ρ].take n).length=n:=by
 unfold B3 at h;split at h;split at h;rename_i Z;cases h;simp only[awF,beq_iff_eq,awY] at Z;obtain⟨rfl,rfl⟩:=Z;simp[ee,SV.den];cases h;split at h;rename_i Z;cases h;simp only[awF,beq_iff_eq] at Z;obtain⟨rfl,rfl⟩:=Z;simp[ee,SV.den,SV.ap];cases h;split at h;rename_i Z;cases h;simp only[awF,beq_iff_eq] at Z;obtain⟨rfl,rfl⟩:=Z;simp[ee,SV.den,SV.ap];cases h;split at h;rename_i Z;cases h;simp only[awF,beq_iff_eq] at Z;obtain⟨rfl,rfl⟩:=Z;simp[ee,SV.den,SV.ap];cases h;cases h
def Tw:∀{l:List (Value×Value)}{m:Nat}{e:MapEntry},e∈dS m l->∃p∈l,e.key=p.1
 |[],m,e,h=>by simp[dS] at h
 |x::r,m,e,h=>by
  simp only[dS,awP] at h;rcases h with rfl|h;exact⟨x,by simp,rfl⟩;obtain⟨p,Z,X⟩:=Tw h;exact⟨p,by simp[Z],X⟩
def zX(n:Nat)(row:List RV):Prop:=∃l:List Int,l.length=n/\row.take n=l.map λx=>.mk (.int .i64 x) []
def Ja{n:Nat}{ag:Bool}(V:ag=false->n=1){row:List RV}(h:zX n row):∃l:List Int,l.length=n/\mP ag (row.take n)=ee ag l/\(row.take n).map (λc=>ba c.val)=l:=by
 obtain⟨l,Z,X⟩:=h;refine⟨l,Z, ?_,by rw[X];simp[Function.comp_def,ba]⟩;rw[X];cases ag;obtain⟨x,rfl⟩:=axb.1 (Z.trans (V rfl));rfl;simp[mP,ee,Function.comp_def]
def abF{n:Nat}{ag va:Bool}(Z:ag=false->n=1){ks:List Int}(U:(ks.take n).length=n):∀{rows:List (List RV)}{m i:Nat},(∀row∈rows,zX n row)->
  (jo n ks rows=none/\kA (ks.take n) (dS m (rows.map (qm n ag va))) i=none)\/∃row j,jo n ks rows=some row/\row∈rows/\kA (ks.take n) (dS m (rows.map (qm n ag va))) i=some (j,mP va (row.drop n))
 |[],m,i,_=>.inl ⟨rfl,rfl⟩
 |row::rows,m,i,h=>by
  obtain⟨l,R,Q,O⟩:=Ja (ag:=ag) Z (h row (by simp));simp only[jo,azN,awT,dS,kA,qm,Q];rw[Tu (λe=>R.trans (Z e))];have N:iR n ks row=decide (l=ks.take n):=by simp only[iR,O]
  rw[N];by_cases V:l=ks.take n;right;simp only[V,decide_true,if_true];exact⟨row,i,rfl,by simp,rfl⟩;simp only[V,decide_false,if_false];rcases abF (rows:=rows) (m:=m+1) (i:=i+1) (va:=va) Z U (λr M=>h r (by simp[M])) with X|⟨r,j,X,L,J⟩;exact .inl X;exact .inr ⟨r,j,X,by simp[L],J⟩
def abG(ρ:aa)(β:List Nat){t k e:TypeId}{n:Nat}{ag:Bool}{U:TI}(R:P.underlying t=some (.map k e))(Q:pj P k n ag)(O:cS P e U){b:Nat}{l:List (Value×Value)}(N:W.heap[b]?=some (mf l)){L:List Int}(M:L.length=n)
  (J:∀p∈l,∃Z:List Int,Z.length=n/\p.1=ee ag Z)(X:Bool):
  ∃z,(zeroValue e).run P W=.ok z W/\(Instr.lookup t (.map (some b)) (ee ag L) X).run P W=.ok (let r:=match kA L (dS 0 l) 0 with
   |some (_,v)=>(v,true)
   |none=>(z,false);if X then .tuple #[r.1,.bool r.2] else r.1) W:=by
 obtain⟨z,V,u⟩:=E3 (P:=P) (W:=W) (ρ:=ρ) (β:=β) O;refine⟨z,V, ?_⟩;have I:∀x∈dS 0 l,∃Z:List Int,Z.length=n/\x.key=ee ag Z:=λx H=>by
  obtain⟨p,G,F⟩:=Tw H;obtain⟨Z,E,C⟩:=J p G;exact⟨Z,E,F.trans C⟩
 obtain⟨B,A⟩:=Q.2 L (dS 0 l) W M I;have y:=MapKept.run_getObj_map (P:=P) (w:=W) N;simp only[Instr.lookup,Sem.run_bind,cS.eF R,Result.andThen_ok,y,Sem.run_pure,B,A];cases q:kA L (dS 0 l) 0 with
 |none=>simp[V]
 |some p=>obtain⟨j,v⟩:=p;simp
structure Cu(ty:Ty)(sh:Sh)(row:List RV):Prop where
 len:row.length=(aW ty (.mr sh)).length
 int:∀(j:Nat)(c:RV)(k:IntKind),row[j]?=some c->(aW ty (.mr sh))[j]?=some (.int k)->∃n,c=.mk (.int k n) []
 bool:∀(j:Nat)(c:RV),row[j]?=some c->(aW ty (.mr sh))[j]?=some .bool->∃x,c=.mk (.bool x) []
def ami{Z:Sh}{rv:RV}(h:aT W ty (.mr Z) rv):∀row∈rv.rows,Cu ty Z row:=by
 cases h with
 |mr Z rows R hi Q N=>
  intro row O;obtain⟨i,X⟩:=axv O;exact⟨R i row X,λj c k V U=>hi i j row c k X V U,λj c V U=>Q i j row c X V U⟩
def Cv(R:ao S0 w0 D ty β ρ s a W){Z:Sh}{r:RE}(h:r.mI ty s Z=true):∀row∈(r.rv ρ).rows,Cu ty Z row:=by
 unfold RE.mI at h;rcases azs.1 h with h|h;exact ami (nz R (by simp) (of_decide_eq_true h));unfold RE.nil at h;split at h;intro row X;simp[RE.rv] at X;cases h
def E4{k e:TypeId}{n:Nat}{ag va:Bool}{V:TI}(Z:oe ty k n ag=true)(U:ty e=some V):∃X:List CT,aW ty (.mr ⟨k,e,n,ag,va⟩)=X++V.ab/\X.length=n/\∀c∈X,c=.int .i64:=by
 unfold oe at Z;split at Z;rename_i tk R;simp only[awF,beq_iff_eq] at Z;refine⟨tk.ab,by simp[aW,R,U],Z.1.1,λc Q=> ?_⟩;have:=awU.1 Z.1.2 c Q;unfold SL at this;split at this;rfl;cases this;cases Z
def E5{k e:TypeId}{n:Nat}{ag va:Bool}{U:TI}(R:oe ty k n ag=true)(Q:ty e=some U){row:List RV}(h:Cu ty ⟨k,e,n,ag,va⟩ row):zX n row:=by
 obtain⟨I,Z,O,N⟩:=E4 (va:=va) R Q;have M:=h.len;rw[Z,awQ,O] at M;refine⟨(row.take n).map λc=>ba c.val,by simp;omega, ?_⟩;apply axd;intro j;rw[awL,awL,axc];by_cases X:j<n;rw[if_pos X];have V:j<row.length:=by omega
 rw[awH V];have L:(aW ty (.mr ⟨k,e,n,ag,va⟩))[j]?=some (.int .i64):=by
  rw[Z,awI (by omega),awH (by omega)];congr 1;exact N _ (ax6 _)
 obtain⟨x,J⟩:=h.int j _ .i64 (awH V) L;simp only[awO,J,RV.jZ,ba];rw[if_neg X];rfl
def Tx{r:RE}{n:Nat}{x y z:IE}{row:List RV}(R:jo n [x.den ρ,y.den ρ,z.den ρ] (r.rv ρ).rows=some row):∀{ab:List CT}{j:Nat},ab.all jH=true->row.length=j+ab.length->
  (∀(i:Nat)(k:IntKind),ab[i]?=some (.int k)->∃m,row[j+i]?=some (.mk (.int k m) []))->(∀(i:Nat),ab[i]?=some .bool->∃m,row[j+i]?=some (.mk (.bool m) []))->
  SV.ap ρ β (mJ r n x y z j ab)=(row.drop j).map RV.val
 |[],j,_,X,_,_=>by rw[ay9 (by simp at X;omega)];rfl
 |.int k::ab,j,V,X,hi,Q=>by
  obtain⟨m,Z⟩:=hi 0 k rfl;have O:=Tx R (ab:=ab) (j:=j+1) (by simpa[jH] using V) (by simp at X⊢;omega) (λi k h=>by have:=hi (i+1) k (by simpa using h);rwa [show j+(i+1)=j+1+i by omega] at this) (λi h=>by have:=Q (i+1) (by simpa using h);rwa [show j+(i+1)=j+1+i by omega] at this);have N:row.drop j=.mk (.int k m) []::row.drop (j+1):=by
   rw[ax1] at Z;have U:=(awG.1 Z).1;rw[axE U];congr 1;rw[awH U] at Z;simpa using Z
  rw[ax1] at Z;simp only[mJ,SV.ap,SV.den,IE.den,R,O,N,awT,RV.jZ,awK,Z,axi,ba]
 |.bool::ab,j,V,X,hi,Q=>by
  obtain⟨m,Z⟩:=Q 0 rfl;have O:=Tx R (ab:=ab) (j:=j+1) (by simpa[jH] using V) (by simp at X⊢;omega) (λi k h=>by have:=hi (i+1) k (by simpa using h);rwa [show j+(i+1)=j+1+i by omega] at this) (λi h=>by have:=Q (i+1) (by simpa using h);rwa [show j+(i+1)=j+1+i by omega] at this);have N:row.drop j=.mk (.bool m) []::row.drop (j+1):=by
   rw[ax1] at Z;have U:=(awG.1 Z).1;rw[axE U];congr 1;rw[awH U] at Z;simpa using Z
  rw[ax1] at Z;simp only[mJ,SV.ap,SV.den,BE.den,R,O,N,awT,RV.jZ,awK,Z,axi,jm]
 |.ar _ _::ab,j,V,_,_,_=>by simp[jH] at V
def Tz{r:RE}{n:Nat}{x y z:IE}(X:jo n [x.den ρ,y.den ρ,z.den ρ] (r.rv ρ).rows=none):∀{ab:List CT}{j:Nat},ab.all jH=true->SV.ap ρ β (mJ r n x y z j ab)=ab.map mQ
 |[],j,_=>rfl
 |.int k::ab,j,Z=>by
  simp only[mJ,SV.ap,SV.den,IE.den,X,awT,mQ,Tz X (ab:=ab) (j:=j+1) (by simpa[jH] using Z)]
 |.bool::ab,j,Z=>by
  simp only[mJ,SV.ap,SV.den,BE.den,X,awT,mQ,Tz X (ab:=ab) (j:=j+1) (by simpa[jH] using Z)]
 |.ar _ _::ab,j,Z=>by simp[jH] at Z
def MV{r:RE}{n:Nat}{x y z:IE}:∀{ab:List CT}{j:Nat},(mJ r n x y z j ab).length=ab.length
 |[],j=>rfl
 |.int _::ab,j=>by simp[mJ,MV (ab:=ab)]
 |.bool::ab,j=>by simp[mJ,MV (ab:=ab)]
 |.ar _ _::ab,j=>by simp[mJ,MV (ab:=ab)]
def TA{e:TypeId}{Z:TI}(h:cS P e Z){z:Value}(X:(zeroValue e).run P W=.ok z W):z=if Z.d.isAgg then .agg (Z.ab.map mQ).toArray else(Z.ab.map mQ).headD undef:=by
 obtain⟨i,V,-,R,U,Q⟩:=h.EX;have O:z=R:=by simp[zeroValue,typeInfo,V,U] at X;exact X.symm
 subst O;have N:=h.abj i z V U;rw[<-N,<-Q];cases z<;>simp[MM,Value.cells]
def vR{e:TypeId}{Z:TI}(h:cS P e Z)(V:Z.d.isAgg=false):Z.ab.length=1:=by
 obtain⟨i,U,O,z,R,Q⟩:=h.EX;have:=h.abj i z U R;rw[V] at this;have X:=congrArg ayW Q;simp only[axB] at X;rw[<-X];cases z<;>simp[MM] at this<;>rfl
def E6:∀{cs:List SV}{ks:List Int},mK cs=some ks->xO (SV.ap ρ β cs)=(ks.zip (jf cs)).map (λp=>(.int .i64 p.1,p.2.den ρ β))/\ks.length=(jf cs).length
 |[],ks,h=>by simp[mK] at h;subst h;exact⟨rfl,rfl⟩
 |[v],ks,h=>by unfold mK at h;split at h<;>simp_all
 |u::v::r,ks,h=>by
  unfold mK at h;split at h;rename_i Z;cases Z;rename_i k R Q Z;cases Z;cases X:mK r with
  |none=>rw[X] at h;cases h
  |some O=>
   rw[X] at h;simp only[awO,awJ] at h;subst h;obtain⟨V,U⟩:=E6 X;exact⟨by simp only[SV.ap,SV.den,IE.den,xO,V,jf,ayH,awT],by simp[jf,U]⟩
  cases h
def abH{x:Int}:∀{ks:List Int}{vs:List SV}{m i:Nat},(kA [x] (dS m ((ks.zip vs).map λp=>(.int .i64 p.1,p.2.den ρ β))) i).map (·.2)=(cJ x ks vs).map (SV.den ρ β)
 |[],vs,m,i=>by simp[dS,kA,cJ]
 |_::_,[],m,i=>by simp[dS,kA,cJ]
 |k::ks,v::vs,m,i=>by
  simp only[ayH,awT,dS,kA,rZ,axH,and_true,cJ];by_cases h:x=k;subst h;simp;rw[if_neg (λe=>h e.symm),if_neg h];exact abH
def zY{r:RE}{n:Nat}{ag va:Bool}:jN qc (SV.b9 ρ β [.ref r,.int .i64 (.c (n:Int)),.bool (.c ag),.bool (.c va)])=mf ((r.rv ρ).rows.map (qm n ag va)):=by
 simp[jN,qc,oX,SV.b9,SV.eE,SV.den,IE.den,BE.den]
def zZ{cs:List SV}:jN oX (SV.b9 ρ β cs)=mf (xO (SV.ap ρ β cs)):=by
 simp only[jN,if_true,abh]
def amj(R:ao S0 w0 D ty β ρ s a W)(an:fA P ty)(hg:dA gl ρ){o:Oper}{t:TypeId}{x ix:Operand}{M:Bool}(ho:o.op=.lookup t x ix M)(hk:(s.ev gl x).cN=false)(bf:(s.ev gl ix).cN=false){v:SV}
  (h:(bq ty gl s (.lookup t x ix M)).gives ρ v):(execOp a.eval o).run P W=.ok (.value (v.den ρ β)) W:=by
 have he:=bM R hg x hk;have bk:=bM R hg ix bf;simp only[execOp,ho,Sem.run_bind,he,bk];simp only[bq] at h;split at h;rename_i k e n ag ab q i ht hx;rw[hx];have hd:P.underlying t=some (.map k e):=(an _ _ ht).desc;have g:pj P k n ag:=(an _ _ ht).key k e n ag rfl;unfold Mh at h;split at h;rename_i Z V xb f bt cs g1 g2 g3;have Q:=an _ _ g1;split at h;exact h.elim;rename_i b;have b:oe ty k n ag=true:=by simpa using b
 obtain⟨br,a0⟩:=Tv (ρ:=ρ) (β:=β) g2;have G:=R.mem.box i bt cs g3;simp only[SV.den,br];split at h;rename_i cL;simp only[beq_iff_eq] at cL;subst cL;split at h;rename_i r nk ka va;split at h;rename_i a5;simp only[awF,beq_iff_eq] at a5;obtain⟨⟨⟨⟨⟨c1,c2⟩,c3⟩,c4⟩,c5⟩,-⟩:=a5;subst c2 c3 c4;rw[zY] at G;have a6:=Cv R c1;have a7:∀row∈(r.rv ρ).rows,zX n row:=λrow hr=>E5 b g1 (a6 row hr)
 obtain⟨z,hz,a1⟩:=abG ρ β hd g Q G a0 (λp L=>by
  obtain⟨row,hr,rfl⟩:=aw7.1 L;obtain⟨l,J,F,-⟩:=Ja g.1 (a7 row hr);exact⟨l,J,F⟩) M
 rw[a1];simp only[Mg,PR.gives] at h;subst h;have af:Z.d.isAgg=false->(mJ r n V xb f n Z.ab).length=1:=λE=>by rw[MV];exact vR Q E
 rcases abF (m:=0) (i:=0) (va:=Z.d.isAgg) g.1 a0 a7 with⟨C,f2⟩|⟨row,j,C,f2,f3⟩;have B:(od Z.d.isAgg (mJ r n V xb f n Z.ab)).den ρ β=z:=by
  rw[xS af,Tz C c5];exact(TA Q hz).symm
 simp only[f2];cases M;simp only[aw0,if_false,B];rfl;simp only[if_true,SV.den,SV.ap,B,BE.den,C];rfl;obtain⟨kc,r1,r2,r3⟩:=E4 (va:=Z.d.isAgg) b g1;have a2:=a6 row f2;have bs:row.length=n+Z.ab.length:=by rw[a2.len,r1,awQ,r2]
 have a8:∀(m:Nat)(H:CT),Z.ab[m]?=some H->(aW ty (.mr ⟨k,e,n,_,Z.d.isAgg⟩))[n+m]?=some H:=λm H O=>by
  rw[r1,awM (by omega),r2,show n+m-n=m by omega];exact O
 have a9:∀(m:Nat)(H:CT),Z.ab[m]?=some H->∃c,row[n+m]?=some c:=λm H O=>by
  have:m<Z.ab.length:=(awG.1 O).1;exact⟨row[n+m]'(by omega),awH _⟩
 have bx:=Tx (β:=β) C (ab:=Z.ab) (j:=n) c5 bs (λm kk O=>by
  obtain⟨c,I⟩:=a9 m _ O;obtain⟨x',a3⟩:=a2.int (n+m) c kk I (a8 m _ O);exact⟨x',by rw[I,a3]⟩) (λm O=>by
  obtain⟨c,I⟩:=a9 m _ O;obtain⟨x',a3⟩:=a2.bool (n+m) c I (a8 m _ O);exact⟨x',by rw[I,a3]⟩)
 have B:(od Z.d.isAgg (mJ r n V xb f n Z.ab)).den ρ β=mP Z.d.isAgg (row.drop n):=by
  rw[xS af,bx,mP];cases b0:Z.d.isAgg;have h1:=vR Q b0;obtain⟨c,I⟩:=axb.1 (show(row.drop n).length=1 by simp;omega);rw[I];rfl;rfl
 simp only[f3];cases M;simp only[aw0,if_false,B];rfl;simp only[if_true,SV.den,SV.ap,B,BE.den,C];rfl;exact h.elim;exact h.elim;split at h;rename_i cL;simp only[beq_iff_eq] at cL;subst cL;split at h;rename_i bb;simp only[awF,beq_iff_eq,awY] at bb;obtain⟨rfl,rfl⟩:=bb;rw[zZ] at G;split at h;rename_i v0 y X;simp only[Mg,PR.gives] at h;subst h;unfold aaX at X;split at X;rename_i ks b1;obtain⟨p1,p2⟩:=E6 (ρ:=ρ) (β:=β) b1;rw[p1] at G;obtain⟨z,hz,a1⟩:=abG ρ β hd g Q G a0 (λp L=>by
  obtain⟨u,U,rfl⟩:=aw7.1 L;exact⟨[u.1],rfl,rfl⟩) M
 rw[a1];have N:=abH (ρ:=ρ) (β:=β) (x:=V.den ρ) (ks:=ks) (vs:=jf cs) (m:=0) (i:=0);have key:(∀u,cJ (V.den ρ) ks (jf cs)=some u->v0.den ρ β=u.den ρ β/\y.den ρ=true)/\(cJ (V.den ρ) ks (jf cs)=none->v0.den ρ β=z/\y.den ρ=false):=by
  split at X;rename_i x0;simp only[IE.den] at*;split at X;rename_i u U;cases X;exact⟨λu' A=>by rw[U] at A;cases A;exact⟨rfl,rfl⟩,λhn=>by rw[U] at hn;cases hn⟩;rename_i U;cases X;refine⟨λu' A=>(by rw[U] at A;cases A),λ_=>⟨?_,rfl⟩⟩;rw[xS (λE=>by simp[cq];exact vR Q E),abD];exact(TA Q hz).symm;rename_i b4;split at X;rename_i b2;cases a4:xA V ks ((jf cs).map SV.cells) 0 Z.ab with
  |none=>rw[a4] at X;cases X
  |some l=>
   rw[a4] at X;simp only[awO,awJ,ayl] at X;obtain⟨rfl,rfl⟩:=X;obtain⟨s0,s1,s2⟩:=MP (ρ:=ρ) (β:=β) a4;rw[MO] at s1 s2;have af:Z.d.isAgg=false->l.length=1:=λE=>by rw[s0];exact vR Q E
   rw[xS af,MQ p2];refine⟨λu U=> ?_,λU=> ?_⟩;have bd:=awU.1 b2 u (EZ U);have b3:u.cells.length=0+Z.ab.length:=by
    simp only[vA,awF,beq_iff_eq] at bd;omega
   rw[s1 u.cells (by rw[U];rfl) b3,U,MS (qp R) bd];exact⟨rfl,rfl⟩;rw[s2 (by rw[U];rfl),U];exact⟨(TA Q hz).symm,rfl⟩
  cases X
 have hL:[V.den ρ,xb.den ρ,f.den ρ].take 1=[V.den ρ]:=rfl;rw[hL] at*;cases L:cJ (V.den ρ) ks (jf cs) with
 |some u=>
  rw[L] at N;obtain⟨J,F⟩:=key.1 u L;cases hf:kA [V.den ρ] (dS 0 ((ks.zip (jf cs)).map λp=>(.int .i64 p.1,p.2.den ρ β))) 0 with
  |none=>rw[hf] at N;cases N
  |some jv=>
   obtain⟨j,w⟩:=jv;rw[hf] at N;simp only[awO,awJ] at N;subst N;cases M;simp only[aw0,if_false,J];rfl;simp only[if_true,SV.den,SV.ap,J,F];rfl
 |none=>
  rw[L] at N;obtain⟨J,F⟩:=key.2 L;cases hf:kA [V.den ρ] (dS 0 ((ks.zip (jf cs)).map λp=>(.int .i64 p.1,p.2.den ρ β))) 0 with
  |some jv=>rw[hf] at N;cases N
  |none=>
   cases M;simp only[aw0,if_false,J];rfl;simp only[if_true,SV.den,SV.ap,J,F];rfl
 cases X;exact h.elim;exact h.elim;exact h.elim;exact h.elim;exact h.elim
end
end
section
section
variable{S0:List Nat}{w0:World}{D:bw}{P:Program}{ty:Ty}{gl:List (Nat×Nat×Nat)}{β:List Nat}{ρ:aa}{s:S}{a:Act}{W:World}
def abI(R:ao S0 w0 D ty β ρ s a W)(O:fA P ty)(V:dA gl ρ)(o:Oper)(X:∀x∈o.op.operands.toList,(s.ev gl x).cN=false){v:SV}
  (h:(bq ty gl s o.op).gives ρ v):(execOp a.eval o).run P W=.ok (.value (v.den ρ β)) W:=by
 cases Z:o.op with
 |move x=>
  rw[Z] at h X;have Q:=bM R V x (X x (by simp[Op.operands]));simp only[bq,PR.gives] at h;simp[execOp,Z,Q,h]
 |assign x=>
  rw[Z] at h X;have Q:=bM R V x (X x (by simp[Op.operands]));simp only[bq,PR.gives] at h;simp[execOp,Z,Q,h]
 |pick c x y=>
  rw[Z] at h X;have N:=bM R V c (X c (by simp[Op.operands]));have U:=bM R V x (X x (by simp[Op.operands]));have H:=bM R V y (X y (by simp[Op.operands]));simp only[bq] at h;split at h;rename_i C;cases h;rw[C] at N;simp[execOp,Z,N,U,SV.den,BE.den,asBool];rename_i C;cases h;rw[C] at N;simp[execOp,Z,N,H,SV.den,BE.den,asBool];exact h.elim
 |load t x=>rw[Z] at h X;exact al2 R O V Z (X x (by simp[Op.operands])) h
 |fieldAddr t x f=>rw[Z] at h X;exact al3 R O V Z (X x (by simp[Op.operands])) h
 |field t x f=>rw[Z] at h X;exact al4 R O V Z (X x (by simp[Op.operands])) h
 |indexAddr t x y=>rw[Z] at h X;exact al5 R O V Z (X x (by simp[Op.operands])) (X y (by simp[Op.operands])) h
 |index t x y=>rw[Z] at h X;exact al6 R O V Z (X x (by simp[Op.operands])) (X y (by simp[Op.operands])) h
 |binOp op t x y t2=>rw[Z] at h X;exact amd R O V Z (X x (by simp[Op.operands])) (X y (by simp[Op.operands])) h
 |unOp op t x=>
  rw[Z] at h X;have Q:=bM R V x (X x (by simp[Op.operands]));simp only[bq] at h;split at h;rename_i b U;cases h;simp[execOp,Z,Q,U,SV.den,Op.unary,I7];rename_i k e U;cases h;simp[execOp,Z,Q,U,SV.den,Op.unary,Op.intArith,I6,bh,IE.den];exact h.elim
 |convert t1 t2 x=>
  rw[Z] at h X;have Q:=bM R V x (X x (by simp[Op.operands]));simp only[bq] at h;split at h;rename_i j g k2 q2 k n L J U;cases h;obtain⟨d1,G,-,B,-⟩:=(O _ _ L).desc;obtain⟨d2,E,-,A,-⟩:=(O _ _ J).desc;rw[B _ rfl] at G;rw[A _ rfl] at E;simp[execOp,Z,Q,U,SV.den,convert,cS.eF G,cS.eF E,Conv.intToInt,IE.den];rename_i j g k2 q2 k n hn L J U;cases h;obtain⟨d1,G,-,B,-⟩:=(O _ _ L).desc;obtain⟨d2,E,-,A,-⟩:=(O _ _ J).desc;rw[B _ rfl] at G;rw[A _ rfl] at E;simp[execOp,Z,Q,U,SV.den,convert,cS.eF G,cS.eF E,Conv.intToInt,IE.den];exact h.elim
 |makeInterface t x=>
  rw[Z] at h X;have Q:=bM R V x (X x (by simp[Op.operands]));simp only[bq] at h;split at h;exact h.elim;rename_i ti af ht;cases h;have I:=(O _ _ ht).desc;have key:∀d,P.underlying t=some d->(∀m,d≠ .interface m)->(Instr.makeInterface t (a.eval x)).run P W=.ok (.iface t (a.eval x)) W:=by
   intro d L J;simp only[Instr.makeInterface,Sem.run_bind,cS.eF L,Result.andThen_ok];cases d<;>first|rfl|exact absurd rfl (J _)
  have:(Instr.makeInterface t (a.eval x)).run P W=.ok (.iface t (a.eval x)) W:=by
   obtain⟨d,ab,q⟩:=ti;cases d with
   |one=>obtain⟨d,L,⟨J,-⟩,-⟩:=I;exact key d L (λm M=>by rw[M] at J;exact J)
   |dH=>exact absurd rfl (af _ _)
   |str=>exact key _ I (λm M=>by cases M)
   |slice e=>exact key _ I (λm M=>by cases M)
   |arr n e=>exact key _ I (λm M=>by cases M)
   |struct fs=>obtain⟨F,L,-⟩:=I;exact key _ L (λm M=>by cases M)
   |map k e=>exact key _ I (λm M=>by cases M)
  rw[Q] at this;simp[execOp,Z,Q,this,SV.den];exact h.elim
 |makeFunc fn first u=>
  rw[Z] at h X;simp only[bq] at h;split at h;rename_i f hf;cases h;have ag:first= #[]:=by apply axD;simpa using hf
  subst ag;have an:u.map a.eval=(SV.ap ρ β (u.toList.map (s.ev gl))).toArray:=by
   apply axD;simp only[axq,lF,axu];exact aw5 λx U=>bM R V x (X x (by simp[Op.operands];simpa using U))
  simp[execOp,Z,Instr.makeFunc,SV.den,an];exact h.elim
 |extract x i=>
  rw[Z] at h X;have Q:=bM R V x (X x (by simp[Op.operands]));simp only[bq] at h;split at h;rename_i l U;split at h;rename_i y H;simp only[PR.gives] at h;subst h;have:(SV.ap ρ β l).toArray[i]?=some (v.den ρ β):=by simp[ou,H]
  simp[execOp,Z,Q,U,SV.den,Instr.extract,this,-azg];exact h.elim;exact h.elim
 |nilCheck x=>
  rw[Z] at h X;have Q:=bM R V x (X x (by simp[Op.operands]));simp only[bq] at h;split at h;rename_i i off U;cases h;simp[execOp,Z,Q,U,SV.den];rename_i r w i off U;cases h;simp[execOp,Z,Q,U,SV.den];rename_i f l U;cases h;simp[execOp,Z,Q,U,SV.den];exact h.elim
 |slice t x lo hi mx=>
  rw[Z] at h X;exact amg R O V Z (X x (by simp[Op.operands])) (λy H=>X y (by subst H;simp[Op.operands])) h
 |build t parts=>
  rw[Z] at h X;exact amf R O V Z (λp hp=>X p.2 (by simp[Op.operands];exact⟨p.1,by simpa using hp⟩)) h
 |lookup t x ix ok=>
  rw[Z] at h X;exact amj R O V Z (X x (by simp[Op.operands])) (X ix (by simp[Op.operands])) h
 |call c=>
  rw[Z] at h X;have z:∀x∈c.args.toList,(s.ev gl x).cN=false:=λx U=>X x (by simp[Op.operands,Call.operands];exact .inr (by simpa using U))
  cases N:c.callee with
  |builtin b=>
   cases b with
   |len=>exact amh R O V Z N z h
   |min=>exact abE R V Z (.inl N) z h
   |max=>exact abE R V Z (.inr N) z h
   |_=>simp only[bq,N,PR.gives] at h
  |value f=>simp only[bq,N,PR.gives] at h
  |invoke r m=>simp only[bq,N,PR.gives] at h
 |_=>rw[Z] at h;simp only[bq,PR.gives] at h
end
end
section
section
variable{S0:List Nat}{w0:World}{D:bw}{P:Program}{ty:Ty}{gl:List (Nat×Nat×Nat)}{β:List Nat}{ρ:aa}{s:S}{a:Act}{W:World}
def vS{W:World}{b:Nat}{o:Obj}(h:W.heap[b]?=some o):b<W.heap.size:=(aw6.1 h).1
def cF.world{pd:List kO}{y:List Nat}{Z:List Deferred}{W W':World}(h:cF w0 D pd y Z W)(X:∀(b:Nat)(o:Obj),W.heap[b]?=some o->(∀cs t fr,o≠ .cells cs t fr)->W'.heap[b]?=some o):cF w0 D pd y Z W':=
 ⟨h.len,h.ov,λn l r U R Q=>let⟨a,b,c⟩:=h.cC n l r U R Q;⟨a,X _ _ b (λ_ _ _ h=>by cases h),c⟩,h.inj,let⟨ms,a,O,b,c⟩:=h.j6;⟨ms,a,O,b,λd V=>⟨X _ _ (c d V).1 (λ_ _ _ h=>by cases h),(c d V).2⟩⟩⟩
def E7:Obj->Bool
 |.loop _|.deferred _=>true
 |_=>false
def abJ{o:Obj}(h:E7 o=true):∀cs t fr,o≠ .cells cs t fr:=λcs t fr e=>by subst e;cases h
def abK{o:Obj}(h:E7 o=true):∀t l,o≠jN t l:=by
 intro t l e;subst e;unfold jN at h;split at h;cases h;split at h;split at h<;>cases h;split at h;split at h<;>cases h;cases h
def cF.amk{pd:List kO}{y:List Nat}{Z:List Deferred}{W W':World}(h:cF w0 D pd y Z W)(X:∀(b:Nat)(o:Obj),W.heap[b]?=some o->E7 o=true->W'.heap[b]?=some o):cF w0 D pd y Z W':=
 ⟨h.len,h.ov,λn l r U R Q=>let⟨a,b,c⟩:=h.cC n l r U R Q;⟨a,X _ _ b rfl,c⟩,h.inj,let⟨ms,a,O,b,c⟩:=h.j6;⟨ms,a,O,b,λd V=>⟨X _ _ (c d V).1 rfl,(c d V).2⟩⟩⟩
def cF.below{pd:List kO}{y:List Nat}{Z:List Deferred}{W W':World}(h:cF w0 D pd y Z W)(V:Below W.heap.size W W'):cF w0 D pd y Z W':=
 h.world λb o X _=>(V.block b (vS X)).trans X
def cF.cells{pd:List kO}{y:List Nat}{X:List Deferred}{W W':World}(h:cF w0 D pd y X W){k:Nat}{cs:Array Value}{t:TypeId}{fr:Nat×Nat}(V:W.heap[k]?=some (.cells cs t fr))(U:∀b,b≠k->b<W.heap.size->W'.heap[b]?=W.heap[b]?):cF w0 D pd y X W':=
 h.world λb o Z R=>(U b (λe=>by subst e;rw[V] at Z;cases Z;exact R _ _ _ rfl) (vS Z)).trans Z
def aT.E8{W W':World}{k:RK}{rv:RV}(h:aT W ty k rv)(R:∀b,cn ty k rv b->W'.heap[b]?=W.heap[b]?)(r:W.heap.size<=W'.heap.size):aT W' ty k rv:=by
 induction h with
 |sl e A X cap rows Q O N hi F q M=>
  refine aT.sl e A X cap rows Q O (λi row Z=> ?_) hi F (λi j row c z I Z V H=>M i j row c z I Z V H (λb L=>R b (cn.deep e _ _ i j row c z I b Z V H L)));obtain⟨E,b,off,rfl,⟨C,t0,B,y⟩,x⟩:=N i row Z;have p:0<X:=by have:=(awG.1 Z).1;omega
  obtain⟨J,rfl⟩:∃J,X=J+1:=⟨X-1,by omega⟩;have U:=R b (cn.here e ⟨b,off,none⟩ J cap rows);refine⟨E,b,off,rfl,⟨C,t0,B,U.trans y⟩,λj c V=> ?_⟩;have G:=x j c V;simp only[World.cell?,U] at G⊢;exact G
 |str s=>exact aT.str s
 |ar v w=>exact aT.ar v w
 |own e rv h u M=>exact aT.own e rv (M λb L=>R b (cn.own e rv b L)) u
 |dead rv h=>exact aT.dead rv h
 |mr t rows Q O N U=>exact aT.mr t rows Q O N U
def aT.lt{W:World}{k:RK}{rv:RV}{b:Nat}(h:aT W ty k rv)(Z:cn ty k rv b):b<W.heap.size:=by
 induction h generalizing b with
 |sl e A J cap rows I H V hi G F X=>
  cases Z with
  |here e a l c rows=>
   have U:0<rows.length:=by omega
   obtain⟨-,b,off,R,⟨_,_,_,Q⟩,-⟩:=V 0 _ (awH U);cases R;exact vS Q
  |deep e v rows i j row c z k b O N M L=>exact X i j row c z k O N M L
 |str s=>cases Z
 |ar v E=>cases Z
 |own e rv h C X=>cases Z with
  |own e rv b Z=>exact X Z
 |dead rv h=>cases Z
 |mr B rows=>cases Z
def aT.grow{W W':World}{k:RK}{rv:RV}(h:aT W ty k rv)(N:Below W.heap.size W W'):aT W' ty k rv:=by
 induction h with
 |sl e A M cap rows Z X V hi L x U=>
  refine aT.sl e A M cap rows Z X (λi row J=> ?_) hi L U;obtain⟨I,b,off,rfl,⟨H,t0,G,R⟩,F⟩:=V i row J;have Q:=N.block b (vS R);refine⟨I,b,off,rfl,⟨H,t0,G,Q.trans R⟩,λj c E=> ?_⟩;have O:=F j c E;simp only[World.cell?,Q] at O⊢;exact O
 |str s=>exact aT.str s
 |ar v C=>exact aT.ar v C
 |own e rv h B U=>exact aT.own e rv U B
 |dead rv h=>exact aT.dead rv h
 |mr z rows Z X V y=>exact aT.mr z rows Z X V y
def gP.lt{bx:aX}{rs:List RK}(R:gP S0 w0 β ρ bx ty rs W){i:Nat}(h:aA bx i=true):ad β i<W.heap.size:=by
 unfold aA at h;obtain⟨⟨t,cs⟩,Z⟩:=awZ.1 h;exact(aw6.1 (R.box i t cs Z)).1
def gP.below{bx:aX}{rs:List RK}{W':World}(R:gP S0 w0 β ρ bx ty rs W)(Z:Below W.heap.size W W'):gP S0 w0 β ρ bx ty rs W':=by
 refine⟨R.base.call Z,R.own,R.inj,λi t cs h=> ?_,λk e rv X V=> ?_⟩;rw[Z.block _ (R.lt (by simp[aA,h]))];exact R.box i t cs h;obtain⟨U,Q⟩:=R.ref k e rv X V;exact⟨U.grow Z,Q⟩
def tW.lt{bx:aX}{rs:List RK}{k:Nat}{e:TypeId}{rv:RV}{b:Nat}(h:tW S0 w0 β ρ bx ty rs W k e rv b):b<W.heap.size:=by
 obtain⟨X,cap,V,-,Z,-⟩:=h.mem;exact(aw6.1 Z).1
def tW.world{bx:aX}{rs:List RK}{k:Nat}{e:TypeId}{rv:RV}{b:Nat}{W':World}(h:tW S0 w0 β ρ bx ty rs W k e rv b)(Z:W'.heap[b]?=W.heap[b]?):tW S0 w0 β ρ bx ty rs W' k e rv b:=by
 obtain⟨X,cap,V,U,R,Q⟩:=h.mem;exact⟨h.own,⟨X,cap,V,U,Z.trans R,Q⟩,h.box,h.alone,h.inner⟩
def ao.below{W':World}(R:ao S0 w0 D ty β ρ s a W)(Z:Below W.heap.size W W'):ao S0 w0 D ty β ρ s a W':=
 ⟨R.mem.below Z,R.dX,R.ei,R.eb,R.er,R.bT.below Z,R.size,R.tmps,λk e rv b X V U=>let t:=R.cO k e rv b X V U;t.world (Z.block b t.lt)⟩
def ao.put(R:ao S0 w0 D ty β ρ s a W)(Z:Option Nat)(v:SV):ao S0 w0 D ty β ρ (s.put Z v) (a.put Z (v.den ρ β)) W:=by
 cases Z with
 |none=>exact R
 |some d=>
  refine⟨R.mem,R.dX,R.ei,R.eb,R.er,R.bT,by simp[S.put,nh,Act.put,R.size],λt U h=> ?_,R.cO⟩;simp only[S.put,nh,axC] at h;simp only[Act.put];split at h;rename_i X;subst X;split at h;rename_i Q;cases h;right;have:d<a.tmps.size:=by rw[R.size];exact Q
  simp[this];cases h;rename_i X;rcases R.tmps t U h with V|V;exact .inl V;right;rw[ayD X];exact V
def ao.tY(R:ao S0 w0 D ty β ρ s a W)(Z:s.bd=true):SV.ck ρ.i.length ρ.b.length ρ.r.length (aA s.boxes) s.tmps=true/\SV.mM ρ.i.length ρ.b.length ρ.r.length (aA s.boxes) s.boxes=true:=by
 simp only[S.bd,awF] at Z;rw[R.ei,R.eb,R.er];exact Z
structure j8(bx:aX)(ρ ρ':aa)(β β':List Nat):Prop where
 agree:fj ρ ρ' ρ.i.length ρ.b.length ρ.r.length
 li:ρ.i.length<=ρ'.i.length
 lb:ρ.b.length<=ρ'.b.length
 lr:ρ.r.length<=ρ'.r.length
 ad:∀k,aA bx k=true->ad β' k=ad β k
def j8.refl(bx:aX)(ρ:aa)(β:List Nat):j8 bx ρ ρ β β:=⟨fj.refl _ _ _ _,awN _,awN _,awN _,λ_ _=>rfl⟩
def j8.trans{bx Z:aX}{ρ ρ' X:aa}{β V U:List Nat}(h:j8 bx ρ ρ' β V)(k:j8 Z ρ' X V U)(Q:∀i,aA bx i=true->aA Z i=true):j8 bx ρ X β U:=
 ⟨h.agree.trans (k.agree.mono h.li h.lb h.lr),axn h.li k.li,axn h.lb k.lb,axn h.lr k.lr,λj R=>(k.ad j (Q j R)).trans (h.ad j R)⟩
def aml(ρ:aa)(x:XV):ρ.i.length<=(ρ.add x).i.length/\ρ.b.length<=(ρ.add x).b.length/\ρ.r.length<=(ρ.add x).r.length:=by cases x<;>simp[aa.add]
def MW:∀(xs:List XV)(ρ:aa),ρ.i.length<=(ρ.ext xs).i.length/\ρ.b.length<=(ρ.ext xs).b.length/\ρ.r.length<=(ρ.ext xs).r.length
 |[],ρ=>by simp[aa.ext]
 |x::xs,ρ=>by
  have Z:=aml ρ x;have X:=MW xs (ρ.add x);simp only[aa.ext];omega
def xT(bx:aX)(ρ:aa)(xs:List XV)(β:List Nat):j8 bx ρ (ρ.ext xs) β β:=by
 have h:=MW xs ρ;exact⟨zV xs ρ,h.1,h.2.1,h.2.2,λ_ _=>rfl⟩
def j8.den{bx:aX}{ρ ρ':aa}{β Z:List Nat}(h:j8 bx ρ ρ' β Z){v:SV}(X:v.bd ρ.i.length ρ.b.length ρ.r.length (aA bx)=true):v.den ρ' Z=v.den ρ β:=SV.cu h.agree h.ad v X
def j8.ap{bx:aX}{ρ ρ':aa}{β Z:List Nat}(h:j8 bx ρ ρ' β Z){v:List SV}(X:SV.ck ρ.i.length ρ.b.length ρ.r.length (aA bx) v=true):SV.ap ρ' Z v=SV.ap ρ β v:=SV.EW h.agree h.ad v X
def j8.b9{bx:aX}{ρ ρ':aa}{β Z:List Nat}(h:j8 bx ρ ρ' β Z){v:List SV}(X:SV.ck ρ.i.length ρ.b.length ρ.r.length (aA bx) v=true):SV.b9 ρ' Z v=SV.b9 ρ β v:=I5 h.agree h.ad v X
def dA.ext{bx:aX}{ρ ρ':aa}{β V:List Nat}(h:dA gl ρ)(Z:j8 bx ρ ρ' β V):dA gl ρ':=by
 intro x U;obtain⟨X,R⟩:=h x U;exact⟨ayo X Z.lr,by rw[Z.agree.r _ X];exact R⟩
def xU{β:List Nat}{n x k:Nat}(h:k≠n):ad (β.set n x) k=ad β k:=by simp[ad,axs (Ne.symm h)]
def xV{β:List Nat}{n x:Nat}(h:n<β.length):ad (β.set n x) n=x:=by simp[ad,h]
def oA{l:aX}{n:Nat}{t:TypeId}(h:md l n t=true):dL l n=true:=by simp only[md,awF] at h;exact h.1
def E9{l:aX}{n:Nat}{t:TypeId}(h:md l n t=true):oa t=false:=by simp only[md,awF,awY] at h;exact h.2
def jO{l:aX}{n:Nat}(h:dL l n=true):aA l n=false/\n<l.length:=by
 unfold dL at h;split at h;rename_i Z;exact⟨by simp[aA,bP,Z],(awG.1 Z).1⟩;cases h
def abL{bx:aX}{n:Nat}(h:dL bx n=true)(ρ:aa)(β:List Nat)(x:Nat):j8 bx ρ ρ β (β.set n x):=
 ⟨fj.refl _ _ _ _,awN _,awN _,awN _,λk Z=>xU (λe=>by subst e;rw[(jO h).1] at Z;cases Z)⟩
def tZ{l:aX}{n i:Nat}{x:Option (TypeId×List SV)}(h:i≠n):bA (l.set n x) i=bA l i:=by simp[bP,axs (Ne.symm h)]
def Cw{l:aX}{n:Nat}{x:TypeId×List SV}(h:n<l.length):bA (l.set n (some x)) n=some x:=by simp[bP,h]
def lI{l:aX}{n i:Nat}{x:TypeId×List SV}(h:n<l.length):aA (l.set n (some x)) i=true<->i=n\/aA l i=true:=by
 by_cases hi:i=n;subst hi;simp[aA,Cw h];simp[aA,tZ hi,hi]
def ao.alloc(R:ao S0 w0 D ty β ρ s a W){n:Nat}(H:dL s.boxes n=true)(t:TypeId)(cs:List SV)(O:s.cU cs=true):
  ao S0 w0 D ty (β.set n W.heap.size) ρ (s.bI n t cs) a (W.alloc (jN t (SV.b9 ρ β cs))):=by
 simp only[S.cU,awF] at O;obtain⟨N,O⟩:=O;obtain⟨F,E⟩:=R.tY N;rw[<-R.ei,<-R.eb,<-R.er] at O;obtain⟨C,V⟩:=jO H;have J:=abL H ρ β W.heap.size;have M:Below W.heap.size W (W.alloc (jN t (SV.b9 ρ β cs))):=(Below.refl _ _).alloc (awN _) _;have Q:n<β.length:=by rw[R.dX];exact V
 have U:∀i,aA s.boxes i=true->i≠n:=λi hi e=>by subst e;rw[C] at hi;cases hi
 refine⟨⟨R.mem.base.alloc _, ?_, ?_, ?_, ?_⟩,by simp[S.bI,R.dX],R.ei,R.eb,R.er,R.bT.below M,R.size, ?_,λk e rv b Z X L=> ?_⟩;intro i hi;rcases(lI V).1 hi with rfl|h;rw[xV Q];exact .inl R.mem.base.size;rw[xU (U i h)];exact R.mem.own i h;intro i j hi G h;rcases(lI V).1 hi with rfl|Z;rcases(lI V).1 G with rfl|X;rfl;rw[xV Q,xU (U j X)] at h;have:=R.mem.lt X;omega;rcases(lI V).1 G with rfl|X;rw[xV Q,xU (U i Z)] at h;have:=R.mem.lt Z;omega;rw[xU (U i Z),xU (U j X)] at h;exact R.mem.inj i j Z X h;intro i I cs' h;by_cases Z:i=n;subst Z;rw[S.bI,Cw V] at h;simp only[awJ,ayl] at h;obtain⟨rfl,rfl⟩:=h;rw[xV Q,J.b9 O];exact World.alloc_heap_new W _;rw[S.bI,tZ Z] at h;rw[xU Z,M.block _ (R.mem.lt (by simp[aA,h])),J.b9 (oz E h)];exact R.mem.box i I cs' h;intro k e rv Z X;obtain⟨L,B⟩:=R.mem.ref k e rv Z X;refine⟨L.grow M,λb N i hi=> ?_⟩;rcases(lI V).1 hi with rfl|h;rw[xV Q];have:=L.lt N;omega;rw[xU (U i h)];exact B b N i h;intro I A h;rcases R.tmps I A h with Z|Z;exact .inl Z;right;rw[J.den (qn F h)];exact Z;have t:=R.cO k e rv b Z X L;obtain⟨z,cap,y,x,w,v⟩:=t.mem;refine⟨t.own,⟨z,cap,y,x,(M.block b t.lt).trans w,v⟩,λi hi=> ?_,t.alone,t.inner⟩;rcases(lI V).1 hi with rfl|h;rw[xV Q];have:=t.lt;omega;rw[xU (U i h)];exact t.box i h
def t6(l:List Value)(off:Nat):List Value->List Value
 |[]=>l
 |v::r=>t6 (l.set off v) (off+1) r
def TC:∀(vs l:List Value)(off:Nat),(t6 l off vs).length=l.length
 |[],l,off=>rfl
 |v::vs,l,off=>by rw[t6,TC];simp
def abM:∀(vs l:List SV)(off:Nat),SV.ap ρ β (iw l off vs)=t6 (SV.ap ρ β l) off (SV.ap ρ β vs)
 |[],l,off=>rfl
 |v::vs,l,off=>by
  rw[iw,abM vs,SV.ap,t6];congr 1;simp[lF]
def abN{v:Value}(h:fw v=true):v.oneCell'=true:=by cases v<;>simp_all[fw,Value.oneCell']
def TE(b off:Nat)(t:TypeId):∀(vs:List Value)(i:Nat)(Z:Array Value)(W:World),W.heap[b]?=some (.cells Z t (0,0))->off+i+vs.length<=Z.size->(∀v∈vs,fw v=true)->
  ∃W',(storeCells ⟨b,off,none⟩ vs i).run P W=.ok () W'/\W'.heap[b]?=some (.cells (t6 Z.toList (off+i) vs).toArray t (0,0))/\(∀k,k≠b->W'.heap[k]?=W.heap[k]?)/\W'.heap.size=W.heap.size/\W'.os=W.os/\W'.tape=W.tape/\W'.output=W.output
 |[],i,Z,W,X,_,_=>⟨W,rfl,by simpa[t6] using X,λ_ _=>rfl,rfl,rfl,rfl,rfl⟩
 |v::vs,i,Z,W,X,R,V=>by
  simp only[axm] at R;have hi:off+i<Z.size:=by omega
  have Q:W.cell? ⟨b,off+i,none⟩=some Z[off+i]:=by simp[World.cell?,X,hi]
  have O:W.frozen? ⟨b,off+i,none⟩=false:=by simp[World.frozen?,X]
  have N:(store ((⟨b,off,none⟩:Addr).add i) v).run P W=.ok () (W.setCell ⟨b,off+i,none⟩ v):=by
   rw[sa,run_store P W _ v _ (abN (V v (by simp))),Q];simp[O]
  have M:(W.setCell ⟨b,off+i,none⟩ v).heap[b]?=some (.cells (Z.setIfInBounds (off+i) v) t (0,0)):=by
   simp[World.setCell,aye,X]
  obtain⟨W',L,J,I,H,G,F,E⟩:=TE b off t vs (i+1) (Z.setIfInBounds (off+i) v) (W.setCell ⟨b,off+i,none⟩ v) M (by simp;omega) (λx C=>V x (by simp[C]));refine⟨W',by simp only[storeCells,Sem.run_bind,N,Result.andThen_ok,L], ?_,λk U=>(I k U).trans (Below.heap_setCell _ _ _ _ U),H.trans (by simp[World.setCell]),G,F,E⟩;rw[J,t6];simp[ayk]
def abO(R:ao S0 w0 D ty β ρ s a W):∀{l:List SV},zI l=true->∀v∈SV.ap ρ β l,fw v=true
 |[],_,v,Z=>by simp[SV.ap] at Z
 |x::xs,h,v,Z=>by
  simp only[Md,awF] at h;simp only[SV.ap,awP] at Z;rcases Z with rfl|Z;have X:=h.1;cases x<;>simp[SV.single] at X<;>try rfl
  rename_i r;exact qp R r (by cases r<;>simp_all[RE.BV]);simp only[SV.den];exact Tk _ _ _;exact abO R h.2 v Z
def ao.store(R:ao S0 w0 D ty β ρ s a W){t U:TypeId}{M:TI}(E:cS P t M){i off:Nat}{cs:List SV}{v:SV}(X:bA s.boxes i=some (U,cs))(cL:oa U=false)(C:v.cells.length=M.ab.length)(f:off+v.cells.length<=cs.length)(B:zI v.cells=true)(H:(v.den ρ β).cells.toList=SV.ap ρ β v.cells):
  ∃W',(Instr.storeAt t (.pointer (some ⟨ad β i,off,none⟩)) (v.den ρ β)).run P W=.ok () W'/\ao S0 w0 D ty β ρ (s.bI i U (iw cs off v.cells)) a W':=by
 have L:=R.mem.box i U cs X;rw[qo cL] at L;obtain⟨W',A,z,Q,y,x,w,u⟩:=TE (P:=P) (ad β i) off U (SV.ap ρ β v.cells) 0 _ W L (by simp;omega) (abO R B);have r:(v.den ρ β).cells.size=M.ab.length:=by rw[<-axP,H];simp[C]
 have hi:i<s.boxes.length:=(awG.1 (gw.1 X)).1;have O:aA s.boxes i=true:=by simp[aA,X]
 have N:∀j,aA (s.boxes.set i (some (U,iw cs off v.cells))) j=true->aA s.boxes j=true:=λj Z=>by
  rcases(lI hi).1 Z with rfl|h;exact O;exact h
 refine⟨W', ?_,⟨⟨?_,λj Z=>R.mem.own j (N j Z),λj k Z J=>R.mem.inj j k (N j Z) (N k J), ?_, ?_⟩,by simpa[S.bI] using R.dX,R.ei,R.eb,R.er,R.bT.cells L (λb X _=>Q b X),R.size,R.tmps,λk e rv b q p o=> ?_⟩⟩;simp only[Instr.storeAt,Instr.sureAddr,storeVar,Sem.run_bind,Sem.run_pure,Result.andThen_ok,E.j7,r,H,ne_eq,not_true_eq_false,if_false,A];refine⟨x.trans R.mem.base.os,w.trans R.mem.base.tape,u.trans R.mem.base.output,by rw[y];exact R.mem.base.size,λk J G=> ?_⟩;have n:k≠ad β i:=by
  rintro rfl;rcases R.mem.own i O with h|h;omega;exact G h
 rw[Q k n];exact R.mem.base.block k J G;intro j V cs' Z;by_cases I:j=i;subst I;rw[S.bI,Cw hi] at Z;simp only[awJ,ayl] at Z;obtain⟨rfl,rfl⟩:=Z;rw[z,qo cL,abM];simp;rw[S.bI,tZ I] at Z;rw[Q _ (λh=>I (R.mem.inj j i (by simp[aA,Z]) O h))];exact R.mem.box j V cs' Z;intro k e rv m l;obtain⟨g,F⟩:=R.mem.ref k e rv m l;exact⟨g.E8 (λb X=>Q b (λh=>F b X i O h.symm)) (by omega),λb X j Z=>F b X j (N j Z)⟩;have t:=R.cO k e rv b q p o;have V:=t.world (W':=W') (Q b (λh=>t.box i O h.symm));exact⟨V.own,V.mem,λj Z=>V.box j (N j Z),V.alone,V.inner⟩
end
end
end
end Go.Proofs.YtieaiocljdpebaaGreatDoor.Y
