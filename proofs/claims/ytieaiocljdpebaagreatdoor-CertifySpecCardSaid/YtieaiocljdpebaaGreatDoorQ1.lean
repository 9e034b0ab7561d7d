/- Part 1 of the proof; the last part says what is shown. -/
import GoSem.Step
import Derived.Below
import Derived.Laws.AppendOwn
import Derived.Deep.Draws
import Derived.RangeFuncRecord
import Derived.CallsIn
import Derived.OrdersIn
import Derived.Sort.LoopGhostIn
import Derived.RangeFuncCalls
import Derived.Laws.Cells
import Derived.MapKept
import Derived.IntWalk
set_option linter.all false
open Bool renaming and_eq_true->aIy,not_eq_true'->aIR,false_eq_true->aIU,or_eq_true->aIZ,eq_iff_iff->aJv,not_eq_false->aJY,rec->aK7,or_eq_true_iff->aLm,and_assoc->aLQ,true_or->aL6,true->J,false->E
open List renaming getElem?_eq_some_iff->aIz,getElem?_eq_getElem->aIA,getElem?_append_left->aIB,getD_eq_getElem?_getD->aIC,getElem?_map->aIE,getElem?_append_right->aIH,mem_cons->aIK,replicate->aIL,mem_append->aIM,all_eq_true->aIN,length_append->aIO,map_cons->aIP,getElem?_eq_none->aIT,mem_of_getElem?->aIW,map_congr_left->aIY,ext_getElem?->aI0,eq_nil_of_length_eq_zero->aI1,length_eq_one_iff->aI2,mem_map->aI3,range->aI5,getElem?_take->aI6,any_eq_true->aI7,getElem?_cons_succ->aJa,getElem?_set_ne->aJf,getElem?_of_mem->aJg,getElem?_drop->aJi,getElem?_eq_none_iff->aJk,getElem_mem->aJl,length_cons->aJm,length_map->aJn,map_map->aJo,getElem?_set->aJs,drop_eq_getElem_cons->aJw,mem_of_mem_drop->aJA,getElem?_replicate->aJD,mem_cons_of_mem->aJF,mem_of_mem_take->aJG,length_take->aJS,length_drop->aJT,range'->aJV,take_of_length_le->aJW,getElem?_set_self->aJX,size_toArray->aJZ,getElem?_range->aJ1,foldl_cons->aJ2,append_assoc->aJ5,mem_of_find?_eq_some->aKc,rec->aKp,range_eq_range'->aKq,drop_drop->aKr,toList_toArray->aKt,all_cons->aKv,zip_cons_cons->aKz,mem_singleton->aKB,flatMap_cons->aKJ,length_singleton->aKL,range'_succ->aKP,find?_some->aKW,drop_eq_nil_of_le->aK6,getElem?_toArray->aLc,drop_zero->aLR,mapM_cons->aLS,getElem?_modify->aL0,length->Y
open Option.some renaming injEq->aID
open Nat renaming le_refl->aIG,lor->aIQ,zero_add->aI8,shiftLeft->aJc,beq->aJq,eq_zero_or_pos->aJB,add_mul->aJC,gcd->aJE,le_trans->aJL,mul_le_mul_right->aJM,add_zero->aJU,testBit_or->aJ4,add_assoc->aKi,testBit_add_one->aKk,lt_of_lt_of_le->aKy,mod_lt->aKA,zero_le->aKG,mul_le_mul->aKM,mul_comm->aK1,rec->aLa,testBit_shiftLeft->aLb,div_lt_of_lt_mul->aLe,div_add_mod->aLf,sub_self->aLg,min_eq_left->aLh,one_shiftLeft->aLw,testBit_zero->aLB,eq_of_beq_eq_true->aLP,beq_eq->aLZ,testBit_two_pow->aL4,lt_or_gt_of_ne->aL8
open Option renaming map_some->aII,isSome_iff_exists->aIS,getD_some->aJd,bind_some->aKQ,getD_none->aK8,some->U,none->Z
open Array renaming getElem?_eq_some_iff->aIX,ext'->aJu,toList_map->aJy,length_toList->aJJ,getElem?_modify->aJ9,getElem?_setIfInBounds_ne->aKd,getElem?_toList->aKm,getElem?_eq_getElem->aKX,toList_range->aLr,mapM_eq_mapM_toList->aLy,getElem?_eq_none->aLK,range->aLL,foldl_toList->aL7
open List.cons renaming injEq->aJH
open Int renaming toNat_natCast->aJ0
open Prod.mk renaming injEq->aKj
open Go.IntKind renaming i64->I
namespace Go.Proofs.YtieaiocljdpebaaGreatDoor.Y
variable{R N h:Nat}
structure Sh where
 kt:TypeId
 vt:TypeId
 nk:Nat
 ka:Bool
 va:Bool
 deriving DecidableEq
abbrev ai:=List Nat
abbrev bR:=Option Nat
abbrev bi:=List Int
abbrev i5:=List TypeId
abbrev iE:=Option (List TypeId)
abbrev cT:=Array Oper
abbrev oo:=List Oper
abbrev lu:=List (Nat×Nat×Nat)
abbrev pO:=List ResultVar
abbrev Bh:=List (Nat×Nat)
abbrev fe:=List Value
abbrev kN:=Array Value
abbrev kw:=List Bool
abbrev mu:=Option Addr
abbrev qU:=List (Value×Value)
inductive RK where
 |sl (e:TypeId)
 |str
 |aI
 |own (e:TypeId)
 |dead
 |mr (sh:Sh)
 deriving DecidableEq
abbrev bc:=List RK
def RK.rd:RK->RK
 |.own e=>.sl e
 |k=>k
inductive CT where
 |int (k:IntKind)
 |bool
 |aI (z:Value) (k:RK)
abbrev dS:=List CT
inductive TD where
 |one
 |fh
 |str
 |slice (e:TypeId)
 |arr (n:Nat) (e:TypeId)
 |struct (fs:List (Nat×TypeId))
 |map (k e:TypeId) (n:Nat) (ag:Bool)
structure TI where
 d:TD
 ae:dS
 eq:Bool:=E
abbrev fD:=Option TI
mutual
inductive IE where
 |c (n:Int)
 |v (k:Nat)
 |bin (op:BinOp) (k:IntKind) (a b:IE)
 |conv(k:IntKind) (a:IE)
 |len (r:RE)
 |mm (mx:Bool) (a b:IE)
 |cF (b:BE) (x y:IE)
 |cell (r:RE) (i:IE) (j:Nat)
 |lT (r:RE) (i:IE)
 |look (r:RE) (n:Nat) (a b c:IE) (j:Nat)
inductive BE where
 |c (b:Bool)
 |v (k:Nat)
 |cmp (op:BinOp) (a b:IE)
 |not (a:BE)
 |and (a b:BE)
 |beq (a b:BE)
 |cF (b x y:BE)
 |cell (r:RE) (i:IE) (j:Nat)
 |seq (a b:RE)
 |look (r:RE) (n:Nat) (a b c:IE) (j:Nat)
 |has (r:RE) (n:Nat) (a b c:IE)
inductive RE where
 |v (k:Nat)
 |cell (r:RE) (i:IE) (j:Nat) (k:RK)
 |k (v:Value)
end
inductive SV where
 |int (k:IntKind) (e:IE)
 |bool (b:BE)
 |ref (r:RE)
 |loc (i off:Nat)
 |el (r:RE) (w:Nat) (i:IE) (off:Nat)
 |gY (i off len cap:Nat)
 |agg (l:List SV)
 |bH (l:List SV)
 |fn (f:FuncId) (caps:List SV)
 |fh (t:TypeId) (x:SV)
 |yl (n:Nat)
 |any
 |mp (i:Nat)
 |eR (e:IE) (ks:List Int) (vs:List SV)
abbrev ah:=List SV
abbrev vK:=List (List SV)
abbrev Fw:=Option (List SV)
inductive PX where
 |ret
 |exit (id:Nat)
 deriving DecidableEq
inductive Fy where
 |ready
 |busy
 |done (e:PX)
 deriving DecidableEq
abbrev sK:=List Fy
abbrev bw:=List (Option (TypeId×ah))
structure S where
 tmps:ah
 boxes:bw
 ni:Nat
 nb:Nat
 rs:bc
 aq:Nat
 lk:Nat
 pd:sK
noncomputable def bU(l:bw)(i:Nat):Option (TypeId×ah):=aKp (motive:=λ_=>Nat->Option (TypeId×ah)) (λ_=>Z) (λx _ X t=>aLa (motive:=λ_=>Option (TypeId×ah)) x (λm _=>X m) t) l i
def cw:∀(l:bw)(i:Nat),bU l i=(match l[i]? with
  |U (U b)=>U b
  |_=>Z)
 |[],_=>rfl
 |Z::_,0=>rfl
 |U _::_,0=>rfl
 |_::l,i+1=>by rw[aJa];exact cw l i
noncomputable section
def sL:TypeId:=1099511627776
def ul:TypeId:=1099511627777
def vL:TypeId:=1099511627778
def oY(t:TypeId):Bool:=decide (sL<=t)
def ky(l:bw)(i:Nat):Option (TypeId×ah):=match bU l i with
 |U (t,X)=>if oY t then Z else U (t,X)
 |none=>Z
inductive LK where
 |int (k:IntKind)
 |bool
 |ref (k:RK)
 deriving DecidableEq
abbrev aP:=List LK
inductive XE where
 |normal
 |ret
 |exit (id:Nat)
 |bn (v:SV)
inductive LE where
 |ref (r:RE)
 |lit (l:List (List SV))
 |kz (a b:LE)
 |sM (n:IE) (row:List SV)
 |set (a:LE) (i:IE) (off:Nat) (cs:List SV)
 |sub (a:LE) (lo hi:IE)
 |ins (a:LE) (n:Nat) (cs:List SV)
inductive aW where
 |lex (cs:List Nat) (desc:Bool)
 |ratio (n d:Nat)
 |cn (k:Nat) (o:aW) (as:List IE)
abbrev zn:=List (FuncId×FuncId×TypeId×aW×Bool)
inductive T where
 |out (e:XE) (s:S)
 |ret (v:SV) (bx:bw) (rs:List RK)
 |bn (v:SV)
 |node (b:BE) (t f:T)
 |bj (b:BE) (t:T)
 |call (f:FuncId) (args:List SV) (bx:bw) (rs:List RK) (ks:List LK) (im:SV) (t:T)
 |loop (aq:Nat) (ks:List LK) (x0:List SV) (t:T)
 |back (aq:Nat) (x:List SV)
 |new (e:TypeId) (x:LE) (rs rsn:List RK) (t:T)
 |rows (k:RK) (x:LE) (rs:List RK) (t:T)
 |gp (g h:BE) (t f:T)
 |pick (n:IE) (g h:BE) (t f:T)
 |dO (f g:FuncId) (e:TypeId) (sp:aW) (st:Bool) (r:RE) (rs:List RK) (t:T)
 |stuck (msg:String)
def Iw:Value->SV
 |.int k n=>.int k (.c n)
 |.bool b=>.bool (.c b)
 |v=>.ref (.k v)
def MO:Value->SV
 |.int k n=>.int k (.c n)
 |.bool b=>.bool (.c b)
 |.agg X=>.agg (X.toList.map Iw)
 |v=>.ref (.k v)
def Zu(l:ah)(t:Nat):SV:=aKp (motive:=λ_=>Nat->SV) (λ_=>.any) (λx _ X t=>aLa (motive:=λ_=>SV) x (λm _=>X m) t) l t
def aiE(l:ah)(d:Nat)(v:SV):ah:=aKp (motive:=λ_=>Nat->ah) (λ_=>[]) (λx X W d=>aLa (motive:=λ_=>ah) (v::X) (λm _=>x::W m) d) l d
@[simp] def vM:∀(l:ah)(t:Nat),Zu l t=l.getD t .any
 |[],_=>rfl
 |_::_,0=>rfl
 |_::X,t+1=>vM X t
@[simp] def um:∀(l:ah)(d:Nat)(v:SV),aiE l d v=l.set d v
 |[],_,_=>rfl
 |_::_,0,_=>rfl
 |x::X,d+1,v=>congrArg (x::·) (um X d v)
def S.ev(X:lu)(s:S):Operand->SV
 |.tmp t=>Zu s.tmps t
 |.const v=>MO v
 |.global g=>match X.find? (λx=>x.1==g) with
  |U (_,k,w)=>.el (.v k) w (.c 0) 0
  |none=>.any
 |.func f=>.fn f []
def S.put(s:S)(X:bR)(v:SV):S:=
 match X with
 |U d=>{s with tmps:=aiE s.tmps d v}
 |none=>s
def Dc(r:RE)(i:IE)(j:Nat):CT->SV
 |.int k=>.int k (.cell r i j)
 |.bool=>.bool (.cell r i j)
 |.aI _ k=>.ref (.cell r i j k)
def Bi:CT->SV
 |.int k=>.int k (.c 0)
 |.bool=>.bool (.c E)
 |.aI z _=>.ref (.k z)
def TD.isAgg:TD->Bool
 |.arr _ _|.struct _=>J
 |_=>E
def SV.cells:SV->ah
 |.agg l=>l
 |v=>[v]
def io:Value->Bool
 |.agg _|.tuple _=>E
 |_=>J
def RE.Fz:RE->Bool
 |.k w=>io w
 |_=>J
def SV.FA:SV->Bool
 |.ref (.k w)=>io w
 |_=>J
def SV.single:SV->Bool
 |.ref (.k w)=>io w
 |.agg _|.bH _|.any=>E
 |_=>J
noncomputable def Dd(l:ah):Bool:=aKp (motive:=λ_=>Bool) J (λx _ X=>aK7 (motive:=λ_=>Bool) E X x.single) l
def Ry:(Dd []=J)/\(∀x X,Dd (x::X)=(x.single&&Dd X)):=⟨rfl,λx X=>by
 show aK7 (motive:=λ_=>Bool) E (Dd X) x.single=_;cases x.single<;>rfl⟩
def vN(l:ah)(X n:Nat):ah:=(l.drop X).take n
def vO(X:TI)(l:ah)(W:Nat):Option SV:=
 if X.d.isAgg then(if W+Y X.ae<=Y l then U (.agg (vN l W (Y X.ae))) else Z) else l[W]?
def j5(l:ah)(X:Nat):ah->ah
 |[]=>l
 |v::r=>j5 (l.set X v) (X+1) r
def xD(place:Nat->Option (Nat×Nat))(cells:ah):List (Nat×SV)->Fw
 |[]=>U cells
 |(i,v)::V=>
  match place i with
  |none=>Z
  |U (X,W)=>if Y v.cells !=W||decide (Y cells<X+W)|| !v.FA then Z else xD place (j5 cells X v.cells) V
def di(X:TI):ah:=X.ae.map Bi
def vP(n:Nat)(l:ah):ah:=match n with
 |0=>[]
 |n+1=>l++vP n l
def Rz:BinOp->Bool
 |.eql|.neq|.lss|.leq|.gtr|.geq=>J
 |_=>E
def gg:BinOp->Int->Int->Bool
 |.eql,x,y=>x==y
 |.neq,x,y=>x !=y
 |.lss,x,y=>decide (x<y)
 |.leq,x,y=>decide (x<=y)
 |.gtr,x,y=>decide (x>y)
 |.geq,x,y=>decide (x>=y)
 |_,_,_=>E
def au:BinOp->IntKind->Int->Int->Int
 |.add,k,x,y=>k.wrap (x+y)
 |.sub,k,x,y=>k.wrap (x-y)
 |.mul,k,x,y=>k.wrap (x*y)
 |.quo,k,x,y=>k.wrap (x.tdiv y)
 |.rem,_,x,y=>x.tmod y
 |.shr,k,x,y=>x.fdiv (2^min y.toNat k.bits)
 |_,_,_,_=>0
def Zv:BinOp->Bool
 |.add|.sub|.mul=>J
 |_=>E
def Zw:BinOp->Bool
 |.quo|.rem=>J
 |_=>E
def aiF:BinOp->Bool
 |.shr=>J
 |_=>E
inductive PR where
 |ok (v:SV)
 |bj (b:BE) (v:SV)
 |no (why:String)
def FB(X:BinOp)(k:IntKind):IE->IE->IE
 |.c x,.c y=>.c (au X k x y)
 |a,b=>.bin X k a b
def oq(X:BinOp):IE->IE->BE
 |.c x,.c y=>.c (gg X x y)
 |a,b=>.cmp X a b
def De:BE->BE
 |.c b=>.c (!b)
 |b=>.not b
def uo:BE->BE->BE
 |.c J,b=>b
 |.c E,_=>.c E
 |a,.c J=>a
 |a,b=>.and a b
def MP:BE->BE->BE
 |.c a,.c b=>.c (a==b)
 |.c J,b=>b
 |.c E,b=>De b
 |a,.c J=>a
 |a,.c E=>De a
 |a,b=>.beq a b
def uq(i:IE)(n:IE):BE:=uo (oq .leq (.c 0) i) (oq .lss i n)
def RA(X:Bool):IE->IE->IE
 |.c x,.c y=>.c (if X then max x y else min x y)
 |a,b=>.mm X a b
def FC(X:Bool)(k:IntKind):IE->ah->Option IE
 |e,[]=>U e
 |e,.int W x::r=>if k=W then FC X k (RA X e x) r else Z
 |_,_=>Z
abbrev Ty:=TypeId->fD
def bq(W:Ty):RK->dS
 |.sl e=>match W e with
  |U X=>X.ae
  |none=>[]
 |.mr V=>(match W V.kt with
  |U X=>X.ae
  |none=>[])++(match W V.vt with
  |U X=>X.ae
  |none=>[])
 |_=>[]
def FD:Option CT->RK
 |U (.aI _ k)=>k
 |_=>.aI
def RE.kind(X:Ty)(s:S):RE->RK
 |.v n=>(s.rs.getD n .aI).rd
 |.cell r _ j W=>match RE.kind X s r with
  |.sl e=>if FD (bq X (.sl e))[j]?=W then W else .aI
  |_=>.aI
 |.k (.string _)=>.str
 |.k _=>.aI
def Ix(X:Ty)(s:S):CT->SV->SV->Option BE
 |.int k,.int W a,.int V b=>if W=k/\V=k then U (oq .eql a b) else Z
 |.bool,.bool a,.bool b=>U (MP a b)
 |.aI _ .str,.ref a,.ref b=>if a.kind X s=.str/\b.kind X s=.str then U (.seq a b) else Z
 |_,_,_=>Z
def pP(X:Ty)(s:S):dS->ah->ah->Option BE
 |[],[],[]=>U (.c J)
 |c::W,x::V,y::R=>match Ix X s c x y,pP X s W V R with
  |U a,U b=>U (uo a b)
  |_,_=>Z
 |_,_,_=>Z
def Iy(X:Ty)(s:S)(W:fD)(a b:ah):Option BE:=match W with
 |U ⟨_,ae,J⟩=>pP X s ae a b
 |_=>Z
def Zx(X:Ty)(W:List (Nat×TypeId))(i:Nat):Option (Nat×Nat):=match W[i]? with
 |U (o,V)=>(X V).map λf=>(o,Y f.ae)
 |none=>Z
def RE.nil:RE->Bool
 |.k (.slice Z 0 0)=>J
 |_=>E
def RE.oZ(X:Ty)(s:S)(W:Sh)(r:RE):Bool:=decide (r.kind X s=.mr W)||r.nil
def FE(n:Nat)(X:Bool):SV->Option (IE×IE×IE)
 |.int I a=>if n==1&& !X then U (a,.c 0,.c 0) else Z
 |.agg [.int I a]=>if n==1&&X then U (a,.c 0,.c 0) else Z
 |.agg [.int I a,.int I b]=>if n==2&&X then U (a,b,.c 0) else Z
 |.agg [.int I a,.int I b,.int I c]=>if n==3&&X then U (a,b,c) else Z
 |_=>Z
def lw:CT->Bool
 |.aI _ _=>E
 |_=>J
def o0(r:RE)(n:Nat)(a b c:IE):Nat->dS->ah
 |_,[]=>[]
 |j,.int k::X=>.int k (.look r n a b c j)::o0 r n a b c (j+1) X
 |j,.bool::X=>.bool (.look r n a b c j)::o0 r n a b c (j+1) X
 |j,.aI z _::X=>.ref (.k z)::o0 r n a b c (j+1) X
def qV(X:Bool)(l:ah):SV:=if X then .agg l else l.getD 0 .any
def o7:ah->Option bi
 |[]=>U []
 |.int I (.c k)::_::r=>(o7 r).map (k::·)
 |_=>Z
def kO:ah->ah
 |_::v::r=>v::kO r
 |_=>[]
def zo(e:IE):bi->ah->Option IE
 |k::X,.int _ x::W=>(zo e X W).map λy=>.cF (.cmp .eql e (.c k)) x y
 |[],[]=>U (.c 0)
 |_,_=>Z
def Bj(e:IE):bi->ah->Option BE
 |k::X,.bool x::W=>(Bj e X W).map λy=>.cF (.cmp .eql e (.c k)) x y
 |[],[]=>U (.c E)
 |_,_=>Z
def Iz:SV->Bool
 |.fn _ _=>J
 |.ref (.k .nilFunc)=>J
 |_=>E
def MQ:fD->Bool
 |U ⟨.one,[.aI .nilFunc _],_⟩=>J
 |_=>E
def Bk(e:IE):bi->ah->BE
 |k::X,.fn _ _::W=>.cF (.cmp .eql e (.c k)) (.c E) (Bk e X W)
 |k::X,_::W=>.cF (.cmp .eql e (.c k)) (.c J) (Bk e X W)
 |_,_=>.c J
def Zy(e:IE)(W:bi)(X:ah):CT->Option SV
 |.int k=>if X.all λv=>match v with|.int V _=>decide (k=V)|_=>E then(zo e W X).map (.int k) else Z
 |.bool=>(Bj e W X).map .bool
 |.aI .nilFunc _=>if X.all Iz&&Y W==Y X then U (.eR e W X) else Z
 |_=>Z
def Bl(e:IE)(X:bi)(W:vK):Nat->dS->Fw
 |_,[]=>U []
 |j,c::V=>match Zy e X (W.map λr=>r.getD j .any) c,Bl e X W (j+1) V with
  |U v,U r=>U (v::r)
  |_,_=>Z
def FF(e:IE):bi->BE
 |[]=>.c E
 |k::X=>.cF (.cmp .eql e (.c k)) (.c J) (FF e X)
def dL{X:Type}(x:Int):bi->List X->Option X
 |k::W,v::V=>if x=k then U v else dL x W V
 |_,_=>Z
def zp(X:TI)(v:SV):Bool:=Y v.cells==Y X.ae&&v.FA&&(match v with
 |.agg _=>X.d.isAgg
 |_=> !X.d.isAgg)
def aiG(X:TI)(e:IE)(W:ah):Option (SV×BE):=match o7 W with
 |U V=>match e with
  |.c x=>match dL x V (kO W) with
   |U v=>U (v,.c J)
   |none=>U (qV X.d.isAgg (di X),.c E)
  |e=>if(kO W).all (zp X) then(Bl e V ((kO W).map SV.cells) 0 X.ae).map λl=>(qV X.d.isAgg l,FF e V) else Z
 |none=>Z
def Zz:CT->Bool
 |.int I=>J
 |_=>E
def qW(X:Ty)(k:TypeId)(n:Nat)(W:Bool):Bool:=match X k with
 |U tk=>Y tk.ae==n&&tk.ae.all Zz&&tk.d.isAgg==W
 |none=>E
def RC(X:Bool)(v:SV)(b:BE):PR:=.ok (if X then .bH [v,.bool b] else v)
def RD(V:Ty)(s:S)(k e:TypeId)(n:Nat)(W R:Bool)(i:Nat)(O:SV):PR:=match V e,FE n W O,bU s.boxes i with
 |U X,U (a,b,c),U (Q,P)=>if !qW V k n W then .no "" else
  if Q==ul then(match P with
   |[.ref r,.int I (.c N),.bool (.c M),.bool (.c L)]=>if r.oZ V s ⟨k,e,n,W,X.d.isAgg⟩&&N==(n:Int)&&M==W&&L==X.d.isAgg&&X.ae.all lw&&Y X.ae !=0 then RC R (qV X.d.isAgg (o0 r n a b c n X.ae)) (.has r n a b c) else .no ""
   |_=>.no "")
  else if Q==sL then(if n==1&& !W then(match aiG X a P with
   |U (v,x)=>RC R v x
   |none=>.no "") else .no "")
  else .no ""
 |_,_,_=>.no ""
def Bm(n:Nat):bi:=(aI5 n).map λ(i:Nat)=>(i:Int)
def RF(X:TI)(e:IE)(V:bi)(W:ah):Option SV:=if W.all (zp X) then(Bl e V (W.map SV.cells) 0 X.ae).map (qV X.d.isAgg) else Z
def xE(X:ah):bR:=match X with
 |.loc i _::_=>if X.all λv=>match v with
  |.loc j _=>i==j
  |_=>E then U i else Z
 |_=>Z
def Df{X:Type}:List (Option X)->Option (List X)
 |[]=>U []
 |U x::r=>(Df r).map (x::·)
 |Z::_=>Z
def ZA(X:TI)(W:ah):SV->Option SV
 |.loc _ V=>vO X W V
 |_=>Z
def bO(X:Ty)(W:lu)(s:S):Op->PR
 |.move x|.assign x=>.ok (s.ev W x)
 |.pick c a b=>match s.ev W c with
  |.bool (.c J)=>.ok (s.ev W a)
  |.bool (.c E)=>.ok (s.ev W b)
  |_=>.no ""
 |.load t a=>match X t,s.ev W a with
  |U P,.loc i V=>match ky s.boxes i with
   |U (_,H)=>match vO P H V with
    |U v=>.ok v
    |none=>.no ""
   |none=>.no ""
  |U P,.el r w i V=>match r.kind X s with
   |.sl e=>
    if(bq X (.sl e)).length !=w then .no "" else
    match vO P ((aI5 w).map λj=>Dc r i j ((bq X (.sl e)).getD j .bool)) V with
    |U v=>.bj (uq i (.len r)) v
    |none=>.no ""
   |_=>.no ""
  |U P,.eR e M N=>match(xE N).bind λi=>ky s.boxes i with
   |U (_,H)=>match(Df (N.map (ZA P H))).bind (RF P e M) with
    |U v=>if Y M==Y N then .bj (FF e M) v else .no ""
    |none=>.no ""
   |none=>.no ""
  |_,_=>.no ""
 |.fieldAddr G x f=>match X G,s.ev W x with
  |U ⟨.struct O,_,_⟩,.loc i V=>match O[f]? with
   |U (o,t)=>match X t with
    |U P=>if Y P.ae==0 then .no "" else .ok (.loc i (V+o))
    |none=>.no ""
   |none=>.no ""
  |U ⟨.struct O,_,_⟩,.el r w i V=>match O[f]? with
   |U (o,t)=>match X t with
    |U P=>if Y P.ae==0 then .no "" else .ok (.el r w i (V+o))
    |none=>.no ""
   |none=>.no ""
  |_,_=>.no ""
 |.field G x f=>match X G,s.ev W x with
  |U ⟨.struct O,_,_⟩,.agg l=>match O[f]? with
   |U (o,t)=>match X t with
    |U P=>match vO P l o with
     |U v=>.ok v
     |none=>.no ""
    |none=>.no ""
   |none=>.no ""
  |_,_=>.no ""
 |.indexAddr t x L=>match X t,s.ev W x,s.ev W L with
  |U ⟨.arr n e,_,_⟩,.loc i V,.int _ (.c m)=>match X e with
   |U R=>if decide (0<=m)&&decide (m<(n:Int)) then .ok (.loc i (V+m.toNat*Y R.ae)) else .no ""
   |none=>.no ""
  |U ⟨.arr n e,_,_⟩,.el r w (.c i) V,.int _ m=>match X e with
   |U R=>if Y R.ae==w&&i==0&&V==0&&Y R.ae !=0 then .bj (uq m (.c n)) (.el r w m 0) else
    match m with
    |.c m=>if decide (0<=m)&&decide (m<(n:Int)) then .ok (.el r w (.c i) (V+m.toNat*Y R.ae)) else .no ""
    |_=>.no ""
   |none=>.no ""
  |U ⟨.arr n e,_,_⟩,.el r w i V,.int _ (.c m)=>match X e with
   |U R=>if decide (0<=m)&&decide (m<(n:Int)) then .ok (.el r w i (V+m.toNat*Y R.ae)) else .no ""
   |none=>.no ""
  |U ⟨.slice e,_,_⟩,.ref r,.int _ m=>match X e,r.kind X s with
   |U R,.sl _=>.bj (uq m (.len r)) (.el r (Y R.ae) m 0)
   |_,_=>.no ""
  |U ⟨.slice e,_,_⟩,.gY i V D _,.int _ (.c m)=>match X e with
   |U R=>if decide (0<=m)&&decide (m<(D:Int)) then .ok (.loc i (V+m.toNat*Y R.ae)) else .no ""
   |none=>.no ""
  |U ⟨.arr n e,_,_⟩,.loc i V,.int _ m=>match X e with
   |U R=>.bj (uq m (.c n)) (.eR m (Bm n) ((aI5 n).map λj=>.loc i (V+j*Y R.ae)))
   |none=>.no ""
  |_,_,_=>.no ""
 |.index t x L=>match X t,s.ev W x,s.ev W L with
  |U ⟨.arr n e,_,_⟩,.agg l,.int _ (.c m)=>match X e with
   |U R=>if decide (0<=m)&&decide (m<(n:Int)) then(match vO R l (m.toNat*Y R.ae) with
    |U v=>.ok v
    |none=>.no "") else .no ""
   |none=>.no ""
  |U ⟨.arr n e,_,_⟩,.agg l,.int _ m=>match X e with
   |U R=>match(Df ((aI5 n).map λj=>vO R l (j*Y R.ae))).bind (RF R m (Bm n)) with
    |U v=>.bj (uq m (.c n)) v
    |none=>.no ""
   |none=>.no ""
  |U ⟨.str,_,_⟩,.ref r,.int _ m=>match r.kind X s with
   |.str=>.bj (uq m (.len r)) (.int .u8 (.lT r m))
   |_=>.no ""
  |_,_,_=>.no ""
 |.binOp Q t x y _=>match s.ev W x,s.ev W y with
  |.int k a,.int C b=>
   if aiF Q then(match b with
    |.c n=>if decide (0<=n) then .ok (.int k (FB Q k a (.c n))) else .no ""
    |_=>.no "") else
   if k≠C then .no "" else
   if Rz Q then .ok (.bool (oq Q a b)) else
   if Zv Q then .ok (.int k (FB Q k a b)) else
   if Zw Q then(match b with
    |.c n=>if n==0 then .no "" else .ok (.int k (FB Q k a b))
    |_=>.bj (oq .neq b (.c 0)) (.int k (FB Q k a b))) else .no ""
  |.bool a,.bool b=>match X t,Q with
   |U ⟨.one,[.bool],_⟩,.eql=>.ok (.bool (MP a b))
   |U ⟨.one,[.bool],_⟩,.neq=>.ok (.bool (De (MP a b)))
   |_,_=>.no ""
  |.ref (.k .nilFunc),.ref (.k .nilFunc)=>if !MQ (X t) then .no "" else match Q with
   |.eql=>.ok (.bool (.c J))
   |.neq=>.ok (.bool (.c E))
   |_=>.no ""
  |.ref a,.ref b=>match a.kind X s,b.kind X s,Q with
   |.str,.str,.eql=>.ok (.bool (.seq a b))
   |.str,.str,.neq=>.ok (.bool (.not (.seq a b)))
   |_,_,_=>.no ""
  |.fn _ _,.ref (.k .nilFunc)=>if !MQ (X t) then .no "" else match Q with
   |.eql=>.ok (.bool (.c E))
   |.neq=>.ok (.bool (.c J))
   |_=>.no ""
  |.eR e M N,.ref (.k .nilFunc)=>if N.all Iz&&Y M==Y N&&MQ (X t) then(match Q with
   |.eql=>.ok (.bool (Bk e M N))
   |.neq=>.ok (.bool (De (Bk e M N)))
   |_=>.no "") else .no ""
  |.agg a,.agg b=>match Q,Iy X s (X t) a b with
   |.eql,U e=>.ok (.bool e)
   |.neq,U e=>.ok (.bool (De e))
   |_,_=>.no ""
  |_,_=>.no ""
 |.unOp Q _ x=>match Q,s.ev W x with
  |.not,.bool b=>.ok (.bool (De b))
  |.neg,.int k e=>.ok (.int k (FB .sub k (.c 0) e))
  |_,_=>.no ""
 |.convert B A x=>match X B,X A,s.ev W x with
  |U ⟨.one,[.int _],_⟩,U ⟨.one,[.int k],_⟩,.int _ (.c n)=>.ok (.int k (.c (k.wrap n)))
  |U ⟨.one,[.int _],_⟩,U ⟨.one,[.int k],_⟩,.int _ e=>.ok (.int k (.conv k e))
  |_,_,_=>.no ""
 |.makeInterface t x=>match X t with
  |U ⟨.fh,_,_⟩=>.no ""
  |U _=>.ok (.fh t (s.ev W x))
  |none=>.no ""
 |.makeFunc z first F=>match z,first.toList with
  |.func f,[]=>.ok (.fn f (F.toList.map (s.ev W)))
  |_,_=>.no ""
 |.extract x i=>match s.ev W x with
  |.bH l=>match l[i]? with
   |U v=>.ok v
   |none=>.no ""
  |_=>.no ""
 |.nilCheck x=>match s.ev W x with
  |.loc i V=>.ok (.loc i V)
  |.el r w i V=>.ok (.el r w i V)
  |.fn f F=>.ok (.fn f F)
  |_=>.no ""
 |.slice t x u h g=>match X t,s.ev W x,g with
  |U ⟨.arr n e,_,_⟩,.loc i V,Z=>match X e,u.map (s.ev W),h.map (s.ev W) with
   |U _,Z,Z=>.ok (.gY i V n n)
   |U R,U (.int _ (.c l)),Z=>if decide (0<=l)&&decide (l<(n:Int)) then .ok (.gY i (V+l.toNat*Y R.ae) (n-l.toNat) (n-l.toNat)) else .no ""
   |_,_,_=>.no ""
  |_,_,_=>.no ""
 |.build t parts=>match X t with
  |U ⟨.struct O,ae,q⟩=>if !(O.all λf=>(X f.2).isSome) then .no "" else match xD (Zx X O) (di ⟨.struct O,ae,q⟩) (parts.toList.map λp=>(p.1,s.ev W p.2)) with
   |U l=>.ok (.agg l)
   |none=>.no ""
  |U ⟨.arr n e,ae,q⟩=>match X e with
   |U R=>match xD (λi=>U (i*Y R.ae,Y R.ae)) (di ⟨.arr n e,ae,q⟩) (parts.toList.map λp=>(p.1,s.ev W p.2)) with
    |U l=>.ok (.agg l)
    |none=>.no ""
   |none=>.no ""
  |_=>.no ""
 |.call c=>match c.callee with
  |.builtin .len=>match c.argTypes.toList,c.args.toList.map (s.ev W) with
   |[t],[.ref (.k (.slice Z 0 0))]=>match X t with
    |U ⟨.slice _,_,_⟩=>.ok (.int I (.c 0))
    |_=>.no ""
   |[t],[.ref r]=>match X t,r.kind X s with
    |U ⟨.slice _,_,_⟩,.sl _=>.ok (.int I (.len r))
    |U ⟨.str,_,_⟩,.str=>.ok (.int I (.len r))
    |_,_=>.no ""
   |[t],[.gY _ _ n _]=>match X t with
    |U ⟨.slice _,_,_⟩=>.ok (.int I (.c n))
    |_=>.no ""
   |_,_=>.no ""
  |.builtin .min=>match c.args.toList.map (s.ev W) with
   |.int k x::r=>match FC E k x r with
    |U e=>.ok (.int k e)
    |none=>.no ""
   |_=>.no ""
  |.builtin .max=>match c.args.toList.map (s.ev W) with
   |.int k x::r=>match FC J k x r with
    |U e=>.ok (.int k e)
    |none=>.no ""
   |_=>.no ""
  |_=>.no ""
 |.lookup t x L d=>match X t,s.ev W x with
  |U ⟨.map k e n ag,_,_⟩,.mp i=>RD X s k e n ag d i (s.ev W L)
  |_,_=>.no ""
 |_=>.no ""
def zq(X:lu)(s:S):Op->bR
 |.load _ x=>match s.ev X x with
  |.loc i _=>U i
  |.eR _ _ W=>xE W
  |_=>Z
 |.lookup _ x _ _=>match s.ev X x with
  |.mp i=>U i
  |_=>Z
 |_=>Z
def FG:Value->Value->Bool
 |.string a,.string b=>a.data.toList==b.data.toList
 |.slice Z a b,.slice Z c d=>a==c&&b==d
 |.pointer Z,.pointer Z=>J
 |.nilFunc,.nilFunc=>J
 |.nilIface,.nilIface=>J
 |.map Z,.map Z=>J
 |_,_=>E
def zr(a b:BinOp):Bool:=decide (a=b)
noncomputable def IE.same(e:IE):IE->Bool:=IE.rec (motive_1:=λ_=>IE->Bool) (motive_2:=λ_=>BE->Bool) (motive_3:=λ_=>RE->Bool) (λn e=>match e with|IE.c N=>n==N|_=>E) (λk e=>match e with|IE.v O=>k==O|_=>E) (λo k _ _ X W e=>match e with|IE.bin D O V R=>zr o D&&decide (k=O)&&X V&&W R|_=>E) (λk _ X e=>match e with|IE.conv O V=>decide (k=O)&&X V|_=>E) (λ_ Q e=>match e with|IE.len P=>Q P|_=>E) (λm _ _ X W e=>match e with|IE.mm y V R=>m==y&&X V&&W R|_=>E) (λ_ _ _ W C B e=>match e with|IE.cF R A z=>W R&&C A&&B z|_=>E) (λ_ _ j Q L e=>match e with|IE.cell P H M=>Q P&&L H&&j==M|_=>E) (λ_ _ Q L e=>match e with|IE.lT P H=>Q P&&L H|_=>E) (λ_ n _ _ _ j Q X W G e=>match e with|IE.look P N V R F M=>Q P&&n==N&&X V&&W R&&G F&&j==M|_=>E) (λn e=>match e with|BE.c N=>n==N|_=>E) (λk e=>match e with|BE.v O=>k==O|_=>E) (λo _ _ X W e=>match e with|BE.cmp D V R=>zr o D&&X V&&W R|_=>E) (λ_ X e=>match e with|BE.not V=>X V|_=>E) (λ_ _ X W e=>match e with|BE.and V R=>X V&&W R|_=>E) (λ_ _ X W e=>match e with|BE.beq V R=>X V&&W R|_=>E) (λ_ _ _ W C B e=>match e with|BE.cF R A z=>W R&&C A&&B z|_=>E) (λ_ _ j Q L e=>match e with|BE.cell P H M=>Q P&&L H&&j==M|_=>E) (λ_ _ X W e=>match e with|BE.seq V R=>X V&&W R|_=>E) (λ_ n _ _ _ j Q X W G e=>match e with|BE.look P N V R F M=>Q P&&n==N&&X V&&W R&&G F&&j==M|_=>E) (λ_ n _ _ _ Q X W G e=>match e with|BE.has P N V R F=>Q P&&n==N&&X V&&W R&&G F|_=>E) (λk e=>match e with|RE.v O=>k==O|_=>E) (λ_ _ j k Q L e=>match e with|RE.cell P H M O=>Q P&&L H&&j==M&&decide (k=O)|_=>E) (λv e=>match e with|RE.k x=>FG v x|_=>E) e
noncomputable def BE.same(e:BE):BE->Bool:=BE.rec (motive_1:=λ_=>IE->Bool) (motive_2:=λ_=>BE->Bool) (motive_3:=λ_=>RE->Bool) (λn e=>match e with|IE.c N=>n==N|_=>E) (λk e=>match e with|IE.v O=>k==O|_=>E) (λo k _ _ X W e=>match e with|IE.bin D O V R=>zr o D&&decide (k=O)&&X V&&W R|_=>E) (λk _ X e=>match e with|IE.conv O V=>decide (k=O)&&X V|_=>E) (λ_ Q e=>match e with|IE.len P=>Q P|_=>E) (λm _ _ X W e=>match e with|IE.mm y V R=>m==y&&X V&&W R|_=>E) (λ_ _ _ W C B e=>match e with|IE.cF R A z=>W R&&C A&&B z|_=>E) (λ_ _ j Q L e=>match e with|IE.cell P H M=>Q P&&L H&&j==M|_=>E) (λ_ _ Q L e=>match e with|IE.lT P H=>Q P&&L H|_=>E) (λ_ n _ _ _ j Q X W G e=>match e with|IE.look P N V R F M=>Q P&&n==N&&X V&&W R&&G F&&j==M|_=>E) (λn e=>match e with|BE.c N=>n==N|_=>E) (λk e=>match e with|BE.v O=>k==O|_=>E) (λo _ _ X W e=>match e with|BE.cmp D V R=>zr o D&&X V&&W R|_=>E) (λ_ X e=>match e with|BE.not V=>X V|_=>E) (λ_ _ X W e=>match e with|BE.and V R=>X V&&W R|_=>E) (λ_ _ X W e=>match e with|BE.beq V R=>X V&&W R|_=>E) (λ_ _ _ W C B e=>match e with|BE.cF R A z=>W R&&C A&&B z|_=>E) (λ_ _ j Q L e=>match e with|BE.cell P H M=>Q P&&L H&&j==M|_=>E) (λ_ _ X W e=>match e with|BE.seq V R=>X V&&W R|_=>E) (λ_ n _ _ _ j Q X W G e=>match e with|BE.look P N V R F M=>Q P&&n==N&&X V&&W R&&G F&&j==M|_=>E) (λ_ n _ _ _ Q X W G e=>match e with|BE.has P N V R F=>Q P&&n==N&&X V&&W R&&G F|_=>E) (λk e=>match e with|RE.v O=>k==O|_=>E) (λ_ _ j k Q L e=>match e with|RE.cell P H M O=>Q P&&L H&&j==M&&decide (k=O)|_=>E) (λv e=>match e with|RE.k x=>FG v x|_=>E) e
noncomputable def RE.same(e:RE):RE->Bool:=RE.rec (motive_1:=λ_=>IE->Bool) (motive_2:=λ_=>BE->Bool) (motive_3:=λ_=>RE->Bool) (λn e=>match e with|IE.c N=>n==N|_=>E) (λk e=>match e with|IE.v O=>k==O|_=>E) (λo k _ _ X W e=>match e with|IE.bin D O V R=>zr o D&&decide (k=O)&&X V&&W R|_=>E) (λk _ X e=>match e with|IE.conv O V=>decide (k=O)&&X V|_=>E) (λ_ Q e=>match e with|IE.len P=>Q P|_=>E) (λm _ _ X W e=>match e with|IE.mm y V R=>m==y&&X V&&W R|_=>E) (λ_ _ _ W C B e=>match e with|IE.cF R A z=>W R&&C A&&B z|_=>E) (λ_ _ j Q L e=>match e with|IE.cell P H M=>Q P&&L H&&j==M|_=>E) (λ_ _ Q L e=>match e with|IE.lT P H=>Q P&&L H|_=>E) (λ_ n _ _ _ j Q X W G e=>match e with|IE.look P N V R F M=>Q P&&n==N&&X V&&W R&&G F&&j==M|_=>E) (λn e=>match e with|BE.c N=>n==N|_=>E) (λk e=>match e with|BE.v O=>k==O|_=>E) (λo _ _ X W e=>match e with|BE.cmp D V R=>zr o D&&X V&&W R|_=>E) (λ_ X e=>match e with|BE.not V=>X V|_=>E) (λ_ _ X W e=>match e with|BE.and V R=>X V&&W R|_=>E) (λ_ _ X W e=>match e with|BE.beq V R=>X V&&W R|_=>E) (λ_ _ _ W C B e=>match e with|BE.cF R A z=>W R&&C A&&B z|_=>E) (λ_ _ j Q L e=>match e with|BE.cell P H M=>Q P&&L H&&j==M|_=>E) (λ_ _ X W e=>match e with|BE.seq V R=>X V&&W R|_=>E) (λ_ n _ _ _ j Q X W G e=>match e with|BE.look P N V R F M=>Q P&&n==N&&X V&&W R&&G F&&j==M|_=>E) (λ_ n _ _ _ Q X W G e=>match e with|BE.has P N V R F=>Q P&&n==N&&X V&&W R&&G F|_=>E) (λk e=>match e with|RE.v O=>k==O|_=>E) (λ_ _ j k Q L e=>match e with|RE.cell P H M O=>Q P&&L H&&j==M&&decide (k=O)|_=>E) (λv e=>match e with|RE.k x=>FG v x|_=>E) e
def IE.gh:(∀n e,IE.same (.c n) e=match e with|IE.c Q=>n==Q|_=>E)/\(∀k e,IE.same (.v k) e=match e with|IE.v R=>k==R|_=>E)/\(∀o k a b e,IE.same (.bin o k a b) e=match e with|IE.bin N R X W=>zr o N&&decide (k=R)&&IE.same a X&&IE.same b W|_=>E)/\(∀k a e,IE.same (.conv k a) e=match e with|IE.conv R X=>decide (k=R)&&IE.same a X|_=>E)/\(∀r e,IE.same (.len r) e=match e with|IE.len V=>RE.same r V|_=>E)/\(∀m a b e,IE.same (.mm m a b) e=match e with|IE.mm M X W=>m==M&&IE.same a X&&IE.same b W|_=>E)/\(∀b x y e,IE.same (.cF b x y) e=match e with|IE.cF W L H=>BE.same b W&&IE.same x L&&IE.same y H|_=>E)/\(∀r i j e,IE.same (.cell r i j) e=match e with|IE.cell V P O=>RE.same r V&&IE.same i P&&j==O|_=>E)/\(∀r i e,IE.same (.lT r i) e=match e with|IE.lT V P=>RE.same r V&&IE.same i P|_=>E)/\(∀r n a b c j e,IE.same (.look r n a b c j) e=match e with|IE.look V Q X W G O=>RE.same r V&&n==Q&&IE.same a X&&IE.same b W&&IE.same c G&&j==O|_=>E):=⟨λ_ _=>rfl,λ_ _=>rfl,λ_ _ _ _ _=>rfl,λ_ _ _=>rfl,λ_ _=>rfl,λ_ _ _ _=>rfl,λ_ _ _ _=>rfl,λ_ _ _ _=>rfl,λ_ _ _=>rfl,λ_ _ _ _ _ _ _=>rfl⟩
def BE.gh:(∀n e,BE.same (.c n) e=match e with|BE.c V=>n==V|_=>E)/\(∀k e,BE.same (.v k) e=match e with|BE.v O=>k==O|_=>E)/\(∀o a b e,BE.same (.cmp o a b) e=match e with|BE.cmp N X W=>zr o N&&IE.same a X&&IE.same b W|_=>E)/\(∀a e,BE.same (.not a) e=match e with|BE.not X=>BE.same a X|_=>E)/\(∀a b e,BE.same (.and a b) e=match e with|BE.and X W=>BE.same a X&&BE.same b W|_=>E)/\(∀a b e,BE.same (.beq a b) e=match e with|BE.beq X W=>BE.same a X&&BE.same b W|_=>E)/\(∀b x y e,BE.same (.cF b x y) e=match e with|BE.cF W M L=>BE.same b W&&BE.same x M&&BE.same y L|_=>E)/\(∀r i j e,BE.same (.cell r i j) e=match e with|BE.cell R H Q=>RE.same r R&&IE.same i H&&j==Q|_=>E)/\(∀a b e,BE.same (.seq a b) e=match e with|BE.seq X W=>RE.same a X&&RE.same b W|_=>E)/\(∀r n a b c j e,BE.same (.look r n a b c j) e=match e with|BE.look R V X W P Q=>RE.same r R&&n==V&&IE.same a X&&IE.same b W&&IE.same c P&&j==Q|_=>E)/\(∀r n a b c e,BE.same (.has r n a b c) e=match e with|BE.has R V X W P=>RE.same r R&&n==V&&IE.same a X&&IE.same b W&&IE.same c P|_=>E):=⟨λ_ _=>rfl,λ_ _=>rfl,λ_ _ _ _=>rfl,λ_ _=>rfl,λ_ _ _=>rfl,λ_ _ _=>rfl,λ_ _ _ _=>rfl,λ_ _ _ _=>rfl,λ_ _ _=>rfl,λ_ _ _ _ _ _ _=>rfl,λ_ _ _ _ _ _=>rfl⟩
def RE.gh:(∀k e,RE.same (.v k) e=match e with|RE.v X=>k==X|_=>E)/\(∀r i j k e,RE.same (.cell r i j k) e=match e with|RE.cell W V R X=>RE.same r W&&IE.same i V&&j==R&&decide (k=X)|_=>E)/\(∀v e,RE.same (.k v) e=match e with|RE.k Q=>FG v Q|_=>E):=⟨λ_ _=>rfl,λ_ _ _ _ _=>rfl,λ_ _=>rfl⟩
noncomputable def SV.same(v:SV):SV->Bool:=SV.rec (motive_1:=λ_=>SV->Bool) (motive_2:=λ_=>ah->Bool) (λk e v=>match v with|SV.int O V=>decide (k=O)&&e.same V|_=>E) (λb v=>match v with|SV.bool R=>b.same R|_=>E) (λr v=>match v with|SV.ref Q=>r.same Q|_=>E) (λi o v=>match v with|SV.loc X P=>i==X&&o==P|_=>E) (λr w i o v=>match v with|SV.el Q N X P=>r.same Q&&w==N&&i.same X&&o==P|_=>E) (λa b c d v=>match v with|SV.gY M R L H=>a==M&&b==R&&c==L&&d==H|_=>E) (λ_ h v=>match v with|SV.agg W=>h W|_=>E) (λ_ h v=>match v with|SV.bH W=>h W|_=>E) (λf _ h v=>match v with|SV.fn G W=>f==G&&h W|_=>E) (λt _ h v=>match v with|SV.fh F D=>t==F&&h D|_=>E) (λn v=>match v with|SV.yl C=>n==C|_=>E) (λv=>match v with|SV.any=>J|_=>E) (λi v=>match v with|SV.mp X=>i==X|_=>E) (λe B _ h v=>match v with|SV.eR V A z=>e.same V&&B==A&&h z|_=>E) (λl=>match l with|[]=>J|_=>E) (λ_ _ h x l=>match l with|y::u=>h y&&x u|_=>E) v
noncomputable def SV.o8(l:ah):ah->Bool:=SV.rec_1 (motive_1:=λ_=>SV->Bool) (motive_2:=λ_=>ah->Bool) (λk e v=>match v with|SV.int O V=>decide (k=O)&&e.same V|_=>E) (λb v=>match v with|SV.bool R=>b.same R|_=>E) (λr v=>match v with|SV.ref Q=>r.same Q|_=>E) (λi o v=>match v with|SV.loc X P=>i==X&&o==P|_=>E) (λr w i o v=>match v with|SV.el Q N X P=>r.same Q&&w==N&&i.same X&&o==P|_=>E) (λa b c d v=>match v with|SV.gY M R L H=>a==M&&b==R&&c==L&&d==H|_=>E) (λ_ h v=>match v with|SV.agg W=>h W|_=>E) (λ_ h v=>match v with|SV.bH W=>h W|_=>E) (λf _ h v=>match v with|SV.fn G W=>f==G&&h W|_=>E) (λt _ h v=>match v with|SV.fh F D=>t==F&&h D|_=>E) (λn v=>match v with|SV.yl C=>n==C|_=>E) (λv=>match v with|SV.any=>J|_=>E) (λi v=>match v with|SV.mp X=>i==X|_=>E) (λe B _ h v=>match v with|SV.eR V A z=>e.same V&&B==A&&h z|_=>E) (λl=>match l with|[]=>J|_=>E) (λ_ _ h x l=>match l with|y::u=>h y&&x u|_=>E) l
def SV.gh:(∀k e v,SV.same (.int k e) v=match v with|SV.int M V=>decide (k=M)&&e.same V|_=>E)/\(∀b v,SV.same (.bool b) v=match v with|SV.bool R=>b.same R|_=>E)/\(∀r v,SV.same (.ref r) v=match v with|SV.ref Q=>r.same Q|_=>E)/\(∀i o v,SV.same (.loc i o) v=match v with|SV.loc X P=>i==X&&o==P|_=>E)/\(∀r w i o v,SV.same (.el r w i o) v=match v with|SV.el Q L X P=>r.same Q&&w==L&&i.same X&&o==P|_=>E)/\(∀a b c d v,SV.same (.gY a b c d) v=match v with|SV.gY H R G F=>a==H&&b==R&&c==G&&d==F|_=>E)/\(∀l v,SV.same (.agg l) v=match v with|SV.agg W=>SV.o8 l W|_=>E)/\(∀l v,SV.same (.bH l) v=match v with|SV.bH W=>SV.o8 l W|_=>E)/\(∀f l v,SV.same (.fn f l) v=match v with|SV.fn D W=>f==D&&SV.o8 l W|_=>E)/\(∀t x v,SV.same (.fh t x) v=match v with|SV.fh C B=>t==C&&SV.same x B|_=>E)/\(∀n v,SV.same (.yl n) v=match v with|SV.yl A=>n==A|_=>E)/\(∀v,SV.same (.any) v=match v with|SV.any=>J|_=>E)/\(∀i v,SV.same (.mp i) v=match v with|SV.mp X=>i==X|_=>E)/\(∀e O N v,SV.same (.eR e O N) v=match v with|SV.eR V z y=>e.same V&&O==z&&SV.o8 N y|_=>E):=⟨λ_ _ _=>rfl,λ_ _=>rfl,λ_ _=>rfl,λ_ _ _=>rfl,λ_ _ _ _ _=>rfl,λ_ _ _ _ _=>rfl,λ_ _=>rfl,λ_ _=>rfl,λ_ _ _=>rfl,λ_ _ _=>rfl,λ_ _=>rfl,λ_=>rfl,λ_ _=>rfl,λ_ _ _ _=>rfl⟩
def SV.aiH:(∀l,SV.o8 [] l=match l with|[]=>J|_=>E)/\(∀x X l,SV.o8 (x::X) l=match l with|y::W=>SV.same x y&&SV.o8 X W|_=>E):=⟨λ_=>rfl,λ_ _ _=>rfl⟩
def aiI:∀n:Nat,∃q,8^n=7*q+1
 |0=>⟨0,rfl⟩
 |n+1=>by
  obtain⟨q,h⟩:=aiI n;exact⟨8*q+1,by rw[Nat.pow_succ,h];omega⟩
def A3(n:Nat):Nat:=Nat.div (Nat.sub (Nat.pow 8 n) 1) 7
def aiJ(n:Nat):8^n=7*A3 n+1:=by
 obtain⟨q,h⟩:=aiI n;have:A3 n=q:=by
  show(8^n-1)/7=q;rw[h];omega
 rw[this];exact h
def RG(n:Nat):A3 (n+1)=8*A3 n+1:=by
 have X:=aiJ n;have W:=aiJ (n+1);rw[Nat.pow_succ,X] at W;omega
def aiK:∀(n j:Nat),(A3 n).testBit j=(decide (j%3=0)&&decide (j/3<n))
 |0,j=>by simp[show A3 0=0 from rfl]
 |n+1,0=>by rw[RG,aLB];simp;omega
 |n+1,1=>by rw[RG,aKk,show(8*A3 n+1)/2=4*A3 n by omega,aLB];simp;omega
 |n+1,2=>by rw[RG,aKk,aKk,show(8*A3 n+1)/2/2=2*A3 n by omega,aLB];simp
 |n+1,j+3=>by
  rw[RG,aKk,aKk,aKk,show(8*A3 n+1)/2/2/2=A3 n by omega,aiK n j,Nat.add_mod_right,Nat.add_div_right _ (by omega)];simp
def kP(X W V:Nat):Nat:=aIQ (A3 X) (aIQ (aJc (A3 W) 1) (aJc (A3 V) 2))
def ZB(X W V j:Nat):(kP X W V).testBit j=if j%3=0 then decide (j/3<X) else if j%3=1 then decide (j/3<W) else decide (j/3<V):=by
 change(A3 X|||(A3 W<<<1|||A3 V<<<2)).testBit j=_;simp only[aJ4,aLb,aiK];rw[aJv];simp only[aIZ,aIy,decide_eq_true_eq];split;simp only[decide_eq_true_eq];omega;split;simp only[decide_eq_true_eq];omega;simp only[decide_eq_true_eq];omega
def MS:aJq (aIQ R N) N=J<->∀j,R.testBit j=J->N.testBit j=true:=by
 rw[aLZ];constructor;intro h j X;have:(R|||N).testBit j=N.testBit j:=congrArg (λx=>Nat.testBit x j) h;rw[<-this,aJ4,X,aL6];intro h;refine Nat.eq_of_testBit_eq λj=> ?_
 change(R|||N).testBit j=_;rw[aJ4];cases W:R.testBit j with
 |true=>rw[h j W];rfl
 |false=>simp
def j6(a b A:Nat):aJq (aIQ (aIQ a b) A) A=(aJq (aIQ a A) A&&aJq (aIQ b A) A):=by
 rw[aJv,aIy,MS,MS,MS];change(∀j,(a|||b).testBit j=J->_)<->_;simp only[aJ4,aIZ];exact⟨λh=>⟨λj k=>h j (.inl k),λj k=>h j (.inr k)⟩,λh j k=>k.elim (h.1 j) (h.2 j)⟩
def ZC(k A:Nat):aJq (aIQ (aJc 1 k) A) A=A.testBit k:=by
 rw[aJv,MS];change(∀j,(1<<<k).testBit j=J->_)<->_;simp only[aLw,aL4,decide_eq_true_eq];exact⟨λh=>h k rfl,λh j e=>e▸h⟩
def FH(A:Nat):aJq (aIQ 0 A) A=true:=MS.2 λj h=>by simp at h
noncomputable def IE.kQ(e:IE):Nat:=IE.rec (motive_1:=λ_=>Nat) (motive_2:=λ_=>Nat) (motive_3:=λ_=>Nat) (λ_=>0) (λk=>aJc 1 (3*k)) (λ_ _ _ _ a b=>aIQ a b) (λ_ _ a=>a) (λ_ r=>r) (λ_ _ _ a b=>aIQ a b) (λ_ _ _ b x y=>aIQ (aIQ b x) y) (λ_ _ _ r i=>aIQ r i) (λ_ _ r i=>aIQ r i) (λ_ _ _ _ _ _ r a b c=>aIQ (aIQ (aIQ r a) b) c) (λ_=>0) (λk=>aJc 1 (3*k+1)) (λ_ _ _ a b=>aIQ a b) (λ_ a=>a) (λ_ _ a b=>aIQ a b) (λ_ _ a b=>aIQ a b) (λ_ _ _ b x y=>aIQ (aIQ b x) y) (λ_ _ _ r i=>aIQ r i) (λ_ _ a b=>aIQ a b) (λ_ _ _ _ _ _ r a b c=>aIQ (aIQ (aIQ r a) b) c) (λ_ _ _ _ _ r a b c=>aIQ (aIQ (aIQ r a) b) c) (λk=>aJc 1 (3*k+2)) (λ_ _ _ _ r i=>aIQ r i) (λ_=>0) e
noncomputable def BE.kQ(e:BE):Nat:=BE.rec (motive_1:=λ_=>Nat) (motive_2:=λ_=>Nat) (motive_3:=λ_=>Nat) (λ_=>0) (λk=>aJc 1 (3*k)) (λ_ _ _ _ a b=>aIQ a b) (λ_ _ a=>a) (λ_ r=>r) (λ_ _ _ a b=>aIQ a b) (λ_ _ _ b x y=>aIQ (aIQ b x) y) (λ_ _ _ r i=>aIQ r i) (λ_ _ r i=>aIQ r i) (λ_ _ _ _ _ _ r a b c=>aIQ (aIQ (aIQ r a) b) c) (λ_=>0) (λk=>aJc 1 (3*k+1)) (λ_ _ _ a b=>aIQ a b) (λ_ a=>a) (λ_ _ a b=>aIQ a b) (λ_ _ a b=>aIQ a b) (λ_ _ _ b x y=>aIQ (aIQ b x) y) (λ_ _ _ r i=>aIQ r i) (λ_ _ a b=>aIQ a b) (λ_ _ _ _ _ _ r a b c=>aIQ (aIQ (aIQ r a) b) c) (λ_ _ _ _ _ r a b c=>aIQ (aIQ (aIQ r a) b) c) (λk=>aJc 1 (3*k+2)) (λ_ _ _ _ r i=>aIQ r i) (λ_=>0) e
noncomputable def RE.kQ(e:RE):Nat:=RE.rec (motive_1:=λ_=>Nat) (motive_2:=λ_=>Nat) (motive_3:=λ_=>Nat) (λ_=>0) (λk=>aJc 1 (3*k)) (λ_ _ _ _ a b=>aIQ a b) (λ_ _ a=>a) (λ_ r=>r) (λ_ _ _ a b=>aIQ a b) (λ_ _ _ b x y=>aIQ (aIQ b x) y) (λ_ _ _ r i=>aIQ r i) (λ_ _ r i=>aIQ r i) (λ_ _ _ _ _ _ r a b c=>aIQ (aIQ (aIQ r a) b) c) (λ_=>0) (λk=>aJc 1 (3*k+1)) (λ_ _ _ a b=>aIQ a b) (λ_ a=>a) (λ_ _ a b=>aIQ a b) (λ_ _ a b=>aIQ a b) (λ_ _ _ b x y=>aIQ (aIQ b x) y) (λ_ _ _ r i=>aIQ r i) (λ_ _ a b=>aIQ a b) (λ_ _ _ _ _ _ r a b c=>aIQ (aIQ (aIQ r a) b) c) (λ_ _ _ _ _ r a b c=>aIQ (aIQ (aIQ r a) b) c) (λk=>aJc 1 (3*k+2)) (λ_ _ _ _ r i=>aIQ r i) (λ_=>0) e
noncomputable def IE.bd(X W V:Nat)(e:IE):Bool:=aJq (aIQ e.kQ (kP X W V)) (kP X W V)
noncomputable def BE.bd(X W V:Nat)(e:BE):Bool:=aJq (aIQ e.kQ (kP X W V)) (kP X W V)
noncomputable def RE.bd(X W V:Nat)(e:RE):Bool:=aJq (aIQ e.kQ (kP X W V)) (kP X W V)
def avI(X W V k:Nat):(kP X W V).testBit (3*k)=decide (k<X):=by
 rw[ZB,if_pos (by omega),show 3*k/3=k by omega]
def avJ(W X V k:Nat):(kP W X V).testBit (3*k+1)=decide (k<X):=by
 rw[ZB,if_neg (by omega),if_pos (by omega),show(3*k+1)/3=k by omega]
def avK(W V X k:Nat):(kP W V X).testBit (3*k+2)=decide (k<X):=by
 rw[ZB,if_neg (by omega),if_neg (by omega),show(3*k+2)/3=k by omega]
def IE.aS:(∀n,IE.bd R N h (.c n)=J)/\(∀k,IE.bd R N h (.v k)=decide (k<R))/\(∀o k a b,IE.bd R N h (.bin o k a b)=(IE.bd R N h a&&IE.bd R N h b))/\(∀k a,IE.bd R N h (.conv k a)=(IE.bd R N h a))/\(∀r,IE.bd R N h (.len r)=(RE.bd R N h r))/\(∀m a b,IE.bd R N h (.mm m a b)=(IE.bd R N h a&&IE.bd R N h b))/\(∀b x y,IE.bd R N h (.cF b x y)=(BE.bd R N h b&&IE.bd R N h x&&IE.bd R N h y))/\(∀r i j,IE.bd R N h (.cell r i j)=(RE.bd R N h r&&IE.bd R N h i))/\(∀r i,IE.bd R N h (.lT r i)=(RE.bd R N h r&&IE.bd R N h i))/\(∀r n a b c j,IE.bd R N h (.look r n a b c j)=(RE.bd R N h r&&IE.bd R N h a&&IE.bd R N h b&&IE.bd R N h c)):=⟨λ_=>FH _,λ_=>(ZC _ _).trans (avI _ _ _ _),λ_ _ _ _=>j6 _ _ _,λ_ _=>rfl,λ_=>rfl,λ_ _ _=>j6 _ _ _,λ_ _ _=>(j6 _ _ _).trans (congrArg (· &&_) (j6 _ _ _)),λ_ _ _=>j6 _ _ _,λ_ _=>j6 _ _ _,λ_ _ _ _ _ _=>(j6 _ _ _).trans (congrArg (· &&_) ((j6 _ _ _).trans (congrArg (· &&_) (j6 _ _ _))))⟩
def BE.aS:(∀n,BE.bd R N h (.c n)=J)/\(∀k,BE.bd R N h (.v k)=decide (k<N))/\(∀o a b,BE.bd R N h (.cmp o a b)=(IE.bd R N h a&&IE.bd R N h b))/\(∀a,BE.bd R N h (.not a)=(BE.bd R N h a))/\(∀a b,BE.bd R N h (.and a b)=(BE.bd R N h a&&BE.bd R N h b))/\(∀a b,BE.bd R N h (.beq a b)=(BE.bd R N h a&&BE.bd R N h b))/\(∀b x y,BE.bd R N h (.cF b x y)=(BE.bd R N h b&&BE.bd R N h x&&BE.bd R N h y))/\(∀r i j,BE.bd R N h (.cell r i j)=(RE.bd R N h r&&IE.bd R N h i))/\(∀a b,BE.bd R N h (.seq a b)=(RE.bd R N h a&&RE.bd R N h b))/\(∀r n a b c j,BE.bd R N h (.look r n a b c j)=(RE.bd R N h r&&IE.bd R N h a&&IE.bd R N h b&&IE.bd R N h c))/\(∀r n a b c,BE.bd R N h (.has r n a b c)=(RE.bd R N h r&&IE.bd R N h a&&IE.bd R N h b&&IE.bd R N h c)):=⟨λ_=>FH _,λ_=>(ZC _ _).trans (avJ _ _ _ _),λ_ _ _=>j6 _ _ _,λ_=>rfl,λ_ _=>j6 _ _ _,λ_ _=>j6 _ _ _,λ_ _ _=>(j6 _ _ _).trans (congrArg (· &&_) (j6 _ _ _)),λ_ _ _=>j6 _ _ _,λ_ _=>j6 _ _ _,λ_ _ _ _ _ _=>(j6 _ _ _).trans (congrArg (· &&_) ((j6 _ _ _).trans (congrArg (· &&_) (j6 _ _ _)))),λ_ _ _ _ _=>(j6 _ _ _).trans (congrArg (· &&_) ((j6 _ _ _).trans (congrArg (· &&_) (j6 _ _ _))))⟩
def RE.aS:(∀k,RE.bd R N h (.v k)=decide (k<h))/\(∀r i j k,RE.bd R N h (.cell r i j k)=(RE.bd R N h r&&IE.bd R N h i))/\(∀v,RE.bd R N h (.k v)=J):=⟨λ_=>(ZC _ _).trans (avK _ _ _ _),λ_ _ _ _=>j6 _ _ _,λ_=>FH _⟩
noncomputable def SV.kQ(v:SV):Nat:=SV.rec (motive_1:=λ_=>Nat) (motive_2:=λ_=>Nat) (λ_ e=>e.kQ) (λb=>b.kQ) (λr=>r.kQ) (λ_ _=>0) (λr _ i _=>aIQ r.kQ i.kQ) (λ_ _ _ _=>0) (λ_ l=>l) (λ_ l=>l) (λ_ _ l=>l) (λ_ _ x=>x) (λ_=>0) 0 (λ_=>0) (λe _ _ l=>aIQ e.kQ l) 0 (λ_ _ a b=>aIQ a b) v
noncomputable def SV.IA(l:ah):Nat:=SV.rec_1 (motive_1:=λ_=>Nat) (motive_2:=λ_=>Nat) (λ_ e=>e.kQ) (λb=>b.kQ) (λr=>r.kQ) (λ_ _=>0) (λr _ i _=>aIQ r.kQ i.kQ) (λ_ _ _ _=>0) (λ_ l=>l) (λ_ l=>l) (λ_ _ l=>l) (λ_ _ x=>x) (λ_=>0) 0 (λ_=>0) (λe _ _ l=>aIQ e.kQ l) 0 (λ_ _ a b=>aIQ a b) l
noncomputable def SV.zt(v:SV):Nat:=SV.rec (motive_1:=λ_=>Nat) (motive_2:=λ_=>Nat) (λ_ _=>0) (λ_=>0) (λ_=>0) (λi _=>aJc 1 i) (λ_ _ _ _=>0) (λi _ _ _=>aJc 1 i) (λ_ l=>l) (λ_ l=>l) (λ_ _ l=>l) (λ_ _ x=>x) (λ_=>0) 0 (λi=>aJc 1 i) (λ_ _ _ l=>l) 0 (λ_ _ a b=>aIQ a b) v
noncomputable def SV.FI(l:ah):Nat:=SV.rec_1 (motive_1:=λ_=>Nat) (motive_2:=λ_=>Nat) (λ_ _=>0) (λ_=>0) (λ_=>0) (λi _=>aJc 1 i) (λ_ _ _ _=>0) (λi _ _ _=>aJc 1 i) (λ_ l=>l) (λ_ l=>l) (λ_ _ l=>l) (λ_ _ x=>x) (λ_=>0) 0 (λi=>aJc 1 i) (λ_ _ _ l=>l) 0 (λ_ _ a b=>aIQ a b) l
noncomputable def SV.IB(X:Nat->Bool)(v:SV):Bool:=SV.rec (motive_1:=λ_=>Bool) (motive_2:=λ_=>Bool) (λ_ _=>J) (λ_=>J) (λ_=>J) (λi _=>X i) (λ_ _ _ _=>J) (λi _ _ _=>X i) (λ_ l=>l) (λ_ l=>l) (λ_ _ l=>l) (λ_ _ x=>x) (λ_=>J) J (λi=>X i) (λ_ _ _ l=>l) J (λ_ _ a b=>a&&b) v
noncomputable def SV.IC(X:Nat->Bool)(l:ah):Bool:=SV.rec_1 (motive_1:=λ_=>Bool) (motive_2:=λ_=>Bool) (λ_ _=>J) (λ_=>J) (λ_=>J) (λi _=>X i) (λ_ _ _ _=>J) (λi _ _ _=>X i) (λ_ l=>l) (λ_ l=>l) (λ_ _ l=>l) (λ_ _ x=>x) (λ_=>J) J (λi=>X i) (λ_ _ _ l=>l) J (λ_ _ a b=>a&&b) l
noncomputable def SV.bd(X W V:Nat)(R:Nat->Bool)(v:SV):Bool:=aK7 (motive:=λ_=>Bool) E (aK7 (motive:=λ_=>Bool) (v.IB R) J (aJq v.zt 0)) (aJq (aIQ v.kQ (kP X W V)) (kP X W V))
def SV.aiL(X W V:Nat)(R:Nat->Bool)(v:SV):SV.bd X W V R v=(aJq (aIQ v.kQ (kP X W V)) (kP X W V)&&(aJq v.zt 0||v.IB R)):=by
 unfold SV.bd;cases aJq (aIQ v.kQ (kP X W V)) (kP X W V)<;>cases aJq v.zt 0<;>rfl
noncomputable def SV.da(X W V:Nat)(R:Nat->Bool)(l:ah):Bool:=aKp (motive:=λ_=>Bool) J (λx _ Q=>aK7 (motive:=λ_=>Bool) E Q (SV.bd X W V R x)) l
def SV.gI{X:Nat->Bool}:(SV.da R N h X []=J)/\(∀x W,SV.da R N h X (x::W)=(SV.bd R N h X x&&SV.da R N h X W)):=⟨rfl,λx W=>by
 show aK7 (motive:=λ_=>Bool) E (SV.da R N h X W) (SV.bd R N h X x)=_;cases SV.bd R N h X x<;>rfl⟩
def aiM:aJq (aIQ R N) 0=(aJq R 0&&aJq N 0):=by
 rw[aJv,aIy,aLZ,aLZ,aLZ];exact Nat.or_eq_zero_iff
def RI(i:Nat):aJq (aJc 1 i) 0=false:=by
 have:aJc 1 i≠0:=by
  change 1<<<i≠0;rw[aLw];exact Nat.ne_of_gt (Nat.two_pow_pos i)
 cases h:aJq (aJc 1 i) 0 with
 |false=>rfl
 |true=>exact absurd (aLP h) this
mutual
def ZD(X:Nat->Bool):∀v:SV,aJq v.zt 0=J->v.IB X=J
 |.int _ _,_=>rfl
 |.bool _,_=>rfl
 |.ref _,_=>rfl
 |.loc i _,h=>by rw[show(SV.loc i _).zt=aJc 1 i from rfl,RI] at h;cases h
 |.el _ _ _ _,_=>rfl
 |.gY i _ _ _,h=>by rw[show(SV.gY i _ _ _).zt=aJc 1 i from rfl,RI] at h;cases h
 |.agg l,h=>ID X l h
 |.bH l,h=>ID X l h
 |.fn _ l,h=>ID X l h
 |.fh _ x,h=>ZD X x h
 |.yl _,_=>rfl
 |.any,_=>rfl
 |.mp i,h=>by rw[show(SV.mp i).zt=aJc 1 i from rfl,RI] at h;cases h
 |.eR _ _ l,h=>ID X l h
def ID(X:Nat->Bool):∀l:ah,aJq (SV.FI l) 0=J->SV.IC X l=J
 |[],_=>rfl
 |x::W,h=>by
  rw[show SV.FI (x::W)=aIQ x.zt (SV.FI W) from rfl,aiM,aIy] at h;show(x.IB X&&SV.IC X W)=J;rw[ZD X x h.1,ID X W h.2];rfl
end
def MT(V R Q:Nat)(W:Nat->Bool):∀l:ah,(aJq (aIQ (SV.IA l) (kP V R Q)) (kP V R Q)&&(aJq (SV.FI l) 0||SV.IC W l))=SV.da V R Q W l
 |[]=>by rw[show SV.IA []=0 from rfl,FH];rfl
 |x::X=>by
  rw[SV.gI.2,<-MT V R Q W X,SV.aiL,show SV.IA (x::X)=aIQ x.kQ (SV.IA X) from rfl,show SV.FI (x::X)=aIQ x.zt (SV.FI X) from rfl,j6,aiM,show SV.IC W (x::X)=(x.IB W&&SV.IC W X) from rfl];have P:=ZD W x;have O:=ID W X;cases N:aJq x.zt 0<;>cases M:aJq (SV.FI X) 0<;>cases L:x.IB W<;>cases H:SV.IC W X<;>cases aJq (aIQ x.kQ (kP V R Q)) (kP V R Q)<;>cases aJq (aIQ (SV.IA X) (kP V R Q)) (kP V R Q)<;>simp_all
def SV.aS{X:Nat->Bool}:(∀k e,SV.bd R N h X (.int k e)=e.bd R N h)/\(∀b,SV.bd R N h X (.bool b)=b.bd R N h)/\(∀r,SV.bd R N h X (.ref r)=r.bd R N h)/\(∀i o,SV.bd R N h X (.loc i o)=X i)/\(∀i a b c,SV.bd R N h X (.gY i a b c)=X i)/\(∀r w i o,SV.bd R N h X (.el r w i o)=(r.bd R N h&&i.bd R N h))/\(∀l,SV.bd R N h X (.agg l)=SV.da R N h X l)/\(∀l,SV.bd R N h X (.bH l)=SV.da R N h X l)/\(∀f l,SV.bd R N h X (.fn f l)=SV.da R N h X l)/\(∀t x,SV.bd R N h X (.fh t x)=SV.bd R N h X x)/\(∀n,SV.bd R N h X (.yl n)=J)/\(SV.bd R N h X .any=J)/\(∀i,SV.bd R N h X (.mp i)=X i)/\(∀e P Q,SV.bd R N h X (.eR e P Q)=(e.bd R N h&&SV.da R N h X Q)):=by
 have W:∀b:Bool,(b&&(aJq 0 0||J))=b:=λb=>by cases b<;>rfl
 have V:∀i,(aJq (aIQ 0 (kP R N h)) (kP R N h)&&(aJq (aJc 1 i) 0||X i))=X i:=λi=>by rw[FH,RI];rfl
 simp only[SV.aiL];refine⟨λ_ _=>W _,λ_=>W _,λ_=>W _,λ_ _=>V _,λ_ _ _ _=>V _,λr _ i _=> ?_,λl=>MT _ _ _ _ l,λl=>MT _ _ _ _ l,λ_ l=>MT _ _ _ _ l,λ_ _=>rfl,λ_=>(W _).trans (FH _),(W _).trans (FH _),λ_=>V _,λe _ l=> ?_⟩;exact(W _).trans (j6 _ _ _);rw[<-MT];show(aJq (aIQ (aIQ e.kQ (SV.IA l)) _) _&&_)=_;rw[j6,aLQ];rfl
def SV.o9(X W V:Nat)(R:Nat->Bool):bw->Bool
 |[]=>J
 |U x::Q=>SV.da X W V R x.2&&SV.o9 X W V R Q
 |Z::Q=>SV.o9 X W V R Q
def aL(l:bw)(i:Nat):Bool:=(bU l i).isSome
def S.bd(s:S):Bool:=SV.da s.ni s.nb (Y s.rs) (aL s.boxes) s.tmps&&SV.o9 s.ni s.nb (Y s.rs) (aL s.boxes) s.boxes
def S.dZ(s:S)(l:ah):Bool:=s.bd&&SV.da s.ni s.nb (Y s.rs) (aL s.boxes) l
structure eF where
 tm:List (Nat×LK)
 cl:List (Nat×Nat×LK)
inductive avL where
 |avM
 |inv (a:eF)
inductive FK where
 |box
 |slot (t:Nat) (vs:List Int)
structure bz where
 ty:Ty
 gl:lu
 inl:FuncId->Option (Code×Nat×pO)
 sig:FuncId->iE
 loop:FuncId->Nat->avL
 aiN:TypeId:=3
 zu:FuncId->FuncId->Option (TypeId×aW×Bool):=λ_ _=>Z
 lW:Bool:=E
 MU:FuncId->Nat->Bool:=λ_ _=>E
 frk:FuncId->Nat->Option FK:=λ_ _=>Z
def S.fresh(s:S):LK->SV×S
 |.int k=>(.int k (.v s.ni),{s with ni:=s.ni+1})
 |.bool=>(.bool (.v s.nb),{s with nb:=s.nb+1})
 |.ref e=>(.ref (.v (Y s.rs)),{s with rs:=s.rs++[e]})
def sN:CT->LK
 |.int k=>.int k
 |.bool=>.bool
 |.aI _ k=>.ref k
def S.bS(s:S):aP->ah×S
 |[]=>([],s)
 |k::X=>let r:=s.fresh k;let q:=r.2.bS X;(r.1::q.1,q.2)
def zv(W:Ty):i5->ah->Fw
 |[],_=>U []
 |t::V,l=>match W t with
  |U X=>match zv W V (l.drop (Y X.ae)) with
   |U r=>U ((if X.d.isAgg then .agg (l.take (Y X.ae)) else l.getD 0 .any)::r)
   |none=>Z
  |none=>Z
def gJ(X:Ty):i5->Option aP
 |[]=>U []
 |t::W=>match X t,gJ X W with
  |U V,U r=>U (V.ae.map sN++r)
  |_,_=>Z
def one(l:ah):SV:=match l with
 |[v]=>v
 |l=>.bH l
def Code.mT:Code->ai
 |.region _ X _=>X.toList.filterMap (·.dst)
 |.seq a b=>Code.mT a++Code.mT b
 |.cond _ a b=>Code.mT a++Code.mT b
 |.block _ c=>Code.mT c
 |.loop c=>Code.mT c
 |.scope c=>Code.mT c
 |.rangeFunc _ W a b=>W.toList++Code.mT a++Code.mT b
 |_=>[]
def Code.first:Code->bR
 |.region id _ _=>U id
 |.seq a b=>match Code.first a with
  |U i=>U i
  |none=>Code.first b
 |.cond _ a b=>match Code.first a with
  |U i=>U i
  |none=>Code.first b
 |.block _ c=>Code.first c
 |.loop c=>Code.first c
 |.scope c=>Code.first c
 |_=>Z
mutual
def SV.FJ:SV->ai
 |.loc i _=>[i]
 |.gY i _ _ _=>[i]
 |.agg l=>SV.nK l
 |.bH l=>SV.nK l
 |.fn _ l=>SV.nK l
 |.fh _ x=>SV.FJ x
 |.mp i=>[i]
 |.eR _ _ X=>SV.nK X
 |_=>[]
def SV.nK:ah->ai
 |[]=>[]
 |x::X=>SV.FJ x++SV.nK X
end
def pQ(X:ai):Nat->bw->bw
 |_,[]=>[]
 |n,x::W=>(if X.contains n then x else Z)::pQ X (n+1) W
def ur:bw->bw
 |[]=>[]
 |x::X=>match x,ur X with
  |Z,[]=>[]
  |x,r=>x::r
def SV.dP:SV->Bool
 |.any=>J
 |_=>E
inductive FL where
 |fn (g:FuncId)
 |yl (n:Nat)
abbrev ot:=FL->ah->S->(SV->S->T)->(SV->S->T)->T
abbrev YH:=Nat->ah->S->(SV->S->T)->(SV->S->T)->T
def iF:YH:=λ_ _ _ _ _=>.stuck ""
structure OM where
 o:Oper
 ix:Nat
 bC:Bool
 j:Nat
 dr:Bool
 so:Bool
abbrev bY:=List OM
inductive OR where
 |ok (s:S)
 |bj (b:BE) (s:S)
 |split(b:BE) (s1 s2:S)
 |no (why:String)
def RE.isNil:RE->Bool
 |.k (.slice Z 0 0)=>J
 |_=>E
def RE.fits(X:Ty)(s:S)(k:RK)(r:RE):Bool:=match k with
 |.sl e=>decide (r.kind X s=.sl e)||r.isNil
 |.str=>decide (r.kind X s=.str)
 |_=>E
def qX(X:Ty)(s:S):CT->SV->Bool
 |.int k,.int W _=>decide (k=W)
 |.bool,.bool _=>J
 |.aI _ k,.ref r=>r.fits X s k
 |_,_=>E
def kR(X:Ty)(s:S):dS->ah->Bool
 |[],[]=>J
 |c::W,v::V=>qX X s c v&&kR X s W V
 |_,_=>E
def lX(X:Ty)(s:S)(ae:dS):vK->Bool
 |[]=>J
 |r::W=>kR X s ae r&&lX X s ae W
def iN(w:Nat):Nat->ah->vK
 |0,_=>[]
 |n+1,l=>l.take w::iN w n (l.drop w)
def LE.bd(X W V:Nat):LE->Bool
 |.ref r=>r.bd X W V
 |.lit l=>l.all (SV.da X W V λ_=>E)
 |.kz a b=>LE.bd X W V a&&LE.bd X W V b
 |.sM n Q=>n.bd X W V&&SV.da X W V (λ_=>E) Q
 |.set a i _ R=>LE.bd X W V a&&i.bd X W V&&SV.da X W V (λ_=>E) R
 |.sub a P O=>LE.bd X W V a&&P.bd X W V&&O.bd X W V
 |.ins a _ R=>LE.bd X W V a&&SV.da X W V (λ_=>E) R
def RE.root:RE->bR
 |.v n=>U n
 |.cell r _ _ _=>r.root
 |.k _=>Z
mutual
def SV.ZE:SV->ai
 |.ref r=>r.root.toList
 |.el r _ _ _=>r.root.toList
 |.agg l=>SV.nL l
 |.bH l=>SV.nL l
 |.fn _ l=>SV.nL l
 |.fh _ x=>SV.ZE x
 |.eR _ _ X=>SV.nL X
 |_=>[]
def SV.nL:ah->ai
 |[]=>[]
 |x::X=>SV.ZE x++SV.nL X
end
def xF(b:Bool):RK->RK
 |.own e=>if b then .sl e else .own e
 |x=>x
def MV(b:Bool):RK->RK
 |.own e=>if b then .sl e else .dead
 |x=>x
def jw(X:ai):Nat->bc->bc
 |_,[]=>[]
 |n,x::W=>xF (X.contains n) x::jw X (n+1) W
def ip(X:ai):Nat->bc->bc
 |_,[]=>[]
 |n,x::W=>(if X.contains n then .dead else x)::ip X (n+1) W
def Bn(X:ai):Nat->bc->bc
 |_,[]=>[]
 |n,x::W=>MV (X.contains n) x::Bn X (n+1) W
mutual
def SV.gq(k n:Nat):SV->SV
 |.ref (.v j)=>if j==k then .ref (.v n) else .ref (.v j)
 |.el (.v j) w i o=>if j==k then .el (.v n) w i o else .el (.v j) w i o
 |.agg l=>.agg (SV.nM k n l)
 |.bH l=>.bH (SV.nM k n l)
 |.fn f l=>.fn f (SV.nM k n l)
 |.fh t x=>.fh t (SV.gq k n x)
 |.eR e X W=>.eR e X (SV.nM k n W)
 |v=>v
def SV.nM(k n:Nat):ah->ah
 |[]=>[]
 |x::X=>SV.gq k n x::SV.nM k n X
end
def sO(k n:Nat):bw->bw
 |[]=>[]
 |Z::X=>Z::sO k n X
 |U (t,W)::X=>U (t,if oY t then W else SV.nM k n W)::sO k n X
def S.gq(s:S)(k n:Nat):S:={s with tmps:=SV.nM k n s.tmps,boxes:=sO k n s.boxes}
structure BI where
 bj:BE
 e:TypeId
 x:LE
 s:S
def IF:Int:=536870912
def IG(n:IE):BE:=oq .leq n (.c IF)
def pR(Q:Ty)(s:S)(e:TypeId)(X:TI):SV->Option (LE×BE×ai)
 |.ref r=>if r.isNil then U (.lit [],.c J,[]) else if r.kind Q s=.sl e then U (.ref r,IG (.len r),[]) else Z
 |.gY i V W _=>match ky s.boxes i with
  |U (_,R)=>if lX Q s X.ae (iN (Y X.ae) W (vN R V (W*Y X.ae)))&&decide (V+W*Y X.ae<=Y R)&&decide ((W:Int)<=IF) then U (.lit (iN (Y X.ae) W (vN R V (W*Y X.ae))),.c J,SV.nL (vN R V (W*Y X.ae))) else Z
  |none=>Z
 |_=>Z
def vQ(s:S)(e:TypeId)(bC:Bool):SV->Option (LE×BE×ai)
 |.ref (.v k)=>if s.rs[k]?=U (.own e)/\ !(bC&&s.lk.testBit (2*k+1)) then U (.ref (.v k),IG (.len (.v k)),[k]) else Z
 |.ref r=>if r.isNil then U (.lit [],.c J,[]) else Z
 |.gY _ _ 0 0=>U (.lit [],.c J,[])
 |_=>Z
def jm(s:S)(d:bR)(bj:BE)(e:TypeId)(k:RK)(x:LE)(X W:ai):Option BI:=
 if s.bd&&X.all (λk=> !W.contains k)&&LE.bd s.ni s.nb (Y s.rs) x&&bj.bd s.ni s.nb (Y s.rs) then U ⟨bj,e,x,{s with rs:=jw W 0 (ip X 0 s.rs)++[k]}.put d (.ref (.v (Y s.rs)))⟩ else Z
def dM(X:bz)(o:Oper)(bC R:Bool)(s:S):Option BI:=match o.op with
 |.call c=>match c.callee with
  |.builtin .append=>match c.argTypes.toList,c.args.toList.map (s.ev X.gl) with
   |[t,O],[x,y]=>match X.ty t,X.ty O with
    |U ⟨.slice e,_,_⟩,U ⟨.slice N,_,_⟩=>match X.ty e with
     |U W=>if e≠N\/Y W.ae=0 then Z else match vQ s e bC x,pR X.ty s e W y with
      |U (a,M,L),U (b,H,G)=>jm s o.dst (uo M H) e (.own e) (.kz a b) L G
      |_,_=>Z
     |none=>Z
    |_,_=>Z
   |_,_=>Z
  |_=>Z
 |.makeSlice t n m=>match X.ty t,s.ev X.gl n,s.ev X.gl m with
  |U ⟨.slice e,_,_⟩,.int I n,.int I m=>match X.ty e with
   |U W=>if n.same m&&lX X.ty s W.ae [di W]&&Y W.ae !=0 then jm s o.dst (uo (oq .leq (.c 0) n) (IG n)) e (.own e) (.sM n (di W)) [] [] else Z
   |none=>Z
  |_,_,_=>Z
 |.buildSlice t V parts=>if R|| !X.lW then Z else match X.ty t with
  |U ⟨.slice e,_,_⟩=>match X.ty e with
   |U W=>match xD (λi=>U (i*Y W.ae,Y W.ae)) (vP V (di W)) (parts.toList.map λp=>(p.1,s.ev X.gl p.2)) with
    |U l=>if(Y l==V*Y W.ae&&lX X.ty s W.ae (iN (Y W.ae) V l)&&Y W.ae !=0&&decide ((V:Int)<=IF)&&decide (V*Y W.ae<=16777216)&& !(parts.toList.any λp=>(s.ev X.gl p.2).dP)) then jm s o.dst (.c J) e (.own e) (.lit (iN (Y W.ae) V l)) [] (SV.nL l) else Z
    |none=>Z
   |none=>Z
  |_=>Z
 |.slice t x F D C=>if R then Z else match X.ty t,s.ev X.gl x,C.map (s.ev X.gl),D.map (s.ev X.gl),F.map (s.ev X.gl) with
  |U ⟨.slice e,_,_⟩,.ref r,U (.int _ (.c 0)),U (.int _ (.c 0)),Z=>match X.ty e with
   |U _=>if r.kind X.ty s=.sl e\/r.isNil then jm s o.dst (.c J) e (.own e) (.lit []) [] [] else Z
   |none=>Z
  |U ⟨.slice e,_,_⟩,.ref r,Z,U (.int I h),U (.int I l)=>match X.ty e with
   |U _=>if r.kind X.ty s=.sl e then jm s o.dst (uo (oq .leq (.c 0) l) (uo (oq .leq l h) (oq .leq h (.len r)))) e (.sl e) (.sub (.ref r) l h) [] r.root.toList else Z
   |none=>Z
  |U ⟨.slice e,_,_⟩,.ref r,Z,U (.int I h),Z=>match X.ty e with
   |U _=>if r.kind X.ty s=.sl e then jm s o.dst (uo (oq .leq (.c 0) h) (oq .leq h (.len r))) e (.sl e) (.sub (.ref r) (.c 0) h) [] r.root.toList else Z
   |none=>Z
  |U ⟨.slice e,_,_⟩,.ref r,Z,Z,U (.int I l)=>match X.ty e with
   |U _=>if r.kind X.ty s=.sl e then jm s o.dst (uo (oq .leq (.c 0) l) (oq .leq l (.len r))) e (.sl e) (.sub (.ref r) l (.len r)) [] r.root.toList else Z
   |none=>Z
  |_,_,_,_,_=>Z
 |.store t a x=>if R then Z else match X.ty t,s.ev X.gl a with
  |U Q,.el (.v k) w i P=>match s.rs[k]? with
   |U (.own e)=>match X.ty e with
    |U W=>if(Y W.ae==w&&(s.ev X.gl x).cells.length==Y Q.ae&&decide (P+Y Q.ae<=w)&&kR X.ty s ((W.ae.drop P).take (Y Q.ae)) (s.ev X.gl x).cells&&(s.ev X.gl x).FA) then
      (jm s Z (uq i (.len (.v k))) e (.own e) (.set (.ref (.v k)) i P (s.ev X.gl x).cells) [k] (SV.nL (s.ev X.gl x).cells)).map λb=>{b with s:=(b.s.gq k (Y s.rs)).put o.dst (.bH [])} else Z
    |none=>Z
   |_=>Z
  |_,_=>Z
 |_=>Z
def S.ck(s:S)(n:Nat)(t:TypeId)(X:ah):S:={s with boxes:=s.boxes.set n (U (t,X))}
def MW(bC:Bool):SV->Nat
 |.loc i _=>if bC then 1<<<(2*i) else 0
 |.el r _ _ _=>if bC then(match r.root with
  |U k=>1<<<(2*k+1)
  |none=>0) else 0
 |.eR _ _ X=>if bC then(match xE X with
  |U i=>1<<<(2*i)
  |none=>0) else 0
 |_=>0
def S.cq(s:S)(d:bR)(v:SV)(l:Nat):S:={s with lk:=s.lk|||l}.put d v
def qY(s:S)(d:bR)(l:Nat):PR->OR
 |.ok v=>.ok (s.cq d v l)
 |.bj b v=>if b.bd s.ni s.nb (Y s.rs) then .bj b (s.cq d v l) else .no ""
 |.no w=>.no w
def fj(l:bw)(n:Nat):Bool:=match l[n]? with
 |U Z=>J
 |_=>E
def ou(l:bw)(n:Nat)(t:TypeId):Bool:=fj l n&& !oY t
def fw(X:bz)(m:OM)(s:S):OR:=
 if m.o.op.operands.toList.any λx=>(s.ev X.gl x).dP then .no (""++toString m.j++ ""++toString m.o.dst) else
 match m.o.op with
 |.alloc t=>match X.ty t with
  |U W=>if s.dZ (di W)&&ou s.boxes m.ix t then .ok ((s.ck m.ix t (di W)).put m.o.dst (.loc m.ix 0)) else .no ""
  |none=>.no ""
 |.box t x=>match X.ty t with
  |U W=>if(s.ev X.gl x).cells.length==Y W.ae&&s.dZ (s.ev X.gl x).cells&&(s.ev X.gl x).FA&&ou s.boxes m.ix t then .ok ((s.ck m.ix t (s.ev X.gl x).cells).put m.o.dst (.loc m.ix 0)) else .no ""
  |none=>.no ""
 |.buildSlice t V parts=>match X.ty t with
  |U ⟨.slice e,_,_⟩=>match X.ty e with
   |U R=>match xD (λi=>U (i*Y R.ae,Y R.ae)) (vP V (di R)) (parts.toList.map λp=>(p.1,s.ev X.gl p.2)) with
    |U l=>if s.dZ l&&decide (V*Y R.ae<=16777216)&&ou s.boxes m.ix e then .ok ((s.ck m.ix e l).put m.o.dst (.gY m.ix 0 V V)) else .no ""
    |none=>.no ""
   |none=>.no ""
  |_=>.no ""
 |.store t a x=>match X.ty t,s.ev X.gl a with
  |U W,.loc i Q=>match ky s.boxes i with
   |U (O,P)=>if(s.ev X.gl x).cells.length==Y W.ae&&decide (Q+(s.ev X.gl x).cells.length<=Y P)&&Dd (s.ev X.gl x).cells&&(s.ev X.gl x).FA&& !(m.bC&&s.lk.testBit (2*i)) then .ok ((s.ck i O (j5 P Q (s.ev X.gl x).cells)).put m.o.dst (.bH [])) else .no ""
   |none=>.no ""
  |_,_=>.no ""
 |.pick c x y=>match s.ev X.gl c with
  |.bool b=>.split b (s.put m.o.dst (s.ev X.gl x)) (s.put m.o.dst (s.ev X.gl y))
  |_=>.no ""
 |.load t a=>qY s m.o.dst (MW m.bC (s.ev X.gl a)) (bO X.ty X.gl s (.load t a))
 |op=>qY s m.o.dst 0 (bO X.ty X.gl s op)
inductive MR where
 |ok (s:S)
 |rows (k:RK) (x:LE) (s:S)
def FM(X:TI)(n:Nat)(W:Bool):TypeId×ah:=if X.ae.all lw&&Y X.ae !=0 then(ul,[.ref (.k (.slice Z 0 0)),.int I (.c n),.bool (.c W),.bool (.c X.d.isAgg)]) else(sL,[])
def S.xG(s:S)(b:TypeId×ah):S:={s with boxes:=s.boxes++[U b]}
def FN(V:bz)(s:S)(k e:TypeId)(n:Nat)(W:Bool)(X:TI):ah->Option RE
 |[.ref r,.int I (.c R),.bool (.c Q),.bool (.c P)]=>if r.oZ V.ty s ⟨k,e,n,W,X.d.isAgg⟩&&R==(n:Int)&&Q==W&&P==X.d.isAgg&&X.ae.all lw then U r else Z
 |_=>Z
def RJ(V:bz)(d:bR)(s:S)(t:TypeId)(O R v:SV):Option MR:=match V.ty t,O with
 |U ⟨.map k e n X,_,_⟩,.mp i=>match V.ty e,FE n X R,bU s.boxes i with
  |U W,U (N,_,_),U (P,Q)=>if !qW V.ty k n X|| !s.dZ [R,v]|| !zp W v then Z else
   if P==ul then(match FN V s k e n X W Q with
    |U r=>if kR V.ty s W.ae v.cells then
      U (.rows (RK.mr ⟨k,e,n,X,W.d.isAgg⟩) (.ins (.ref r) n (R.cells++v.cells)) (S.put {s with rs:=s.rs++[RK.mr ⟨k,e,n,X,W.d.isAgg⟩],boxes:=s.boxes.set i (U (ul,[.ref (.v (Y s.rs)),.int I (.c n),.bool (.c X),.bool (.c W.d.isAgg)]))} d (.bH []))) else Z
    |none=>Z)
   else if P==sL&&n==1&& !X then(match N,o7 Q with
    |.c x,U M=>if M.contains x then Z else U (.ok ((s.ck i sL (Q++[.int I (.c x),v])).put d (.bH [])))
    |_,_=>Z)
   else Z
  |_,_,_=>Z
 |_,_=>Z
def RL(X:bz)(d:bR)(s:S)(t:TypeId):Option S:=match X.ty t with
 |U ⟨.map k e n W,_,_⟩=>match X.ty e with
  |U V=>if s.bd&&qW X.ty k n W then U ((s.xG (FM V n W)).put d (.mp (Y s.boxes))) else Z
  |none=>Z
 |_=>Z
def vR(X:bz):Sh:=⟨X.aiN,vL,1,E,E⟩
def FO(X:bz):Bool:=qW X.ty X.aiN 1 E&&(X.ty vL).isNone
def ZF(R:bz)(s:S)(k e:TypeId)(n:Nat)(X:Bool)(Q:TI)(i:Nat):Option IE:=match bU s.boxes i with
 |U (W,V)=>if W==ul then(FN R s k e n X Q V).map .len
  else if W==sL&&n==1&& !X then(o7 V).map λP=>.c (Y P) else Z
 |none=>Z
def RN(X:bz)(d:bR)(s:S)(t:TypeId)(W:SV):Option S:=match X.ty t,W with
 |U ⟨.map k e n V,_,_⟩,.mp i=>match X.ty e with
  |U R=>match ZF X s k e n V R i with
   |U c=>if s.bd&&c.bd s.ni s.nb (Y s.rs)&&aL s.boxes i then U ((s.xG (vL,[.mp i,.int I (.c t),.int I c,.ref (.k (.slice Z 0 0))])).put d (.loc (Y s.boxes) 0)) else Z
   |none=>Z
  |none=>Z
 |_,_=>Z
def sP(r:RE)(i:IE):Nat->dS->ah
 |_,[]=>[]
 |j,c::X=>Dc r i j c::sP r i (j+1) X
def II(r:RE)(i:IE)(n:Nat)(X:Bool):SV:=qV X ((aI5 n).map λj=>.int I (.cell r i j))
def ZG(X:bz)(d:bR)(s:S)(q W:Nat)(i t:Nat)(c:IE)(V v:SV):S:=
 S.put {s with ni:=W,rs:=s.rs++[RK.mr (vR X)],boxes:=s.boxes.set q (U (vL,[.mp i,.int I (.c t),.int I c,.ref (.v (Y s.rs))]))} d (.bH [.bool (.c J),V,v])
def RO(X:RE)(j:IE):BE:=.not (.has X 1 j (.c 0) (.c 0))
def RP(X:TI)(e:IE)(W:bi)(V:ah):Option (SV×SV):=if V.all (zp X) then(match zo e (Bm (Y W)) (W.map λk=>.int I (.c k)),Bl e (Bm (Y W)) (V.map SV.cells) 0 X.ae with
 |U a,U l=>U (.int I a,qV X.d.isAgg l)
 |_,_=>Z) else Z
def RQ(W:bz)(s:S)(c:IE)(X:RE)(t V:T):T:=
 .pick c (RO X (.v s.ni)) (.cmp .leq c (.len X)) (.rows (.mr (vR W)) (.ins (.ref X) 1 [.int I (.v s.ni)]) s.rs t) V
def ZH(X:bz)(d:bR)(s:S)(L:SV)(P O:S->T):Option T:=match L with
 |.loc q 0=>match bU s.boxes q with
  |U (H,[.mp i,.int I (.c t),.int I c,.ref R])=>if !(H==vL&&FO X&&R.oZ X.ty s (vR X)&&s.bd&&({s with ni:=s.ni+1}:S).bd&&decide (0<=t)) then Z else match X.ty t.toNat,bU s.boxes i with
   |U ⟨.map k e n V,_,_⟩,U (N,Q)=>match X.ty e with
    |U W=>if !qW X.ty k n V then Z else
     if N==ul then(match FN X s k e n V W Q with
      |U r=>if c.same (.len r)&&Y W.ae !=0 then U (RQ X s c R (P (ZG X d s q (s.ni+1) i t.toNat c (II r (.v s.ni) n V) (qV W.d.isAgg (sP r (.v s.ni) n W.ae)))) (O (s.put d (.bH [.bool (.c E)])))) else Z
      |none=>Z)
     else if N==sL&&n==1&& !V then(match o7 Q with
      |U M=>if c.same (.c (Y M)) then(match RP W (.v s.ni) M (kO Q) with
       |U (G,v)=>U (RQ X s c R (P (ZG X d s q (s.ni+1) i t.toNat c G v)) (O (s.put d (.bH [.bool (.c E)]))))
       |none=>Z) else Z
      |none=>Z)
     else Z
    |none=>Z
   |_,_=>Z
  |_=>Z
 |_=>Z
def ut(X:RE):IE:=.cell X (.bin .sub I (.len X) (.c 1)) 0
def ZI(c:IE)(X:RE):BE:=uo (uo (oq .leq (.c 1) (.len X)) (IG (.len X))) (uq (ut X) c)
def ZJ(X:bz)(d:bR)(s:S)(M:SV)(P:S->T):Option T:=match M with
 |.loc q 0=>match bU s.boxes q with
  |U (L,[.mp i,.int I (.c t),.int I c,.ref W])=>if !(L==vL&&FO X&&W.oZ X.ty s (vR X)&&s.bd&&decide (0<=t)) then Z else match X.ty t.toNat,bU s.boxes i with
   |U ⟨.map k e n V,_,_⟩,U (O,Q)=>match X.ty e with
    |U R=>if !qW X.ty k n V then Z else
     if O==ul then(match FN X s k e n V R Q with
      |U r=>if c.same (.len r) then U (.bj (ZI c W) (P (s.put d (.bH [II r (ut W) n V,qV R.d.isAgg (sP r (ut W) n R.ae)])))) else Z
      |none=>Z)
     else if O==sL&&n==1&& !V then(match o7 Q with
      |U N=>if c.same (.c (Y N)) then(match RP R (ut W) N (kO Q) with
       |U (H,v)=>U (.bj (ZI c W) (P (s.put d (.bH [H,v]))))
       |none=>Z) else Z
      |none=>Z)
     else Z
    |none=>Z
   |_,_=>Z
  |_=>Z
 |_=>Z
def RT(X:bz)(d:bR)(s:S)(t:TypeId)(W:Bool)(x y:SV)(V:S->T):Option T:=match X.ty t,x,y with
 |U ⟨.slice e,_,_⟩,.ref r,.ref (.k (.slice Z 0 0))=>if r.kind X.ty s=.sl e then U (.gp (.c J) (.cmp .leq (.len r) (.c 0)) (V (s.put d (.bool (.c W)))) (V (s.put d (.bool (.c (!W)))))) else Z
 |_,_,_=>Z
abbrev Fx:=List (BE×Bool)
def MX(X:Fx):BE->Option Bool
 |.c v=>U v
 |b=>(X.find? λx=>x.1.same b).map (·.2)
def Bo(s:S)(X:Fx)(b:BE)(t f:Fx->T):T:=match MX X b with
 |U J=>t X
 |U E=>f X
 |none=>if b.bd s.ni s.nb (Y s.rs) then .node b (t ((b,J)::X)) (f ((b,E)::X)) else .stuck ""
inductive CK where
 |call (g:FL) (args:List SV)
 |bn (v:SV)
 |op
 |no
def dA(X:bz)(s:S)(o:Oper):CK:=
 match o.op with
 |.panic x=>match s.ev X.gl x with
  |.fh t y=>.bn (.fh t y)
  |_=>.no
 |.call c=>match c.callee with
  |.value f=>match s.ev X.gl f with
   |.fn g W=>if c.args.toList.any λx=>(s.ev X.gl x).dP then .no else .call (.fn g) (c.args.toList.map (s.ev X.gl)++W)
   |.yl n=>if c.args.toList.any λx=>(s.ev X.gl x).dP then .no else .call (.yl n) (c.args.toList.map (s.ev X.gl))
   |_=>.no
  |.invoke _ _=>.no
  |.builtin .panic=>match c.args.toList with
   |[x]=>match s.ev X.gl x with
    |.fh t y=>.bn (.fh t y)
    |_=>.no
   |_=>.no
  |.builtin _=>.op
 |_=>.op
def nN(s:S)(X:Fx):Fx:=X.filter λx=>x.1.bd s.ni s.nb (Y s.rs)
def ZK(b:BE):SV->SV->Option SV
 |.int k x,.int X y=>if k=X then U (.int k (.cF b x y)) else Z
 |.bool x,.bool y=>U (.bool (.cF b x y))
 |_,_=>Z
def MY(b:BE):ah->Nat->ah->Fw
 |[],_,X=>U X
 |x::V,W,X=>match X[W]? with
  |U R=>match ZK b x R with
   |U c=>MY b V (W+1) (X.set W c)
   |none=>Z
  |none=>Z
def FP(e:IE)(W:ah):bi->ah->ah->Fw
 |[],[],X=>U X
 |k::V,.loc _ R::Q,X=>match MY (.cmp .eql e (.c k)) W R X with
  |U P=>FP e W V Q P
  |none=>Z
 |_,_,_=>Z
def RU:bi->Bool
 |[]=>J
 |x::X=> !X.contains x&&RU X
def MZ:SV->Bool
 |.int _ _|.bool _=>J
 |_=>E
def IJ:ah->Bool
 |[]=>E
 |[x]=>MZ x
 |x::X=>MZ x&&IJ X
def ZL(d:bR)(s:S)(R:TI)(e:IE)(X:bi)(W:ah)(V:SV)(k:S->T):Option T:=match xE W with
 |U i=>match ky s.boxes i with
  |U (Q,P)=>match FP e V.cells X W P with
   |U O=>if Y R.ae==Y V.cells&&Y X==Y W&&RU X&&IJ V.cells then U (.bj (FF e X) (k ((s.ck i Q O).put d (.bH [])))) else Z
   |none=>Z
  |none=>Z
 |none=>Z
def zw(X:bz)(m:OM)(s:S)(V:S->Fx->T)(R:Fx):Option T:=if m.dr||m.o.op.operands.toList.any λx=>(s.ev X.gl x).dP then Z else match m.o.op with
 |.makeMap t Z=>(RL X m.o.dst s t).map λW=>V W R
 |.mapUpdate t x y z=>match RJ X m.o.dst s t (s.ev X.gl x) (s.ev X.gl y) (s.ev X.gl z) with
  |U (.ok W)=>U (V W R)
  |U (.rows k x W)=>U (.rows k x s.rs (V W (nN s R)))
  |none=>Z
 |.insert t x y z=>match RJ X m.o.dst s t (s.ev X.gl x) (s.ev X.gl y) (s.ev X.gl z) with
  |U (.ok W)=>U (V W R)
  |U (.rows k x W)=>U (.rows k x s.rs (V W (nN s R)))
  |none=>Z
 |.range t x=>(RN X m.o.dst s t (s.ev X.gl x)).map λW=>V W R
 |.next Q E=>ZH X m.o.dst s (s.ev X.gl Q) (λW=>V W (nN s R)) (λW=>V W R)
 |.entry Q=>ZJ X m.o.dst s (s.ev X.gl Q) λW=>V W R
 |.store t a x=>match X.ty t,s.ev X.gl a with
  |U P,.eR e O N=>ZL m.o.dst s P e O N (s.ev X.gl x) λW=>V W R
  |_,_=>Z
 |.binOp M t x y _=>match M with
  |.eql=>RT X m.o.dst s t E (s.ev X.gl x) (s.ev X.gl y) λW=>V W R
  |.neq=>RT X m.o.dst s t J (s.ev X.gl x) (s.ev X.gl y) λW=>V W R
  |_=>Z
 |_=>Z
def zx(X:bz)(m:OM)(s:S):Option (IE×bi×ah×ah):=if m.dr then Z else match m.o.op with
 |.call c=>match c.callee with
  |.value f=>match s.ev X.gl f with
   |.eR e W V=>if(c.args.toList.any λx=>(s.ev X.gl x).dP)|| !e.bd s.ni s.nb (Y s.rs) then Z else U (e,W,V,c.args.toList.map (s.ev X.gl))
   |_=>Z
  |_=>Z
 |_=>Z
def Dg(e:IE)(X:FuncId->ah->T):bi->ah->T
 |k::W,.fn g R::V=>.node (.cmp .eql e (.c k)) (X g R) (Dg e X W V)
 |k::W,.ref (.k .nilFunc)::V=>.node (.cmp .eql e (.c k)) (.stuck "") (Dg e X W V)
 |_,_=>.stuck ""
structure zy where
 f:FuncId
 g:FuncId
 e:TypeId
 sp:aW
 st:Bool
 r:RE
 s:S
def M0:ah->Option (List IE×FuncId)
 |[.fn g []]=>U ([],g)
 |.int I e::r=>match M0 r with
  |U x=>U (e::x.1,x.2)
  |none=>Z
 |_=>Z
def aW.fill:aW->List IE->Option aW
 |.cn k o _,X=>U (.cn k o X)
 |W,[]=>U W
 |_,_::_=>Z
def ZM(V:bz)(f:FuncId)(R:ah)(s:S)(d:bR):Option zy:=match R with
 |.ref r::Q=>match M0 Q with
  |U (P,g)=>match(if f==g then Z else V.zu f g) with
   |U (e,O,X)=>match O.fill P with
    |U W=>match r with
     |.v k=>if s.rs[k]?=U (.own e) then U ⟨f,g,e,W,X,.v k,(({s with rs:=jw [] 0 (ip [k] 0 s.rs)++[.own e]}:S).gq k (Y s.rs)).put d (.bH [])⟩ else Z
     |.k (.slice Z 0 0)=>U ⟨f,g,e,W,X,.k (.slice Z 0 0),({s with rs:=jw [] 0 (ip [] 0 s.rs)++[.own e]}:S).put d (.bH [])⟩
     |_=>Z
    |none=>Z
   |none=>Z
  |none=>Z
 |_=>Z
def FQ(V:bz)(f:FuncId)(R:ah)(s:S)(d:bR):Option zy:=match R with
 |[.int I i,.loc X 0,.loc W 0]=>match V.zu f f with
  |U (e,.cn 0 o _,J)=>match bU s.boxes X,bU s.boxes W with
   |U (Q,[.ref (.v k)]),U (P,[.fn O [.loc N 0,.loc M 0]])=>if i.bd s.ni s.nb (Y s.rs)&&O==f&&N==X&&M==W&& !oY Q&& !oY P&&decide (s.rs[k]?=U (.own e)) then U ⟨f,f,e,.cn 0 o [i],J,.v k,(({s with rs:=jw [] 0 (ip [k] 0 s.rs)++[.own e]}:S).gq k (Y s.rs)).put d (.int I (.cell (.v (Y s.rs)) i 0))⟩ else Z
   |_,_=>Z
  |_=>Z
 |_=>Z
def Bp(X:bz)(m:OM)(s:S):Option zy:=if m.dr|| !s.bd then Z else match dA X s m.o with
 |.call (.fn f) W=>match ZM X f W s m.o.dst with
  |U u=>U u
  |none=>FQ X f W s m.o.dst
 |_=>Z
def FR(X:bz)(o:Oper)(s:S):Option zy:=if !s.bd then Z else match dA X s o with
 |.call (.fn f) W=>FQ X f W s o.dst
 |_=>Z
def zA(R:bz)(O:ot)(m:OM)(s:S)(X:S->Fx->T)(P:SV->S->T)(W:Fx):T:=
 match zx R m s with
 |U (e,N,M,Q)=>Dg e (λg L=>O (.fn g) (Q++L) s (λv V=>X (V.put m.o.dst v) (nN s W)) P) N M
 |none=>
 match Bp R m s with
 |U u=>.dO u.f u.g u.e u.sp u.st u.r s.rs (X u.s (nN s W))
 |none=>
 match dA R s m.o with
 |.call (.fn g) Q=>O (.fn g) Q s (λv V=>X (V.put m.o.dst v) (nN s W)) P
 |.call (.yl n) Q=>if m.so then O (.yl n) Q s (λv V=>X (V.put m.o.dst v) (nN s W)) P else .stuck ""
 |.bn v=>P v s
 |.no=>.stuck ""
 |.op=>match zw R m s X W with
  |U t=>t
  |none=>match dM R m.o m.bC m.dr s with
  |U b=>.bj b.bj (.new b.e b.x s.rs b.s.rs (X b.s (nN s W)))
  |none=>match fw R m s with
  |.ok V=>X V W
  |.bj b V=>.bj b (X V W)
  |.split b H G=>Bo s W b (X H) (X G)
  |.no F=>.stuck F
def RW(R:cT)(m:OM)(s:S)(X:Fx)(W V:Fx->T):T:=
 match m.o.guard with
 |none=>W X
 |U (j,Q)=>match(R[j]?).bind (·.dst) with
  |U d=>match s.tmps[d]? with
   |U (.bool b)=>if Q then Bo s X b W V else Bo s X b V W
   |U (.bH [])=>V X
   |_=>.stuck ""
  |none=>.stuck ""
def mw(X:bz)(W:ot)(V:cT)(k:S->T)(R:SV->S->T):bY->S->Fx->T
 |[],s,_=>k s
 |m::Q,s,P=>RW V m s P (zA X W m s (mw X W V k R Q) R) (mw X W V k R Q (s.put m.o.dst (.bH [])))
def fF:Op->Bool
 |.alloc _|.box _ _|.buildSlice _ _ _=>J
 |_=>E
def lx(l:oo):Nat:=(l.filter λo=>fF o.op).length
def f9(bC:Nat->Bool)(X W:Bool):Nat->Nat->oo->bY
 |_,_,[]=>[]
 |j,n,o::r=>⟨o,n,bC j,j,W,X⟩::f9 bC X W (j+1) (if fF o.op then n+1 else n) r
def S.room(s:S)(n:Nat):S:={s with boxes:=s.boxes++aIL n Z,lk:=0}
def sQ(X:bz)(s:S):pO->Fw
 |[]=>U []
 |.tmp t::W=>match sQ X s W with
  |U l=>if(s.tmps.getD t .any).dP then Z else U (s.tmps.getD t .any::l)
  |none=>Z
 |.cell a t::W=>match sQ X s W,s.tmps.getD a .any,X.ty t with
  |U l,.loc i V,U R=>match ky s.boxes i with
   |U (_,Q)=>match vO R Q V with
    |U v=>U (v::l)
    |none=>Z
   |none=>Z
  |_,_,_=>Z
def uu(n:Nat):List (Nat×LK)->ah->Option SV
 |(t,_)::r,v::X=>if t==n then U v else uu n r X
 |_,_=>Z
def zB(b n:Nat):List (Nat×Nat×LK)->ah->Option SV
 |(X,W,_)::r,v::V=>if X==b&&W==n then U v else zB b n r V
 |_,_=>Z
def aiP(l:bw)(x:Nat×Nat×LK):SV:=match bU l x.1 with
 |U (_,X)=>X.getD x.2.1 .any
 |none=>.any
def eF.ks(a:eF):aP:=a.tm.map (·.2)++a.cl.map (·.2.2)
def jx(a:eF)(s:S):ah:=a.tm.map (λx=>s.tmps.getD x.1 .any)++a.cl.map (aiP s.boxes)
def RX:LK->SV->ai
 |.ref (.own _),.ref (.v k)=>[k]
 |_,_=>[]
def Bq:aP->ah->ai
 |k::X,v::W=>RX k v++Bq X W
 |_,_=>[]
def FT(a:eF)(s:S):ai:=Bq a.ks (jx a s)
def iq(a:eF)(s:S):bc:=ip (FT a s) 0 s.rs
def xH:bc->bc->Bool
 |[],_=>J
 |x::X,y::W=>(decide (x=.dead)||decide (x=y))&&xH X W
 |_::_,[]=>E
def ly:ai->Bool
 |[]=>J
 |x::X=> !X.contains x&&ly X
def FU(X:bc)(l:ai):Bool:=ly l&&l.all λk=>decide (Y X<=k)||decide (X[k]?=U .dead)
def zC(a:eF)(X:ai)(W:ah):Nat->ah->ah
 |_,[]=>[]
 |n,x::V=>(uu n a.tm W).getD (if X.contains n then .any else x)::zC a X W (n+1) V
def FV(a:eF)(X:ah)(b:Nat):Nat->ah->ah
 |_,[]=>[]
 |n,x::W=>(zB b n a.cl X).getD x::FV a X b (n+1) W
def sS(a:eF)(X:ah):Nat->bw->bw
 |_,[]=>[]
 |n,Z::W=>Z::sS a X (n+1) W
 |n,U (t,V)::W=>U (t,FV a X n 0 V)::sS a X (n+1) W
def pe(a:eF)(X:ai)(s:S):S:=
 let r:ah×S:=S.bS {s with aq:=s.aq+1,rs:=iq a s} a.ks
 {r.2 with tmps:=zC a X r.1 0 s.tmps,boxes:=sS a (r.1.drop (Y a.tm)) 0 s.boxes}
def xI(a:eF)(X:ai):Nat->ah->ah->Bool
 |_,[],[]=>J
 |n,x::W,y::V=>(a.tm.any (·.1==n)||X.contains n||SV.same x y)&&xI a X (n+1) W V
 |_,_,_=>E
def FW(a:eF)(b:Nat):Nat->ah->ah->Bool
 |_,[],[]=>J
 |n,x::X,y::W=>(a.cl.any (λc=>c.1==b&&c.2.1==n)||SV.same x y)&&FW a b (n+1) X W
 |_,_,_=>E
def qZ(a:eF):Nat->bw->bw->Bool
 |_,[],_=>J
 |n,Z::X,_::W=>qZ a (n+1) X W
 |n,U x::X,U y::W=>x.1==y.1&&FW a n 0 x.2 y.2&&qZ a (n+1) X W
 |_,_,_=>E
def Br(s:S):LK->SV->Bool
 |.int k,.int X _=>decide (k=X)
 |.bool,.bool _=>J
 |.ref e,.ref (.v k)=>s.rs[k]?==U e
 |.ref (.sl _),.ref (.k (.slice Z 0 0))=>J
 |.ref (.own _),.ref (.k (.slice Z 0 0))=>J
 |.ref (.mr _),.ref (.k (.slice Z 0 0))=>J
 |_,_=>E
def rf(s:S):aP->ah->Bool
 |[],[]=>J
 |k::X,v::W=>Br s k v&&rf s X W
 |_,_=>E
def FX:LK->Bool
 |.ref (.own _)=>E
 |_=>J
def ov:aP->Bool
 |[]=>J
 |k::X=>FX k&&ov X
def M1:aP->Bool
 |[]=>E
 |.ref _::_=>J
 |_::X=>M1 X
def M2(X:ah)(n:Nat):ai:=if(SV.nK X).isEmpty then SV.nL X else aI5 n
def M3(W:ah)(X:bc):bc:=Bn (M2 W (Y X)) 0 X
def Bs(W:ah)(V:aP)(X:bc):bc:=if M1 V then jw (M2 W (Y X)) 0 X else X
def S.cut(s:S)(X:ah)(W:aP):S:={s with rs:=Bs X W s.rs}
def xJ(V:bz)(f:FuncId)(X:ah)(s:S)(k:SV->S->T):T:=
 match V.sig f with
 |U R=>match gJ V.ty R with
  |U W=>match zv V.ty R ((s.cut X W).bS W).1 with
   |U l=>if s.dZ X&&ov W then .call f X (ur (pQ (SV.nK X) 0 s.boxes)) (M3 X s.rs) W (one l) (k (one l) ((s.cut X W).bS W).2) else .stuck ""
   |none=>.stuck ""
  |none=>.stuck ""
 |none=>.stuck (""++toString f)
def j7(o:Oper):ai:=(o.after.toList.filter λe=>Region.binds .any e).map (·.on)
def nO(X:oo):ai:=X.foldl (λacc o=>acc++[(j7 o).foldl (λl e=>l|||(1<<<e)|||acc.getD e 0) 0]) []
def zD:Op->Bool
 |.load _ _=>J
 |_=>E
def xK:Op->Bool
 |.store _ _ _=>J
 |_=>E
def lY:Op->Bool
 |.call c=>match c.callee with
  |.builtin .len|.builtin .min|.builtin .max=>J
  |_=>E
 |.move _|.assign _|.pick _ _ _|.load _ _|.fieldAddr _ _ _|.field _ _ _|.indexAddr _ _ _|.index _ _ _|.binOp _ _ _ _ _|.unOp _ _ _|.convert _ _ _|.makeInterface _ _|.makeFunc _ _ _|.extract _ _|.nilCheck _|.slice _ _ _ _ _|.build _ _|.lookup _ _ _ _=>J
 |_=>E
def i6(X:cT)(o:Oper):ai:=o.op.operands.toList.filterMap (λx=>match x with
  |.tmp t=>U t
  |_=>Z)++(match o.guard with
  |U (j,_)=>((X[j]?).bind (·.dst)).toList
  |none=>[])
def IK:Op->Bool
 |.panic _=>J
 |.call c=>match c.callee with
  |.builtin .panic=>J
  |_=>E
 |_=>E
def Bt:Op->Bool
 |.call c=>match c.callee with
  |.builtin .append=>J
  |_=>E
 |_=>E
def sT:Op->Bool
 |.call c=>match c.callee with
  |.builtin .append=>J
  |_=>E
 |.makeSlice _ _ _=>J
 |_=>E
def looks:Op->Bool
 |.call _|.load _ _|.indexAddr _ _ _|.index _ _ _|.lookup _ _ _ _=>J
 |.binOp X _ _ _ _=>Rz X
 |_=>E
def RY(X:cT)(x y:OM):Bool:=
 x.dr&&y.dr&&lY x.o.op&& !IK y.o.op&&(match x.o.dst with
  |U d=> !(i6 X y.o).contains d&&y.o.dst !=U d&& !(i6 X x.o).contains d
  |none=>E)&&(match y.o.dst with
  |U d=> !(i6 X x.o).contains d
  |none=>J)&&(!(xK y.o.op)|| !(zD x.o.op)||(x.bC&&y.bC))&&(!(Bt y.o.op)|| !(looks x.o.op)||(zD x.o.op&&x.bC&&y.bC))
def vS:Operand->Bool
 |.global _=>E
 |_=>J
def xL:Op->Bool
 |.call c=>match c.callee with
  |.value _=>J
  |_=>E
 |_=>E
def FY:Op->Bool
 |.alloc _=>J
 |_=>E
def RZ(X:cT)(x y:OM):Bool:=(match x.o.dst with
  |U d=> !(i6 X y.o).contains d&&y.o.dst !=U d
  |none=>J)&&(match y.o.dst with
  |U d=> !(i6 X x.o).contains d
  |none=>J)
def IL:Op->Bool
 |.call c=>match c.callee with
  |.value (.func _)=>c.args.toList.isEmpty
  |_=>E
 |_=>E
def R6(X:cT):Bool:=(aI5 X.size).all λi=>(aI5 X.size).all λj=>match X[i]?,X[j]? with
 |U x,U y=> !(xL x.op)|| !(fF y.op||sT y.op)||((nO X.toList).getD i 0).testBit j||((nO X.toList).getD j 0).testBit i||(IL x.op&&FY y.op)
 |_,_=>J
def IM(X:cT)(x y:OM):Bool:=
 x.dr&&y.dr&&FY y.o.op&&y.o.guard.isNone&&(fF x.o.op||sT x.o.op||xL x.o.op)&&(!fF x.o.op||x.ix !=y.ix)&&x.o.op.operands.toList.all vS&&RZ X x y&&(!xL x.o.op|| !R6 X||IL x.o.op)
def Dh:Op->Bool
 |.move _|.assign _|.fieldAddr _ _ _=>J
 |_=>E
def M4(X:cT)(x y:OM):Bool:=
 x.dr&&y.dr&&fF x.o.op&& !FY x.o.op&&x.o.guard.isNone&&x.o.op.operands.toList.all vS&&y.o.op.operands.toList.all vS&&(fF y.o.op||sT y.o.op||xL y.o.op||Dh y.o.op||xK y.o.op)&&(!fF y.o.op||x.ix !=y.ix)&&RZ X x y&&(!xL y.o.op|| !R6 X)
def sU(X:cT)(x y:OM):Bool:= !x.so&& !y.so&&(RY X x y||IM X x y||M4 X x y)
def M5(X:oo):Nat->ai->ai
 |0,acc=>acc
 |n+1,acc=>
  let W:=(aI5 (Y X)).filter λi=> !acc.contains i&&(match X[i]? with
   |U o=>(j7 o).all acc.contains
   |none=>E)
  match W.find? λi=>match X[i]? with
   |U o=>lY o.op
   |none=>E with
  |U i=>M5 X n (acc++[i])
  |none=>match(W.find? λi=>match X[i]? with
   |U o=>fF o.op&& !FY o.op
   |none=>E).or (W.find? λi=>match X[i]? with
   |U o=> !FY o.op
   |none=>E) with
   |U i=>M5 X n (acc++[i])
   |none=>match W with
   |i::_=>M5 X n (acc++[i])
   |[]=>acc
def Di(X:cT)(W:ai):bY->Bool
 |[]=>J
 |x::r=>(r.all λy=>(W.getD y.j 0).testBit x.j||sU X x y)&&Di X W r
def Dj(X:cT):ai->bY->Bool
 |_,[]=>J
 |done,x::r=>(match X[x.j]? with
  |U o=>(j7 o).all done.contains
  |none=>E)&&Dj X (x.j::done) r
def R7(X:oo)(W:ai):Bool:=(aI5 (Y X)).all λj=>match X[j]? with
 |U o=>(j7 o).all (λe=>decide (e<j))&&(aI5 (Y X)).all λi=> !(W.getD j 0).testBit i||(j7 o).contains i||(j7 o).any λe=>(W.getD e 0).testBit i
 |none=>E
def M6(X:oo)(W:ai)(j:Nat):Bool:=match X[j]? with
 |U o=>(zD o.op&&(aI5 (Y X)).any λi=>(match X[i]? with
   |U q=>xK q.op||Bt q.op
   |none=>E)&& !(W.getD i 0).testBit j&& !(W.getD j 0).testBit i)||
  ((xK o.op||Bt o.op)&&(aI5 (Y X)).any λi=>(match X[i]? with
   |U q=>zD q.op
   |none=>E)&& !(W.getD i 0).testBit j&& !(W.getD j 0).testBit i)
 |none=>E
def zE(X:ai):bY->Bool
 |[]=>J
 |x::r=>(r.all λy=>(X.getD y.j 0).testBit x.j)&&zE X r
def avN:Op->Bool
 |.call c=>match c.callee with
  |.value (.tmp _)=>J
  |_=>E
 |_=>E
def sW(X:ai):bY->bY->bY
 |_,[]=>[]
 |W,m::r=>{m with so:=avN m.o.op&&zE X (m::r)&&W.all (λx=>(X.getD m.j 0).testBit x.j)}::sW X (W++[m]) r
def rg(X:ai):Nat->ah->ah
 |_,[]=>[]
 |n,x::W=>(if X.contains n then .any else x)::rg X (n+1) W
def S.plus(s:S)(X:bw):S:={s with boxes:=s.boxes++X}
abbrev vT:=FuncId->ah->S->Option (SV×bw)
def xM(W:bz)(V:vT)(R:YH):ot
 |.fn f,X,s,k,_=>match V f X s with
  |U (v,Q)=>if s.bd then k v (s.plus Q) else .stuck ""
  |none=>xJ W f X s k
 |.yl n,X,s,k,P=>R n X s k P
def IN(l:bY)(X:ai):bY:=X.filterMap λi=>l[i]?
def Dk(l:oo):ai:=l.filterMap (·.dst)
def IP(X:cT)(n:Nat):Option bY:=
 let V:=nO X.toList;let W:=sW V [] (IN (f9 (M6 X.toList V) E J 0 n X.toList) (M5 X.toList X.size []))
 if R7 X.toList V&&Dj X [] W&&Di X V W&&ly (W.filterMap (·.o.dst))&&ly (W.map (·.j))&&ly ((W.filter λm=>fF m.o.op).map (·.ix))&&Y W==X.size&&(aI5 X.size).all (λi=>W.any λm=>m.j==i) then U W else Z
def FZ(X:bz)(t:TypeId):Bool:=(X.ty t).isSome&& !oY t
def IQ(X:bz):oo->Bool
 |[]=>J
 |o::r=>(match o.op with
  |.alloc t=>FZ X t
  |_=>J)&&IQ X r
def aiQ(s:S)(X:ai):ai:=X.filter λd=>match s.tmps[d]? with
 |U w=> !(w.bd s.ni s.nb (Y s.rs) (aL s.boxes))
 |none=>J
def S.zF(s:S)(X:cT)(W:bY):S:={s.room (lx X.toList) with tmps:=rg (aiQ s (Dk (W.dropLast.map (·.o)))) 0 s.tmps}
def R8(X:S->T)(k:XE->S->T):XE->S->T
 |.normal,s=>X s
 |e,s=>k e s
def ZN(id:Nat)(k:XE->S->T):XE->S->T
 |.exit j,s=>if j==id then k .normal s else k (.exit j) s
 |e,s=>k e s
def IR(W:bz)(s:S)(V:pO)(k R:SV->S->T):XE->S->T
 |.normal,X=>match sQ W X V with
  |U l=>k (one l) {X with tmps:=s.tmps}
  |none=>.stuck ""
 |.ret,X=>match sQ W X V with
  |U l=>k (one l) {X with tmps:=s.tmps}
  |none=>.stuck ""
 |.bn v,X=>R v {X with tmps:=s.tmps}
 |.exit _,_=>.stuck ""
def jy(W:bz)(R:FuncId->Code->S->(XE->S->T)->T)(Q:YH):ot
 |.fn f,X,s,k,V=>match W.inl f with
  |U (c,P,O)=>if s.dZ X then R f c {s with tmps:=X++aIL (P-Y X) (.bH [])} (IR W s O k V) else .stuck ""
  |none=>xJ W f X s k
 |.yl n,X,s,k,V=>Q n X s k V
def ZO(b:Bool)(R:bz)(V:ot):ot
 |.fn f,X,s,k,W=>if b then xJ R f X s k else V (.fn f) X s k W
 |.yl n,X,s,k,W=>V (.yl n) X s k W
def avO:T:=.gp (.c E) (.c E) (.stuck "") (.stuck "")
def ZP:T->Bool
 |.gp (.c E) (.c E) _ _=>J
 |_=>E
mutual
def SV.zG:SV->Bool
 |.agg l=>SV.vU l
 |.bH l=>SV.vU l
 |.fn _ l=>SV.vU l
 |.fh _ x=>SV.zG x
 |.yl _=>E
 |.eR _ _ X=>SV.vU X
 |_=>J
def SV.vU:ah->Bool
 |[]=>J
 |x::X=>SV.zG x&&SV.vU X
end
def Dl:bw->Bool
 |[]=>J
 |Z::X=>Dl X
 |U x::X=>SV.vU x.2&&Dl X
def lz:bw->bw->Bool
 |[],[]=>J
 |Z::X,Z::W=>lz X W
 |U x::X,U y::W=>x.1==y.1&&SV.o8 x.2 y.2&&lz X W
 |_,_=>E
def my(W:ah)(X:bw):bw:=if W.isEmpty then X.map (λ_=>Z) else X
def sZ(X:ah)(s:S):S:=⟨[],my X s.boxes,s.ni,s.nb,s.rs.map RK.rd,0,0,[]⟩
def aiR(W V X:S):Bool:=lz X.boxes V.boxes&&X.ni==W.ni&&X.nb==W.nb&&decide (X.rs=W.rs)
def IS(V:bz)(R:FuncId->Code->S->(XE->S->T)->T)(g:FuncId)(W:ah)(s:S):Option (SV×bw):=
 match jy V R iF (.fn g) W (sZ W s) (λv X=>.out .normal {X with tmps:=[v]}) (λ_ _=>.stuck "") with
 |.out .normal X=>match X.tmps with
  |[v]=>if SV.vU W&&Dl (my W s.boxes)&&v.zG&&Dl X.boxes&&lz (X.boxes.take (Y s.boxes)) (my W s.boxes)&&v.bd s.ni s.nb (Y s.rs) (aL X.boxes)&&SV.o9 s.ni s.nb (Y s.rs) (aL X.boxes) X.boxes&&ZP (jy V R iF (.fn g) W (sZ W s) (λQ P=>if Q.same v&&aiR (sZ W s) X P then avO else .stuck "") (λ_ _=>.stuck "")) then U (v,X.boxes.drop (Y s.boxes)) else Z
  |_=>Z
 |_=>Z
def Dm(X:bz)(W:cT)(V:FuncId->Code->S->(XE->S->T)->T):vT:=λg R s=>if R6 W&&(X.inl g).isSome then IS X V g R s else Z
def ZQ:Op->Bool
 |.pick _ _ _=>J
 |_=>E
def aiS:Op->Bool
 |.buildSlice _ _ _=>J
 |_=>E
def M7:Op->Bool
 |.buildSlice _ _ _|.alloc _|.box _ _|.store _ _ _=>J
 |_=>E
def zH(X:bz)(s:S)(o:Oper):Option (BE×SV):=
 if(o.op.operands.toList.any λx=>(s.ev X.gl x).dP)||ZQ o.op then Z else match bO X.ty X.gl s o.op with
 |.ok v=>U (.c J,v)
 |.bj b v=>if b.bd s.ni s.nb (Y s.rs) then U (b,v) else Z
 |.no _=>Z
def BE.ZR:BE->Bool
 |.c b=>b
 |_=>E
def Dn(X:bz):bY->S->Option (S×List BE)
 |[],s=>U (s,[])
 |q::r,s=>match zH X s q.o with
  |U (b,v)=>(Dn X r (s.put q.o.dst v)).map λx=>(x.1,if b.ZR then x.2 else b::x.2)
  |none=>Z
def ZS(X:bz)(kS:List BE)(s:S)(W:bY):Bool:=W.all λq=>match q.o.dst,zH X s q.o with
 |U d,U (b,v)=>(match s.tmps[d]? with
  |U w=>v.same w&&(b.ZR||kS.any λx=>x.same b)
  |none=>E)
 |_,_=>E
def R9:List BE->T->T
 |[],t=>t
 |b::r,t=>.bj b (R9 r t)
def S.bM(s:S)(X:ai):S:={s with tmps:=rg X 0 s.tmps}
def IT{X:Type}:List X->List (X×List X)
 |[]=>[]
 |x::r=>(x,r)::(IT r).map λy=>(y.1,x::y.2)
def ZT(X:ai)(x:OM×bY):Bool:=x.2.all λy=> !(X.getD x.1.j 0).testBit y.j
def IU:vK->vK->Bool
 |[],[]=>J
 |x::X,y::W=>SV.o8 x y&&IU X W
 |_,_=>E
def LE.same:LE->LE->Bool
 |.ref r,.ref Q=>r.same Q
 |.lit l,.lit P=>IU l P
 |.kz a b,.kz X O=>LE.same a X&&LE.same b O
 |.sM n N,.sM W M=>n.same W&&SV.o8 N M
 |.set a i L V,.set X H G R=>LE.same a X&&i.same H&&L==G&&SV.o8 V R
 |.sub a F D,.sub X C B=>LE.same a X&&F.same C&&D.same B
 |.ins a n V,.ins X W R=>LE.same a X&&n==W&&SV.o8 V R
 |_,_=>E
def S.same(s X:S):Bool:=SV.o8 s.tmps X.tmps&&lz s.boxes X.boxes&&s.ni==X.ni&&s.nb==X.nb&&decide (s.rs=X.rs)&&s.aq==X.aq&&s.lk==X.lk&&decide (s.pd=X.pd)
def T.same:T->T->Bool
 |.ret v P W,.ret O N V=>v.same O&&lz P N&&decide (W=V)
 |.bn v,.bn O=>v.same O
 |.node b t f,.node M X R=>b.same M&&T.same t X&&T.same f R
 |.bj b t,.bj M X=>b.same M&&T.same t X
 |.call f C P W L im t,.call R B N V H A X=>f==R&&SV.o8 C B&&lz P N&&decide (W=V)&&decide (L=H)&&im.same A&&T.same t X
 |.loop aq L z t,.loop G H y X=>aq==G&&decide (L=H)&&SV.o8 z y&&T.same t X
 |.back aq x,.back G Q=>aq==G&&SV.o8 x Q
 |.new e x W w t,.new u Q V r X=>e==u&&LE.same x Q&&decide (W=V)&&decide (w=r)&&T.same t X
 |.rows k x W t,.rows q Q V X=>decide (k=q)&&LE.same x Q&&decide (W=V)&&T.same t X
 |.gp g h t f,.gp F D X R=>g.same F&&h.same D&&T.same t X&&T.same f R
 |.pick n g h t f,.pick p F D X R=>n.same p&&g.same F&&h.same D&&T.same t X&&T.same f R
 |.out .normal s,.out .normal o=>S.same s o
 |_,_=>E
def F0:List T->List T
 |[]=>[]
 |t::X=>if X.any (T.same t) then F0 X else t::F0 X
def Bu:List T->T
 |[]=>.stuck ""
 |[t]=>t
 |t::X=>.gp (.c J) (.c J) t (Bu X)
def IW:Op->Bool
 |.call c=>match c.callee with
  |.builtin .append=>J
  |_=>E
 |.makeSlice _ _ _|.buildSlice _ _ _|.slice _ _ _ _ _|.store _ _ _=>J
 |_=>E
def Do(X:bz)(R:ot)(Q:ai)(P:SV->S->T)(m:OM)(W:S->T)(s:S):T:=match FR X m.o s with
 |U u=>.dO u.f u.g u.e u.sp u.st u.r s.rs (W u.s)
 |none=>match dA X s m.o with
  |.call (.fn g) O=>R (.fn g) O s (λv V=>W (V.put m.o.dst v)) (λv V=>P v (V.bM Q))
  |.op=>match(if IW m.o.op then dM X m.o m.bC E s else Z) with
   |U b=>.bj b.bj (.new b.e b.x s.rs b.s.rs (W b.s))
   |none=>if lY m.o.op then(match zH X s m.o with
    |U (b,v)=>.bj b (W (s.put m.o.dst v))
    |none=>.stuck "") else
   if M7 m.o.op then(match fw X m s with
    |.ok V=>W V
    |_=>.stuck "") else .stuck ""
  |_=>.stuck ""
def IX(X:ai)(m:OM)(W:bY):bY:=W.filter λq=> !(X.getD m.j 0).testBit q.j
def nP(X:bz)(R:ot)(W:ai)(kS:List BE)(V:bY)(Q:ai)(k:S->T)(P:SV->S->T):Nat->bY->S->T
 |_,[],s=>if ZS X kS s V then k s else .stuck ""
 |0,_::_,_=>.stuck ""
 |n+1,m::r,s=>if !ZS X kS s V then .stuck "" else Bu (F0 (((IT (m::r)).filter (ZT W)).map λx=>Do X R Q P x.1 (λO=>nP X R W kS (IX W x.1 V) Q k P n x.2 O) s))
def T.mz(k:S->T)(X:SV->S->T):T->T
 |.out .normal s=>k s
 |.out (.bn v) s=>X v s
 |.node b t f=>.node b (t.mz k X) (f.mz k X)
 |.bj b t=>.bj b (t.mz k X)
 |.call f a V W R im t=>.call f a V W R im (t.mz k X)
 |.new e x W Q t=>.new e x W Q (t.mz k X)
 |.dO f g e P O r W t=>.dO f g e P O r W (t.mz k X)
 |.gp g h t f=>.gp g h (t.mz k X) (f.mz k X)
 |t=>t
def Sa(X:bz):ot
 |.fn g,W,s,k,_=>if(X.inl g).isNone then xJ X g W s k else .stuck ""
 |_,_,_,_,_=>.stuck ""
def avP:Op->Bool
 |.slice _ _ _ _ _=>J
 |_=>E
def avQ:Op->Bool
 |.indexAddr .. =>J
 |_=>E
def avR:Op->Bool
 |.store _ _ _=>J
 |_=>E
def Sb(W:Bool)(X:cT):ai:=(aI5 X.size).foldl (λacc i=>match X[i]? with
 |U o=>if lY o.op&&(W|| !avP o.op)&& !(avQ o.op&&(aI5 i).any λj=>match X[j]? with
   |U x=>avR x.op
   |none=>E)&&((aI5 X.size).all λj=>match(X[j]?).bind (·.dst) with
   |U d=> !(i6 X o).contains d||acc.contains j
   |none=>J) then acc++[i] else acc
 |none=>acc) []
structure M8 where
 qs:bY
 ch:bY
 s:S
 kS:List BE
def ZU(X:bz)(s:S)(W:oo):Bool:=W.any λo=>match o.op with
 |.call c=>(match c.callee with
  |.value (.func g)=>(X.inl g).isSome
  |.value (.tmp t)=>(Dk W).contains t||(match s.tmps[t]? with
   |U (.fn g _)=>(X.inl g).isSome
   |_=>E)
  |_=>E)
 |_=>E
def ZV(X:cT)(Q:ai)(W V R:bY):Bool:=
 R7 X.toList Q&&W.all (λm=>m.o.guard.isNone&& !m.bC)&&ly (W.filterMap (·.o.dst))&&
 W.all (λm=>W.all λx=>match x.o.dst with
  |U d=> !(i6 X m.o).contains d||(Q.getD m.j 0).testBit x.j
  |none=>J)&&V.all (λq=>lY q.o.op&&q.o.dst.isSome)&&(aI5 X.size).all (λi=>(V++R).any λm=>m.j==i)&&(V++R).length==X.size&&ly ((V++R).map (·.j))&&
 R.all (λm=>lY m.o.op||M7 m.o.op||IW m.o.op||(match m.o.op with
  |.call _=>J
  |_=>E))
def Bv(W:Bool)(X:cT)(n:Nat):bY:=(f9 (λ_=>E) E J 0 n X.toList).filter λm=>(Sb W X).contains m.j
def Bw(W:Bool)(X:cT)(n:Nat):bY:=(f9 (λ_=>E) E J 0 n X.toList).filter λm=> !(Sb W X).contains m.j
def IY(W:Bool)(X:cT)(n:Nat):Bool:=ZV X (nO X.toList) (f9 (λ_=>E) E J 0 n X.toList) (Bv W X n) (Bw W X n)
def avS:CK->Bool
 |.call (.yl _) _=>J
 |_=>E
def ZW(W:bz)(V X:bY)(x:S×List BE):Option M8:=if X.any λm=>avS (dA W x.1 m.o) then Z else U ⟨V,X,x.1,x.2⟩
def IZ(V:bz)(W:Bool)(X:cT)(s:S):Option M8:=
 if(!W||(ZU V s X.toList||(V.lW&&X.toList.any λo=>aiS o.op))&&zE (nO X.toList) (Bw W X (Y s.boxes)))&&IY W X (Y s.boxes) then(Dn V (Bv W X (Y s.boxes)) (s.room (lx X.toList))).bind (ZW V (Bv W X (Y s.boxes)) (Bw W X (Y s.boxes))) else Z
def aiT(X:eF)(s W:S):String:= ""
def Sc(W:eF)(V:ai)(s:S)(k:XE->S->T):XE->S->T
 |.normal,X=>if xI W V 0 s.tmps X.tmps&&qZ W 0 s.boxes X.boxes&&rf X W.ks (jx W X)&&xH (iq W s) X.rs&&FU (iq W s) (FT W X)&&decide (X.pd=s.pd) then .back s.aq (jx W X) else .stuck (aiT W s X)
 |e,X=>k e X
mutual
def SV.vV(n:Nat):SV->Bool
 |.agg l=>SV.pf n l
 |.bH l=>SV.pf n l
 |.fn _ l=>SV.pf n l
 |.fh _ x=>SV.vV n x
 |.yl m=>m==n
 |.eR _ _ X=>SV.pf n X
 |_=>E
def SV.pf(n:Nat):ah->Bool
 |[]=>E
 |x::X=>SV.vV n x||SV.pf n X
end
def vW(n:Nat):bw->Bool
 |[]=>E
 |Z::X=>vW n X
 |U x::X=>SV.pf n x.2||vW n X
def S.vV(s:S)(n:Nat):Bool:=SV.pf n s.tmps||vW n s.boxes
def F1:ai->ah->ah->ah
 |p::X,v::W,l=>F1 X W (l.set p v)
 |_,_,l=>l
def S.By(s X:S):S:={X with tmps:=s.tmps,pd:=X.pd.take (Y s.pd)}
def F2(s:S)(k:XE->S->T):XE->S->T
 |.bn v,X=>if v.vV (Y s.pd)||vW (Y s.pd) X.boxes then .stuck "" else k (.bn v) (s.By X)
 |.exit _,_=>.stuck ""
 |_,X=>if vW (Y s.pd) X.boxes then .stuck "" else match X.pd[Y s.pd]? with
  |U .ready=>k .normal (s.By X)
  |U (.done .ret)=>k .ret (s.By X)
  |U (.done (.exit id))=>k (.exit id) (s.By X)
  |_=>.stuck ""
def i7:Code->Bool
 |.seq a b=>i7 a||i7 b
 |.cond _ a b=>i7 a||i7 b
 |.block _ c=>i7 c
 |.loop c=>i7 c
 |.scope c=>i7 c
 |.rangeFunc _ _ _ _=>J
 |_=>E
def Sd(n:Nat)(W:S)(k V:SV->S->T):XE->S->T
 |.normal,X=>k (.bool (.c J)) {X with tmps:=W.tmps,pd:=X.pd.set n .ready}
 |.ret,X=>k (.bool (.c E)) {X with tmps:=W.tmps,pd:=X.pd.set n (.done .ret)}
 |.exit id,X=>k (.bool (.c E)) {X with tmps:=W.tmps,pd:=X.pd.set n (.done (.exit id))}
 |.bn v,X=>V v {X with tmps:=W.tmps}
def M9(n:Nat)(k:S->T):XE->S->T
 |.normal,X=>if decide (X.pd[n]?=U .ready) then k X else .stuck ""
 |_,_=>.stuck ""
def I0(s:S)(W:Nat)(X:ah):S:={s with tmps:=(.yl (Y s.pd)::X)++aIL (W-(SV.yl (Y s.pd)::X).length) (.bH []),pd:=s.pd++[.ready]}
def Na(n V:Nat)(R:ah->S->(SV->S->T)->(SV->S->T)->T):YH:=λm W X Q P=>
 if m==n&&decide (Y X.pd=n+1)&&decide (X.pd[n]?=U .ready)&&Y W==V&&X.dZ W then R W X Q P else .stuck ""
def Bz(X s:S)(W:ai)(V:ah):S:={X with tmps:=F1 W V s.tmps}
def S.F3(s:S)(n:Nat)(x:Fy):S:={s with pd:=s.pd.set n x}
def aiU(X:eF)(W:ai)(s:S):String:= ""
def eF.at(a:eF)(s:S):eF:=⟨a.tm,a.cl.filterMap λx=>match bU s.boxes (x.1%1000) with
 |U (t,X)=>(match X[x.2.1]? with
  |U v=>if Br s x.2.2 v&&(!oY t||(match x.2.2 with
   |.ref _=>J
   |_=>E))&&(x.1/1000==0||decide (Y s.boxes<=x.1/1000)) then U (x.1%1000,x.2) else Z
  |none=>Z)
 |none=>Z⟩
def aiV:ah->Option (IE×bi)
 |[]=>Z
 |.eR e X _::_=>U (e,X)
 |_::r=>aiV r
def Se:bw->Option (IE×bi)
 |[]=>Z
 |U x::r=>match aiV x.2 with
  |U y=>U y
  |none=>Se r
 |Z::r=>Se r
def F4(k:Int):bi->ah->Option SV
 |X::W,.fn f l::V=>if k=X then U (.fn f l) else F4 k W V
 |X::W,.ref (.k .nilFunc)::V=>if k=X then U (.ref (.k .nilFunc)) else F4 k W V
 |_,_=>Z
def Nb(e:IE)(k:Int):Nat->BE->BE
 |0,b=>b
 |n+1,.cF (.cmp .eql X (.c W)) x y=>if IE.same e X then(if k=W then Nb e k n x else Nb e k n y) else .cF (.cmp .eql X (.c W)) x y
 |_,b=>b
def Nc(e:IE)(k:Int):Nat->IE->IE
 |0,b=>b
 |n+1,.cF (.cmp .eql X (.c W)) x y=>if IE.same e X then(if k=W then Nc e k n x else Nc e k n y) else .cF (.cmp .eql X (.c W)) x y
 |_,b=>b
def ZX(e:IE)(k:Int):SV->SV
 |.bool b=>.bool (Nb e k 20 b)
 |.int t b=>.int t (Nc e k 20 b)
 |.eR X W V=>if IE.same e X then(match F4 k W V with
  |U v=>v
  |none=>.eR X W V) else .eR X W V
 |v=>v
def Sf(e:IE)(V:bi):SV->SV
 |.eR X W R=>if IE.same e X&&W.all V.contains then .ref (.k .nilFunc) else .eR X W R
 |v=>v
def F5(f:SV->SV)(l:bw):bw:=l.map λx=>match x with
 |U y=>U (y.1,y.2.map f)
 |none=>Z
def S.fix(f:SV->SV)(s:S):S:={s with boxes:=F5 f s.boxes}
def I1(e:IE)(gp:Int->S)(aI:T)(g:S->T):bi->T
 |[]=>aI
 |k::X=>.node (.cmp .eql e (.c k)) (g (gp k)) (I1 e gp aI g X)
def Sg(W:bz)(V id:Nat)(s:S):Option (IE×bi×(Int->S)×Option S):=match W.frk V id with
 |U .box=>match Se s.boxes with
  |U (e,X)=>U (e,X,λk=>s.fix (ZX e k),match Se (F5 (Sf e X) s.boxes) with
   |none=>U (s.fix (Sf e X))
   |U _=>Z)
  |none=>Z
 |U (.slot t R)=>match Zu s.tmps t with
  |.int _ (.c _)=>Z
  |.int k e=>U (e,R,λv=>{s with tmps:=s.tmps.set t (.int k (.c v))},Z)
  |_=>Z
 |none=>Z
def ZY(g:S->T):Option S->T
 |U s=>g s
 |none=>.stuck ""
def Nd(W:bz)(V:ot)(X:cT)(k:XE->S->T)(c:M8):T:=R9 c.kS (if zE (nO X.toList) c.ch||ZU W c.s X.toList then nP W V (nO X.toList) c.kS c.qs (Dk X.toList) (k .normal) (λv=>k (.bn v)) (Y c.ch) c.ch c.s
 else(nP W (Sa W) (nO X.toList) c.kS c.qs (Dk X.toList) (.out .normal) (λv=>.out (.bn v)) (Y c.ch) c.ch c.s).mz (k .normal) λv=>k (.bn v))
def eS(X:bz):Nat->FuncId->Code->S->YH->(XE->S->T)->T
 |0,_,_,_,_,_=>.stuck ""
 |n+1,V,c,s,W,k=>
  match c with
  |.skip=>k .normal s
  |.label _=>k .normal s
  |.ret=>k .ret s
  |.exit id=>k (.exit id) s
  |.seq a b=>eS X n V a s W (R8 (λP=>eS X n V b P W k) k)
  |.block id a=>eS X n V a s W (ZN id k)
  |.scope a=>eS X n V a s W k
  |.cond c a b=>match s.ev X.gl c with
   |.bool (.c J)=>eS X n V a s W k
   |.bool (.c E)=>eS X n V b s W k
   |.bool x=>match c with
    |.tmp t=>.node x (eS X n V a {s with tmps:=s.tmps.set t (.bool (.c J))} W k) (eS X n V b {s with tmps:=s.tmps.set t (.bool (.c E))} W k)
    |_=>.stuck ""
   |_=>.stuck ""
  |.region id R O=>match Sg X V id s with
   |U (e,G,gp,aI)=>I1 e gp (ZY (λP=>eS X n V (.region id R O) P W k) aI) (λP=>eS X n V (.region id R O) P W k) G
   |none=>if O then
    match IZ X (!X.MU V id) R s with
    |U c=>Nd X (jy X (λf c s k=>eS X n f c s W k) W) R k c
    |none=>match IP R (Y s.boxes) with
    |U M=>if !IQ X R.toList then .stuck "" else mw X (xM X (Dm X R λf c s k=>eS X n f c s iF k) W) R (k .normal) (λv=>k (.bn v)) M (s.zF R M) []
    |none=>match IZ X E R s with
     |U c=>Nd X (jy X (λf c s k=>eS X n f c s W k) W) R k c
     |none=>.stuck ""
   else
   mw X (ZO (X.MU V (id+1000000)) X (jy X (λf c s k=>eS X n f c s W k) W)) R (k .normal) (λv=>k (.bn v)) (f9 (λ_=>E) J E 0 (Y s.boxes) R.toList) (s.room (lx R.toList)) []
  |.loop a=>match(Code.first a).map (X.loop V) with
   |U (.inv Q)=>
    if !s.bd|| !rf s (Q.at s).ks (jx (Q.at s) s)|| !xI (Q.at s) (Code.mT a) 0 s.tmps s.tmps|| !qZ (Q.at s) 0 s.boxes s.boxes|| !xH (iq (Q.at s) s) s.rs|| !FU (iq (Q.at s) s) (FT (Q.at s) s) then .stuck (aiU (Q.at s) (Code.mT a) s) else
    .loop s.aq (Q.at s).ks (jx (Q.at s) s) (eS X n V a (pe (Q.at s) (Code.mT a) s) W (Sc (Q.at s) (Code.mT a) s k))
   |_=>eS X n V a s W (R8 (λP=>eS X n V (.loop a) P W k) k)
  |.rangeFunc f L assign body=>match s.ev X.gl f with
   |.fn g N=>match X.inl g with
    |U (c,F,[])=>
     if !s.dZ N||s.vV (Y s.pd)||SV.pf (Y s.pd) N||i7 assign||i7 body then .stuck "" else
     eS X n g c (I0 s F N)
      (Na (Y s.pd) L.size λD H C B=>
       eS X n V assign (Bz H s L.toList D) iF (M9 (Y s.pd) λA=>
        eS X n V body (A.F3 (Y s.pd) .busy) iF (Sd (Y s.pd) H C B))) (F2 s k)
    |_=>.stuck ""
   |_=>.stuck ""
  |_=>.stuck ""
def I2{X:Type}(f:SV->bc->(SV->bc->X)->X):ah->bc->(ah->bc->X)->X
 |[],W,k=>k [] W
 |x::V,W,k=>f x W λR Q=>I2 f V Q λP O=>k (R::P) O
def S.bL(X:bc):S:=⟨[],[],0,0,X,0,0,[]⟩
def I3(R:bz)(P:bw):Nat->SV->bc->(SV->bc->T)->T
 |0,_,_,_=>.stuck ""
 |n+1,.gY i N Q M,X,k=>match ky P i with
  |U (e,L)=>match R.ty e with
   |U V=>I2 (I3 R P n) L X λO W=>if lX R.ty (.bL W) V.ae (iN (Y V.ae) Q O)&&Y O==Q*Y V.ae&&N==0&&decide (Q<=M)&&Y V.ae !=0 then .new e (.lit (iN (Y V.ae) Q O)) W (W++[.sl e]) (k (.ref (.v (Y W))) (W++[.sl e])) else .stuck ""
   |none=>.stuck ""
  |none=>.stuck ""
 |n+1,.agg l,X,k=>I2 (I3 R P n) l X λH W=>k (.agg H) W
 |_+1,.int q e,X,k=>k (.int q e) X
 |_+1,.bool e,X,k=>k (.bool e) X
 |_+1,.ref r,X,k=>k (.ref r) X
 |_+1,_,_,_=>.stuck ""
mutual
def SV.avT:SV->Bool
 |.gY _ _ _ _=>J
 |.agg l=>SV.ZZ l
 |_=>E
def SV.ZZ:ah->Bool
 |[]=>E
 |x::X=>SV.avT x||SV.ZZ X
end
def Nf(V:bz)(W:Nat)(l:ah)(X:S):T:=if W==0&&SV.ZZ l&&X.bd&&SV.da X.ni X.nb (Y X.rs) (aL X.boxes) l then I2 (I3 V X.boxes 9) l (X.rs.map RK.rd) λR Q=>.ret (one R) [] Q else .ret (one l) (ur (X.boxes.take W)) (X.rs.map RK.rd)
def Si(W:bz)(V:Nat)(R:pO):XE->S->T
 |.normal,X=>match sQ W X R with
  |U l=>Nf W V l X
  |none=>.stuck ""
 |.ret,X=>match sQ W X R with
  |U l=>Nf W V l X
  |none=>.stuck ""
 |.bn v,_=>.bn v
 |.exit _,_=>.stuck ""
def Ng(X:bz)(n:Nat)(V:FuncId)(c:Code)(R:Nat)(Q:pO)(W:ah)(s:S):T:=
 eS X n V c {s with tmps:=W++aIL (R-Y W) (.bH [])} iF (Si X (Y s.boxes) Q)
structure DI where
 rh:cT
 rest:Code
 g:FuncId
 te:Nat
 tf:Nat
def aiW(rh:cT)(Q:Code):oo->Option DI
 |[X,W]=>match X.op,X.dst,X.guard,W.op,W.guard,W.dst with
  |.makeFunc (.func g) first P,U V,Z,.defer R,Z,Z=>match first.toList,P.toList,R.callee,R.args.toList with
   |[],[.tmp O],.value (.tmp N),[]=>if V==N then U ⟨rh,Q,g,O,V⟩ else Z
   |_,_,_,_=>Z
  |_,_,_,_,_,_=>Z
 |_=>Z
def uv:Code->Option DI
 |.seq (.region _ rh E) (.seq (.region _ X E) W)=>aiW rh W X.toList
 |_=>Z
def I4(W:bz)(V:Nat)(R:pO)(X:S):T:=match sQ W X R with
 |U l=>.ret (one l) (ur (X.boxes.take V)) (X.rs.map RK.rd)
 |none=>.stuck ""
def Z0(W:bz)(V:Nat)(R:TypeId)(P:Nat)(Q:pO):XE->S->T
 |.normal,X=>I4 W V Q X
 |.ret,X=>I4 W V Q X
 |.bn v,X=>match v with
  |.fh t (.int I x)=>match bU X.boxes P with
   |U (O,[.int I _])=>if t==R&&O==R then I4 W V Q {X with boxes:=X.boxes.set P (U (R,[.int I x]))} else .stuck ""
   |_=>.stuck ""
  |_=>.stuck ""
 |.exit _,_=>.stuck ""
def Z1(W:bz)(n:Nat)(R:FuncId)(d:DI)(V:TypeId)(Q:Nat)(P:pO)(X:S):T:=match X.tmps[d.te]? with
 |U (.loc i 0)=>if !oY V&&aL X.boxes i&&decide (d.tf<Y X.tmps) then eS W n R d.rest (X.put (U d.tf) (.fn d.g [.loc i 0])) iF (Z0 W Q V i P) else .stuck ""
 |_=>.stuck ""
def Nh(X:bz)(n:Nat)(V:FuncId)(c:Code)(R:Nat)(Q:pO)(P:TypeId)(W:ah)(s:S):T:=match uv c with
 |U d=>mw X (jy X (λf c s k=>eS X n f c s iF k) iF) d.rh (Z1 X n V d P (Y s.boxes) Q) (λ_ _=>.stuck "") (f9 (λ_=>E) J E 0 (Y s.boxes) d.rh.toList) (({s with tmps:=W++aIL (R-Y W) (SV.bH [])}:S).room (lx d.rh.toList)) []
 |none=>.stuck ""
end
end Go.Proofs.YtieaiocljdpebaaGreatDoor.Y
namespace Go.Proofs.YtieaiocljdpebaaGreatDoor
open Go.RowKit
variable{l:List Nat}{Q:World}
structure fk(S:List Nat)(w w':World):Prop where
 os:w'.os=w.os
 tape:w'.tape=w.tape
 output:w'.output=w.output
 size:w.heap.size<=w'.heap.size
 block:∀k,k<w.heap.size->k∉S->w'.heap[k]?=w.heap[k]?
def fk.refl(S:List Nat)(w:World):fk S w w:=⟨rfl,rfl,rfl,aIG _,λ_ _ _=>rfl⟩
def fk.trans{S:List Nat}{a b c:World}(h:fk S a b)(k:fk S b c):fk S a c:=
 ⟨k.os.trans h.os,k.tape.trans h.tape,k.output.trans h.output,aJL h.size k.size,λi X W=>(k.block i (aKy X h.size) W).trans (h.block i X W)⟩
def fk.mono{X:List Nat}{b:World}(h:fk l Q b)(W:∀x,x∈l->x∈X):fk X Q b:=
 ⟨h.os,h.tape,h.output,h.size,λi V R=>h.block i V (λm=>R (W i m))⟩
def fk.alloc{w:World}(h:fk l Q w)(o:Obj):fk l Q (w.alloc o):=
 h.trans ⟨rfl,rfl,rfl,by simp,λk X _=>Below.heap_alloc _ _ _ X⟩
def fk.drew{w:World}(h:fk l Q w):fk l Q w.drew:=⟨h.os,h.tape,h.output,h.size,h.block⟩
def fk.drewN{w:World}(h:fk l Q w)(n:Nat):fk l Q (w.drewN n):=⟨h.os,h.tape,h.output,h.size,h.block⟩
def fk.setCell{S:List Nat}{a w:World}(h:fk S a w){p:Addr}(X:p.block∈S)(u:Value):fk S a (w.setCell p u):=
 h.trans ⟨rfl,rfl,rfl,by simp[World.setCell],λk _ W=>Below.heap_setCell _ _ _ _ (λe=>W (e▸X))⟩
def fk.putObj{S:List Nat}{a w:World}(h:fk S a w){r:Nat}(X:r∈S)(o:Obj):fk S a (w.putObj r o):=
 h.trans ⟨rfl,rfl,rfl,by simp[World.putObj],λk _ W=>World.putObj_heap_other (λe=>W (e▸X))⟩
def fk.avU{X:World}(h:Below Q.heap.size Q X):fk l Q X:=⟨h.os,h.tape,h.output,h.size,λk W _=>h.block k W⟩
def fk.call{w X:World}(h:fk l Q w)(k:Below w.heap.size w X):fk l Q X:=h.trans (fk.avU k)
def fk.grown{w W:World}{V:Option Nat}(h:fk l Q w)(X:w.grownBy W V)(N:∀k,V=U k->k∈l\/Q.heap.size<=k):fk l Q W:=
 ⟨X.os.trans h.os,X.tape.trans h.tape,X.output.trans h.output,aJL h.size X.size,λk R P=>(X.block k (aKy R h.size) (λe=>by rcases N k e.symm with O|O;exact P O;omega)).trans (h.block k R P)⟩
def fk.heap{S:List Nat}{w V:World}(h:fk S w V){b:Nat}{o:Obj}(X:w.heap[b]?=U o)(R:b∉S):V.heap[b]?=U o:=by
 have W:b<w.heap.size:=by
  by_cases W:b<w.heap.size;exact W;rw[aLK (by omega)] at X;cases X
 exact(h.block b W R).trans X
end Go.Proofs.YtieaiocljdpebaaGreatDoor
namespace Go.Proofs.YtieaiocljdpebaaGreatDoor.Y
open Go.RowKit
noncomputable section
variable{t:Bool}{R N h:Nat}{X:TypeId}{c:Value}{Q:World}{F:Oper}{r:Operand}
inductive RV where
 |mk (val:Value) (rows:List (List RV))
abbrev am:=List (List RV)
abbrev aH:=List RV
abbrev BA:=Option (List (List RV))
abbrev zI:=List Deferred
def RV.val:RV->Value
 |.mk v _=>v
def RV.rows:RV->am
 |.mk _ r=>r
@[simp] def RV.lZ (v:Value) (r:am):(RV.mk v r).val=v:=rfl
@[simp] def RV.lA (v:Value) (r:am):(RV.mk v r).rows=r:=rfl
instance:Inhabited RV:=⟨.mk (.pointer Z) []⟩
structure aa where
 i:bi
 b:kw
 r:aH
 y:ai
def aa.at(O:aa)(y:ai):aa:={O with y:=y}
def aa.rv(O:aa)(k:Nat):RV:=O.r.getD k default
def bB:Value->Int
 |.int _ n=>n
 |_=>0
def fG:Value->Bool
 |.bool b=>b
 |_=>E
def lenOf:Value->Int
 |.slice _ n _=>n
 |.string s=>s.size
 |_=>0
def jz(v:Value)(i:Int):Int:=match v with
 |.string s=>match s[i.toNat]? with
  |U b=>b.toNat
  |none=>0
 |_=>0
def rj:Value->Value->Bool
 |.string a,.string b=>a.toList==b.toList
 |_,_=>E
def mU(n:Nat)(X:bi)(W:aH):Bool:=decide ((W.take n).map (λc=>bB c.val)=X.take n)
def mV(n:Nat)(X:bi)(W:am):Option aH:=W.find? (mU n X)
def j8(n:Nat)(X:aH):am->am
 |[]=>[X]
 |r::W=>if mU n ((X.take n).map λc=>bB c.val) r then X::W else r::j8 n X W
def jA(x:Int):bi->fe->Value
 |k::X,v::W=>if x=k then(if io v then v else .nilFunc) else jA x X W
 |_,_=>.nilFunc
def cellAt(X:am)(i:Int)(j:Nat):RV:=(X.getD i.toNat []).getD j default
def cz:RK->RV->RV
 |.sl _,v|.own _,v=>match v.val with
  |.slice _ _ _=>v
  |_=>.mk (.slice Z 0 0) []
 |.str,v=>match v.val with
  |.string s=>.mk (.string s) []
  |_=>.mk (.string ⟨#[]⟩) []
 |.aI,v=>if io v.val then .mk v.val [] else .mk (.pointer Z) []
 |.dead,v=>if io v.val then v else .mk (.pointer Z) []
 |.mr _,v=>match v.val with
  |.slice _ _ _=>v
  |_=>.mk (.slice Z 0 0) []
mutual
def IE.den(O:aa):IE->Int
 |.c n=>n
 |.v k=>O.i.getD k 0
 |.bin X k a b=>au X k (a.den O) (b.den O)
 |.conv k a=>k.wrap (a.den O)
 |.len r=>lenOf (r.rv O).val
 |.mm W a b=>if W then max (a.den O) (b.den O) else min (a.den O) (b.den O)
 |.cF b x y=>if b.den O then x.den O else y.den O
 |.cell r i j=>bB (cellAt (r.rv O).rows (i.den O) j).val
 |.lT r i=>jz (r.rv O).val (i.den O)
 |.look r n a b c j=>match mV n [a.den O,b.den O,c.den O] (r.rv O).rows with
  |U V=>bB (V.getD j default).val
  |none=>0
def BE.den(O:aa):BE->Bool
 |.c b=>b
 |.v k=>O.b.getD k E
 |.cmp X a b=>gg X (a.den O) (b.den O)
 |.not a=> !(a.den O)
 |.and a b=>a.den O&&b.den O
 |.beq a b=>a.den O==b.den O
 |.cF b x y=>if b.den O then x.den O else y.den O
 |.cell r i j=>fG (cellAt (r.rv O).rows (i.den O) j).val
 |.seq a b=>rj (a.rv O).val (b.rv O).val
 |.look r n a b c j=>match mV n [a.den O,b.den O,c.den O] (r.rv O).rows with
  |U W=>fG (W.getD j default).val
  |none=>E
 |.has r n a b c=>(mV n [a.den O,b.den O,c.den O] (r.rv O).rows).isSome
def RE.rv(O:aa):RE->RV
 |.v k=>O.rv k
 |.cell r i j k=>cz k (cellAt (r.rv O).rows (i.den O) j)
 |.k v=>.mk v []
end
def RE.den(O:aa)(r:RE):Value:=(r.rv O).val
def SV.bN(O:aa):SV->RV
 |.int k e=>.mk (.int k (e.den O)) []
 |.bool b=>.mk (.bool (b.den O)) []
 |.ref r=>r.rv O
 |_=>default
def gF(X:aH)(W:Nat):aH->aH
 |[]=>X
 |v::r=>gF (X.set W v) (W+1) r
def LE.rows(O:aa):LE->am
 |.ref r=>(r.rv O).rows
 |.lit l=>l.map λX=>X.map (SV.bN O)
 |.kz a b=>a.rows O++b.rows O
 |.sM n X=>aIL (n.den O).toNat (X.map (SV.bN O))
 |.set a i V W=>(a.rows O).modify (i.den O).toNat λX=>gF X V (W.map (SV.bN O))
 |.sub a R Q=>((a.rows O).take (Q.den O).toNat).drop (R.den O).toNat
 |.ins a n W=>j8 n (W.map (SV.bN O)) (a.rows O)
def gz(x:LE)(O:aa):RV:=.mk (.slice Z (x.rows O).length (x.rows O).length) (x.rows O)
def aT(c:Nat)(X:aH):Int:=bB (X.getD c default).val
def iO(X:Bool):ai->aH->aH->Bool
 |[],_,_=>E
 |c::W,x,y=>if aT c x=aT c y then iO X W x y else if X then decide (aT c y<aT c x) else decide (aT c x<aT c y)
def aW.lt:aW->aH->aH->Bool
 |.lex X d,x,y=>iO d X x y
 |.ratio n d,x,y=>decide (aT n x*aT d y<aT n y*aT d x)
 |.cn _ _ _,_,_=>E
def eU(n d:Int):Bool:=decide (1<=d)&&decide (d<=1073741824)&&decide (-1073741824<=n)&&decide (n<=1073741824)&&aJE n.natAbs d.toNat==1
def aW.ok:aW->aH->Bool
 |.lex _ _,_=>J
 |.ratio n d,x=>eU (aT n x) (aT d x)
 |.cn _ _ _,_=>E
def dj(lt:aH->aH->Bool)(x:aH):am->am
 |[]=>[x]
 |y::r=>if lt x y then x::y::r else y::dj lt x r
def bE(lt:aH->aH->Bool)(l:am):am:=l.foldl (λacc x=>dj lt x acc) []
def vZ(lt:aH->aH->Bool):am->Bool
 |[]=>J
 |x::r=>r.all (λy=>lt x y||lt y x)&&vZ lt r
def gR:aW->Bool->am->BA
 |.cn _ _ _,_,_=>Z
 |W,V,X=>if decide (Y X<=1099511627776)&&(X.all W.ok&&(V||vZ W.lt X)) then U (bE W.lt X) else Z
def BB(X:am):Bool:=(aI5 (Y X)).all λk=>decide (0<=aT 0 (X.getD k []))&&decide (aT 0 (X.getD k [])<=k)
def s4:Nat->Int->am->am
 |0,_,X=>X
 |n+1,i,X=>if aT 0 (X.getD i.toNat [])=i then X else(s4 n (aT 0 (X.getD i.toNat [])) X).set i.toNat ((s4 n (aT 0 (X.getD i.toNat [])) X).getD (aT 0 (X.getD i.toNat [])).toNat [])
def BC(i:Int)(X:am):BA:=if decide (Y X<=1099511627776)&&decide (0<=i)&&decide (i<Y X)&&BB X then U (s4 (Y X) i X) else Z
def aU(X:am)(a b:Nat):am:=(X.drop a).take (b-a)
def v8(lt:aH->aH->Bool):am->Bool
 |[]=>J
 |x::r=>r.all (λy=> !lt y x)&&v8 lt r
def lB(k:Nat)(o:aW)(W:bi)(X:am):BA:=match k,W with
 |0,[a,b,n]=>if decide (0<=a)&&decide (0<=n)&&decide (a+n<=b)&&decide (b+n<=Y X) then U (X.take a.toNat++(aU X b.toNat (b+n).toNat++(aU X (a+n).toNat b.toNat++(aU X a.toNat (a+n).toNat++X.drop (b+n).toNat)))) else Z
 |1,[a,m,b]=>if decide (0<=a)&&decide (a<m)&&decide (m<b)&&decide (b<=Y X) then U (X.take a.toNat++(aU X m.toNat b.toNat++(aU X a.toNat m.toNat++X.drop b.toNat))) else Z
 |2,[a,b]=>if decide (0<=a)&&decide (a<=b)&&decide (b<=Y X)&&X.all o.ok then U (X.take a.toNat++(bE o.lt (aU X a.toNat b.toNat)++X.drop b.toNat)) else Z
 |n+3,[a,m,b]=>if decide (0<=a)&&decide (a<m)&&decide (m<b)&&decide (b<=Y X)&&decide (b-a<n)&&X.all o.ok&&v8 o.lt (aU X a.toNat m.toNat)&&v8 o.lt (aU X m.toNat b.toNat) then U (X.take a.toNat++(bE o.lt (aU X a.toNat b.toNat)++X.drop b.toNat)) else Z
 |_,_=>Z
def ad(V:ai)(i:Nat):Nat:=V.getD i 0
def mA(v:Value)(n:Nat):Addr:=match v with
 |.slice (U a) _ _=>⟨a.block,a.off+n,Z⟩
 |_=>⟨0,n,Z⟩
mutual
def SV.den(O:aa)(V:ai):SV->Value
 |.int k e=>.int k (e.den O)
 |.bool b=>.bool (b.den O)
 |.ref r=>r.den O
 |.loc i X=>.pointer (U ⟨ad V i,X,Z⟩)
 |.el r w i X=>.pointer (U (mA (r.den O) ((i.den O).toNat*w+X)))
 |.gY i X W R=>.slice (U ⟨ad V i,X,Z⟩) W R
 |.agg l=>.agg (SV.aA O V l).toArray
 |.bH l=>.tuple (SV.aA O V l).toArray
 |.fn f l=>.func (.func f) #[] (SV.aA O V l).toArray
 |.fh t x=>.iface t (SV.den O V x)
 |.yl n=>.func (.yield (O.y.getD n 0)) #[] #[]
 |.any=>undef
 |.mp i=>.map (U (ad V i))
 |.eR e Q P=>jA (e.den O) Q (SV.aA O V P)
def SV.aA(O:aa)(V:ai):ah->fe
 |[]=>[]
 |x::X=>SV.den O V x::SV.aA O V X
end
def nQ(O:aa)(V:ai):∀l,SV.aA O V l=l.map (SV.den O V)
 |[]=>rfl
 |x::X=>by rw[SV.aA,nQ O V X];rfl
@[simp] def F6 (O:aa) (V:ai) (l:ah):(SV.aA O V l).length=Y l:=by rw[nQ];simp
def rk(O:aa)(V:ai)(l:ah)(i:Nat):(SV.aA O V l)[i]?=(l[i]?).map (SV.den O V):=by rw[nQ];simp
def Sj(O:aa)(V:ai)(l m:ah):SV.aA O V (l++m)=SV.aA O V l++SV.aA O V m:=by simp[nQ]
inductive bu(W:World)(ty:Ty):RK->RV->Prop where
 |sl (e:TypeId) (A:Option Addr) (len cap:Nat) (rows:List (List RV)) (h1:Y rows=len) (h2:len<=cap)
   (h3:∀(i:Nat)(row:List RV),rows[i]?=U row->Y row=(bq ty (.sl e)).length/\∃b off,A=U ⟨b,off,Z⟩/\(∃cs t fr,W.heap[b]?=U (.cells cs t fr))/\
    ∀(j:Nat)(c:RV),row[j]?=U c->W.cell? ⟨b,off+i*(bq ty (.sl e)).length+j,Z⟩=U c.val)
   (hi:∀(i j:Nat)(row:List RV)(c:RV)(k:IntKind),rows[i]?=U row->row[j]?=U c->(bq ty (.sl e))[j]?=U (.int k)->∃n,c.val=.int k n)
   (hb:∀(i j:Nat)(row:List RV)(c:RV),rows[i]?=U row->row[j]?=U c->(bq ty (.sl e))[j]?=U .bool->∃x,c.val=.bool x)
   (ho:∀(i j:Nat)(row:List RV)(c:RV)(z:Value)(k:RK),rows[i]?=U row->row[j]?=U c->(bq ty (.sl e))[j]?=U (.aI z k)->bu W ty k c):
   bu W ty (.sl e) (.mk (.slice A len cap) rows)
 |str (s:ByteArray):bu W ty .str (.mk (.string s) [])
 |aI (v:Value) (h:io v=J):bu W ty .aI (.mk v [])
 |own (e:TypeId) (rv:RV) (h:bu W ty (.sl e) rv) (hn:∀l c,rv.val=.slice Z l c->c=0):bu W ty (.own e) rv
 |dead (rv:RV) (h:io rv.val=J):bu W ty .dead rv
 |mr (sh:Sh) (rows:List (List RV)) (h1:∀(i:Nat)(row:List RV),rows[i]?=U row->Y row=(bq ty (.mr sh)).length)
   (hi:∀(i j:Nat)(row:List RV)(c:RV)(k:IntKind),rows[i]?=U row->row[j]?=U c->(bq ty (.mr sh))[j]?=U (.int k)->∃n,c=.mk (.int k n) [])
   (hb:∀(i j:Nat)(row:List RV)(c:RV),rows[i]?=U row->row[j]?=U c->(bq ty (.mr sh))[j]?=U .bool->∃x,c=.mk (.bool x) [])
   (ho:∀(i j:Nat)(row:List RV)(c:RV)(z:Value)(k:RK),rows[i]?=U row->row[j]?=U c->(bq ty (.mr sh))[j]?≠U (.aI z k)):
   bu W ty (.mr sh) (.mk (.slice Z (Y rows) (Y rows)) rows)
inductive db(ty:Ty):RK->RV->Nat->Prop where
 |here (e:TypeId) (a:Addr) (len cap:Nat) (rows:List (List RV)):db ty (.sl e) (.mk (.slice (U a) (len+1) cap) rows) a.block
 |deep (e:TypeId) (v:Value) (rows:List (List RV)) (i j:Nat) (row:List RV) (c:RV) (z:Value) (k:RK) (b:Nat):rows[i]?=U row->row[j]?=U c->(bq ty (.sl e))[j]?=U (.aI z k)->db ty k c b->db ty (.sl e) (.mk v rows) b
 |own (e:TypeId) (rv:RV) (b:Nat):db ty (.sl e) rv b->db ty (.own e) rv b
def RV.jR(X:RV):bR:=match X.val with
 |.slice (U a) _ (_+1)=>U a.block
 |_=>Z
def xN(W:Ty)(e:RK)(X:RV)(b:Nat):Prop:=db W e X b\/(∃t,e=.own t)/\X.jR=U b
def l8(X:Ty)(e:TypeId)(V:am)(b:Nat):Prop:=∃(i j:Nat)(W:aH)(c:RV)(z:Value)(k:RK),V[i]?=U W/\W[j]?=U c/\(bq X (.sl e))[j]?=U (.aI z k)/\db X k c b
structure xO(S0:ai)(w0:World)(V:ai)(O:aa)(bx:bw)(ty:Ty)(rs:bc)(W:World)(k:Nat)(e:TypeId)(rv:RV)(b:Nat):Prop where
 own:w0.heap.size<=b\/b∈S0
 mem:∃len cap cur,rv.val=.slice (U ⟨b,0,Z⟩) len cap/\W.heap[b]?=U (.cells cur e (0,0))/\len<=cap/\cap<=maxLen/\cur.size=cap*(bq ty (.sl e)).length
 box:∀i,aL bx i=J->ad V i≠b
 alone:∀(k':Nat)(e':RK)(rv':RV),k'≠k->rs[k']?=U e'->O.r[k']?=U rv'->¬xN ty e' rv' b
 inner:¬l8 ty e rv.rows b
def SV.gr(O:aa)(V:ai)(v:SV):RV:=match v with
 |.ref r=>r.rv O
 |v=>.mk (v.den O V) []
def SV.cL(O:aa)(V:ai)(l:ah):aH:=l.map (SV.gr O V)
def fy:Nat->qU->List MapEntry
 |_,[]=>[]
 |n,x::r=>⟨x.1,x.2,n⟩::fy (n+1) r
def ow(l:qU):Obj:=.map (fy 0 l).toArray (Y l)
def BD:fe->qU
 |k::v::r=>(k,v)::BD r
 |_=>[]
def pg(a:Bool)(l:aH):Value:=if a then .agg (l.map RV.val).toArray else(l.headD default).val
def uw(n:Nat)(W V:Bool)(X:aH):Value×Value:=(pg W (X.take n),pg V (X.drop n))
def aiX:Value->bR
 |.map a=>a
 |_=>Z
def nR(X:aH):Nat:=(bB (X.headD default).val).toNat
def kA(t:TypeId)(l:aH):Obj:=
 if t=sL then ow (BD (l.map RV.val)) else
 if t=ul then(match l with
  |[X,.mk (.int _ n) _,.mk (.bool W) _,.mk (.bool V) _]=>ow (X.rows.map (uw n.toNat W V))
  |_=>ow []) else
 if t=vL then(match l with
  |[R,_,.mk (.int _ n) _,Q]=>.mapIter (aiX R.val) n.toNat (Q.rows.map nR).toArray n.toNat
  |_=>ow []) else
 .cells (l.map RV.val).toArray t (0,0)
structure jB(S0:ai)(w0:World)(V:ai)(O:aa)(bx:bw)(ty:Ty)(rs:bc)(W:World):Prop where
 base:fk S0 w0 W
 own:∀i,aL bx i=J->w0.heap.size<=ad V i\/ad V i∈S0
 inj:∀i j,aL bx i=J->aL bx j=J->ad V i=ad V j->i=j
 box:∀(i:Nat)(t:TypeId)(cs:ah),bU bx i=U (t,cs)->W.heap[ad V i]?=U (kA t (SV.cL O V cs))
 ref:∀(k:Nat)(e:RK)(rv:RV),rs[k]?=U e->O.r[k]?=U rv->bu W ty e rv/\∀b,db ty e rv b->∀i,aL bx i=J->ad V i≠b
structure bQ where
 out:ai
 dB:List (Nat×Loop)
 rd:Bool
 base:zI
def bQ.none:bQ:=⟨[],[],E,[]⟩
def kB(r:Nat):Deferred:={target:=.collected r,args:= #[]}
def PX.code:PX->Code
 |.ret=>.ret
 |.exit id=>.exit id
def pS(r:Loop):Fy->Loop
 |.ready=>{r with state:=.ready,pending:=Z}
 |.busy=>{r with state:=.busy,pending:=Z}
 |.done e=>{r with state:=.done,pending:=U e.code}
structure dG(w0:World)(D:bQ)(pd:sK)(y:ai)(dfr:zI)(W:World):Prop where
 len:Y D.dB=Y pd
 rm:Y y=Y pd
 dB:∀(n l:Nat)(r:Loop)(st:Fy),D.dB[n]?=U (l,r)->pd[n]?=U st->y[n]?=U l/\W.heap[l]?=U (.loop (pS r st))/\w0.heap.size<=l
 inj:∀(n n' l:Nat)(r r':Loop),D.dB[n]?=U (l,r)->D.dB[n']?=U (l,r')->n=n'
 l9:∃ms:ai,dfr=ms.map kB++D.base/\(D.rd=J->ms=[])/\(ms++D.out).Nodup/\∀d∈ms++D.out,W.heap[d]?=U (.deferred (U []))/\w0.heap.size<=d
structure av(S0:ai)(w0:World)(D:bQ)(ty:Ty)(V:ai)(O:aa)(s:S)(a:Act)(W:World):Prop where
 mem:jB S0 w0 V O s.boxes ty s.rs W
 fH:Y V=Y s.boxes
 ei:Y O.i=s.ni
 eb:Y O.b=s.nb
 er:Y O.r=Y s.rs
 cM:dG w0 D s.pd O.y a.defers W
 size:a.tmps.size=Y s.tmps
 tmps:∀(t:Nat)(sv:SV),s.tmps[t]?=U sv->sv=.any\/a.tmps[t]?=U (sv.den O V)
 fl:∀(k:Nat)(e:TypeId)(rv:RV)(b:Nat),s.rs[k]?=U (.own e)->O.r[k]?=U rv->rv.jR=U b->xO S0 w0 V O s.boxes ty s.rs W k e rv b
def aa.oz(X:Ty)(O:aa)(W:bc)(b:Nat):Prop:=∃(k:Nat)(e:RK),W[k]?=U e/\db X e (O.rv k) b
inductive XV where
 |i (n:Int)
 |b (x:Bool)
 |r (v:RV)
abbrev aV:=List XV
def aa.add(O:aa):XV->aa
 |.i n=>{O with i:=O.i++[n]}
 |.b x=>{O with b:=O.b++[x]}
 |.r v=>{O with r:=O.r++[v]}
def aa.ext(O:aa):aV->aa
 |[]=>O
 |x::X=>(O.add x).ext X
def SV.xv(O:aa):SV->XV
 |.int _ e=>.i (e.den O)
 |.bool b=>.b (b.den O)
 |.ref r=>.r (r.rv O)
 |_=>.i 0
def pT:LK->XV->Prop
 |.int _,.i _=>True
 |.bool,.b _=>True
 |.ref _,.r _=>True
 |_,_=>False
def dU:aP->aV->Prop
 |[],[]=>True
 |k::X,x::W=>pT k x/\dU X W
 |_,_=>False
def avV(X:Ty)(W:World)(B:Nat)(R:Nat->Prop):LK->XV->Prop
 |.ref e,.r V=>bu W X e V/\∀b,db X e V b->B<=b\/R b
 |_,_=>True
def I5(X:Ty)(W:World)(B:Nat)(V:Nat->Prop):aP->aV->Prop
 |k::R,x::Q=>avV X W B V k x/\I5 X W B V R Q
 |_,_=>True
structure F7(ty:Ty)(S0:ai)(w0:World)(e:TypeId)(x:LE)(rs:bc)(O:aa)(rv:RV):Prop where
 val:∃A n c,rv=.mk (.slice A n c) (x.rows O)/\(x.rows O).length=n
 oz:∀b,db ty (.sl e) rv b->w0.heap.size<=b\/b∈S0\/O.oz ty rs b
 Z2:∀(k:Nat)(i:IE)(off:Nat)(cs:ah),x=.set (.ref (.v k)) i off cs->rv.val=(O.rv k).val
structure LC where
 aq:Nat
 I:aV->Prop
 μ:aV->Nat
 m:Nat
abbrev cV:=List LC
def mB(aq:Nat):cV->Option LC
 |[]=>Z
 |x::X=>if x.aq=aq then U x else mB aq X
def XE.to(O:aa)(V:ai):XE->Exit
 |.normal=>.normal
 |.ret=>.ret
 |.exit id=>.exit id
 |.bn v=>.panic [{v:=v.den O V,recovered:=E}]
structure Sp where
 P:Program
 ty:Ty
 S0:ai
 w0:World
 D:bQ
 R:Ending->World->Prop
 Q:Exit->Act->World->Prop
def nS(k:Nat)(o:aW)(W:bi)(X:am):BA:=if Y X<=1099511627776 then lB k o W X else Z
def jC(O:aa):aW->Bool->am->BA
 |.cn k o W,E,X=>nS k o (W.map (IE.den O)) X
 |.cn _ _ [i],J,X=>BC (i.den O) X
 |.cn _ _ _,J,_=>Z
 |V,R,X=>gR V R X
def mC(O:aa):aW->Bool->am->BA
 |.cn _ _ _,E,_=>Z
 |.cn _ _ [i],J,X=>BC (i.den O) X
 |.cn _ _ _,J,_=>Z
 |W,V,X=>gR W V X
def aiY{O:aa}{X:aW}{W r:am}(h:mC O X t W=U r):jC O X t W=U r:=by
 cases X with
 |lex R d=>exact h
 |ratio n d=>exact h
 |cn k o V=>
  cases t with
  |false=>simp[mC] at h
  |true=>
   cases V with
   |nil=>simp[mC] at h
   |cons i l=>
    cases l with
    |nil=>exact h
    |cons j l=>simp[mC] at h
def T.aQ(p:Sp):T->aa->cV->Prop
 |.out e s,O,_=>∀y V a W,av p.S0 p.w0 p.D p.ty V (O.at y) s a W->p.Q (e.to (O.at y) V) a W
 |.ret v F M,O,_=>∀y V W,jB p.S0 p.w0 V (O.at y) F p.ty M W->p.R (.returned (v.den (O.at y) V)) W
 |.bn v,O,_=>∀y V W,fk p.S0 p.w0 W->p.R (.panicked [{v:=v.den (O.at y) V,recovered:=E}]) W
 |.node b t f,O,L=>(b.den O=J->t.aQ p O L)/\(b.den O=E->f.aQ p O L)
 |.bj b t,O,L=>b.den O=J/\t.aQ p O L
 |.call f z F M G im t,O,L=>∀y V W,jB p.S0 p.w0 V (O.at y) F p.ty M W->Calls p.P f (SV.aA (O.at y) V z).toArray W λ
   |.returned v,H=>∃N,dU G N/\v=im.den ((O.ext N).at y) V/\Below W.heap.size W H/\I5 p.ty H W.heap.size (O.oz p.ty M) G N/\t.aQ p (O.ext N) L
   |.panicked w,H=>Below W.heap.size W H/\p.R (.panicked w) H
   |.outgrown,_=>False
 |.loop aq G u t,O,L=>∃X C,X (u.map (SV.xv O))/\∀N,dU G N->X N->t.aQ p (O.ext N) (⟨aq,X,C,C N⟩::L)
 |.back aq x,O,L=>match mB aq L with
   |U c=>c.I (x.map (SV.xv O))/\c.μ (x.map (SV.xv O))<c.m
   |none=>False
 |.new e x M _ t,O,L=>∀B,F7 p.ty p.S0 p.w0 e x M O B->t.aQ p (O.add (.r B)) L
 |.rows _ x _ t,O,L=>t.aQ p (O.add (.r (gz x O))) L
 |.gp g h t f,O,L=>(g.den O=J->t.aQ p O L)/\(h.den O=J->f.aQ p O L)
 |.pick n g h t f,O,L=>(∀j:Int,0<=j->j<n.den O->g.den (O.add (.i j))=J->t.aQ p (O.add (.i j)) L)/\(h.den O=J->f.aQ p O L)
 |.dO _ _ _ q o r _ t,O,L=>∃A,jC O q o (r.rv O).rows=U A/\t.aQ p (O.add (.r (.mk (r.rv O).val A))) L
 |.stuck _,_,_=>False
variable{x:bw}{w:ah}{k:aa}{y:ai}
def aiZ:∀(a b:Value),FG a b=J->a=b:=by
 intro a b h;unfold FG at h;split at h;rename_i a b;have X:a.data.toList=b.data.toList:=by simpa using h
 have W:a.data=b.data:=by simpa using X
 cases a;cases b;simp_all;simp at h;rw[h.1,h.2]
 all_goals first|rfl|cases h
mutual
def IE.bI:∀(a b:IE),IE.same a b=J->a=b
 |.c a,b,h=>by cases b<;>simp[IE.gh] at h;rw[h]
 |.v a,b,h=>by cases b<;>simp[IE.gh] at h;rw[h]
 |.bin o k a b,x,h=>by
  cases x<;>simp[IE.gh,zr] at h;obtain⟨⟨⟨rfl,rfl⟩,X⟩,W⟩:=h;rw[IE.bI _ _ X,IE.bI _ _ W]
 |.conv k a,x,h=>by
  cases x<;>simp[IE.gh] at h;obtain⟨rfl,X⟩:=h;rw[IE.bI _ _ X]
 |.len r,x,h=>by
  cases x<;>simp[IE.gh] at h;rw[RE.bI _ _ h]
 |.mm m a b,x,h=>by
  cases x<;>simp[IE.gh] at h;obtain⟨⟨rfl,X⟩,W⟩:=h;rw[IE.bI _ _ X,IE.bI _ _ W]
 |.cF b a c,x,h=>by
  cases x<;>simp[IE.gh] at h;obtain⟨⟨V,X⟩,W⟩:=h;rw[BE.bI _ _ V,IE.bI _ _ X,IE.bI _ _ W]
 |.cell r i j,x,h=>by
  cases x<;>simp[IE.gh] at h;obtain⟨⟨V,X⟩,rfl⟩:=h;rw[RE.bI _ _ V,IE.bI _ _ X]
 |.lT r i,x,h=>by
  cases x<;>simp[IE.gh] at h;obtain⟨V,X⟩:=h;rw[RE.bI _ _ V,IE.bI _ _ X]
 |.look r n a b c j,x,h=>by
  cases x<;>simp[IE.gh] at h;obtain⟨⟨⟨⟨⟨V,rfl⟩,X⟩,W⟩,R⟩,rfl⟩:=h;rw[RE.bI _ _ V,IE.bI _ _ X,IE.bI _ _ W,IE.bI _ _ R]
def BE.bI:∀(a b:BE),BE.same a b=J->a=b
 |.c a,b,h=>by cases b<;>simp[BE.gh] at h;rw[h]
 |.v a,b,h=>by cases b<;>simp[BE.gh] at h;rw[h]
 |.cmp o a b,x,h=>by
  cases x<;>simp[BE.gh,zr] at h;obtain⟨⟨rfl,X⟩,W⟩:=h;rw[IE.bI _ _ X,IE.bI _ _ W]
 |.not a,x,h=>by
  cases x<;>simp[BE.gh] at h;rw[BE.bI _ _ h]
 |.and a b,x,h=>by
  cases x<;>simp[BE.gh] at h;rw[BE.bI _ _ h.1,BE.bI _ _ h.2]
 |.beq a b,x,h=>by
  cases x<;>simp[BE.gh] at h;rw[BE.bI _ _ h.1,BE.bI _ _ h.2]
 |.cF b a c,x,h=>by
  cases x<;>simp[BE.gh] at h;obtain⟨⟨V,X⟩,W⟩:=h;rw[BE.bI _ _ V,BE.bI _ _ X,BE.bI _ _ W]
 |.cell r i j,x,h=>by
  cases x<;>simp[BE.gh] at h;obtain⟨⟨V,X⟩,rfl⟩:=h;rw[RE.bI _ _ V,IE.bI _ _ X]
 |.seq a b,x,h=>by
  cases x<;>simp[BE.gh] at h;rw[RE.bI _ _ h.1,RE.bI _ _ h.2]
 |.look r n a b c j,x,h=>by
  cases x<;>simp[BE.gh] at h;obtain⟨⟨⟨⟨⟨V,rfl⟩,X⟩,W⟩,R⟩,rfl⟩:=h;rw[RE.bI _ _ V,IE.bI _ _ X,IE.bI _ _ W,IE.bI _ _ R]
 |.has r n a b c,x,h=>by
  cases x<;>simp[BE.gh] at h;obtain⟨⟨⟨⟨V,rfl⟩,X⟩,W⟩,R⟩:=h;rw[RE.bI _ _ V,IE.bI _ _ X,IE.bI _ _ W,IE.bI _ _ R]
def RE.bI:∀(a b:RE),RE.same a b=J->a=b
 |.v a,b,h=>by cases b<;>simp[RE.gh] at h;rw[h]
 |.cell r i j k,x,h=>by
  cases x<;>simp[RE.gh] at h;obtain⟨⟨⟨X,W⟩,rfl⟩,rfl⟩:=h;rw[RE.bI _ _ X,IE.bI _ _ W]
 |.k a,b,h=>by cases b<;>simp[RE.gh] at h;rw[aiZ _ _ h]
end
mutual
def SV.bI:∀(a b:SV),SV.same a b=J->a=b
 |.int k e,x,h=>by cases x<;>simp[SV.gh] at h;rw[h.1,IE.bI _ _ h.2]
 |.bool b,x,h=>by cases x<;>simp[SV.gh] at h;rw[BE.bI _ _ h]
 |.ref r,x,h=>by cases x<;>simp[SV.gh] at h;rw[RE.bI _ _ h]
 |.loc i o,x,h=>by cases x<;>simp[SV.gh] at h;rw[h.1,h.2]
 |.el r w i o,x,h=>by
  cases x<;>simp[SV.gh] at h;obtain⟨⟨⟨X,rfl⟩,W⟩,rfl⟩:=h;rw[RE.bI _ _ X,IE.bI _ _ W]
 |.gY a b c d,x,h=>by
  cases x<;>simp[SV.gh] at h;obtain⟨⟨⟨rfl,rfl⟩,rfl⟩,rfl⟩:=h;rfl
 |.agg l,x,h=>by cases x<;>simp[SV.gh] at h;rw[SV.rn _ _ h]
 |.bH l,x,h=>by cases x<;>simp[SV.gh] at h;rw[SV.rn _ _ h]
 |.fn f l,x,h=>by cases x<;>simp[SV.gh] at h;rw[h.1,SV.rn _ _ h.2]
 |.fh t y,x,h=>by cases x<;>simp[SV.gh] at h;rw[h.1,SV.bI _ _ h.2]
 |.yl n,x,h=>by cases x<;>simp[SV.gh] at h;rw[h]
 |.any,x,h=>by cases x<;>simp[SV.gh] at h;rfl
 |.mp i,x,h=>by cases x<;>simp[SV.gh] at h;rw[h]
 |.eR e V R,x,h=>by cases x<;>simp[SV.gh] at h;rw[IE.bI _ _ h.1.1,h.1.2,SV.rn _ _ h.2]
def SV.rn:∀(a b:ah),SV.o8 a b=J->a=b
 |[],b,h=>by cases b<;>simp[SV.aiH] at h;rfl
 |x::X,b,h=>by cases b<;>simp[SV.aiH] at h;rw[SV.bI _ _ h.1,SV.rn _ _ h.2]
end
structure gT(O O':aa)(ni nb nr:Nat):Prop where
 i:∀k,k<ni->O'.i.getD k 0=O.i.getD k 0
 b:∀k,k<nb->O'.b.getD k E=O.b.getD k E
 r:∀k,k<nr->O'.rv k=O.rv k
 y:O'.y=O.y
mutual
def IE.dg{O W:aa}{V R Q:Nat}(X:gT O W V R Q):∀(e:IE),e.bd V R Q=J->e.den W=e.den O
 |.c n,_=>by simp[IE.den]
 |.v k,h=>by simp[IE.aS] at h;simp only[IE.den];exact X.i k h
 |.bin o k a b,h=>by simp[IE.aS] at h;simp only[IE.den,IE.dg X a h.1,IE.dg X b h.2]
 |.conv k a,h=>by simp[IE.aS] at h;simp only[IE.den,IE.dg X a h]
 |.len r,h=>by simp[IE.aS] at h;simp only[IE.den,RE.pU X r h]
 |.mm m a b,h=>by simp[IE.aS] at h;simp only[IE.den,IE.dg X a h.1,IE.dg X b h.2]
 |.cF b x y,h=>by simp[IE.aS] at h;simp only[IE.den,BE.dg X b h.1.1,IE.dg X x h.1.2,IE.dg X y h.2]
 |.cell r i j,h=>by simp[IE.aS] at h;simp only[IE.den,IE.dg X i h.2,RE.pU X r h.1]
 |.lT r i,h=>by simp[IE.aS] at h;simp only[IE.den,RE.pU X r h.1,IE.dg X i h.2]
 |.look r n a b c j,h=>by simp[IE.aS] at h;simp only[IE.den,RE.pU X r h.1.1.1,IE.dg X a h.1.1.2,IE.dg X b h.1.2,IE.dg X c h.2]
def BE.dg{O W:aa}{V R Q:Nat}(X:gT O W V R Q):∀(e:BE),e.bd V R Q=J->e.den W=e.den O
 |.c n,_=>by simp[BE.den]
 |.v k,h=>by simp[BE.aS] at h;simp only[BE.den];exact X.b k h
 |.cmp o a b,h=>by simp[BE.aS] at h;simp only[BE.den,IE.dg X a h.1,IE.dg X b h.2]
 |.not a,h=>by simp[BE.aS] at h;simp only[BE.den,BE.dg X a h]
 |.and a b,h=>by simp[BE.aS] at h;simp only[BE.den,BE.dg X a h.1,BE.dg X b h.2]
 |.beq a b,h=>by simp[BE.aS] at h;simp only[BE.den,BE.dg X a h.1,BE.dg X b h.2]
 |.cF b x y,h=>by simp[BE.aS] at h;simp only[BE.den,BE.dg X b h.1.1,BE.dg X x h.1.2,BE.dg X y h.2]
 |.cell r i j,h=>by simp[BE.aS] at h;simp only[BE.den,IE.dg X i h.2,RE.pU X r h.1]
 |.seq a b,h=>by simp[BE.aS] at h;simp only[BE.den,RE.pU X a h.1,RE.pU X b h.2]
 |.look r n a b c j,h=>by simp[BE.aS] at h;simp only[BE.den,RE.pU X r h.1.1.1,IE.dg X a h.1.1.2,IE.dg X b h.1.2,IE.dg X c h.2]
 |.has r n a b c,h=>by simp[BE.aS] at h;simp only[BE.den,RE.pU X r h.1.1.1,IE.dg X a h.1.1.2,IE.dg X b h.1.2,IE.dg X c h.2]
def RE.pU{O W:aa}{V R Q:Nat}(X:gT O W V R Q):∀(e:RE),e.bd V R Q=J->e.rv W=e.rv O
 |.v k,h=>by simp[RE.aS] at h;simp only[RE.rv,X.r k h]
 |.cell r i j k,h=>by simp[RE.aS] at h;simp only[RE.rv,IE.dg X i h.2,RE.pU X r h.1]
 |.k v,_=>by simp[RE.rv]
end
def RE.dg{O X:aa}{W V R:Nat}(Q:gT O X W V R)(e:RE)(h:e.bd W V R=J):e.den X=e.den O:=by simp only[RE.den,RE.pU Q e h]
mutual
def SV.dg{O R:aa}{V Q:ai}{P N M:Nat}{L:Nat->Bool}(X:gT O R P N M)(W:∀k,L k=J->ad Q k=ad V k):∀(v:SV),v.bd P N M L=J->v.den R Q=v.den O V
 |.int k e,h=>by simp[SV.aS] at h;simp only[SV.den,IE.dg X e h]
 |.bool e,h=>by simp[SV.aS] at h;simp only[SV.den,BE.dg X e h]
 |.ref e,h=>by simp[SV.aS] at h;simp only[SV.den,RE.dg X e h]
 |.loc i o,h=>by simp[SV.aS] at h;simp only[SV.den,W i h]
 |.el r w i o,h=>by simp[SV.aS] at h;simp only[SV.den,RE.dg X r h.1,IE.dg X i h.2]
 |.gY i o l c,h=>by simp[SV.aS] at h;simp only[SV.den,W i h]
 |.agg l,h=>by simp[SV.aS] at h;simp only[SV.den,SV.I6 X W l h]
 |.bH l,h=>by simp[SV.aS] at h;simp only[SV.den,SV.I6 X W l h]
 |.fn f l,h=>by simp[SV.aS] at h;simp only[SV.den,SV.I6 X W l h]
 |.fh t x,h=>by simp[SV.aS] at h;simp only[SV.den,SV.dg X W x h]
 |.yl n,_=>by simp only[SV.den,X.y]
 |.any,_=>by simp[SV.den]
 |.mp i,h=>by simp[SV.aS] at h;simp only[SV.den,W i h]
 |.eR e G H,h=>by simp[SV.aS] at h;simp only[SV.den,IE.dg X e h.1,SV.I6 X W H h.2]
def SV.I6{O X:aa}{V W:ai}{R Q P:Nat}{N:Nat->Bool}(M:gT O X R Q P)(L:∀k,N k=J->ad W k=ad V k):∀(l:ah),SV.da R Q P N l=J->SV.aA X W l=SV.aA O V l
 |[],_=>rfl
 |x::H,h=>by simp[SV.gI] at h;simp only[SV.aA,SV.dg M L x h.1,SV.I6 M L H h.2]
end
def ux{W V R:Nat}{Q:Nat->Bool}:∀{l:ah}{i:Nat}{v:SV},SV.da W V R Q l=J->l[i]?=U v->v.bd W V R Q=J
 |[],i,v,_,h=>by simp at h
 |x::P,0,v,X,h=>by simp[SV.gI] at X;simp at h;exact h▸X.1
 |x::P,i+1,v,X,h=>by simp[SV.gI] at X;simp at h;exact ux X.2 h
def i8{b:TypeId×ah}:bU x R=U b<->x[R]?=U (U b):=by
 simp only[cw];cases h:x[R]? with
 |none=>simp
 |some X=>cases X<;>simp
def rp{V R Q:Nat}{P:Nat->Bool}:∀{l:bw}{i:Nat}{v:TypeId×ah},SV.o9 V R Q P l=J->bU l i=U v->SV.da V R Q P v.2=J
 |[],i,v,_,h=>by simp[cw] at h
 |U x::W,0,v,X,h=>by simp[SV.o9] at X;simp[cw] at h;exact h▸X.1
 |Z::W,0,v,X,h=>by simp[cw] at h
 |U x::W,i+1,v,X,h=>by simp[SV.o9] at X;exact rp X.2 (by simpa[cw] using h)
 |Z::W,i+1,v,X,h=>by simp[SV.o9] at X;exact rp X (by simpa[cw] using h)
def gT.refl(O:aa)(X W V:Nat):gT O O X W V:=⟨λ_ _=>rfl,λ_ _=>rfl,λ_ _=>rfl,rfl⟩
def gT.trans{a b c:aa}{W V R:Nat}(h:gT a b W V R)(k:gT b c W V R):gT a c W V R:=
 ⟨λj X=>(k.i j X).trans (h.i j X),λj X=>(k.b j X).trans (h.b j X),λj X=>(k.r j X).trans (h.r j X),k.y.trans h.y⟩
def gT.mono{a b:aa}{X W V R Q P:Nat}(h:gT a b X W V)(N:R<=X)(M:Q<=W)(L:P<=V):gT a b R Q P:=
 ⟨λj O=>h.i j (by omega),λj O=>h.b j (by omega),λj O=>h.r j (by omega),h.y⟩
def Sk(O:aa)(x:XV):gT O (O.add x) (Y O.i) (Y O.b) (Y O.r):=by
 cases x<;>refine⟨λk X=> ?_,λk X=> ?_,λk X=> ?_,rfl⟩<;>simp[aa.add,aa.rv,aIB,X]
def Dp:∀(X:aV)(O:aa),gT O (O.ext X) (Y O.i) (Y O.b) (Y O.r)
 |[],O=>gT.refl _ _ _ _
 |x::X,O=>by
  have W:=Sk O x;have V:=Dp X (O.add x);exact W.trans (V.mono (by cases x<;>simp[aa.add]) (by cases x<;>simp[aa.add]) (by cases x<;>simp[aa.add]))
mutual
def Sm{O:aa}{V X:ai}(h:ad X=ad V):∀(v:SV),v.den O X=v.den O V
 |.int k e=>by simp only[SV.den]
 |.bool e=>by simp only[SV.den]
 |.ref e=>by simp only[SV.den]
 |.loc i o=>by simp only[SV.den,h]
 |.el r w i o=>by simp only[SV.den]
 |.gY i o l c=>by simp only[SV.den,h]
 |.agg l=>by simp only[SV.den,Ni h l]
 |.bH l=>by simp only[SV.den,Ni h l]
 |.fn f l=>by simp only[SV.den,Ni h l]
 |.fh t x=>by simp only[SV.den,Sm h x]
 |.yl n=>by simp only[SV.den]
 |.any=>by simp only[SV.den]
 |.mp i=>by simp only[SV.den,h]
 |.eR e R W=>by simp only[SV.den,Ni h W]
def Ni{O:aa}{V X:ai}(h:ad X=ad V):∀(l:ah),SV.aA O X l=SV.aA O V l
 |[]=>rfl
 |x::W=>by simp only[SV.aA,Sm h x,Ni h W]
end
def avW(O:aa)(V:ai)(v:SV):(v.gr O V).val=v.den O V:=by
 cases v<;>simp[SV.gr,SV.den,RE.den]
def ai0(O:aa)(V:ai)(l:ah):(SV.cL O V l).map RV.val=SV.aA O V l:=by
 rw[nQ,SV.cL,aJo];exact aIY λv _=>avW O V v
def rq(h:oY X=E)(O:aa)(V:ai)(l:ah):kA X (SV.cL O V l)=.cells (SV.aA O V l).toArray X (0,0):=by
 have W:=of_decide_eq_false h;unfold kA;rw[if_neg (λe=>W (by rw[e];exact aIG _)),if_neg (λe=>W (by rw[e];decide)),if_neg (λe=>W (by rw[e];decide)),ai0]
def xP(h:ky x R=U (X,w)):bU x R=U (X,w)/\oY X=false:=by
 unfold ky at h;split at h;rename_i Q P W;split at h;cases h;rename_i V;cases h;exact⟨W,by simpa using V⟩;cases h
def Nj{X:bw}(h:bU X N=bU x R):ky X N=ky x R:=by simp[ky,h]
def Z3{O X:aa}{V W:ai}{R Q P:Nat}{N:Nat->Bool}(M:gT O X R Q P)(L:∀k,N k=J->ad W k=ad V k)(v:SV)(h:v.bd R Q P N=J):v.gr X W=v.gr O V:=by
 have H:=SV.dg M L v h;cases v<;>simp only[SV.gr]<;>try rw[H]
 simp only[SV.aS] at h;exact RE.pU M _ h
def Nk{O X:aa}{V W:ai}{R Q P:Nat}{N:Nat->Bool}(M:gT O X R Q P)(L:∀k,N k=J->ad W k=ad V k):∀(l:ah),SV.da R Q P N l=J->SV.cL X W l=SV.cL O V l
 |[],_=>rfl
 |x::H,h=>by
  simp only[SV.gI,aIy] at h;have:=Nk M L H h.2;simp only[SV.cL,aIP] at this⊢;rw[Z3 M L x h.1,this]
def ai1{X:ai}(h:ad X=ad y)(l:ah):SV.cL k X l=SV.cL k y l:=by
 refine aIY λv _=> ?_
 have W:=Sm (O:=k) h v;cases v<;>simp only[SV.gr]<;>rw[W]
def Z4(x:Int):∀(X:bi)(W:fe),io (jA x X W)=J
 |[],_=>by simp[jA,io]
 |_::_,[]=>by simp[jA,io]
 |k::X,v::W=>by
  simp only[jA];split;split;rename_i h;exact h;rfl;exact Z4 x X W
def avX(h:io c=J):c.cells.toList=[c]:=by
 cases c<;>simp[io] at h<;>rfl
variable{v:TI}{M:SV}
def ph(c:CT):Value:=match c with
 |.int k=>.int k 0
 |.bool=>.bool E
 |.aI z _=>z
def TD.Ok(P:Program)(t:TypeId)(ae:dS):TD->Prop
 |.struct X=>∃F:Array Field,P.underlying t=U (.struct F)/\F.toList.map (λf=>(f.offset,f.type))=X
 |.arr n e=>P.underlying t=U (.array n e)
 |.slice e=>P.underlying t=U (.slice e)
 |.str=>P.underlying t=U .string
 |.one=>∃d,P.underlying t=U d/\((match d with|.struct _|.array _ _|.slice _|.string|.interface _=>False|_=>True)/\∀k,ae=[.aI .nilFunc k]->∃a b c,d=.func a b c)/\(∀k,ae=[.int k]->d=.int k)/\(ae=[.bool]->d=.bool)
 |.fh=>∃m,P.underlying t=U (.interface m)
 |.map k e _ _=>P.underlying t=U (.map k e)
def BF:Value->Value->Option Bool
 |.int k a,.int X b=>if k=X then U (a==b) else Z
 |.bool a,.bool b=>U (a==b)
 |.string a,.string b=>U (a.toList==b.toList)
 |_,_=>Z
def BG:CT->Value->Prop
 |.int k,.int X _=>k=X
 |.bool,.bool _=>True
 |.aI _ .str,.string _=>True
 |_,_=>False
def jS:dS->fe->Prop
 |[],[]=>True
 |c::X,v::R=>BG c v/\jS X R
 |_,_=>False
def i9:fe->fe->Option Bool
 |[],[]=>U J
 |x::X,y::R=>match BF x y,i9 X R with
  |U a,U b=>U (a&&b)
  |_,_=>Z
 |_,_=>Z
def fW(X:Bool)(l:bi):Value:=if X then .agg (l.map (Value.int I)).toArray else .int I (l.headD 0)
def wa:Value->bi
 |.int _ x=>[x]
 |.agg X=>X.toList.map bB
 |_=>[]
def mD(l:bi):List MapEntry->Nat->Option (Nat×Value)
 |[],_=>Z
 |e::X,i=>if wa e.key=l then U (i,e.val) else mD l X (i+1)
def s5(P:Program)(k:TypeId)(n:Nat)(X:Bool):Prop:=(X=E->n=1)/\∀(l:bi)(R:List MapEntry)(W:World),Y l=n->(∀e∈R,∃Q:bi,Y Q=n/\e.key=fW X Q)->
 (∀b,(Instr.checkKey b 10000 k (fW X l)).run P W=.ok () W)/\(Instr.findKey k (fW X l) R).run P W=.ok (mD l R 0) W
def Sn:Value->Bool
 |.agg _=>J
 |_=>E
structure dV(P:Program)(t:TypeId)(ti:TI):Prop where
 I7:∃i,P.info? t=U i/\i.size=Y ti.ae/\∃z,i.zero=U z/\z.cells.toList=ti.ae.map ph
 desc:ti.d.Ok P t ti.ae
 bytes:∀i,P.info? t=U i->i.bytes<=131072
 eq:ti.eq=J->∀(xs ys:fe)(r:Bool)(x y:Operand)(w:World),jS ti.ae xs->jS ti.ae ys->i9 xs ys=U r->
  (do eqGuard .eql t x y (.agg xs.toArray) (.agg ys.toArray);binOp .eql t (.agg xs.toArray) (.agg ys.toArray)).run P w=.ok (.bool r) w/\
  (do eqGuard .neq t x y (.agg xs.toArray) (.agg ys.toArray);binOp .neq t (.agg xs.toArray) (.agg ys.toArray)).run P w=.ok (.bool !r) w
 key:∀k e n ag,ti.d=.map k e n ag->s5 P k n ag
 ai2:∀i z,P.info? t=U i->i.zero=U z->Sn z=ti.d.isAgg
def iu(P:Program)(o:Ty):Prop:=∀t X,o t=U X->dV P t X
def ek(gl:lu)(O:aa):Prop:=∀x∈gl,x.2.1<Y O.r/\∃X R,(O.rv x.2.1).val=.slice (U ⟨x.1,0,Z⟩) X R
section
variable{P:Program}{o:Ty}{gl:lu}{W:World}
def dV.gt{d:TypeDesc}(h:P.underlying X=U d):(underlying X).run P W=.ok d W:=by simp[underlying,h]
def dV.ma(h:dV P X v):(Go.sizeOf X).run P W=.ok (Y v.ae) W:=by
 obtain⟨i,R,Q,_⟩:=h.I7;simp[Go.sizeOf,typeInfo,R,Q]
def dV.ai3(h:dV P X v):(isAgg X).run P W=.ok v.d.isAgg W:=by
 have Q:=h.desc;revert Q;cases v.d<;>simp only[TD.Ok,TD.isAgg];rintro⟨d,R,⟨N,-⟩,-,-⟩;cases d<;>simp[isAgg,underlying,R]<;>simp at N;rintro⟨m,R⟩;simp[isAgg,underlying,R];intro R;simp[isAgg,underlying,R];intro R;simp[isAgg,underlying,R];intro R;simp[isAgg,underlying,R];rintro⟨F,R,-⟩;simp[isAgg,underlying,R];intro R;simp[isAgg,underlying,R]
def wb(b X n:Nat):(⟨b,X,Z⟩:Addr).add n=⟨b,X+n,Z⟩:=by
 unfold Addr.add;split;rename_i h;subst h;rfl;rfl
def Z5(h:dV P X v)(Q:vO v w R=U M):
  (part X (SV.aA k y w).toArray R).run P W=.ok (M.den k y) W:=by
 unfold vO at Q;simp only[part,Sem.run_bind,h.ai3,Result.andThen_ok];by_cases N:v.d.isAgg=J;simp only[N,if_true] at Q⊢;split at Q;rename_i H;cases Q;simp only[SV.den,vN,Sem.run_bind,h.ma,Result.andThen_ok,Sem.run_pure];congr 2;apply aJu;simp only[nQ,List.map_take,List.map_drop,Array.toList_extract,List.extract_eq_take_drop];simp;cases Q;have L:v.d.isAgg=false:=by simpa using N
 simp only[L,aIU,if_false] at Q⊢;have:(SV.aA k y w).toArray[R]?=U (M.den k y):=by simp[rk,Q]
 rw[this];rfl
def Sq(h:dV P X v){O:aa}{V:ai}{b base:Nat}(Q:vO v w R=U M)
  (H:∀j x,w[j]?=U x->W.cell? ⟨b,base+j,Z⟩=U (x.den O V)):
  (Instr.loadAt X (.pointer (U ⟨b,base+R,Z⟩))).run P W=.ok (M.den O V) W:=by
 unfold vO at Q;simp only[Instr.loadAt,Instr.sureAddr,loadVar,Sem.run_bind,Sem.run_pure,Result.andThen_ok,h.ai3];by_cases G:v.d.isAgg=J;simp only[G,if_true] at Q⊢;split at Q;rename_i B;cases Q;simp only[Sem.run_bind,h.ma,Result.andThen_ok,SV.den];have F:(SV.aA O V (vN w R (Y v.ae))).length=Y v.ae:=by simp[vN];omega
 have:=run_loadCells_list (P:=P) W ⟨b,base+R,Z⟩ (SV.aA O V (vN w R (Y v.ae))) (λj M N=>by
  rw[rk] at N;cases L:(vN w R (Y v.ae))[j]? with
  |none=>rw[L] at N;cases N
  |some x=>
   rw[L] at N;simp at N;simp only[vN,aI6,aJi] at L;split at L;rw[wb,<-N,aKi];exact H _ _ L;cases L)
 rw[F] at this;rw[this];simp;cases Q;have C:v.d.isAgg=false:=by simpa using G
 simp only[C,aIU,if_false] at Q⊢;have:=H R M Q;simp[this]
end
section
variable{p:ai}{q:World}{D:bQ}{P:Program}{o:Ty}{gl:lu}{V:ai}{O:aa}{s:S}{a:Act}{W:World}
def avY(v:Value):(Iw v).den O V=v:=by unfold Iw;split<;>simp[SV.den,IE.den,BE.den,RE.den,RE.rv]
def avZ(v:Value):(MO v).den O V=v:=by
 unfold MO;split;simp[SV.den,IE.den];simp[SV.den,BE.den];rename_i X;simp only[SV.den,nQ,aJo];congr 1;have:(SV.den O V∘Iw)=id:=by funext v;simp[avY]
 rw[this];simp;simp[SV.den,RE.den,RE.rv]
def cu(R:av p q D o V O s a W)(L:ek gl O)(x:Operand)(h:(s.ev gl x).dP=E):a.eval x=(s.ev gl x).den O V:=by
 cases x with
 |tmp t=>
  simp only[S.ev,vM,aIC] at h⊢;cases X:s.tmps[t]? with
  |none=>rw[X] at h;simp[SV.dP] at h
  |some H=>
   rw[X] at h;simp only[aJd] at h⊢;rcases R.tmps t H X with rfl|Q;simp[SV.dP] at h;simp[Act.eval,Q]
 |const v=>simp only[S.ev,Act.eval,avZ]
 |global g=>
  simp only[S.ev] at h⊢;split at h;rename_i k w N;obtain⟨Q,F,C,G⟩:=L _ (aKc N);have M:=aKW N;simp only[beq_iff_eq] at M;simp only[SV.den,RE.den,RE.rv,Act.eval,mA,G,IE.den,M];simp;simp[SV.dP] at h
 |func f=>simp[S.ev,Act.eval,SV.den,SV.aA]
def Nl(X:BinOp)(k:IntKind)(x y:IE):(FB X k x y).den O=au X k (x.den O) (y.den O):=by unfold FB;split<;>simp[IE.den]
def BH(X:BinOp)(x y:IE):(oq X x y).den O=gg X (x.den O) (y.den O):=by unfold oq;split<;>simp[IE.den,BE.den]
def Nn(x:BE):(De x).den O= !(x.den O):=by unfold De;split<;>simp[BE.den]
def Z6(x y:BE):(uo x y).den O=(x.den O&&y.den O):=by unfold uo;split<;>simp[BE.den]
def Z7(x y:BE):(MP x y).den O=(x.den O==y.den O):=by unfold MP;split<;>simp[BE.den,Nn]<;>cases BE.den O _<;>simp
def av0(m:Bool)(x y:IE):(RA m x y).den O=if m then max (x.den O) (y.den O) else min (x.den O) (y.den O):=by unfold RA;split<;>simp[IE.den]
def I8(i n:IE):(uq i n).den O=J<->0<=i.den O/\i.den O<n.den O:=by
 rw[uq,Z6,BH,BH,aIy];exact and_congr decide_eq_true_iff decide_eq_true_iff
def Z8(X:Bool)(k:IntKind):∀(l:ah)(e r:IE),FC X k e l=U r->
  ((SV.aA O V l).foldlM (if X then Builtin.max2 else Builtin.min2) (.int k (e.den O)):Sem Value).run P W=.ok (.int k (r.den O)) W
 |[],e,r,h=>by simp[FC] at h;subst h;simp[SV.aA]
 |.int Q x::l,e,r,h=>by
  simp only[FC] at h;split at h;have R:=Z8 X k l (RA X e x) r h;rw[av0] at R;simp only[SV.aA,SV.den,List.foldlM_cons,Sem.run_bind];cases X;simp only[aIU,if_false] at R⊢;simp only[Builtin.min2,Sem.run_pure,Result.andThen_ok];rw[show(if x.den O<e.den O then x.den O else e.den O)=min (e.den O) (x.den O) by omega];exact R;simp only[if_true] at R⊢;simp only[Builtin.max2,Sem.run_pure,Result.andThen_ok];rw[show(if x.den O>e.den O then x.den O else e.den O)=max (e.den O) (x.den O) by omega];exact R;cases h
 |.bool _::_,_,_,h|.ref _::_,_,_,h|.loc _ _::_,_,_,h|.el _ _ _ _::_,_,_,h|.gY _ _ _ _::_,_,_,h|.agg _::_,_,_,h|.bH _::_,_,_,h|.fn _ _::_,_,_,h|.fh _ _::_,_,_,h|.any::_,_,_,h=>by simp[FC] at h
end
section
variable{V:ai}{O:aa}
def Sr{R Q:Type}{x:Int}{f:R->Q}:∀{W:bi}{X:List R},dL x W (X.map f)=(dL x W X).map f
 |[],X=>by simp[dL]
 |_::_,[]=>by simp[dL]
 |k::W,v::X=>by
  simp only[aIP,dL];split;rfl;exact Sr
def I9{W:Type}{x:Int}:∀{R:bi}{X:List W}{v:W},dL x R X=U v->v∈X
 |[],X,v,h=>by simp[dL] at h
 |_::_,[],v,h=>by simp[dL] at h
 |k::R,u::X,v,h=>by
  simp only[dL] at h;split at h;cases h;simp;exact aJF _ (I9 h)
def Z9{e:IE}:∀{R:bi}{Q:ah}{y:IE},zo e R Q=U y->∃w,y.den O=w/\(∀v,dL (e.den O) R Q=U v->∃k z,v=.int k z/\w=z.den O)/\(dL (e.den O) R Q=Z->w=0)
 |[],[],y,h=>by simp[zo] at h;subst h;exact⟨0,rfl,λv h=>by simp[dL] at h,λ_=>rfl⟩
 |k::R,v::Q,y,h=>by
  cases v<;>simp only[zo] at h<;>try cases h
  rename_i N x;cases P:zo e R Q with
  |none=>rw[P] at h;cases h
  |some G=>
   rw[P] at h;simp only[aII,aID] at h;subst h;obtain⟨w,M,L,H⟩:=Z9 P;simp only[IE.den,BE.den,gg,dL];by_cases W:e.den O=k;refine⟨x.den O,by simp[W],λv X=> ?_,λX=> ?_⟩;rw[if_pos W] at X;cases X;exact⟨N,x,rfl,rfl⟩;rw[if_pos W] at X;cases X;refine⟨w,by simp[W,M],λv X=> ?_,λX=> ?_⟩;rw[if_neg W] at X;exact L v X;rw[if_neg W] at X;exact H X
 |[],_::_,y,h=>by simp[zo] at h
 |_::_,[],y,h=>by simp[zo] at h
def ai4{e:IE}:∀{R:bi}{Q:ah}{y:BE},Bj e R Q=U y->∃w,y.den O=w/\(∀v,dL (e.den O) R Q=U v->∃z,v=.bool z/\w=z.den O)/\(dL (e.den O) R Q=Z->w=E)
 |[],[],y,h=>by simp[Bj] at h;subst h;exact⟨E,rfl,λv h=>by simp[dL] at h,λ_=>rfl⟩
 |k::R,v::Q,y,h=>by
  cases v<;>simp only[Bj] at h<;>try cases h
  rename_i x;cases P:Bj e R Q with
  |none=>rw[P] at h;cases h
  |some H=>
   rw[P] at h;simp only[aII,aID] at h;subst h;obtain⟨w,N,M,L⟩:=ai4 P;simp only[BE.den,IE.den,gg,dL];by_cases W:e.den O=k;refine⟨x.den O,by simp[W],λv X=> ?_,λX=> ?_⟩;rw[if_pos W] at X;cases X;exact⟨x,rfl,rfl⟩;rw[if_pos W] at X;cases X;refine⟨w,by simp[W,N],λv X=> ?_,λX=> ?_⟩;rw[if_neg W] at X;exact M v X;rw[if_neg W] at X;exact L X
 |[],_::_,y,h=>by simp[Bj] at h
 |_::_,[],y,h=>by simp[Bj] at h
def ai5{x:Int}:∀{ks:bi}{X:ah},X.all Iz=J->(∀v,dL x ks X=U v->jA x ks (SV.aA O V X)=v.den O V)/\(dL x ks X=Z->jA x ks (SV.aA O V X)=.nilFunc)
 |[],X,_=>⟨λv h=>by simp[dL] at h,λ_=>by simp[jA]⟩
 |_::_,[],_=>⟨λv h=>by simp[dL] at h,λ_=>by simp[jA,SV.aA]⟩
 |k::ks,u::X,W=>by
  simp only[aKv,aIy] at W;obtain⟨P,N⟩:=ai5 (ks:=ks) W.2;simp only[dL,SV.aA,jA];by_cases Q:x=k;simp only[Q,if_true];refine⟨λv R=> ?_,λR=>by cases R⟩;cases R;have M:io (u.den O V)=true:=by
   have:=W.1;unfold Iz at this;split at this;rfl;rfl;cases this
  rw[if_pos M];simp only[Q,if_false];exact⟨P,N⟩
def av1{e:IE}{Q:bi}{H:CT}(h:Zy e Q w H=U M):(∀v,dL (e.den O) Q w=U v->M.den O V=v.den O V)/\(dL (e.den O) Q w=Z->M.den O V=ph H):=by
 unfold Zy at h;split at h;rename_i k;split at h;rename_i N;cases W:zo e Q w with
 |none=>rw[W] at h;cases h
 |some y=>
  rw[W] at h;simp only[aII,aID] at h;subst h;obtain⟨x,R,P,L⟩:=Z9 (O:=O) W;refine⟨λv X=> ?_,λX=>by simp only[SV.den,R,L X,ph]⟩;obtain⟨G,z,rfl,rfl⟩:=P v X;have:=aIN.1 N _ (I9 X);simp at this;subst this;simp only[SV.den,R]
 cases h;cases W:Bj e Q w with
 |none=>rw[W] at h;cases h
 |some y=>
  rw[W] at h;simp only[aII,aID] at h;subst h;obtain⟨x,R,P,L⟩:=ai4 (O:=O) W;refine⟨λv X=> ?_,λX=>by simp only[SV.den,R,L X,ph]⟩;obtain⟨z,rfl,rfl⟩:=P v X;simp only[SV.den,R]
 split at h;rename_i N;simp only[aIy] at N;cases h;obtain⟨R,P⟩:=ai5 (O:=O) (V:=V) (x:=e.den O) (ks:=Q) N.1;exact⟨λv X=>by simp only[SV.den];exact R v X,λX=>by simp only[SV.den,ph];exact P X⟩;cases h;cases h
def Ss{e:IE}{Q:bi}{P:vK}:∀{ae:dS}{j:Nat}{l:ah},Bl e Q P j ae=U l->
  Y l=Y ae/\(∀X,dL (e.den O) Q P=U X->Y X=j+Y ae->SV.aA O V l=SV.aA O V (X.drop j))/\(dL (e.den O) Q P=Z->SV.aA O V l=ae.map ph)
 |[],j,l,h=>by
  simp[Bl] at h;subst h;exact⟨rfl,λX _ R=>by rw[aK6 (by simp at R;omega)],λ_=>rfl⟩
 |c::ae,j,l,h=>by
  simp only[Bl] at h;split at h;rename_i v r H G;cases h;obtain⟨F,D,C⟩:=Ss G;obtain⟨N,M⟩:=av1 (O:=O) (V:=V) H;rw[Sr] at N M;refine⟨by simp[F],λX W R=> ?_,λW=> ?_⟩;have L:j<Y X:=by simp at R;omega
  rw[aJw L];simp only[SV.aA];rw[D X W (by simp at R⊢;omega),N _ (by rw[W];rfl)];simp[aIC,L];simp only[SV.aA,aIP];rw[C W,M (by rw[W];rfl)];cases h
def St{e:IE}:∀{X:bi}{W:Type}{R:List W},Y X=Y R->(FF e X).den O=(dL (e.den O) X R).isSome
 |[],W,R,h=>by simp[FF,BE.den,dL]
 |k::X,W,[],h=>by simp at h
 |k::X,W,v::R,h=>by
  simp only[FF,BE.den,IE.den,gg,dL];by_cases Q:e.den O=k;simp[Q];simp only[Q,if_false,beq_iff_eq];exact St (by simpa using h)
def Su(W:∀r:RE,r.Fz=J->io (r.den O)=J)(h:zp v M=J):M.den O V=if v.d.isAgg then .agg (SV.aA O V M.cells).toArray else(SV.aA O V M.cells).headD undef:=by
 simp only[zp,aIy] at h;obtain⟨⟨-,R⟩,X⟩:=h;cases M<;>simp only[aIR] at X<;>rw[X]<;>rfl
def BJ(h:t=E->Y w=1):(qV t w).den O V=if t then .agg (SV.aA O V w).toArray else(SV.aA O V w).headD undef:=by
 cases t;obtain⟨x,rfl⟩:=aI2.1 (h rfl);rfl;rfl
def Sv{x:Int}:∀{W:bi}{X:ah}{v:SV},dL x W X=U v->io (v.den O V)=J->jA x W (SV.aA O V X)=v.den O V
 |[],X,v,h,_=>by simp[dL] at h
 |_::_,[],v,h,_=>by simp[dL] at h
 |k::W,u::X,v,h,Q=>by
  simp only[dL] at h;simp only[SV.aA,jA];split at h;rename_i R;cases h;rw[if_pos R,if_pos Q];rename_i R;rw[if_neg R];exact Sv h Q
def av2(h:zp v M=J):(v.d.isAgg=E->Y v.ae=1)/\Y M.cells=Y v.ae:=by
 simp only[zp,aIy,beq_iff_eq] at h;obtain⟨⟨X,Q⟩,W⟩:=h;refine⟨λR=> ?_,X⟩;cases M<;>simp only[SV.cells,aKL] at X<;>first|exact X.symm|(rw[R] at W;cases W)
def ai6(N:∀r:RE,r.Fz=J->io (r.den O)=J){e:IE}{X:bi}{p:SV}(h:RF v e X w=U M)(R:dL (e.den O) X w=U p):M.den O V=p.den O V:=by
 unfold RF at h;split at h;rename_i L;cases W:Bl e X (w.map SV.cells) 0 v.ae with
 |none=>rw[W] at h;cases h
 |some l=>
  rw[W] at h;cases h;obtain⟨H,G,-⟩:=Ss (O:=O) (V:=V) W;have F:=I9 R;have Q:=aIN.1 L p F;obtain⟨D,C⟩:=av2 Q;have P:=G p.cells (by rw[Sr,R];rfl) (by rw[C,aI8]);rw[aLR] at P;rw[BJ (λB=>by rw[H];exact D B),Su N Q,P]
 cases h
def ai7{X:Type}{x:Int}{f:Nat->X}(L:0<=x)(H:x<(R:Int)):dL x (Bm R) ((aI5 R).map f)=U (f x.toNat):=by
 unfold Bm;have W:∀(m k:Nat),(k:Int)<=x->x<((k+m:Nat):Int)->dL x ((aJV k m).map λi:Nat=>(i:Int)) ((aJV k m).map f)=U (f x.toNat):=by
  intro m;induction m with
  |zero=>intro k Q P;omega
  |succ m N=>
   intro k Q P;simp only[aKP,aIP,dL];split;rename_i M;subst M;simp;exact N (k+1) (by omega) (by omega)
 rw[aKq];exact W R 0 (by omega) (by omega)
def aaa{R L:Type}{f:R->Option L}{x:Int}:∀{Q:bi}{vs:List R}{W:List L}{v:R},Df (vs.map f)=U W->dL x Q vs=U v->∃p,f v=U p/\dL x Q W=U p
 |[],vs,W,v,_,h=>by simp[dL] at h
 |_::_,[],W,v,_,h=>by simp[dL] at h
 |k::Q,u::vs,W,v,X,h=>by
  simp only[aIP] at X;cases P:f u with
  |none=>rw[P] at X;cases X
  |some p=>
   rw[P] at X;simp only[Df] at X;cases N:Df (vs.map f) with
   |none=>rw[N] at X;cases X
   |some H=>
    rw[N] at X;simp only[aII,aID] at X;subst X;simp only[dL] at h⊢;split at h;rename_i M;cases h;rw[if_pos M];exact⟨p,P,rfl⟩;rename_i M;rw[if_neg M];exact aaa N h
def ai8(h:xE w=U R)(W:M∈w):∃X,M=.loc R X:=by
 unfold xE at h;split at h;rename_i j o r;split at h;rename_i Q;cases h;have:=aIN.1 Q M W;split at this;rename_i P X;simp only[beq_iff_eq] at this;subst this;exact⟨X,rfl⟩;cases this;cases h;cases h
end
variable{n:Ty}{z:RK}{L:RV}
def PR.gives(O:aa)(v:SV):PR->Prop
 |.ok x=>v=x
 |.bj b x=>b.den O=J/\v=x
 |_=>False
def ai9(h:bu Q n z L):cz z L=L:=by
 cases h with
 |sl e A M H X=>rfl
 |str s=>rfl
 |aI L R=>simp[cz,R]
 |own e N h G=>cases h;rfl
 |dead N h=>simp[cz,h]
 |mr F X=>rfl
def aja(k:RK):bu Q n k (cz k default):=by
 cases k with
 |sl e=>
  refine bu.sl e Z 0 0 [] rfl (aIG _) ?_ ?_ ?_ ?_<;>(intro i;intros;rename_i h;simp at*)
 |str=>exact bu.str _
 |aI=>exact bu.aI _ rfl
 |own e=>
  refine bu.own e _ (bu.sl e Z 0 0 [] rfl (aIG _) ?_ ?_ ?_ ?_) (λl c h=>by cases h;rfl)<;>(intro i;intros;rename_i h;simp at*)
 |dead=>exact bu.dead _ rfl
 |mr X=>
  refine bu.mr X [] ?_ ?_ ?_ ?_<;>(intro i;intros;rename_i h;simp at*)
def av3(k:RK)(v:RV):io (cz k v).val=true:=by
 cases k;simp only[cz];split;rename_i h;rw[h];rfl;rfl;simp only[cz];split<;>rfl;simp only[cz];split;rename_i h;exact h;rfl;simp only[cz];split;rename_i h;rw[h];rfl;rfl;simp only[cz];split;rename_i h;exact h;rfl;simp only[cz];split;rename_i h;rw[h];rfl;rfl
def Ja(h:bu Q n z L):io L.val=true:=by
 cases h with
 |sl e A M H X=>rfl
 |str s=>rfl
 |aI L R=>exact R
 |own e N h G=>cases h;rfl
 |dead N h=>exact h
 |mr F X=>rfl
def ajb(h:bu Q n z L):bu Q n z.rd L:=by
 cases h with
 |own e w h u=>exact h
 |sl e A G F X R N M H C B=>exact bu.sl e A G F X R N M H C B
 |str s=>exact bu.str s
 |aI L y=>exact bu.aI L y
 |dead _ h=>exact bu.dead _ h
 |mr x X R N M H=>exact bu.mr x X R N M H
def av4(h:bu Q n (.sl X) L)(i:Int)(j:Nat)(k:RK)(N:FD (bq n (.sl X))[j]?=k):bu Q n k (cz k (cellAt L.rows i j)):=by
 cases h with
 |sl X A q p y o m x w u t=>
  simp only[RV.lA,cellAt];cases M:y[i.toNat]? with
  |none=>simp only[aIC,M,aK8,List.getElem?_nil];exact aja k
  |some H=>
   simp only[aIC,M,aJd];cases F:H[j]? with
   |none=>simp only[aK8];exact aja k
   |some c=>
    simp only[aJd];have l:j<(bq n (.sl X)).length:=by
     have:=(x _ H M).1;have:=(aIz.1 F).1;omega
    cases G:(bq n (.sl X))[j]? with
    |none=>rw[aJk] at G;omega
    |some r=>
     rw[G] at N;cases r with
     |int C=>
      simp only[FD] at N;subst N;obtain⟨R,B⟩:=w _ _ H c C M F G;simp only[cz,B,io,if_true];exact bu.aI _ rfl
     |bool=>
      simp only[FD] at N;subst N;obtain⟨R,B⟩:=u _ _ H c M F G;simp only[cz,B,io,if_true];exact bu.aI _ rfl
     |aI z C=>
      simp only[FD] at N;subst N;have:=t _ _ H c z C M F G;rw[ai9 this];exact this
section
variable{g:ai}{m:World}{D:bQ}{P:Program}{ty:Ty}{B:lu}{V:ai}{O:aa}{s:S}{a:Act}{W:World}
def aab(X:av g m D ty V O s a W)(h:s.rs[R]?=U z):bu W ty z (O.rv R):=by
 have Q:R<Y O.r:=by rw[X.er];exact(aIz.1 h).1
 have:=(X.mem.ref R z O.r[R] h (aIA Q)).1;simpa[aa.rv,Q] using this
def pV(R:av g m D ty V O s a W):∀{r:RE}{e:RK},e≠ .aI->r.kind ty s=e->bu W ty e (r.rv O)
 |.v k,e,X,h=>by
  simp only[RE.kind,aIC] at h;cases Q:s.rs[k]? with
  |none=>rw[Q] at h;exact absurd (show e=.aI from h.symm) X
  |some q=>rw[Q] at h;simp at h;subst h;exact ajb (aab R Q)
 |.cell r i j L,e,X,h=>by
  simp only[RE.kind] at h;split at h;rename_i H N;split at h;rename_i M;subst h;exact av4 (pV R (by simp) N) (i.den O) j _ M;exact absurd h.symm X;exact absurd h.symm X
 |.k v,e,X,h=>by
  cases v<;>simp only[RE.kind] at h
  case string s=>subst h;exact bu.str s
  all_goals exact absurd h.symm X
def No(R:av g m D ty V O s a W){r:RE}(h:r.kind ty s=.sl X):∃x l c,r.den O=.slice x l c:=by
 have:=pV R (by simp) h;unfold RE.den;revert this;generalize r.rv O=v;intro Q;cases Q with
 |sl X A N M L=>exact⟨A,N,M,rfl⟩
def Dq(R:av g m D ty V O s a W){r:RE}(h:r.kind ty s=.str):∃x,r.den O=.string x:=by
 have:=pV R (by simp) h;unfold RE.den;revert this;generalize r.rv O=v;intro X;cases X with
 |str s=>exact⟨s,rfl⟩
def av5(R:av g m D ty V O s a W){c:CT}{y:SV}{e:BE}(h:Ix ty s c M y=U e):BG c (M.den O V)/\BG c (y.den O V)/\BF (M.den O V) (y.den O V)=U (e.den O):=by
 unfold Ix at h;split at h;split at h;rename_i X;obtain⟨rfl,rfl⟩:=X;cases h;exact⟨rfl,rfl,by simp[SV.den,BF,BH,gg]⟩;cases h;cases h;exact⟨trivial,trivial,by simp[SV.den,BF,Z7]⟩;split at h;rename_i X;cases h;obtain⟨p,Q⟩:=Dq R X.1;obtain⟨q,N⟩:=Dq R X.2;simp only[SV.den,Q,N];unfold RE.den at Q N;exact⟨trivial,trivial,by simp[BF,BE.den,Q,N,rj]⟩;cases h;cases h
def ajc(R:av g m D ty V O s a W):∀{X:dS}{x y:ah}{e:BE},pP ty s X x y=U e->jS X (SV.aA O V x)/\jS X (SV.aA O V y)/\i9 (SV.aA O V x) (SV.aA O V y)=U (e.den O)
 |[],[],[],e,h=>by simp[pP] at h;subst h;exact⟨trivial,trivial,by simp[SV.aA,i9,BE.den]⟩
 |c::X,x::C,y::B,e,h=>by
  simp only[pP] at h;split at h;rename_i a b Q N;cases h;obtain⟨M,a2,L⟩:=av5 R Q;obtain⟨H,G,F⟩:=ajc R N;exact⟨⟨M,H⟩,⟨a2,G⟩,by simp only[SV.aA,i9,L,F,Z6]⟩;cases h
 |[],[],_::_,e,h=>by simp[pP] at h
 |[],_::_,_,e,h=>by simp[pP] at h
 |_::_,[],_,e,h=>by simp[pP] at h
 |_::_,_::_,[],e,h=>by simp[pP] at h
def ajd(R:av g m D ty V O s a W){X:fD}{y:ah}{e:BE}(h:Iy ty s X w y=U e):∃ae d,X=U ⟨d,ae,J⟩/\jS ae (SV.aA O V w)/\jS ae (SV.aA O V y)/\i9 (SV.aA O V w) (SV.aA O V y)=U (e.den O):=by
 unfold Iy at h;split at h;exact⟨_,_,rfl,ajc R h⟩;cases h
def aje(C:bu W ty (.sl X) L)(i:Int)(o:0<=i)(B:i<lenOf L.val):
  ∃Q b N,L.rows[i.toNat]?=U Q/\Y Q=(bq ty (.sl X)).length/\(∃l c,L.val=.slice (U ⟨b,N,Z⟩) l c)/\(∀(j:Nat)(c:RV),Q[j]?=U c->W.cell? ⟨b,N+i.toNat*(bq ty (.sl X)).length+j,Z⟩=U c.val)/\
   (∀(j:Nat)(c:RV)(M:CT),Q[j]?=U c->(bq ty (.sl X))[j]?=U M->match M with
    |.int k=>∃n,c.val=.int k n
    |.bool=>∃x,c.val=.bool x
    |.aI _ k=>bu W ty k c):=by
 cases C with
 |sl X A y w H m h v u t r=>
  simp only[RV.lZ,lenOf] at B;have q:i.toNat<Y H:=by omega
  have R:H[i.toNat]?=U H[i.toNat]:=aIA q;obtain⟨p,b,N,rfl,g,q3⟩:=v i.toNat _ R;refine⟨H[i.toNat],b,N,R,p,⟨y,w,rfl⟩,q3,λj c M G F=> ?_⟩;cases M with
  |int k=>exact u _ j _ c k R G F
  |bool=>exact t _ j _ c R G F
  |aI z k=>exact r _ j _ c z k R G F
def av6{r:RE}{i:IE}{H:aH}{X:CT}(G:(r.rv O).rows[(i.den O).toNat]?=U H)(F:H[R]?=U L)(Q:match X with
    |.int k=>∃n,L.val=.int k n
    |.bool=>∃y,L.val=.bool y
    |.aI _ k=>bu W ty k L):
  (Dc r i R X).den O V=L.val:=by
 have N:cellAt (r.rv O).rows (i.den O) R=L:=by simp[cellAt,G,F]
 cases X with
 |int C=>obtain⟨n,M⟩:=Q;simp[Dc,SV.den,IE.den,N,bB,M]
 |bool=>obtain⟨n,M⟩:=Q;simp[Dc,SV.den,BE.den,N,fG,M]
 |aI z e=>simp only[Dc,SV.den,RE.den,RE.rv,N];rw[ai9 Q]
def uy(R:av g m D ty V O s a W):∀(r:RE),r.Fz=J->io (r.den O)=J
 |.v k,_=>by
  simp only[RE.den,RE.rv];by_cases X:k<Y s.rs;exact Ja (aab R (aIA X));have:O.rv k=default:=by
   have:=R.er;simp[aa.rv,show¬k<Y O.r by omega]
  rw[this];rfl
 |.cell r i j k,_=>av3 k _
 |.k w,h=>h
def av7(R:av g m D ty V O s a W)(f:iu P ty)(hg:ek B O)(C:F.op=.load X r)(hk:(s.ev B r).dP=E)
  (h:(bO ty B s (.load X r)).gives O M):(execOp a.eval F).run P W=.ok (.value (M.den O V)) W:=by
 have he:=cu R hg r hk;simp only[execOp,C,Sem.run_bind,he];simp only[bO] at h;split at h;rename_i d i A p n;rw[n];split at h;rename_i tt k N;split at h;rename_i w L;cases h;have:=Sq (P:=P) (W:=W) (f _ _ p) (O:=O) (V:=V) (b:=ad V i) (base:=0) L (λj y hy=>by
  obtain⟨N,C⟩:=xP N;have:=R.mem.box i tt k N;rw[rq C] at this;simp[World.cell?,this,rk,hy])
 simp only[aI8] at this;simp only[SV.den,this,Result.andThen_ok,Sem.run_pure];exact h.elim;exact h.elim;rename_i d Q w i A p n;rw[n];split at h;rename_i e bb;split at h;exact h.elim;rename_i hw;split at h;rename_i y L;obtain⟨N,rfl⟩:=h;rw[I8] at N;simp only[IE.den] at N;have hh:=pV R (by simp) bb;have bd:w=(bq ty (.sl e)).length:=by simpa using Eq.symm (by simpa using hw:(bq ty (.sl e)).length=w)
 obtain⟨af,b,a0,h1,bs,⟨l,c,h3⟩,h4,h5⟩:=aje hh (i.den O) N.1 N.2;have:=Sq (P:=P) (W:=W) (f _ _ p) (O:=O) (V:=V) (b:=b) (base:=a0+(i.den O).toNat*w) L (λj z G=>by
  simp only[aIE] at G;cases hj:(aI5 w)[j]? with
  |none=>rw[hj] at G;cases G
  |some H=>
   have bf:j<w/\H=j:=by
    have:=aIz.1 hj;obtain⟨q1,q2⟩:=this;simp at q1 q2;exact⟨q1,q2.symm⟩
   obtain⟨bt,rfl⟩:=bf;rw[hj] at G;simp only[aII,aID] at G;have bg:(bq ty (.sl e))[H]?=U ((bq ty (.sl e)).getD H .bool):=by
    rw[aIC,aIA (by omega)];rfl
   have bk:H<Y af:=by omega
   have ag:af[H]?=U af[H]:=aIA bk;rw[<-G,av6 (W:=W) (ty:=ty) h1 ag (h5 H _ _ ag bg)];rw[bd];exact h4 H _ ag)
 have hA:mA (RE.den O Q) ((i.den O).toNat*w+A)=⟨b,a0+(i.den O).toNat*w+A,Z⟩:=by
  simp only[RE.den,h3,mA,aKi]
 simp only[SV.den,hA,this,Result.andThen_ok,Sem.run_pure];exact h.elim;exact h.elim;rename_i d e ks vs p n;rw[n];split at h;rename_i tt k N;split at h;rename_i w L;split at h;rename_i a1;obtain⟨a3,rfl⟩:=h;simp only[beq_iff_eq] at a1;cases al:xE vs with
 |none=>rw[al] at N;cases N
 |some i=>
  rw[al] at N;simp only[aKQ] at N;rw[St a1] at a3;obtain⟨u,hu⟩:=aIS.1 a3;obtain⟨A,rfl⟩:=ai8 al (I9 hu);cases an:Df (vs.map (ZA d k)) with
  |none=>rw[an] at L;cases L
  |some ps=>
   rw[an] at L;simp only[aKQ] at L;obtain⟨q,a4,bl⟩:=aaa an hu;simp only[ZA] at a4;have a9:=Sq (P:=P) (W:=W) (f _ _ p) (O:=O) (V:=V) (b:=ad V i) (base:=0) a4 (λj y hy=>by
    obtain⟨N,C⟩:=xP N;have:=R.mem.box i tt k N;rw[rq C] at this;simp[World.cell?,this,rk,hy])
   simp only[aI8] at a9;have br:(SV.eR e ks vs).den O V=.pointer (U ⟨ad V i,A,Z⟩):=by
    simp only[SV.den];rw[Sv hu rfl];rfl
   rw[br,ai6 (uy R) L bl];simp only[a9,Result.andThen_ok,Sem.run_pure]
 exact h.elim;exact h.elim;exact h.elim;exact h.elim
def av8(Q:av g m D ty V O s a W)(c:iu P ty)(hg:ek B O)(ho:F.op=.fieldAddr X r R)(hk:(s.ev B r).dP=E)
  (h:(bO ty B s (.fieldAddr X r R)).gives O M):(execOp a.eval F).run P W=.ok (.value (M.den O V)) W:=by
 have he:=cu Q hg r hk;have af:∀(G:List (Nat×TypeId))(ae:dS)(q:Bool)(z:Nat)(u:TypeId)(H:TI)(A:Addr),ty X=U ⟨.struct G,ae,q⟩->G[R]?=U (z,u)->ty u=U H->(Y H.ae==0)=E->A.spot=Z->
   (Instr.fieldAt X (.pointer (U A)) R).run P W=.ok (.pointer (U ⟨A.block,A.off+z,Z⟩)) W:=by
  intro G ae q z u H A h1 y h3 h4 h5;obtain⟨N,hF,ag⟩:=(c _ _ h1).desc;rw[<-ag,aIE] at y;cases C:N.toList[R]? with
  |none=>rw[C] at y;cases y
  |some fd=>
   rw[C] at y;simp only[aII,aID,aKj] at y;obtain⟨rfl,rfl⟩:=y;have al:N[R]?=U fd:=by simpa using C
   have an:¬Y H.ae=0:=by simpa using h4
   obtain⟨b,of,sp⟩:=A;simp only at h5;subst h5;simp only[Instr.fieldAt,Instr.sureAddr,fieldPlace,Sem.run_bind,dV.gt hF,Result.andThen_ok,al,Sem.run_pure,(c _ _ h3).ma,if_neg an,Sem.run_ite,wb]
 simp only[execOp,ho,Sem.run_bind,he];simp only[bO] at h;split at h;rename_i G ae q i z p l;rw[l];split at h;rename_i k j C;split at h;rename_i H e;split at h;exact h.elim;rename_i d;cases h;simp only[SV.den,af G ae q k j H ⟨ad V i,z,Z⟩ p C e (by simpa using d) rfl,Result.andThen_ok,Sem.run_pure];exact h.elim;exact h.elim;rename_i G ae q L w i z p l;rw[l];split at h;rename_i k j C;split at h;rename_i H e;split at h;exact h.elim;rename_i d;cases h;have a0:∀M n,(mA M n).spot=none:=by intro M n;unfold mA;split<;>rfl
 simp only[SV.den,af G ae q k j H _ p C e (by simpa using d) (a0 _ _),Result.andThen_ok,Sem.run_pure];congr 4;unfold mA;split;simp only[Addr.mk.injEq,and_true,true_and];omega;simp only[Addr.mk.injEq,and_true,true_and];omega;exact h.elim;exact h.elim;exact h.elim
end
section
variable{C:ai}{H:World}{D:bQ}{P:Program}{u:Ty}{B:lu}{V:ai}{O:aa}{s:S}{a:Act}{W:World}
def av9(Q:av C H D u V O s a W)(A:iu P u)(z:ek B O)(w:F.op=.field X r R)(p:(s.ev B r).dP=E)
  (h:(bO u B s (.field X r R)).gives O M):(execOp a.eval F).run P W=.ok (.value (M.den O V)) W:=by
 have n:=cu Q z r p;simp only[execOp,w,Sem.run_bind,n];simp only[bO] at h;split at h;rename_i b ae q l m k;rw[k];split at h;rename_i o' t' L;split at h;rename_i ti j;split at h;rename_i y i;cases h;obtain⟨N,g,e⟩:=(A _ _ m).desc;rw[<-e,aIE] at L;cases G:N.toList[R]? with
 |none=>rw[G] at L;cases L
 |some d=>
  rw[G] at L;simp only[aII,aID,aKj] at L;obtain⟨rfl,rfl⟩:=L;have c:N[R]?=U d:=by simpa using G
  simp only[SV.den,Instr.field,Sem.run_bind,dV.gt g,Result.andThen_ok,c,asAgg,Sem.run_pure,Z5 (A _ _ j) i]
 exact h.elim;exact h.elim;exact h.elim;exact h.elim
def awa(R:av C H D u V O s a W)(ag:iu P u)(hg:ek B O){y:Operand}(ho:F.op=.indexAddr X r y)(hk:(s.ev B r).dP=E)(a1:(s.ev B y).dP=E)
  (h:(bO u B s (.indexAddr X r y)).gives O M):(execOp a.eval F).run P W=.ok (.value (M.den O V)) W:=by
 have he:=cu R hg r hk;have a3:=cu R hg y a1;have al:∀(n:Nat)(e:TypeId)(ae:dS)(q:Bool)(L:TI)(A:Addr)(k:IntKind)(m:Int),u X=U ⟨.arr n e,ae,q⟩->u e=U L->0<=m->m<n->A.spot=Z->
   (Instr.indexAt X (.pointer (U A)) (.int k m)).run P W=.ok (.pointer (U ⟨A.block,A.off+m.toNat*Y L.ae,Z⟩)) W:=by
  intro n e ae q L A k m h1 h2 h3 h4 h5;have hd:P.underlying X=U (.array n e):=(ag _ _ h1).desc;obtain⟨b,of,sp⟩:=A;simp only at h5;subst h5;simp only[Instr.indexAt,asIntOf,Sem.run_bind,Sem.run_pure,Result.andThen_ok,dV.gt hd,Instr.sureAddr,h3,h4,and_self,if_true,(ag _ _ h2).ma,wb]
 simp only[execOp,ho,Sem.run_bind,he,a3];simp only[bO] at h;split at h;rename_i n e ae q i af k m z f d;rw[f,d];split at h;rename_i L g;split at h;rename_i G;cases h;simp only[aIy,decide_eq_true_eq] at G;simp only[SV.den,IE.den,al n e ae q L ⟨ad V i,af,Z⟩ k m z g G.1 G.2 rfl,Result.andThen_ok,Sem.run_pure];exact h.elim;exact h.elim;rename_i n e ae q Q w i af k m z f d;rw[f,d];have an:∀M n,(mA M n).spot=none:=by intro M n;unfold mA;split<;>rfl
 have a0:∀(M:Value)(p q:Nat),(⟨(mA M p).block,(mA M p).off+q,Z⟩:Addr)=mA M (p+q):=by intro M p q;unfold mA;split<;>simp[aKi]
 split at h;rename_i L g;split at h;rename_i hc;obtain⟨N,rfl⟩:=h;rw[I8] at N;simp only[aIy,beq_iff_eq] at hc;obtain⟨⟨⟨h1,h2⟩,h3⟩,-⟩:=hc;subst h1 h2 h3;simp only[IE.den] at N;simp only[SV.den,al n e ae q L _ k (m.den O) z g N.1 N.2 (an _ _),Result.andThen_ok,Sem.run_pure,a0];simp[IE.den];split at h;rename_i m;split at h;rename_i G;cases h;simp only[aIy,decide_eq_true_eq] at G;simp only[SV.den,IE.den,al n e ae q L _ k m z g G.1 G.2 (an _ _),Result.andThen_ok,Sem.run_pure,a0,aKi];exact h.elim;exact h.elim;exact h.elim;rename_i n e ae q Q w i af k m bb z f d;rw[f,d];have an:∀M n,(mA M n).spot=none:=by intro M n;unfold mA;split<;>rfl
 have a0:∀(M:Value)(p q:Nat),(⟨(mA M p).block,(mA M p).off+q,Z⟩:Addr)=mA M (p+q):=by intro M p q;unfold mA;split<;>simp[aKi]
 split at h;rename_i L g;split at h;rename_i G;cases h;simp only[aIy,decide_eq_true_eq] at G;simp only[SV.den,IE.den,al n e ae q L _ k m z g G.1 G.2 (an _ _),Result.andThen_ok,Sem.run_pure,a0,aKi];exact h.elim;exact h.elim;rename_i e ae q Q k m z f d;rw[f,d];split at h;rename_i L e' g a4;obtain⟨N,rfl⟩:=h;rw[I8] at N;simp only[IE.den] at N;have hh:=aje (pV R (by simp) a4) (m.den O) N.1 N.2;obtain⟨bd,b,af,-,-,⟨l,c,hv⟩,-⟩:=hh;have hd:P.underlying X=U (.slice e):=(ag _ _ z).desc;rw[hv] at N;simp only[lenOf] at N;simp only[SV.den,RE.den,hv,Instr.indexAt,asIntOf,Sem.run_bind,Sem.run_pure,Result.andThen_ok,dV.gt hd,N.1,N.2,and_self,if_true,(ag _ _ g).ma,wb,mA,aJU];exact h.elim;rename_i e ae q i af bf bg k m z f d;rw[f,d];split at h;rename_i L g;split at h;rename_i G;cases h;simp only[aIy,decide_eq_true_eq] at G;have hd:P.underlying X=U (.slice e):=(ag _ _ z).desc;simp only[SV.den,IE.den,Instr.indexAt,asIntOf,Sem.run_bind,Sem.run_pure,Result.andThen_ok,dV.gt hd,G.1,G.2,and_self,if_true,(ag _ _ g).ma,wb];exact h.elim;exact h.elim;rename_i n e ae q i af k m bk z f d;rw[f,d];split at h;rename_i L g;obtain⟨N,rfl⟩:=h;rw[I8] at N;simp only[IE.den] at N;have a9:(SV.eR m (Bm n) ((aI5 n).map λj=>SV.loc i (af+j*Y L.ae))).den O V=.pointer (U ⟨ad V i,af+(m.den O).toNat*Y L.ae,Z⟩):=by
  simp only[SV.den];rw[Sv (ai7 N.1 N.2) rfl];rfl
 rw[a9];simp only[SV.den,al n e ae q L ⟨ad V i,af,Z⟩ k (m.den O) z g N.1 N.2 rfl,Result.andThen_ok,Sem.run_pure];exact h.elim;exact h.elim
def awb(R:av C H D u V O s a W)(L:iu P u)(hg:ek B O){y:Operand}(ho:F.op=.index X r y)(hk:(s.ev B r).dP=E)(an:(s.ev B y).dP=E)
  (h:(bO u B s (.index X r y)).gives O M):(execOp a.eval F).run P W=.ok (.value (M.den O V)) W:=by
 have he:=cu R hg r hk;have a0:=cu R hg y an;simp only[execOp,ho,Sem.run_bind,he,a0];simp only[bO] at h;split at h;rename_i n e ae q l k m G A w;rw[A,w];split at h;rename_i c i;split at h;rename_i b;split at h;rename_i z hp;cases h;simp only[aIy,decide_eq_true_eq] at b;have g:P.underlying X=U (.array n e):=(L _ _ G).desc;simp only[SV.den,IE.den,Instr.index,asIntOf,Sem.run_bind,Sem.run_pure,Result.andThen_ok,dV.gt g,b.1,b.2,and_self,if_true,(L _ _ i).ma,Z5 (L _ _ i) hp];exact h.elim;exact h.elim;exact h.elim;rename_i n e ae q l k m bb G A w;rw[A,w];split at h;rename_i c i;split at h;rename_i z d;obtain⟨N,rfl⟩:=h;rw[I8] at N;simp only[IE.den] at N;cases af:Df ((aI5 n).map λj=>vO c l (j*Y c.ae)) with
 |none=>rw[af] at d;cases d
 |some ps=>
  rw[af] at d;simp only[aKQ] at d;obtain⟨p,a1,a3⟩:=aaa (vs:=aI5 n) af (by have:=ai7 (f:=λj=>j) N.1 N.2;simpa using this);have g:P.underlying X=U (.array n e):=(L _ _ G).desc;rw[ai6 (uy R) d a3];simp only[SV.den,Instr.index,asIntOf,Sem.run_bind,Sem.run_pure,Result.andThen_ok,dV.gt g,N.1,N.2,and_self,if_true,(L _ _ i).ma,Z5 (L _ _ i) a1]
 exact h.elim;exact h.elim;rename_i ae q Q k m G A w;rw[A,w];split at h;rename_i a4;obtain⟨N,rfl⟩:=h;rw[I8] at N;obtain⟨ag,al⟩:=Dq R a4;unfold RE.den at al;have g:P.underlying X=U .string:=(L _ _ G).desc;simp only[IE.den,al,lenOf] at N;have a9:(m.den O).toNat<ag.size:=by omega
 simp only[SV.den,RE.den,al,IE.den,Instr.index,asIntOf,Sem.run_bind,Sem.run_pure,Result.andThen_ok,dV.gt g,N.1,if_true,jz];have:ag[(m.den O).toNat]?=U ag[(m.den O).toNat]:=by simp[a9]
 rw[this];rfl;exact h.elim;exact h.elim
def awc(X:BinOp)(R:Rz X=J)(t:TypeId)(k:IntKind)(m n:Int):(binOp X t (.int k m) (.int k n)).run P W=.ok (.bool (gg X m n)) W:=by
 cases X<;>simp[Rz] at R<;>simp[binOp,Op.intCmp,gg]
def awd(X:BinOp)(R:Zv X=J)(t:TypeId)(k:IntKind)(m n:Int):(binOp X t (.int k m) (.int k n)).run P W=.ok (.int k (au X k m n)) W:=by
 cases X<;>simp[Zv] at R<;>simp[binOp,Op.intArith,au]
def ajf(X:BinOp)(R:Zw X=J)(t:TypeId)(k:IntKind)(m n:Int)(Q:n≠0):(binOp X t (.int k m) (.int k n)).run P W=.ok (.int k (au X k m n)) W:=by
 cases X<;>simp[Zw] at R<;>simp[binOp,Op.intDiv,au,Q]
def ajg(X:BinOp)(t:TypeId)(x y:Operand)(k:IntKind)(n:Int)(w:Value):(eqGuard X t x y (.int k n) w).run P W=.ok () W:=by cases X<;>rfl
def awe(X:BinOp)(t:TypeId)(x y:Operand)(n:Bool)(w:Value):(eqGuard X t x y (.bool n) w).run P W=.ok () W:=by cases X<;>rfl
def ajh(X:BinOp)(t:TypeId)(x y:Operand)(n:ByteArray)(w:Value):(eqGuard X t x y (.string n) w).run P W=.ok () W:=by cases X<;>rfl
def aji(R:P.underlying X=U .bool)(m n:Bool):(Op.equal X (.bool m) (.bool n)).run P W=.ok (m==n) W:=by
 have:Op.equal X (.bool m) (.bool n)=Op.equalIn (9999+1) X (.bool m) (.bool n):=rfl;rw[this,Op.equalIn,Sem.run_bind,dV.gt R];rfl
def awf(R:P.underlying X=U .bool)(m n:Bool):(binOp .eql X (.bool m) (.bool n)).run P W=.ok (.bool (m==n)) W:=by
 show((Op.equal X (.bool m) (.bool n))>>=λb=>(pure (.bool b):Sem Value)).run P W=_;rw[Sem.run_bind,aji R];rfl
def awg(R:P.underlying X=U .bool)(m n:Bool):(binOp .neq X (.bool m) (.bool n)).run P W=.ok (.bool !(m==n)) W:=by
 show((Op.equal X (.bool m) (.bool n))>>=λb=>(pure (.bool !b):Sem Value)).run P W=_;rw[Sem.run_bind,aji R];rfl
def aac(R:iu P u)(h:MQ (u X)=J):∃a b c,P.underlying X=U (.func a b c):=by
 unfold MQ at h;split at h;rename_i k q Q;obtain⟨d,N,⟨-,M⟩,-,-⟩:=(R _ _ Q).desc;obtain⟨a,b,c,rfl⟩:=M k rfl;exact⟨a,b,c,N⟩;cases h
def aad{x y:Operand}{Q:_}{N:_}{M:_}(L:P.underlying X=U (.func Q N M))(v:Value)(n:Bool)(R:(v=.nilFunc/\n=J)\/(∃f a b,v=.func f a b)/\n=E):
  (do eqGuard .eql X x y v .nilFunc;binOp .eql X v .nilFunc).run P W=.ok (.bool n) W/\(do eqGuard .neq X x y v .nilFunc;binOp .neq X v .nilFunc).run P W=.ok (.bool !n) W:=by
 have H:(Op.equal X v .nilFunc).run P W=.ok n W:=by
  have G:Op.equal X v .nilFunc=Op.equalIn (9999+1) X v .nilFunc:=rfl;rw[G,Op.equalIn,Sem.run_bind,dV.gt L,Result.andThen_ok];rcases R with⟨rfl,rfl⟩|⟨⟨f,a,b,rfl⟩,rfl⟩<;>rfl
 rcases R with⟨rfl,rfl⟩|⟨⟨f,a,b,rfl⟩,rfl⟩<;>constructor<;>simp[eqGuard,binOp,H]
def ajj{e:IE}:∀{ks:bi}{vs:ah},vs.all Iz=J->Y ks=Y vs->
  (jA (e.den O) ks (SV.aA O V vs)=.nilFunc/\(Bk e ks vs).den O=J)\/((∃f a b,jA (e.den O) ks (SV.aA O V vs)=.func f a b)/\(Bk e ks vs).den O=E)
 |[],[],_,_=>.inl ⟨rfl,rfl⟩
 |[],_::_,_,h=>by simp at h
 |_::_,[],_,h=>by simp at h
 |k::ks,v::vs,R,M=>by
  simp only[aKv,aIy] at R;have N:=ajj (e:=e) (ks:=ks) (vs:=vs) R.2 (by simpa using M);have Q:=R.1;unfold Iz at Q;split at Q;rename_i g L;simp only[SV.aA,SV.den,jA,Bk,BE.den,gg,IE.den];by_cases X:e.den O=k;right;simp[X,io];simp only[X,if_false,beq_iff_eq];exact N;simp only[SV.aA,SV.den,jA,Bk,BE.den,gg,IE.den];by_cases X:e.den O=k;left;simp[X,RE.den,RE.rv,io];simp only[X,if_false,beq_iff_eq];exact N;cases Q
def awh(R:av C H D u V O s a W)(w:iu P u)(hg:ek B O){A:BinOp}{t2:TypeId}{y:Operand}(ho:F.op=.binOp A X r y t2)(hk:(s.ev B r).dP=E)(ag:(s.ev B y).dP=E)
  (h:(bO u B s (.binOp A X r y t2)).gives O M):(execOp a.eval F).run P W=.ok (.value (M.den O V)) W:=by
 have he:=cu R hg r hk;have al:=cu R hg y ag;simp only[execOp,ho];rw[Sem.run_bind,he,al];simp only[bO] at h;split at h;rename_i k m k' n Q N;rw[Q,N];split at h;rename_i an;have a0:A=.shr:=by cases A<;>simp[aiF] at an;rfl
 subst a0;split at h;rename_i n;split at h;rename_i G;have af:¬n<0:=by simp only[decide_eq_true_eq] at G;omega
 cases h;simp only[SV.den,Nl,IE.den];rw[Sem.run_bind,ajg,Result.andThen_ok];simp[binOp,Op.shift,au,af];exact h.elim;exact h.elim;split at h;exact h.elim;rename_i a1;have a3:k=k':=by simpa using a1
 subst a3;simp only[SV.den];rw[Sem.run_bind,ajg,Result.andThen_ok];split at h;rename_i b;cases h;simp only[awc A b,Result.andThen_ok,Sem.run_pure,SV.den,BH];split at h;rename_i b;cases h;simp only[awd A b,Result.andThen_ok,Sem.run_pure,SV.den,Nl];split at h;rename_i b;split at h;rename_i n;split at h;exact h.elim;rename_i G;cases h;have af:n≠0:=by simpa using G
 simp only[SV.den,Nl,IE.den];rw[ajf A b _ _ _ _ af];rfl;obtain⟨hb,rfl⟩:=h;rw[BH] at hb;have af:n.den O≠0:=by simpa[gg,IE.den] using hb
 simp only[SV.den,Nl];rw[ajf A b _ _ _ _ af];rfl;exact h.elim;rename_i m n Q N;rw[Q,N];simp only[SV.den];rw[Sem.run_bind,awe,Result.andThen_ok];split at h;rename_i q l;cases h;obtain⟨d,L,-,-,hb⟩:=(w _ _ l).desc;rw[hb rfl] at L;rw[awf L];simp[SV.den,Z7];rename_i q l;cases h;obtain⟨d,L,-,-,hb⟩:=(w _ _ l).desc;rw[hb rfl] at L;rw[awg L];simp[SV.den,Z7,Nn];exact h.elim;rename_i Q N;rw[Q,N];split at h;exact h.elim;rename_i z;obtain⟨d1,d2,d3,L⟩:=aac w (by simpa using z);obtain⟨q1,q2⟩:=aad (x:=r) (y:=y) (W:=W) L .nilFunc J (.inl ⟨rfl,rfl⟩);have G:SV.den O V (.ref (.k .nilFunc))=.nilFunc:=rfl;rw[G];split at h;cases h;rw[q1];rfl;cases h;rw[q2];rfl;exact h.elim;rename_i m n bb Q N;rw[Q,N];split at h;rename_i j i;cases h;obtain⟨p,g⟩:=Dq R j;obtain⟨q,c⟩:=Dq R i;simp only[SV.den,g,c];rw[Sem.run_bind,ajh,Result.andThen_ok];unfold RE.den at g c;simp[binOp,Op.stringOp,BE.den,g,c,rj];rename_i j i;cases h;obtain⟨p,g⟩:=Dq R j;obtain⟨q,c⟩:=Dq R i;simp only[SV.den,g,c];rw[Sem.run_bind,ajh,Result.andThen_ok];unfold RE.den at g c;simp[binOp,Op.stringOp,BE.den,g,c,rj];exact h.elim;rename_i f a4 Q N;rw[Q,N];split at h;exact h.elim;rename_i z;obtain⟨d1,d2,d3,L⟩:=aac w (by simpa using z);obtain⟨q1,q2⟩:=aad (x:=r) (y:=y) (W:=W) L ((SV.fn f a4).den O V) E (.inr ⟨⟨_,_,_,rfl⟩,rfl⟩);have G:SV.den O V (.ref (.k .nilFunc))=.nilFunc:=rfl;rw[G];split at h;cases h;rw[q1];rfl;cases h;rw[q2];rfl;exact h.elim;rename_i e ks vs Q N;rw[Q,N];split at h;rename_i z;simp only[aIy,beq_iff_eq] at z;obtain⟨d1,d2,d3,L⟩:=aac w z.2;have a9:=ajj (O:=O) (V:=V) (e:=e) z.1.1 z.1.2;obtain⟨q1,q2⟩:=aad (x:=r) (y:=y) (W:=W) L (jA (e.den O) ks (SV.aA O V vs)) ((Bk e ks vs).den O) a9;have G:SV.den O V (.ref (.k .nilFunc))=.nilFunc:=rfl;rw[G,SV.den];split at h;cases h;rw[q1];rfl;cases h;rw[q2];simp[SV.den,Nn];exact h.elim;exact h.elim;rename_i m n Q N;rw[Q,N];simp only[SV.den];split at h;rename_i e he;cases h;obtain⟨ae,d,l,j,i,h3⟩:=ajd R he;have:=((w _ _ l).eq rfl _ _ _ r y W j i h3).1;rw[this];rfl;rename_i e he;cases h;obtain⟨ae,d,l,j,i,h3⟩:=ajd R he;have:=((w _ _ l).eq rfl _ _ _ r y W j i h3).2;rw[this];simp[SV.den,Nn];exact h.elim;exact h.elim
end
section
variable{d:ai}{g:World}{D:bQ}{P:Program}{b:Ty}{B:lu}{V:ai}{O:aa}{s:S}{a:Act}{W:World}
def Sw(X:∀r:RE,r.Fz=J->io (r.den O)=J)(h:M.FA=J):(M.den O V).cells.toList=SV.aA O V M.cells:=by
 cases M with
 |agg l=>simp[SV.den,SV.cells,Value.cells]
 |ref r=>
  have:io (r.den O)=true:=X r (by cases r<;>simp_all[SV.FA,RE.Fz]);simp only[SV.den,SV.cells,SV.aA];revert this;cases r.den O<;>simp[io,Value.cells]
 |eR e R Q=>
  simp only[SV.den,SV.cells,SV.aA];exact avX (Z4 _ _ _)
 |_=>simp[SV.den,SV.cells,Value.cells,SV.aA,undef]
def ajk:∀(M l:ah)(R:Nat),SV.aA O V (j5 l R M)=(SV.aA O V M).zipIdx.foldl (λQ x=>Q.set (R+x.2) x.1) (SV.aA O V l)
 |[],l,R=>by simp[j5,SV.aA]
 |v::M,l,R=>by
  rw[j5,ajk M (l.set R v) (R+1)];simp only[SV.aA,List.zipIdx_cons,aJ2,aJU,aI8];rw[show SV.aA O V (l.set R v)=(SV.aA O V l).set R (v.den O V) by simp[nQ]];generalize(SV.aA O V l).set R (v.den O V)=X;have:∀(N:fe)(n:Nat)(X:fe),(N.zipIdx n).foldl (λQ x=>Q.set (R+1+x.2) x.1) X=(N.zipIdx (n+1)).foldl (λQ x=>Q.set (R+x.2) x.1) X:=by
   intro N;induction N with
   |nil=>intro n X;rfl
   |cons w N L=>intro n X;simp only[List.zipIdx_cons,aJ2];rw[L,show R+1+n=R+(n+1) by omega]
  exact this _ 0 X
def ajl:∀(l:List (Value×Nat))(R:Nat)(X:kN),(l.foldl (λQ (x:Value×Nat)=>Q.setIfInBounds (R+x.2) x.1) X).toList=l.foldl (λQ x=>Q.set (R+x.2) x.1) X.toList
 |[],_,_=>rfl
 |x::l,R,X=>by simp only[aJ2];rw[ajl l R];simp
def Np(R:∀r:RE,r.Fz=J->io (r.den O)=J)(place:Nat->Option (Nat×Nat)):∀(parts:List (Nat×SV))(cells l:ah),xD place cells parts=U l->
  Instr.fill place (SV.aA O V cells).toArray (parts.map λp=>(p.1,p.2.den O V))=U (SV.aA O V l).toArray
 |[],cells,l,h=>by simp[xD] at h;simp[Instr.fill,h]
 |(i,v)::L,cells,l,h=>by
  simp only[xD] at h;cases X:place i with
  |none=>rw[X] at h;cases h
  |some q=>
   obtain⟨Q,H⟩:=q;rw[X] at h;simp only at h;split at h;cases h;rename_i N;simp only[aIZ,bne_iff_ne,decide_eq_true_eq,aIR,not_or,aJY,Decidable.not_not,Nat.not_lt] at N;obtain⟨⟨G,z⟩,F⟩:=N;have M:=Sw (V:=V) R F;have C:(v.den O V).cells.size=H:=by rw[<-aJJ,M];simp[G]
   simp only[aIP,Instr.fill,X,C];rw[if_neg (by simp;omega)];have B:=Np R place L _ l h;rw[<-B];congr 1;apply aJu;have e:((v.den O V).cells.zipIdx.foldl (λA (x:Value×Nat)=>A.setIfInBounds (Q+x.2) x.1) (SV.aA O V cells).toArray).toList=SV.aA O V (j5 cells Q v.cells):=by
    rw[<-aL7,ajl,ajk,Array.toList_zipIdx,M]
   simpa using e
def awi(c:CT):(Bi c).den O V=ph c:=by cases c<;>simp[Bi,SV.den,ph,IE.den,BE.den,RE.den,RE.rv]
def ajm(X:TI):SV.aA O V (di X)=X.ae.map ph:=by
 simp only[di,nQ,aJo];congr 1;funext c;exact awi c
def Jb(h:dV P X v):∃z,(zeroValue X).run P W=.ok z W/\z.cells=(SV.aA O V (di v)).toArray:=by
 obtain⟨i,R,-,z,Q,N⟩:=h.I7;exact⟨z,by simp[zeroValue,typeInfo,R,Q],by rw[ajm,<-N]⟩
def awj(R:av d g D b V O s a W)(H:iu P b)(hg:ek B O){parts:Array (Nat×Operand)}(ho:F.op=.build X parts)(hk:∀p∈parts.toList,(s.ev B p.2).dP=E)
  (h:(bO b B s (.build X parts)).gives O M):(execOp a.eval F).run P W=.ok (.value (M.den O V)) W:=by
 have j:(parts.map λ(i,x)=>(i,a.eval x)).toList=(parts.toList.map λp=>(p.1,s.ev B p.2)).map λp=>(p.1,p.2.den O V):=by
  simp only[aJy,aJo];apply aIY;intro p hp;simp[cu R hg p.2 (hk p hp)]
 simp only[execOp,ho,Sem.run_bind];simp only[bO] at h;split at h;rename_i A ae q G;split at h;exact h.elim;rename_i w;have w:∀f∈A,(b f.2).isSome=true:=by
  have:(A.all λf=>(b f.2).isSome)=true:=by simpa only[aIR,aJY] using w
  exact aIN.1 this
 split at h;rename_i l N;cases h;obtain⟨Q,hF,c⟩:=(H _ _ G).desc;obtain⟨z,u,r⟩:=Jb (P:=P) (W:=W) (O:=O) (V:=V) (H _ _ G);have ag:∀(L:List Field),(∀f∈L,∃C,b f.type=U C)->(L.mapM (m:=Sem) λf=>do pure (f.offset,<-Go.sizeOf f.type)).run P W=.ok (L.map λf=>(f.offset,((b f.type).map (·.ae.length)).getD 0)) W:=by
  intro L hL;induction L with
  |nil=>rfl
  |cons f L ih=>
   obtain⟨C,y⟩:=hL f (by simp);have:=ih (λf N=>hL f (by simp[N]));simp only[aLS,Sem.run_bind,(H _ _ y).ma,Result.andThen_ok,Sem.run_pure,this,aIP,y,aII,aJd]
 have af:∀f∈Q.toList,∃C,b f.type=U C:=by
  intro f N;have:(f.offset,f.type)∈A:=by rw[<-c];exact aI3.2 ⟨f,N,rfl⟩
  have:=w _ this;exact aIS.1 this
 have hm:=ag Q.toList af;have k:=Np (V:=V) (uy R) _ _ _ _ N;simp only[Instr.build,Sem.run_bind,u,Result.andThen_ok,dV.gt hF,aLy,Sem.run_map,hm,j,r];have al:(λi=>(Q.toList.map λf=>(f.offset,((b f.type).map (·.ae.length)).getD 0)).toArray[i]?)=Zx b A:=by
  funext i;rw[<-c,Zx];simp only[aLc,aIE];cases hi:Q.toList[i]? with
  |none=>simp
  |some f=>
   obtain⟨C,y⟩:=af f (aIW hi);simp[y]
 rw[al,k];simp[SV.den];exact h.elim;rename_i n e ae q G;split at h;rename_i te an;split at h;rename_i l N;cases h;obtain⟨z,u,r⟩:=Jb (P:=P) (W:=W) (O:=O) (V:=V) (H _ _ G);have hd:P.underlying X=U (.array n e):=(H _ _ G).desc;have k:=Np (V:=V) (uy R) _ _ _ _ N;simp only[Instr.build,Sem.run_bind,u,Result.andThen_ok,dV.gt hd,(H _ _ an).ma,j,r,k];simp[SV.den];exact h.elim;exact h.elim;exact h.elim
def awk(R:av d g D b V O s a W)(H:iu P b)(z:ek B O){Q L w:Option Operand}(j:F.op=.slice X r Q L w)(f:(s.ev B r).dP=E)(c:∀y,Q=U y->(s.ev B y).dP=E)
  (h:(bO b B s (.slice X r Q L w)).gives O M):(execOp a.eval F).run P W=.ok (.value (M.den O V)) W:=by
 have he:=cu R z r f;simp only[execOp,j,Sem.run_bind,he];simp only[bO] at h;split at h;rename_i n e ae q i an ht hx;rw[hx];have u:P.underlying X=U (.array n e):=(H _ _ ht).desc;split at h;rename_i te G N C;cases h;have af:Q=none:=by simpa using N
 have A:L=none:=by simpa using C
 subst af A;simp[SV.den,Instr.sliceAt,dV.gt u,Instr.sureAddr,Instr.sliceBounds,(H _ _ G).ma,wb];rename_i te k l G N C;split at h;rename_i p;cases h;simp only[aIy,decide_eq_true_eq] at p;have A:L=none:=by simpa using C
 subst A;cases Q with
 |none=>cases N
 |some y=>
  simp only[aII,aID] at N;have m:=cu R z y (c y rfl);rw[N] at m;have ag:l<=n:=by omega
  have al:¬n=l.toNat:=by omega
  simp[SV.den,IE.den,Instr.sliceAt,dV.gt u,Instr.sureAddr,Instr.sliceBounds,Instr.sliceBound,asIntOf,m,p.1,ag,(H _ _ G).ma,wb,al]
 exact h.elim;exact h.elim;exact h.elim
def awl(R:av d g D b V O s a W)(z:iu P b)(u:ek B O){c:Call}(p:F.op=.call c)(w:c.callee=.builtin .len)(m:∀x∈c.args.toList,(s.ev B x).dP=E)
  (h:(bO b B s (.call c)).gives O M):(execOp a.eval F).run P W=.ok (.value (M.den O V)) W:=by
 have k:c.args.map a.eval=((c.args.toList.map (s.ev B)).map (SV.den O V)).toArray:=by
  apply aJu;simp only[aJy,aJo];exact aIY λx j=>cu R u x (m x j)
 simp only[execOp,p,resolve,w,Sem.run_bind,Sem.run_pure,Result.andThen_ok,invoke,builtin,k];simp only[bO,w] at h;split at h;rename_i t L H;have N:c.argTypes[0]?=U t:=by have:=congrArg (λl=>l[0]?) L;simpa using this
 rw[H];split at h;rename_i e ae q X;cases h;have Q:P.underlying t=U (.slice e):=(z _ _ X).desc;simp[Builtin.len_,N,SV.den,IE.den,RE.den,RE.rv,dV.gt Q,goInt];exact h.elim;rename_i t r f L H;have N:c.argTypes[0]?=U t:=by have:=congrArg (λl=>l[0]?) L;simpa using this
 rw[H];split at h;rename_i e ae q e' X y;cases h;have Q:P.underlying t=U (.slice e):=(z _ _ X).desc;obtain⟨A,l,cc,G⟩:=No R y;have C:=G;unfold RE.den at C;simp[Builtin.len_,N,SV.den,IE.den,G,C,dV.gt Q,lenOf,goInt];rename_i ae q X y;cases h;have Q:P.underlying t=U .string:=(z _ _ X).desc;obtain⟨af,G⟩:=Dq R y;have C:=G;unfold RE.den at C;simp[Builtin.len_,N,SV.den,IE.den,G,C,dV.gt Q,lenOf,goInt];exact h.elim;rename_i t i ag n al L H;have N:c.argTypes[0]?=U t:=by have:=congrArg (λl=>l[0]?) L;simpa using this
 rw[H];split at h;rename_i e ae q X;cases h;have Q:P.underlying t=U (.slice e):=(z _ _ X).desc;simp[Builtin.len_,N,SV.den,IE.den,dV.gt Q,goInt];exact h.elim;exact h.elim
def ajn(R:av d g D b V O s a W)(G:ek B O){c:Call}(L:F.op=.call c)(X:c.callee=.builtin .min\/c.callee=.builtin .max)(C:∀x∈c.args.toList,(s.ev B x).dP=E)
  (h:(bO b B s (.call c)).gives O M):(execOp a.eval F).run P W=.ok (.value (M.den O V)) W:=by
 have H:c.args.map a.eval=((c.args.toList.map (s.ev B)).map (SV.den O V)).toArray:=by
  apply aJu;simp only[aJy,aJo];exact aIY λx A=>cu R G x (C x A)
 rcases X with X|X;simp only[execOp,L,resolve,X,Sem.run_bind,Sem.run_pure,Result.andThen_ok,invoke,builtin,H];simp only[bO,X] at h;split at h;rename_i k x l Q;rw[Q];split at h;rename_i e N;cases h;have:=Z8 (P:=P) (W:=W) (O:=O) (V:=V) E k l x e N;simp only[aIU,if_false] at this;simp only[aIP,SV.den,Builtin.min_,<-nQ,this,Result.andThen_ok];exact h.elim;exact h.elim;simp only[execOp,L,resolve,X,Sem.run_bind,Sem.run_pure,Result.andThen_ok,invoke,builtin,H];simp only[bO,X] at h;split at h;rename_i k x l Q;rw[Q];split at h;rename_i e N;cases h;have:=Z8 (P:=P) (W:=W) (O:=O) (V:=V) J k l x e N;simp only[if_true] at this;simp only[aIP,SV.den,Builtin.max_,<-nQ,this,Result.andThen_ok];exact h.elim;exact h.elim
end
section
variable{g:ai}{A:World}{D:bQ}{P:Program}{f:Ty}{B:lu}{V:ai}{O:aa}{s:S}{a:Act}{W:World}
def aae{l:bi}(h:t=E->Y l=1):wa (fW t l)=l:=by
 cases t;obtain⟨x,rfl⟩:=aI2.1 (h rfl);rfl;simp[fW,wa,Function.comp_def,bB]
def aaf{x y z:IE}(h:FE R t M=U (x,y,z)):M.den O V=fW t ([x.den O,y.den O,z.den O].take R)/\([x.den O,y.den O,z.den O].take R).length=R:=by
 unfold FE at h;split at h;split at h;rename_i X;cases h;simp only[aIy,beq_iff_eq,aIR] at X;obtain⟨rfl,rfl⟩:=X;simp[fW,SV.den];cases h;split at h;rename_i X;cases h;simp only[aIy,beq_iff_eq] at X;obtain⟨rfl,rfl⟩:=X;simp[fW,SV.den,SV.aA];cases h;split at h;rename_i X;cases h;simp only[aIy,beq_iff_eq] at X;obtain⟨rfl,rfl⟩:=X;simp[fW,SV.den,SV.aA];cases h;split at h;rename_i X;cases h;simp only[aIy,beq_iff_eq] at X;obtain⟨rfl,rfl⟩:=X;simp[fW,SV.den,SV.aA];cases h;cases h
def aag:∀{l:qU}{m:Nat}{e:MapEntry},e∈fy m l->∃p∈l,e.key=p.1
 |[],m,e,h=>by simp[fy] at h
 |x::r,m,e,h=>by
  simp only[fy,aIK] at h;rcases h with rfl|h;exact⟨x,by simp,rfl⟩;obtain⟨p,X,R⟩:=aag h;exact⟨p,by simp[X],R⟩
def Dr(n:Nat)(X:aH):Prop:=∃l:bi,Y l=n/\X.take n=l.map λx=>.mk (.int I x) []
def Nq{ag:Bool}(M:ag=E->R=1){X:aH}(h:Dr R X):∃l:bi,Y l=R/\pg ag (X.take R)=fW ag l/\(X.take R).map (λc=>bB c.val)=l:=by
 obtain⟨l,Q,N⟩:=h;refine⟨l,Q, ?_,by rw[N];simp[Function.comp_def,bB]⟩;rw[N];cases ag;obtain⟨x,rfl⟩:=aI2.1 (Q.trans (M rfl));rfl;simp[pg,fW,Function.comp_def]
def ajo{n:Nat}{Q va:Bool}(N:Q=E->n=1){R:bi}(H:(R.take n).length=n):∀{rows:am}{m i:Nat},(∀X∈rows,Dr n X)->
  (mV n R rows=Z/\mD (R.take n) (fy m (rows.map (uw n Q va))) i=Z)\/∃X j,mV n R rows=U X/\X∈rows/\mD (R.take n) (fy m (rows.map (uw n Q va))) i=U (j,pg va (X.drop n))
 |[],m,i,_=>.inl ⟨rfl,rfl⟩
 |X::rows,m,i,h=>by
  obtain⟨l,G,F,C⟩:=Nq (ag:=Q) N (h X (by simp));simp only[mV,List.find?_cons,aIP,fy,mD,uw,F];rw[aae (λe=>G.trans (N e))];have B:mU n R X=decide (l=R.take n):=by simp only[mU,C]
  rw[B];by_cases L:l=R.take n;right;simp only[L,decide_true,if_true];exact⟨X,i,rfl,by simp,rfl⟩;simp only[L,decide_false,if_false];rcases ajo (rows:=rows) (m:=m+1) (i:=i+1) (va:=va) N H (λr A=>h r (by simp[A])) with M|⟨r,j,M,z,y⟩;exact .inl M;exact .inr ⟨r,j,M,by simp[z],y⟩
def ajp(O:aa)(V:ai){k e:TypeId}(F:P.underlying X=U (.map k e))(C:s5 P k R t)(B:dV P e v){l:qU}(A:W.heap[N]?=U (ow l)){L:bi}(y:Y L=R)
  (u:∀p∈l,∃M:bi,Y M=R/\p.1=fW t M)(H:Bool):
  ∃z,(zeroValue e).run P W=.ok z W/\(Instr.lookup X (.map (U N)) (fW t L) H).run P W=.ok (let r:=match mD L (fy 0 l) 0 with
   |U (_,Q)=>(Q,J)
   |none=>(z,E);if H then .tuple #[r.1,.bool r.2] else r.1) W:=by
 obtain⟨z,G,af⟩:=Jb (P:=P) (W:=W) (O:=O) (V:=V) B;refine⟨z,G, ?_⟩;have q:∀x∈fy 0 l,∃M:bi,Y M=R/\x.key=fW t M:=λx o=>by
  obtain⟨p,m,i⟩:=aag o;obtain⟨M,h,g⟩:=u p m;exact⟨M,h,i.trans g⟩
 obtain⟨f,d⟩:=C.2 L (fy 0 l) W y q;have c:=MapKept.run_getObj_map (P:=P) (w:=W) A;simp only[Instr.lookup,Sem.run_bind,dV.gt F,Result.andThen_ok,c,Sem.run_pure,f,d];cases hf:mD L (fy 0 l) 0 with
 |none=>simp[G]
 |some p=>obtain⟨j,Q⟩:=p;simp
structure F8(f:Ty)(sh:Sh)(row:aH):Prop where
 len:Y row=(bq f (.mr sh)).length
 int:∀(j:Nat)(c:RV)(k:IntKind),row[j]?=U c->(bq f (.mr sh))[j]?=U (.int k)->∃n,c=.mk (.int k n) []
 bool:∀(j:Nat)(c:RV),row[j]?=U c->(bq f (.mr sh))[j]?=U .bool->∃x,c=.mk (.bool x) []
def awm{R:Sh}(h:bu W f (.mr R) L):∀X∈L.rows,F8 f R X:=by
 cases h with
 |mr R B H G F A=>
  intro X C;obtain⟨i,Q⟩:=aJg C;exact⟨H i X Q,λj c k N M=>G i j X c k Q N M,λj c N M=>F i j X c Q N M⟩
def F9(R:av g A D f V O s a W){X:Sh}{r:RE}(h:r.oZ f s X=J):∀Q∈(r.rv O).rows,F8 f X Q:=by
 unfold RE.oZ at h;rcases aLm.1 h with h|h;exact awm (pV R (by simp) (of_decide_eq_true h));unfold RE.nil at h;split at h;intro Q N;simp[RE.rv] at N;cases h
def Jc{e:TypeId}{va:Bool}(Q:qW f X R t=J)(M:f e=U v):∃N:dS,bq f (.mr ⟨X,e,R,t,va⟩)=N++v.ae/\Y N=R/\∀c∈N,c=.int I:=by
 unfold qW at Q;split at Q;rename_i tk L;simp only[aIy,beq_iff_eq] at Q;refine⟨tk.ae,by simp[bq,L,M],Q.1.1,λc H=> ?_⟩;have:=aIN.1 Q.1.2 c H;unfold Zz at this;split at this;rfl;cases this;cases Q
def Jd{e:TypeId}{N:Bool}(G:qW f X R t=J)(F:f e=U v){Q:aH}(h:F8 f ⟨X,e,R,t,N⟩ Q):Dr R Q:=by
 obtain⟨w,M,C,B⟩:=Jc (va:=N) G F;have A:=h.len;rw[M,aIO,C] at A;refine⟨(Q.take R).map λc=>bB c.val,by simp;omega, ?_⟩;apply aI0;intro j;rw[aIE,aIE,aI6];by_cases L:j<R;rw[if_pos L];have H:j<Y Q:=by omega
 rw[aIA H];have z:(bq f (.mr ⟨X,e,R,t,N⟩))[j]?=U (.int I):=by
  rw[M,aIB (by omega),aIA (by omega)];congr 1;exact B _ (aJl _)
 obtain⟨x,y⟩:=h.int j _ I (aIA H) z;simp only[aII,y,RV.lZ,bB];rw[if_neg L];rfl
def aah{r:RE}{n:Nat}{x y z:IE}{R:aH}(L:mV n [x.den O,y.den O,z.den O] (r.rv O).rows=U R):∀{ae:dS}{j:Nat},ae.all lw=J->Y R=j+Y ae->
  (∀(i:Nat)(k:IntKind),ae[i]?=U (.int k)->∃m,R[j+i]?=U (.mk (.int k m) []))->(∀(i:Nat),ae[i]?=U .bool->∃m,R[j+i]?=U (.mk (.bool m) []))->
  SV.aA O V (o0 r n x y z j ae)=(R.drop j).map RV.val
 |[],j,_,Q,_,_=>by rw[aK6 (by simp at Q;omega)];rfl
 |.int k::ae,j,N,Q,H,G=>by
  obtain⟨m,X⟩:=H 0 k rfl;have F:=aah L (ae:=ae) (j:=j+1) (by simpa[lw] using N) (by simp at Q⊢;omega) (λi k h=>by have:=H (i+1) k (by simpa using h);rwa [show j+(i+1)=j+1+i by omega] at this) (λi h=>by have:=G (i+1) (by simpa using h);rwa [show j+(i+1)=j+1+i by omega] at this);have C:R.drop j=.mk (.int k m) []::R.drop (j+1):=by
   rw[aJU] at X;have M:=(aIz.1 X).1;rw[aJw M];congr 1;rw[aIA M] at X;simpa using X
  rw[aJU] at X;simp only[o0,SV.aA,SV.den,IE.den,L,F,C,aIP,RV.lZ,aIC,X,aJd,bB]
 |.bool::ae,j,N,Q,H,G=>by
  obtain⟨m,X⟩:=G 0 rfl;have F:=aah L (ae:=ae) (j:=j+1) (by simpa[lw] using N) (by simp at Q⊢;omega) (λi k h=>by have:=H (i+1) k (by simpa using h);rwa [show j+(i+1)=j+1+i by omega] at this) (λi h=>by have:=G (i+1) (by simpa using h);rwa [show j+(i+1)=j+1+i by omega] at this);have C:R.drop j=.mk (.bool m) []::R.drop (j+1):=by
   rw[aJU] at X;have M:=(aIz.1 X).1;rw[aJw M];congr 1;rw[aIA M] at X;simpa using X
  rw[aJU] at X;simp only[o0,SV.aA,SV.den,BE.den,L,F,C,aIP,RV.lZ,aIC,X,aJd,fG]
 |.aI _ _::ae,j,N,_,_,_=>by simp[lw] at N
def aai{r:RE}{n:Nat}{x y z:IE}(R:mV n [x.den O,y.den O,z.den O] (r.rv O).rows=Z):∀{ae:dS}{j:Nat},ae.all lw=J->SV.aA O V (o0 r n x y z j ae)=ae.map ph
 |[],j,_=>rfl
 |.int k::ae,j,X=>by
  simp only[o0,SV.aA,SV.den,IE.den,R,aIP,ph,aai R (ae:=ae) (j:=j+1) (by simpa[lw] using X)]
 |.bool::ae,j,X=>by
  simp only[o0,SV.aA,SV.den,BE.den,R,aIP,ph,aai R (ae:=ae) (j:=j+1) (by simpa[lw] using X)]
 |.aI _ _::ae,j,X=>by simp[lw] at X
def Sx{r:RE}{n:Nat}{x y z:IE}:∀{ae:dS}{j:Nat},(o0 r n x y z j ae).length=Y ae
 |[],j=>rfl
 |.int _::ae,j=>by simp[o0,Sx (ae:=ae)]
 |.bool::ae,j=>by simp[o0,Sx (ae:=ae)]
 |.aI _ _::ae,j=>by simp[o0,Sx (ae:=ae)]
def aaj(h:dV P X v)(R:(zeroValue X).run P W=.ok c W):c=if v.d.isAgg then .agg (v.ae.map ph).toArray else(v.ae.map ph).headD undef:=by
 obtain⟨i,Q,-,M,N,L⟩:=h.I7;have H:c=M:=by simp[zeroValue,typeInfo,Q,N] at R;exact R.symm
 subst H;have G:=h.ai2 i c Q N;rw[<-G,<-L];cases c<;>simp[Sn,Value.cells]
def zJ(h:dV P X v)(Q:v.d.isAgg=E):Y v.ae=1:=by
 obtain⟨i,N,H,z,M,L⟩:=h.I7;have:=h.ai2 i z N M;rw[Q] at this;have R:=congrArg Y L;simp only[aJn] at R;rw[<-R];cases z<;>simp[Sn] at this<;>rfl
def Je:∀{R:ah}{X:bi},o7 R=U X->BD (SV.aA O V R)=(X.zip (kO R)).map (λp=>(.int I p.1,p.2.den O V))/\Y X=(kO R).length
 |[],X,h=>by simp[o7] at h;subst h;exact⟨rfl,rfl⟩
 |[v],X,h=>by unfold o7 at h;split at h<;>simp_all
 |u::v::r,X,h=>by
  unfold o7 at h;split at h;rename_i Q;cases Q;rename_i k H G Q;cases Q;cases N:o7 r with
  |none=>rw[N] at h;cases h
  |some F=>
   rw[N] at h;simp only[aII,aID] at h;subst h;obtain⟨M,L⟩:=Je N;exact⟨by simp only[SV.aA,SV.den,IE.den,BD,M,kO,aKz,aIP],by simp[kO,L]⟩
  cases h
def ajq{x:Int}:∀{ks:bi}{vs:ah}{m i:Nat},(mD [x] (fy m ((ks.zip vs).map λp=>(.int I p.1,p.2.den O V))) i).map (·.2)=(dL x ks vs).map (SV.den O V)
 |[],vs,m,i=>by simp[fy,mD,dL]
 |_::_,[],m,i=>by simp[fy,mD,dL]
 |k::ks,v::vs,m,i=>by
  simp only[aKz,aIP,fy,mD,wa,aJH,and_true,dL];by_cases h:x=k;subst h;simp;rw[if_neg (λe=>h e.symm),if_neg h];exact ajq
def Ds{r:RE}{X:Bool}:kA ul (SV.cL O V [.ref r,.int I (.c (R:Int)),.bool (.c t),.bool (.c X)])=ow ((r.rv O).rows.map (uw R t X)):=by
 simp[kA,ul,sL,SV.cL,SV.gr,SV.den,IE.den,BE.den]
def Dt:kA sL (SV.cL O V w)=ow (BD (SV.aA O V w)):=by
 simp only[kA,if_true,ai0]
def awn(R:av g A D f V O s a W)(a4:iu P f)(hg:ek B O){ix:Operand}(ho:F.op=.lookup X r ix t)(hk:(s.ev B r).dP=E)(b3:(s.ev B ix).dP=E)
  (h:(bO f B s (.lookup X r ix t)).gives O M):(execOp a.eval F).run P W=.ok (.value (M.den O V)) W:=by
 have he:=cu R hg r hk;have b4:=cu R hg ix b3;simp only[execOp,ho,Sem.run_bind,he,b4];simp only[bO] at h;split at h;rename_i k e n ag ae q i ht hx;rw[hx];have hd:P.underlying X=U (.map k e):=(a4 _ _ ht).desc;have hK:s5 P k n ag:=(a4 _ _ ht).key k e n ag rfl;unfold RD at h;split at h;rename_i N H xb xc bt cs g1 g2 g3;have b:=a4 _ _ g1;split at h;exact h.elim;rename_i a1;have a1:qW f k n ag=true:=by simpa using a1
 obtain⟨b5,a9⟩:=aaf (O:=O) (V:=V) g2;have al:=R.mem.box i bt cs g3;simp only[SV.den,b5];split at h;rename_i an;simp only[beq_iff_eq] at an;subst an;split at h;rename_i Q nk ka va;split at h;rename_i bk;simp only[aIy,beq_iff_eq] at bk;obtain⟨⟨⟨⟨⟨c1,c2⟩,c3⟩,c4⟩,c5⟩,-⟩:=bk;subst c2 c3 c4;rw[Ds] at al;have bl:=F9 R c1;have br:∀G∈(Q.rv O).rows,Dr n G:=λG hr=>Jd a1 g1 (bl G hr)
 obtain⟨z,hz,bb⟩:=ajp O V hd hK b al a9 (λp hp=>by
  obtain⟨G,hr,rfl⟩:=aI3.1 hp;obtain⟨l,q1,q2,-⟩:=Nq hK.1 (br G hr);exact⟨l,q1,q2⟩) t
 rw[bb];simp only[RC,PR.gives] at h;subst h;have a3:N.d.isAgg=E->(o0 Q n H xb xc n N.ae).length=1:=λha=>by rw[Sx];exact zJ b ha
 rcases ajo (m:=0) (i:=0) (va:=N.d.isAgg) hK.1 a9 br with⟨f1,f2⟩|⟨G,j,f1,f2,f3⟩;have hv:(qV N.d.isAgg (o0 Q n H xb xc n N.ae)).den O V=z:=by
  rw[BJ a3,aai f1 c5];exact(aaj b hz).symm
 simp only[f2];cases t;simp only[aIU,if_false,hv];rfl;simp only[if_true,SV.den,SV.aA,hv,BE.den,f1];rfl;obtain⟨kc,r1,r2,r3⟩:=Jc (va:=N.d.isAgg) a1 g1;have bd:=bl G f2;have b6:Y G=n+Y N.ae:=by rw[bd.len,r1,aIO,r2]
 have bs:∀(m:Nat)(ct:CT),N.ae[m]?=U ct->(bq f (.mr ⟨k,e,n,_,N.d.isAgg⟩))[n+m]?=U ct:=λm ct hm=>by
  rw[r1,aIH (by omega),r2,show n+m-n=m by omega];exact hm
 have bx:∀(m:Nat)(ct:CT),N.ae[m]?=U ct->∃c,G[n+m]?=U c:=λm ct hm=>by
  have:m<Y N.ae:=(aIz.1 hm).1;exact⟨G[n+m]'(by omega),aIA _⟩
 have b7:=aah (V:=V) f1 (ae:=N.ae) (j:=n) c5 b6 (λm kk hm=>by
  obtain⟨c,hc⟩:=bx m _ hm;obtain⟨x',bf⟩:=bd.int (n+m) c kk hc (bs m _ hm);exact⟨x',by rw[hc,bf]⟩) (λm hm=>by
  obtain⟨c,hc⟩:=bx m _ hm;obtain⟨x',bf⟩:=bd.bool (n+m) c hc (bs m _ hm);exact⟨x',by rw[hc,bf]⟩)
 have hv:(qV N.d.isAgg (o0 Q n H xb xc n N.ae)).den O V=pg N.d.isAgg (G.drop n):=by
  rw[BJ a3,b7,pg];cases b8:N.d.isAgg;have h1:=zJ b b8;obtain⟨c,hc⟩:=aI2.1 (show(G.drop n).length=1 by simp;omega);rw[hc];rfl;rfl
 simp only[f3];cases t;simp only[aIU,if_false,hv];rfl;simp only[if_true,SV.den,SV.aA,hv,BE.den,f1];rfl;exact h.elim;exact h.elim;split at h;rename_i an;simp only[beq_iff_eq] at an;subst an;split at h;rename_i b0;simp only[aIy,beq_iff_eq,aIR] at b0;obtain⟨rfl,rfl⟩:=b0;rw[Dt] at al;split at h;rename_i v0 y L;simp only[RC,PR.gives] at h;subst h;unfold aiG at L;split at L;rename_i ks ca;obtain⟨p1,p2⟩:=Je (O:=O) (V:=V) ca;rw[p1] at al;obtain⟨z,hz,bb⟩:=ajp O V hd hK b al a9 (λp hp=>by
  obtain⟨u,C,rfl⟩:=aI3.1 hp;exact⟨[u.1],rfl,rfl⟩) t
 rw[bb];have af:=ajq (O:=O) (V:=V) (x:=H.den O) (ks:=ks) (vs:=kO cs) (m:=0) (i:=0);have b1:(∀u,dL (H.den O) ks (kO cs)=U u->v0.den O V=u.den O V/\y.den O=J)/\(dL (H.den O) ks (kO cs)=Z->v0.den O V=z/\y.den O=E):=by
  split at L;rename_i x0;simp only[IE.den] at*;split at L;rename_i u C;cases L;exact⟨λu' a0=>by rw[C] at a0;cases a0;exact⟨rfl,rfl⟩,λhn=>by rw[C] at hn;cases hn⟩;rename_i C;cases L;refine⟨λu' a0=>(by rw[C] at a0;cases a0),λ_=>⟨?_,rfl⟩⟩;rw[BJ (λha=>by simp[di];exact zJ b ha),ajm];exact(aaj b hz).symm;rename_i ch;split at L;rename_i cc;cases bg:Bl H ks ((kO cs).map SV.cells) 0 N.ae with
  |none=>rw[bg] at L;cases L
  |some l=>
   rw[bg] at L;simp only[aII,aID,aKj] at L;obtain⟨rfl,rfl⟩:=L;obtain⟨s0,s1,s2⟩:=Ss (O:=O) (V:=V) bg;rw[Sr] at s1 s2;have a3:N.d.isAgg=E->Y l=1:=λha=>by rw[s0];exact zJ b ha
   rw[BJ a3,St p2];refine⟨λu C=> ?_,λC=> ?_⟩;have b2:=aIN.1 cc u (I9 C);have cf:Y u.cells=0+Y N.ae:=by
    simp only[zp,aIy,beq_iff_eq] at b2;omega
   rw[s1 u.cells (by rw[C];rfl) cf,C,Su (uy R) b2];exact⟨rfl,rfl⟩;rw[s2 (by rw[C];rfl),C];exact⟨(aaj b hz).symm,rfl⟩
  cases L
 have hL:[H.den O,xb.den O,xc.den O].take 1=[H.den O]:=rfl;rw[hL] at*;cases hp:dL (H.den O) ks (kO cs) with
 |some u=>
  rw[hp] at af;obtain⟨q1,q2⟩:=b1.1 u hp;cases hf:mD [H.den O] (fy 0 ((ks.zip (kO cs)).map λp=>(.int I p.1,p.2.den O V))) 0 with
  |none=>rw[hf] at af;cases af
  |some jv=>
   obtain⟨j,w⟩:=jv;rw[hf] at af;simp only[aII,aID] at af;subst af;cases t;simp only[aIU,if_false,q1];rfl;simp only[if_true,SV.den,SV.aA,q1,q2];rfl
 |none=>
  rw[hp] at af;obtain⟨q1,q2⟩:=b1.2 hp;cases hf:mD [H.den O] (fy 0 ((ks.zip (kO cs)).map λp=>(.int I p.1,p.2.den O V))) 0 with
  |some jv=>rw[hf] at af;cases af
  |none=>
   cases t;simp only[aIU,if_false,q1];rfl;simp only[if_true,SV.den,SV.aA,q1,q2];rfl
 cases L;exact h.elim;exact h.elim;exact h.elim;exact h.elim;exact h.elim
end
section
variable{j:ai}{u:World}{D:bQ}{P:Program}{g:Ty}{B:lu}{V:ai}{O:aa}{s:S}{a:Act}{W:World}
def ajr(R:av j u D g V O s a W)(G:iu P g)(N:ek B O)(o:Oper)(Q:∀x∈o.op.operands.toList,(s.ev B x).dP=E)
  (h:(bO g B s o.op).gives O M):(execOp a.eval o).run P W=.ok (.value (M.den O V)) W:=by
 cases X:o.op with
 |move x=>
  rw[X] at h Q;have H:=cu R N x (Q x (by simp[Op.operands]));simp only[bO,PR.gives] at h;simp[execOp,X,H,h]
 |assign x=>
  rw[X] at h Q;have H:=cu R N x (Q x (by simp[Op.operands]));simp only[bO,PR.gives] at h;simp[execOp,X,H,h]
 |pick c x y=>
  rw[X] at h Q;have C:=cu R N c (Q c (by simp[Op.operands]));have L:=cu R N x (Q x (by simp[Op.operands]));have hy:=cu R N y (Q y (by simp[Op.operands]));simp only[bO] at h;split at h;rename_i an;cases h;rw[an] at C;simp[execOp,X,C,L,SV.den,BE.den,asBool];rename_i an;cases h;rw[an] at C;simp[execOp,X,C,hy,SV.den,BE.den,asBool];exact h.elim
 |load t x=>rw[X] at h Q;exact av7 R G N X (Q x (by simp[Op.operands])) h
 |fieldAddr t x f=>rw[X] at h Q;exact av8 R G N X (Q x (by simp[Op.operands])) h
 |field t x f=>rw[X] at h Q;exact av9 R G N X (Q x (by simp[Op.operands])) h
 |indexAddr t x y=>rw[X] at h Q;exact awa R G N X (Q x (by simp[Op.operands])) (Q y (by simp[Op.operands])) h
 |index t x y=>rw[X] at h Q;exact awb R G N X (Q x (by simp[Op.operands])) (Q y (by simp[Op.operands])) h
 |binOp op t x y t2=>rw[X] at h Q;exact awh R G N X (Q x (by simp[Op.operands])) (Q y (by simp[Op.operands])) h
 |unOp op t x=>
  rw[X] at h Q;have H:=cu R N x (Q x (by simp[Op.operands]));simp only[bO] at h;split at h;rename_i b L;cases h;simp[execOp,X,H,L,SV.den,Op.unary,Nn];rename_i k e L;cases h;simp[execOp,X,H,L,SV.den,Op.unary,Op.intArith,Nl,au,IE.den];exact h.elim
 |convert t1 t2 x=>
  rw[X] at h Q;have H:=cu R N x (Q x (by simp[Op.operands]));simp only[bO] at h;split at h;rename_i k1 q1 k2 q2 k n z h2 L;cases h;obtain⟨d1,ag,-,a0,-⟩:=(G _ _ z).desc;obtain⟨d2,al,-,a1,-⟩:=(G _ _ h2).desc;rw[a0 _ rfl] at ag;rw[a1 _ rfl] at al;simp[execOp,X,H,L,SV.den,convert,dV.gt ag,dV.gt al,Conv.intToInt,IE.den];rename_i k1 q1 k2 q2 k n hn z h2 L;cases h;obtain⟨d1,ag,-,a0,-⟩:=(G _ _ z).desc;obtain⟨d2,al,-,a1,-⟩:=(G _ _ h2).desc;rw[a0 _ rfl] at ag;rw[a1 _ rfl] at al;simp[execOp,X,H,L,SV.den,convert,dV.gt ag,dV.gt al,Conv.intToInt,IE.den];exact h.elim
 |makeInterface t x=>
  rw[X] at h Q;have H:=cu R N x (Q x (by simp[Op.operands]));simp only[bO] at h;split at h;exact h.elim;rename_i ti a9 ht;cases h;have hd:=(G _ _ ht).desc;have af:∀d,P.underlying t=U d->(∀m,d≠ .interface m)->(Instr.makeInterface t (a.eval x)).run P W=.ok (.iface t (a.eval x)) W:=by
   intro d z h2;simp only[Instr.makeInterface,Sem.run_bind,dV.gt z,Result.andThen_ok];cases d<;>first|rfl|exact absurd rfl (h2 _)
  have:(Instr.makeInterface t (a.eval x)).run P W=.ok (.iface t (a.eval x)) W:=by
   obtain⟨d,ae,q⟩:=ti;cases d with
   |one=>obtain⟨d,z,⟨h2,-⟩,-⟩:=hd;exact af d z (λm A=>by rw[A] at h2;exact h2)
   |fh=>exact absurd rfl (a9 _ _)
   |str=>exact af _ hd (λm A=>by cases A)
   |slice e=>exact af _ hd (λm A=>by cases A)
   |arr n e=>exact af _ hd (λm A=>by cases A)
   |struct fs=>obtain⟨F,z,-⟩:=hd;exact af _ z (λm A=>by cases A)
   |map k e=>exact af _ hd (λm A=>by cases A)
  rw[H] at this;simp[execOp,X,H,this,SV.den];exact h.elim
 |makeFunc fn first a4=>
  rw[X] at h Q;simp only[bO] at h;split at h;rename_i f hf;cases h;have bb:first= #[]:=by apply aJu;simpa using hf
  subst bb;have bd:a4.map a.eval=(SV.aA O V (a4.toList.map (s.ev B))).toArray:=by
   apply aJu;simp only[aJy,nQ,aJo];exact aIY λx L=>cu R N x (Q x (by simp[Op.operands];simpa using L))
  simp[execOp,X,Instr.makeFunc,SV.den,bd];exact h.elim
 |extract x i=>
  rw[X] at h Q;have H:=cu R N x (Q x (by simp[Op.operands]));simp only[bO] at h;split at h;rename_i l L;split at h;rename_i y hy;simp only[PR.gives] at h;subst h;have:(SV.aA O V l).toArray[i]?=U (M.den O V):=by simp[rk,hy]
  simp[execOp,X,H,L,SV.den,Instr.extract,this,-aLc];exact h.elim;exact h.elim
 |nilCheck x=>
  rw[X] at h Q;have H:=cu R N x (Q x (by simp[Op.operands]));simp only[bO] at h;split at h;rename_i i bf L;cases h;simp[execOp,X,H,L,SV.den];rename_i r w i bf L;cases h;simp[execOp,X,H,L,SV.den];rename_i f l L;cases h;simp[execOp,X,H,L,SV.den];exact h.elim
 |slice t x lo hi mx=>
  rw[X] at h Q;exact awk R G N X (Q x (by simp[Op.operands])) (λy hy=>Q y (by subst hy;simp[Op.operands])) h
 |build t parts=>
  rw[X] at h Q;exact awj R G N X (λp hp=>Q p.2 (by simp[Op.operands];exact⟨p.1,by simpa using hp⟩)) h
 |lookup t x ix ok=>
  rw[X] at h Q;exact awn R G N X (Q x (by simp[Op.operands])) (Q ix (by simp[Op.operands])) h
 |call c=>
  rw[X] at h Q;have a3:∀x∈c.args.toList,(s.ev B x).dP=false:=λx L=>Q x (by simp[Op.operands,Call.operands];exact .inr (by simpa using L))
  cases C:c.callee with
  |builtin b=>
   cases b with
   |len=>exact awl R G N X C a3 h
   |min=>exact ajn R N X (.inl C) a3 h
   |max=>exact ajn R N X (.inr C) a3 h
   |_=>simp only[bO,C,PR.gives] at h
  |value f=>simp only[bO,C,PR.gives] at h
  |invoke r m=>simp only[bO,C,PR.gives] at h
 |_=>rw[X] at h;simp only[bO,PR.gives] at h
end
section
variable{p:ai}{q:World}{D:bQ}{P:Program}{f:Ty}{B:lu}{V:ai}{O:aa}{s:S}{a:Act}{W:World}
def zK{o:Obj}(h:Q.heap[R]?=U o):R<Q.heap.size:=(aIX.1 h).1
def dG.world{X:sK}{R:zI}{W':World}(h:dG q D X y R Q)(N:∀(b:Nat)(o:Obj),Q.heap[b]?=U o->(∀L t H,o≠ .cells L t H)->W'.heap[b]?=U o):dG q D X y R W':=
 ⟨h.len,h.rm,λn l r G F C=>let⟨a,b,c⟩:=h.dB n l r G F C;⟨a,N _ _ b (λ_ _ _ h=>by cases h),c⟩,h.inj,let⟨B,a,A,b,c⟩:=h.l9;⟨B,a,A,b,λd M=>⟨N _ _ (c d M).1 (λ_ _ _ h=>by cases h),(c d M).2⟩⟩⟩
def Jf:Obj->Bool
 |.loop _|.deferred _=>J
 |_=>E
def ajs{o:Obj}(h:Jf o=J):∀X t R,o≠ .cells X t R:=λX t R e=>by subst e;cases h
def ajt{o:Obj}(h:Jf o=J):∀t l,o≠kA t l:=by
 intro t l e;subst e;unfold kA at h;split at h;cases h;split at h;split at h<;>cases h;split at h;split at h<;>cases h;cases h
def dG.awo{X:sK}{R:zI}{N:World}(h:dG q D X y R Q)(M:∀(b:Nat)(o:Obj),Q.heap[b]?=U o->Jf o=J->N.heap[b]?=U o):dG q D X y R N:=
 ⟨h.len,h.rm,λn l r H G F=>let⟨a,b,c⟩:=h.dB n l r H G F;⟨a,M _ _ b rfl,c⟩,h.inj,let⟨C,a,B,b,c⟩:=h.l9;⟨C,a,B,b,λd L=>⟨M _ _ (c d L).1 rfl,(c d L).2⟩⟩⟩
def dG.below{X:sK}{R:zI}{N:World}(h:dG q D X y R Q)(L:Below Q.heap.size Q N):dG q D X y R N:=
 h.world λb o M _=>(L.block b (zK M)).trans M
def dG.cells{M:sK}{L:zI}{H:World}(h:dG q D M y L Q){G:kN}{F:Nat×Nat}(C:Q.heap[R]?=U (.cells G X F))(B:∀b,b≠R->b<Q.heap.size->H.heap[b]?=Q.heap[b]?):dG q D M y L H:=
 h.world λb o N A=>(B b (λe=>by subst e;rw[C] at N;cases N;exact A _ _ _ rfl) (zK N)).trans N
def bu.Jg{C:World}(h:bu Q f z L)(B:∀b,db f z L b->C.heap[b]?=Q.heap[b]?)(hs:Q.heap.size<=C.heap.size):bu C f z L:=by
 induction h with
 |sl e A N q M y x w l g ho u=>
  refine bu.sl e A N q M y x (λi H R=> ?_) l g (λi j H c X p R G o=>u i j H c X p R G o (λb t=>B b (db.deep e _ _ i j H c X p b R G o t)));obtain⟨d,b,n,rfl,⟨jD,t0,af,q2⟩,q3⟩:=w i H R;have ag:0<N:=by have:=(aIz.1 R).1;omega
  obtain⟨r,rfl⟩:∃r,N=r+1:=⟨N-1,by omega⟩;have F:=B b (db.here e ⟨b,n,Z⟩ r q M);refine⟨d,b,n,rfl,⟨jD,t0,af,F.trans q2⟩,λj c G=> ?_⟩;have m:=q3 j c G;simp only[World.cell?,F] at m⊢;exact m
 |str s=>exact bu.str s
 |aI v hv=>exact bu.aI v hv
 |own e L h hn u=>exact bu.own e L (u λb t=>B b (db.own e L b t)) hn
 |dead L h=>exact bu.dead L h
 |mr sh M y x w F=>exact bu.mr sh M y x w F
def bu.lt(h:bu Q f z L)(N:db f z L R):R<Q.heap.size:=by
 induction h generalizing R with
 |sl e A r q M p o G n m g H=>
  cases N with
  |here e a l c M=>
   have F:0<Y M:=by omega
   obtain⟨-,R,d,C,⟨_,_,_,B⟩,-⟩:=G 0 _ (aIA F);cases C;exact zK B
  |deep e v M i j y c X z R x w u t=>exact H i j y c X z x w u t
 |str s=>cases N
 |aI v hv=>cases N
 |own e L h hn H=>cases N with
  |own e L R N=>exact H N
 |dead L h=>cases N
 |mr sh M=>cases N
def bu.grow{G:World}(h:bu Q f z L)(y:Below Q.heap.size Q G):bu G f z L:=by
 induction h with
 |sl e A x w X R N M u t ho H=>
  refine bu.sl e A x w X R N (λi r q=> ?_) u t H;obtain⟨p,b,o,rfl,⟨jD,n,m,F⟩,q3⟩:=M i r q;have C:=y.block b (zK F);refine⟨p,b,o,rfl,⟨jD,n,m,C.trans F⟩,λj c l=> ?_⟩;have B:=q3 j c l;simp only[World.cell?,C] at B⊢;exact B
 |str s=>exact bu.str s
 |aI v g=>exact bu.aI v g
 |own e L h d H=>exact bu.own e L H d
 |dead L h=>exact bu.dead L h
 |mr sh X R N M h4=>exact bu.mr sh X R N M h4
def jB.lt{Q:bc}(X:jB p q V O x f Q W)(h:aL x R=J):ad V R<W.heap.size:=by
 unfold aL at h;obtain⟨⟨t,N⟩,M⟩:=aIS.1 h;exact(aIX.1 (X.box R t N M)).1
def jB.below{N:bc}(R:jB p q V O x f N W)(X:Below W.heap.size W Q):jB p q V O x f N Q:=by
 refine⟨R.base.call X,R.own,R.inj,λi t M h=> ?_,λk e L H G=> ?_⟩;rw[X.block _ (R.lt (by simp[aL,h]))];exact R.box i t M h;obtain⟨F,C⟩:=R.ref k e L H G;exact⟨F.grow X,C⟩
def xO.lt{Q:bc}(h:xO p q V O x f Q W R X L N):N<W.heap.size:=by
 obtain⟨H,G,F,-,M,-⟩:=h.mem;exact(aIX.1 M).1
def xO.world{Q:bc}{W':World}(h:xO p q V O x f Q W R X L N)(M:W'.heap[N]?=W.heap[N]?):xO p q V O x f Q W' R X L N:=by
 obtain⟨H,G,F,C,B,A⟩:=h.mem;exact⟨h.own,⟨H,G,F,C,M.trans B,A⟩,h.box,h.alone,h.inner⟩
def av.below{Q:World}(R:av p q D f V O s a W)(X:Below W.heap.size W Q):av p q D f V O s a Q:=
 ⟨R.mem.below X,R.fH,R.ei,R.eb,R.er,R.cM.below X,R.size,R.tmps,λk e N b M L H=>let t:=R.fl k e N b M L H;t.world (X.block b t.lt)⟩
def av.put(R:av p q D f V O s a W)(X:bR)(v:SV):av p q D f V O (s.put X v) (a.put X (v.den O V)) W:=by
 cases X with
 |none=>exact R
 |some d=>
  refine⟨R.mem,R.fH,R.ei,R.eb,R.er,R.cM,by simp[S.put,um,Act.put,R.size],λt M h=> ?_,R.fl⟩;simp only[S.put,um,aJs] at h;simp only[Act.put];split at h;rename_i Q;subst Q;split at h;rename_i L;cases h;right;have:d<a.tmps.size:=by rw[R.size];exact L
  simp[this];cases h;rename_i Q;rcases R.tmps t M h with N|N;exact .inl N;right;rw[aKd Q];exact N
def av.xQ(R:av p q D f V O s a W)(X:s.bd=J):SV.da (Y O.i) (Y O.b) (Y O.r) (aL s.boxes) s.tmps=J/\SV.o9 (Y O.i) (Y O.b) (Y O.r) (aL s.boxes) s.boxes=true:=by
 simp only[S.bd,aIy] at X;rw[R.ei,R.eb,R.er];exact X
structure mb(bx:bw)(O O':aa)(V V':ai):Prop where
 agree:gT O O' (Y O.i) (Y O.b) (Y O.r)
 li:Y O.i<=Y O'.i
 lb:Y O.b<=Y O'.b
 lr:Y O.r<=Y O'.r
 ad:∀k,aL bx k=J->ad V' k=ad V k
def mb.refl(X:bw)(O:aa)(V:ai):mb X O O V V:=⟨gT.refl _ _ _ _,aIG _,aIG _,aIG _,λ_ _=>rfl⟩
def mb.trans{X R:bw}{O Q N:aa}{V M L:ai}(h:mb X O Q V M)(k:mb R Q N M L)(G:∀i,aL X i=J->aL R i=J):mb X O N V L:=
 ⟨h.agree.trans (k.agree.mono h.li h.lb h.lr),aJL h.li k.li,aJL h.lb k.lb,aJL h.lr k.lr,λj H=>(k.ad j (G j H)).trans (h.ad j H)⟩
def awp(O:aa)(x:XV):Y O.i<=(O.add x).i.length/\Y O.b<=(O.add x).b.length/\Y O.r<=(O.add x).r.length:=by cases x<;>simp[aa.add]
def Sy:∀(X:aV)(O:aa),Y O.i<=(O.ext X).i.length/\Y O.b<=(O.ext X).b.length/\Y O.r<=(O.ext X).r.length
 |[],O=>by simp[aa.ext]
 |x::X,O=>by
  have R:=awp O x;have Q:=Sy X (O.add x);simp only[aa.ext];omega
def BK(R:bw)(O:aa)(X:aV)(V:ai):mb R O (O.ext X) V V:=by
 have h:=Sy X O;exact⟨Dp X O,h.1,h.2.1,h.2.2,λ_ _=>rfl⟩
def mb.den{X:aa}{R:ai}(h:mb x k X y R)(Q:M.bd (Y k.i) (Y k.b) (Y k.r) (aL x)=J):M.den X R=M.den k y:=SV.dg h.agree h.ad M Q
def mb.aA{X:aa}{R:ai}(h:mb x k X y R)(Q:SV.da (Y k.i) (Y k.b) (Y k.r) (aL x) w=J):SV.aA X R w=SV.aA k y w:=SV.I6 h.agree h.ad w Q
def mb.cL{X:aa}{R:ai}(h:mb x k X y R)(Q:SV.da (Y k.i) (Y k.b) (Y k.r) (aL x) w=J):SV.cL X R w=SV.cL k y w:=Nk h.agree h.ad w Q
def ek.ext{R:aa}{M:ai}(h:ek B k)(Q:mb x k R y M):ek B R:=by
 intro X L;obtain⟨N,H⟩:=h X L;exact⟨aKy N Q.lr,by rw[Q.agree.r _ N];exact H⟩
def BL{V:ai}{n x k:Nat}(h:k≠n):ad (V.set n x) k=ad V k:=by simp[ad,aJf (Ne.symm h)]
def BM(h:R<Y y):ad (y.set R N) R=N:=by simp[ad,h]
def rr(h:ou x R X=J):fj x R=true:=by simp only[ou,aIy] at h;exact h.1
def Jh(h:ou x R X=J):oY X=false:=by simp only[ou,aIy,aIR] at h;exact h.2
def lC(h:fj x R=J):aL x R=E/\R<Y x:=by
 unfold fj at h;split at h;rename_i X;exact⟨by simp[aL,cw,X],(aIz.1 X).1⟩;cases h
def aju(h:fj x R=J)(O:aa)(V:ai)(X:Nat):mb x O O V (V.set R X):=
 ⟨gT.refl _ _ _ _,aIG _,aIG _,aIG _,λk Q=>BL (λe=>by subst e;rw[(lC h).1] at Q;cases Q)⟩
def xR{X:Option (TypeId×ah)}(h:N≠R):bU (x.set R X) N=bU x N:=by simp[cw,aJf (Ne.symm h)]
def Ga{X:TypeId×ah}(h:R<Y x):bU (x.set R (U X)) R=U X:=by simp[cw,h]
def nT{X:TypeId×ah}(h:R<Y x):aL (x.set R (U X)) N=J<->N=R\/aL x N=true:=by
 by_cases Q:N=R;subst Q;simp[aL,Ga h];simp[aL,xR Q,Q]
def av.alloc(R:av p q D f V O s a W){n:Nat}(w:fj s.boxes n=J)(t:TypeId)(F:ah)(G:s.dZ F=J):
  av p q D f (V.set n W.heap.size) O (s.ck n t F) a (W.alloc (kA t (SV.cL O V F))):=by
 simp only[S.dZ,aIy] at G;obtain⟨C,G⟩:=G;obtain⟨u,r⟩:=R.xQ C;rw[<-R.ei,<-R.eb,<-R.er] at G;obtain⟨o,M⟩:=lC w;have z:=aju w O V W.heap.size;have B:Below W.heap.size W (W.alloc (kA t (SV.cL O V F))):=(Below.refl _ _).alloc (aIG _) _;have H:n<Y V:=by rw[R.fH];exact M
 have L:∀i,aL s.boxes i=J->i≠n:=λi Q e=>by subst e;rw[o] at Q;cases Q
 refine⟨⟨R.mem.base.alloc _, ?_, ?_, ?_, ?_⟩,by simp[S.ck,R.fH],R.ei,R.eb,R.er,R.cM.below B,R.size, ?_,λk e y b X N A=> ?_⟩;intro i Q;rcases(nT M).1 Q with rfl|h;rw[BM H];exact .inl R.mem.base.size;rw[BL (L i h)];exact R.mem.own i h;intro i j Q v h;rcases(nT M).1 Q with rfl|X;rcases(nT M).1 v with rfl|N;rfl;rw[BM H,BL (L j N)] at h;have:=R.mem.lt N;omega;rcases(nT M).1 v with rfl|N;rw[BM H,BL (L i X)] at h;have:=R.mem.lt X;omega;rw[BL (L i X),BL (L j N)] at h;exact R.mem.inj i j X N h;intro i x m h;by_cases X:i=n;subst X;rw[S.ck,Ga M] at h;simp only[aID,aKj] at h;obtain⟨rfl,rfl⟩:=h;rw[BM H,z.cL G];exact World.alloc_heap_new W _;rw[S.ck,xR X] at h;rw[BL X,B.block _ (R.mem.lt (by simp[aL,h])),z.cL (rp r h)];exact R.mem.box i x m h;intro k e y X N;obtain⟨A,l⟩:=R.mem.ref k e y X N;refine⟨A.grow B,λb C i Q=> ?_⟩;rcases(nT M).1 Q with rfl|h;rw[BM H];have:=A.lt C;omega;rw[BL (L i h)];exact l b C i h;intro x g h;rcases R.tmps x g h with X|X;exact .inl X;right;rw[z.den (ux u h)];exact X;have t:=R.fl k e y b X N A;obtain⟨d,c,af,q1,q2,q3⟩:=t.mem;refine⟨t.own,⟨d,c,af,q1,(B.block b t.lt).trans q2,q3⟩,λi Q=> ?_,t.alone,t.inner⟩;rcases(nT M).1 Q with rfl|h;rw[BM H];have:=t.lt;omega;rw[BL (L i h)];exact t.box i h
def xS(l:fe)(X:Nat):fe->fe
 |[]=>l
 |v::r=>xS (l.set X v) (X+1) r
def aak:∀(R l:fe)(X:Nat),(xS l X R).length=Y l
 |[],l,X=>rfl
 |v::R,l,X=>by rw[xS,aak];simp
def ajv:∀(X l:ah)(R:Nat),SV.aA O V (j5 l R X)=xS (SV.aA O V l) R (SV.aA O V X)
 |[],l,R=>rfl
 |v::X,l,R=>by
  rw[j5,ajv X,SV.aA,xS];congr 1;simp[nQ]
def ajw(h:io c=J):c.oneCell'=true:=by cases c<;>simp_all[io,Value.oneCell']
def aal(b X:Nat)(t:TypeId):∀(N:fe)(i:Nat)(R:kN)(W:World),W.heap[b]?=U (.cells R t (0,0))->X+i+Y N<=R.size->(∀v∈N,io v=J)->
  ∃Q,(storeCells ⟨b,X,Z⟩ N i).run P W=.ok () Q/\Q.heap[b]?=U (.cells (xS R.toList (X+i) N).toArray t (0,0))/\(∀k,k≠b->Q.heap[k]?=W.heap[k]?)/\Q.heap.size=W.heap.size/\Q.os=W.os/\Q.tape=W.tape/\Q.output=W.output
 |[],i,R,W,M,_,_=>⟨W,rfl,by simpa[xS] using M,λ_ _=>rfl,rfl,rfl,rfl,rfl⟩
 |v::N,i,R,W,M,G,L=>by
  simp only[aJm] at G;have F:X+i<R.size:=by omega
  have C:W.cell? ⟨b,X+i,Z⟩=U R[X+i]:=by simp[World.cell?,M,F]
  have B:W.frozen? ⟨b,X+i,Z⟩=false:=by simp[World.frozen?,M]
  have A:(store ((⟨b,X,Z⟩:Addr).add i) v).run P W=.ok () (W.setCell ⟨b,X+i,Z⟩ v):=by
   rw[wb,run_store P W _ v _ (ajw (L v (by simp))),C];simp[B]
  have z:(W.setCell ⟨b,X+i,Z⟩ v).heap[b]?=U (.cells (R.setIfInBounds (X+i) v) t (0,0)):=by
   simp[World.setCell,aJ9,M]
  obtain⟨Q,y,w,u,r,q,p,o⟩:=aal b X t N (i+1) (R.setIfInBounds (X+i) v) (W.setCell ⟨b,X+i,Z⟩ v) z (by simp;omega) (λx n=>L x (by simp[n]));refine⟨Q,by simp only[storeCells,Sem.run_bind,A,Result.andThen_ok,y], ?_,λk H=>(u k H).trans (Below.heap_setCell _ _ _ _ H),r.trans (by simp[World.setCell]),q,p,o⟩;rw[w,xS];simp[aKi]
def ajx(R:av p q D f V O s a W):∀{l:ah},Dd l=J->∀v∈SV.aA O V l,io v=J
 |[],_,v,X=>by simp[SV.aA] at X
 |x::N,h,v,X=>by
  simp only[Ry,aIy] at h;simp only[SV.aA,aIK] at X;rcases X with rfl|X;have Q:=h.1;cases x<;>simp[SV.single] at Q<;>try rfl
  rename_i r;exact uy R r (by cases r<;>simp_all[RE.Fz]);simp only[SV.den];exact Z4 _ _ _;exact ajx R h.2 v X
def av.store(Q:av p q D f V O s a W){H:TypeId}{A:TI}(g:dV P X A){off:Nat}{v:SV}(M:bU s.boxes R=U (H,w))(r:oY H=E)(d:Y v.cells=Y A.ae)(ho:off+Y v.cells<=Y w)(c:Dd v.cells=J)(o:(v.den O V).cells.toList=SV.aA O V v.cells):
  ∃G,(Instr.storeAt X (.pointer (U ⟨ad V R,off,Z⟩)) (v.den O V)).run P W=.ok () G/\av p q D f V O (s.ck R H (j5 w off v.cells)) a G:=by
 have z:=Q.mem.box R H w M;rw[rq r] at z;obtain⟨G,h1,h2,F,h4,h5,h6,h7⟩:=aal (P:=P) (ad V R) off H (SV.aA O V v.cells) 0 _ W z (by simp;omega) (ajx Q c);have af:(v.den O V).cells.size=Y A.ae:=by rw[<-aJJ,o];simp[d]
 have n:R<Y s.boxes:=(aIz.1 (i8.1 M)).1;have C:aL s.boxes R=true:=by simp[aL,M]
 have B:∀j,aL (s.boxes.set R (U (H,j5 w off v.cells))) j=J->aL s.boxes j=true:=λj N=>by
  rcases(nT n).1 N with rfl|h;exact C;exact h
 refine⟨G, ?_,⟨⟨?_,λj N=>Q.mem.own j (B j N),λj k N y=>Q.mem.inj j k (B j N) (B k y), ?_, ?_⟩,by simpa[S.ck] using Q.fH,Q.ei,Q.eb,Q.er,Q.cM.cells z (λb M _=>F b M),Q.size,Q.tmps,λk e x b q1 q2 q3=> ?_⟩⟩;simp only[Instr.storeAt,Instr.sureAddr,storeVar,Sem.run_bind,Sem.run_pure,Result.andThen_ok,g.ma,af,o,ne_eq,not_true_eq_false,if_false,h1];refine⟨h5.trans Q.mem.base.os,h6.trans Q.mem.base.tape,h7.trans Q.mem.base.output,by rw[h4];exact Q.mem.base.size,λk y m=> ?_⟩;have ag:k≠ad V R:=by
  rintro rfl;rcases Q.mem.own R C with h|h;omega;exact m h
 rw[F k ag];exact Q.mem.base.block k y m;intro j L al N;by_cases u:j=R;subst u;rw[S.ck,Ga n] at N;simp only[aID,aKj] at N;obtain⟨rfl,rfl⟩:=N;rw[h2,rq r,ajv];simp;rw[S.ck,xR u] at N;rw[F _ (λh=>u (Q.mem.inj j R (by simp[aL,N]) C h))];exact Q.mem.box j L al N;intro k e x an a0;obtain⟨a1,l⟩:=Q.mem.ref k e x an a0;exact⟨a1.Jg (λb M=>F b (λh=>l b M R C h.symm)) (by omega),λb M j N=>l b M j (B j N)⟩;have X:=Q.fl k e x b q1 q2 q3;have L:=X.world (W':=G) (F b (λh=>X.box R C h.symm));exact⟨L.own,L.mem,λj N=>L.box j (B j N),L.alone,L.inner⟩
end
def Ji(X:ai):∀(l:bc)(n i:Nat),(ip X n l)[i]?=(l[i]?).map λx=>if X.contains (n+i) then .dead else x
 |[],n,i=>by simp[ip]
 |x::R,n,0=>by simp[ip]
 |x::R,n,i+1=>by
  simp only[ip,aJa];rw[Ji X R (n+1) i,show n+1+i=n+(i+1) by omega]
def Jj(X:ai):∀(l:bc)(n i:Nat),(jw X n l)[i]?=(l[i]?).map (xF (X.contains (n+i)))
 |[],n,i=>by simp[jw]
 |x::R,n,0=>by simp[jw]
 |x::R,n,i+1=>by
  simp only[jw,aJa];rw[Jj X R (n+1) i,show n+1+i=n+(i+1) by omega]
def aam(X:ai):∀(l:bc)(n i:Nat),(Bn X n l)[i]?=(l[i]?).map (MV (X.contains (n+i)))
 |[],n,i=>by simp[Bn]
 |x::R,n,0=>by simp[Bn]
 |x::R,n,i+1=>by
  simp only[Bn,aJa];rw[aam X R (n+1) i,show n+1+i=n+(i+1) by omega]
def zL(X:ai):∀(l:bc)(n:Nat),(ip X n l).length=Y l
 |[],n=>rfl
 |x::R,n=>by simp[ip,zL X R (n+1)]
def zM(X:ai):∀(l:bc)(n:Nat),(jw X n l).length=Y l
 |[],n=>rfl
 |x::R,n=>by simp[jw,zM X R (n+1)]
def ajy(X:ai):∀(l:bc)(n:Nat),(Bn X n l).length=Y l
 |[],n=>rfl
 |x::R,n=>by simp[Bn,ajy X R (n+1)]
def pi(e X:RK):Prop:=X=e\/X=.dead\/∃t,e=.own t/\X=.sl t
structure oA(rs rs':bc):Prop where
 len:Y rs'=Y rs
 get:∀(k:Nat)(e':RK),rs'[k]?=U e'->∃e,rs[k]?=U e/\pi e e'
def oA.refl(X:bc):oA X X:=⟨rfl,λk e h=>⟨e,h,.inl rfl⟩⟩
def pi.trans{b c:RK}(h:pi z b)(k:pi b c):pi z c:=by
 rcases k with rfl|rfl|⟨t,rfl,rfl⟩;exact h;exact .inr (.inl rfl);rcases h with h|h|⟨R,Q,X⟩;exact .inr (.inr ⟨t,h.symm,rfl⟩);cases h;cases X
def oA.trans{a b c:bc}(h:oA a b)(k:oA b c):oA a c:=
 ⟨k.len.trans h.len,λi e X=>let⟨R,Q,N⟩:=k.get i e X;let⟨M,L,H⟩:=h.get i R Q;⟨M,L,H.trans N⟩⟩
def awq(b:Bool)(e:RK):pi e (xF b e):=by
 cases e<;>simp only[xF]
 case own t=>cases b;exact .inl rfl;exact .inr (.inr ⟨t,rfl,rfl⟩)
 all_goals exact .inl rfl
def ajz(b:Bool)(e:RK):pi e (MV b e):=by
 cases e<;>simp only[MV]
 case own t=>cases b;exact .inr (.inl rfl);exact .inr (.inr ⟨t,rfl,rfl⟩)
 all_goals exact .inl rfl
def Sz(Q:ai)(X:bc):oA X (jw Q 0 X):=by
 refine⟨zM _ _ _,λk N h=> ?_⟩;rw[Jj] at h;cases R:X[k]? with
 |none=>rw[R] at h;cases h
 |some e=>rw[R] at h;simp only[aII,aID] at h;exact⟨e,rfl,h▸awq _ e⟩
def ajA(Q:ai)(X:bc):oA X (Bn Q 0 X):=by
 refine⟨ajy _ _ _,λk N h=> ?_⟩;rw[aam] at h;cases R:X[k]? with
 |none=>rw[R] at h;cases h
 |some e=>rw[R] at h;simp only[aII,aID] at h;exact⟨e,rfl,h▸ajz _ e⟩
def bu.mc{X:RK}(h:bu Q n z L)(w:pi z X):bu Q n X L:=by
 rcases w with rfl|rfl|⟨t,rfl,rfl⟩;exact h;exact bu.dead L (Ja h);exact ajb h
def db.mc{X:RK}(w:pi z X)(h:db n X L R):db n z L R:=by
 rcases w with rfl|rfl|⟨t,rfl,rfl⟩;exact h;cases h;exact db.own _ _ _ h
def xN.mc{d:Ty}{e R:RK}{Q:RV}{b:Nat}(w:pi e R)(h:xN d R Q b):xN d e Q b:=by
 rcases h with h|⟨⟨t,rfl⟩,h⟩;exact .inl (h.mc w);rcases w with rfl|X|⟨N,_,X⟩;exact .inr ⟨⟨t,rfl⟩,h⟩;cases X;cases X
def pi.own(w:pi z (.own X)):z=.own X:=by
 rcases w with h|h|⟨R,_,h⟩;exact h.symm;cases h;cases h
section
variable{p:ai}{q:World}{D:bQ}{P:Program}{d:Ty}{B:lu}{V:ai}{O:aa}{s:S}{a:Act}{W:World}
def jB.mc{X:bw}{Q N:bc}(R:jB p q V O X d Q W)(h:oA Q N):jB p q V O X d N W:=
 ⟨R.base,R.own,R.inj,R.box,λk e M C L=>let⟨H,G,F⟩:=h.get k e C;⟨(R.ref k H M G L).1.mc F,λb B i A=>(R.ref k H M G L).2 b (B.mc F) i A⟩⟩
def av.mc(R:av p q D d V O s a W){X:bc}(h:oA s.rs X):av p q D d V O {s with rs:=X} a W:=by
 refine⟨R.mem.mc h,R.fH,R.ei,R.eb,R.er.trans h.len.symm,R.cM,R.size,R.tmps,λk e N b M L H=> ?_⟩;obtain⟨r,G,F⟩:=h.get k _ M;have:=F.own;subst this;have t:=R.fl k e N b G L H;exact⟨t.own,t.mem,t.box,λQ C B A z y x=>let⟨w,v,u⟩:=h.get Q C z;t.alone Q w B A v y (x.mc u),t.inner⟩
def av.dO(N:av p q D d V O s a W)(j:s.rs[R]?=U (.own X))(hr:O.r[R]?=U L)(C:W.grownBy Q L.jR):
  av p q D d V O {s with rs:=ip [R] 0 s.rs} a Q:=by
 have n:∀M G,(ip [R] 0 s.rs)[M]?=U G->(M=R/\G=.dead)\/(M≠R/\s.rs[M]?=U G):=by
  intro M G h;rw[Ji] at h;cases g:s.rs[M]? with
  |none=>rw[g] at h;cases h
  |some x=>
   rw[g] at h;simp only[aI8,aII,aID] at h;by_cases F:M=R;subst F;left;simp at h;exact⟨rfl,h.symm⟩;right;simp[F] at h;exact⟨F,by rw[h]⟩
 have z:∀b,L.jR=U b->xO p q V O s.boxes d s.rs W R X L b:=λb H=>N.fl R X L b j hr H
 have ag:fk p q Q:=N.mem.base.grown C (λb H=>((z b H).own).symm);refine⟨⟨ag,N.mem.own,N.mem.inj,λi t cs h=> ?_,λM G B m A=> ?_⟩,N.fH,N.ei,N.eb,by simp[zL];exact N.er, ?_,N.size,N.tmps,λM G B b m A y=> ?_⟩;rw[C.block _ (N.mem.lt (by simp[aL,h])) (λH=>(z _ H.symm).box i (by simp[aL,h]) rfl)];exact N.mem.box i t cs h;rcases n M G m with⟨rfl,rfl⟩|⟨w,v⟩;refine⟨bu.dead _ ?_,λb H=>by cases H⟩;exact Ja (N.mem.ref M _ B j A).1;obtain⟨y,h4⟩:=N.mem.ref M G B v A;exact⟨y.Jg (λb H=>C.block b (y.lt H) (λF=>(z b F.symm).alone M G B w v A (.inl H))) C.size,h4⟩;cases H:L.jR with
 |none=>exact N.cM.world λb o h _=>(C.block b (zK h) (by rw[H];simp)).trans h
 |some b0=>
  obtain⟨f,c,af,q1,l,q3⟩:=(z b0 H).mem;exact N.cM.cells l (λb w al=>C.block b al (λX=>w (by rw[H] at X;cases X;rfl)))
 rcases n M _ m with⟨-,F⟩|⟨w,v⟩;cases F;have t:=N.fl M G B b v A y;have hw:Q.heap[b]?=W.heap[b]?:=C.block b t.lt (λF=>(z b F.symm).alone M _ B w v A (.inr ⟨⟨G,rfl⟩,y⟩));obtain⟨f,c,af,q1,l,q3⟩:=t.mem;refine⟨t.own,⟨f,c,af,q1,hw.trans l,q3⟩,t.box,λk2 e2 an g1 g2 g3 u=> ?_,t.inner⟩;rcases n k2 e2 g2 with⟨rfl,rfl⟩|⟨_,a0⟩;rcases u with u|⟨⟨t',a1⟩,_⟩;cases u;cases a1;exact t.alone k2 e2 an g1 a0 g3 u
def av.grown(R:av p q D d V O s a W)(X:W.grownBy Q Z):av p q D d V O s a Q:=
 R.below ⟨X.os,X.tape,X.output,X.size,λk N=>X.block k N (by simp)⟩
def pW(X:bw)(O:aa)(x:XV)(V:ai):mb X O (O.add x) V V:=by
 have h:=BK X O [x] V;exact h
def Gb{v:RV}(h:(O.add (.r L)).r[R]?=U v):(R<Y O.r/\O.r[R]?=U v)\/(R=Y O.r/\v=L):=by
 simp only[aa.add] at h;by_cases X:R<Y O.r;rw[aIB X] at h;exact .inl ⟨X,h⟩;have:R=Y O.r:=by have:=(aIz.1 h).1;simp at this;omega
 subst this;simp at h;exact .inr ⟨rfl,h.symm⟩
structure awr(p:ai)(q:World)(V:ai)(O:aa)(bx:bw)(d:Ty)(rs:bc)(W:World)(e:TypeId)(rv:RV)(b:Nat):Prop where
 own:q.heap.size<=b\/b∈p
 mem:∃len cap cur,rv.val=.slice (U ⟨b,0,Z⟩) len cap/\W.heap[b]?=U (.cells cur e (0,0))/\len<=cap/\cap<=maxLen/\cur.size=cap*(bq d (.sl e)).length
 box:∀i,aL bx i=J->ad V i≠b
 alone:∀(k':Nat)(e':RK)(rv':RV),rs[k']?=U e'->O.r[k']?=U rv'->¬xN d e' rv' b
 inner:¬l8 d e rv.rows b
def av.add(R:av p q D d V O s a W)(o:s.bd=J){N:RK}{rv:RV}(n:bu W d N rv)(m:∀b,db d N rv b->∀i,aL s.boxes i=J->ad V i≠b)
  (l:∀(k:Nat)(e:TypeId)(H:RV)(b:Nat),s.rs[k]?=U (.own e)->O.r[k]?=U H->H.jR=U b->¬xN d N rv b)
  (j:∀e b,N=.own e->rv.jR=U b->awr p q V O s.boxes d s.rs W e rv b):av p q D d V (O.add (.r rv)) {s with rs:=s.rs++[N]} a W:=by
 obtain⟨g,f⟩:=R.xQ o;have y:=pW s.boxes O (.r rv) V;have F:∀{k:Nat}{e:RK},(s.rs++[N])[k]?=U e->(k<Y O.r/\s.rs[k]?=U e)\/(k=Y O.r/\e=N):=by
  intro k e h;rw[R.er];by_cases G:k<Y s.rs;rw[aIB G] at h;exact .inl ⟨G,h⟩;have:k=Y s.rs:=by have:=(aIz.1 h).1;simp at this;omega
  subst this;simp at h;exact .inr ⟨rfl,h.symm⟩
 refine⟨⟨R.mem.base,R.mem.own,R.mem.inj,λi t c h=> ?_,λk e v X M=> ?_⟩,R.fH,R.ei,R.eb,by simp[aa.add,R.er],R.cM,R.size,λt sv h=> ?_,λk e v b X M C=> ?_⟩;rw[y.cL (rp f h)];exact R.mem.box i t c h;rcases F X with⟨G,X⟩|⟨rfl,rfl⟩;rcases Gb M with⟨_,M⟩|⟨rfl,rfl⟩;exact R.mem.ref k e v X M;omega;rcases Gb M with⟨G,_⟩|⟨_,rfl⟩;omega;exact⟨n,m⟩;rcases R.tmps t sv h with X|X;exact .inl X;right;rw[y.den (ux g h)];exact X;rcases F X with⟨G,x⟩|⟨rfl,af⟩;rcases Gb M with⟨_,w⟩|⟨rfl,rfl⟩;have t:=R.fl k e v b x w C;refine⟨t.own,t.mem,t.box,λB A H z L Q=> ?_,t.inner⟩;rcases F L with⟨u,L⟩|⟨u,ag⟩;rcases Gb Q with⟨_,Q⟩|⟨rfl,rfl⟩;exact t.alone B A H z L Q;omega;rcases Gb Q with⟨an,_⟩|⟨_,al⟩;omega;rw[ag,al];exact l k e v b x w C;omega;rcases Gb M with⟨G,_⟩|⟨_,rfl⟩;omega;have t:=j e b af.symm C;refine⟨t.own,t.mem,t.box,λB A H z L Q=> ?_,t.inner⟩;rcases F L with⟨u,L⟩|⟨rfl,_⟩;rcases Gb Q with⟨_,Q⟩|⟨rfl,rfl⟩;exact t.alone B A H L Q;omega;exact absurd rfl z
end
variable{i:am}
structure eG(W:World)(o:Ty)(e:TypeId)(rows:am):Prop where
 len:∀(i:Nat)(row:aH),rows[i]?=U row->Y row=(bq o (.sl e)).length
 int:∀(i j:Nat)(row:aH)(c:RV)(k:IntKind),rows[i]?=U row->row[j]?=U c->(bq o (.sl e))[j]?=U (.int k)->∃n,c.val=.int k n
 bool:∀(i j:Nat)(row:aH)(c:RV),rows[i]?=U row->row[j]?=U c->(bq o (.sl e))[j]?=U .bool->∃x,c.val=.bool x
 aI:∀(i j:Nat)(row:aH)(c:RV)(z:Value)(k:RK),rows[i]?=U row->row[j]?=U c->(bq o (.sl e))[j]?=U (.aI z k)->bu W o k c
def dt(rows:am):fe:=rows.flatMap λX=>X.map RV.val
def zN{w:Nat}:∀{rows:am},(∀(i:Nat)(X:aH),rows[i]?=U X->Y X=w)->(dt rows).length=Y rows*w
 |[],_=>by simp[dt]
 |r::Q,h=>by
  have N:=h 0 r rfl;have R:=zN (rows:=Q) (λi X M=>h (i+1) X (by simpa using M));simp only[dt,aKJ,aIO,aJn,aJm,N] at R⊢;rw[R,aJC];omega
def Nr{w:Nat}:∀{rows:am},(∀(i:Nat)(row:aH),rows[i]?=U row->Y row=w)->∀{i j:Nat}{row:aH}{c:RV},rows[i]?=U row->row[j]?=U c->(dt rows)[i*w+j]?=U c.val
 |[],_,i,j,row,c,h,_=>by simp at h
 |r::Q,h,0,j,row,c,X,R=>by
  simp at X;subst X;have L:j<Y r:=(aIz.1 R).1;simp only[dt,aKJ,Nat.zero_mul,aI8];rw[aIB (by simpa using L)];simp[R]
 |r::Q,h,i+1,j,row,c,X,R=>by
  have N:=h 0 r rfl;have M:=Nr (rows:=Q) (λi row H=>h (i+1) row (by simpa using H)) (i:=i) (by simpa using X) R;simp only[dt,aKJ] at M⊢;rw[aIH (by simp[N,aJC];omega)];rw[<-M];congr 1;simp[N,aJC];omega
def Jk{w:Nat}:∀{rows:am},(∀(i:Nat)(X:aH),rows[i]?=U X->Y X=w)->∀{q:Nat}{u:Value},(dt rows)[q]?=U u->∃i j X c,rows[i]?=U X/\X[j]?=U c/\q=i*w+j/\u=c.val
 |[],_,q,u,h=>by simp[dt] at h
 |r::N,h,q,u,R=>by
  have B:=h 0 r rfl;simp only[dt,aKJ] at R;by_cases M:q<Y r;rw[aIB (by simpa using M),aIE] at R;cases Q:r[q]? with
  |none=>rw[Q] at R;cases R
  |some c=>rw[Q] at R;simp at R;exact⟨0,q,r,c,rfl,Q,by simp,R.symm⟩
  rw[aIH (by simp;omega)] at R;obtain⟨i,j,X,c,L,H,G,F⟩:=Jk (rows:=N) (λi X C=>h (i+1) X (by simpa using C)) R;refine⟨i+1,j,X,c,by simpa using L,H, ?_,F⟩;simp only[aJn] at G;rw[aJC];omega
def aan(a b:am):dt (a++b)=dt a++dt b:=by simp[dt]
section
variable{W W':World}{o:Ty}{e:TypeId}{rows ay:am}
def eG.wc{v:Value}(h:bu W o (.sl e) (.mk v rows)):eG W o e rows:=by
 cases h with
 |sl e A H G rows F C X R Q N=>exact⟨λi M L=>(X i M L).1,R,Q,N⟩
def ru{A:mu}(h:bu W o (.sl e) (.mk (.slice A R N) rows)):Y rows=R/\R<=N:=by
 cases h with
 |sl e A R N rows X Q M L H G=>exact⟨X,Q⟩
def Ns{A:mu}(h:bu W o (.sl e) (.mk (.slice A R N) rows)):∀(q:Nat)(u:Value),(dt rows)[q]?=U u->∃b X,A=U ⟨b,X,Z⟩/\(∃Q t M,W.heap[b]?=U (.cells Q t M))/\W.cell? ⟨b,X+q,Z⟩=U u:=by
 intro q u L;have H:=eG.wc h;obtain⟨i,j,G,c,F,C,rfl,rfl⟩:=Jk H.len L;cases h with
 |sl e A R N rows x w B v r p=>
  obtain⟨-,b,X,rfl,z,y⟩:=B i G F;exact⟨b,X,rfl,z,by rw[<-aKi];exact y j c C⟩
def aao(h:eG W o e rows){b X R:Nat}(N:∃M t L,W.heap[b]?=U (.cells M t L))(H:∀(q:Nat)(u:Value),(dt rows)[q]?=U u->W.cell? ⟨b,X+q,Z⟩=U u)(G:Y rows<=R):bu W o (.sl e) (.mk (.slice (U ⟨b,X,Z⟩) (Y rows) R) rows):=
 bu.sl e _ _ _ _ rfl G (λi F Q=>⟨h.len i F Q,b,X,rfl,N,λj c C=>by
  have:=H _ _ (Nr h.len Q C)
  rwa [<-aKi] at this⟩) h.int h.bool h.aI
def BN(A:mu)(Q:Nat):bu W o (.sl e) (.mk (.slice A 0 Q) []):=
 bu.sl e _ _ _ _ rfl (aKG _) (λi R X=>by simp at X) (λi j R c k X=>by simp at X) (λi j R c X=>by simp at X) (λi j R c z k X=>by simp at X)
def eG.single(h:eG W o e rows):∀u∈dt rows,io u=true:=by
 intro u L;obtain⟨q,H⟩:=aJg L;obtain⟨i,j,X,c,R,Q,rfl,rfl⟩:=Jk h.len H;have F:j<(bq o (.sl e)).length:=by rw[<-h.len i X R];exact(aIz.1 Q).1
 cases N:(bq o (.sl e))[j]? with
 |none=>rw[aJk] at N;omega
 |some G=>
  cases G with
  |int k=>obtain⟨n,M⟩:=h.int i j X c k R Q N;rw[M];rfl
  |bool=>obtain⟨n,M⟩:=h.bool i j X c R Q N;rw[M];rfl
  |aI z k=>exact Ja (h.aI i j X c z k R Q N)
def eG.world(h:eG W o e rows)(M:∀b,l8 o e rows b->W'.heap[b]?=W.heap[b]?)(L:W.heap.size<=W'.heap.size):eG W' o e rows:=
 ⟨h.len,h.int,h.bool,λi j X c z k R Q N=>(h.aI i j X c z k R Q N).Jg (λb H=>M b ⟨i,j,X,c,z,k,R,Q,N,H⟩) L⟩
def eG.lt(h:eG W o e rows){b:Nat}(X:l8 o e rows b):b<W.heap.size:=by
 obtain⟨i,j,R,c,z,k,Q,N,M,L⟩:=X;exact(h.aI i j R c z k Q N M).lt L
def eG.nil:eG W o e []:=⟨λi X h=>by simp at h,λi j X c k h=>by simp at h,λi j X c h=>by simp at h,λi j X c z k h=>by simp at h⟩
def Nt{b:am}{X:aH}(h:(i++b)[R]?=U X):i[R]?=U X\/b[R-Y i]?=U X:=by
 by_cases Q:R<Y i;rw[aIB Q] at h;exact .inl h;rw[aIH (by omega)] at h;exact .inr h
def eG.kz(h:eG W o e rows)(R:eG W o e ay):eG W o e (rows++ay):=
 ⟨λi Q X=>(Nt X).elim (h.len _ _) (R.len _ _),λi j Q c k X=>(Nt X).elim (h.int _ _ _ _ _) (R.int _ _ _ _ _),
  λi j Q c X=>(Nt X).elim (h.bool _ _ _ _) (R.bool _ _ _ _),λi j Q c z k X=>(Nt X).elim (h.aI _ _ _ _ _ _) (R.aI _ _ _ _ _ _)⟩
def aws(h:l8 o e (rows++ay) R):l8 o e rows R\/l8 o e ay R:=by
 obtain⟨i,j,Q,c,z,k,X,N,M,L⟩:=h;exact(Nt X).imp (λX=>⟨_,j,Q,c,z,k,X,N,M,L⟩) (λX=>⟨_,j,Q,c,z,k,X,N,M,L⟩)
def Nu(h:l8 o e [] R):False:=by
 obtain⟨i,j,Q,c,z,k,X,-⟩:=h;simp at X
def SA(h:l8 o e rows R):db o (.sl e) (.mk c rows) R:=by
 obtain⟨i,j,Q,X,z,k,N,M,L,H⟩:=h;exact db.deep e c rows i j Q X z k R N M L H
def ajB(h:db o (.sl e) (.mk c rows) R):(∃a Q N,c=.slice (U a) (Q+1) N/\R=a.block)\/l8 o e rows R:=by
 cases h with
 |here e a Q N rows=>exact .inl ⟨a,Q,N,rfl,rfl⟩
 |deep e c rows i j M X z k R L H G F=>exact .inr ⟨i,j,M,X,z,k,L,H,G,F⟩
end
def awt(h:db n z (cz z L) R):db n z L R:=by
 cases z with
 |sl e=>
  simp only[cz] at h;split at h;exact h;cases h with
  |deep e L rows i j N c X z R Q=>simp at Q
 |str=>cases h
 |aI=>cases h
 |own e=>
  simp only[cz] at h;split at h;exact h;cases h with
  |own e H R M=>cases M with
   |deep e L rows i j N c X z R Q=>simp at Q
 |dead=>cases h
 |mr G=>cases h
def ajC(h:db n z default R):False:=by
 cases h with
 |deep e v rows i j N c X z R Q=>simp at Q
 |own e L R M=>cases M with
  |deep e v rows i j N c X z R Q=>simp at Q
def SB(h:db n z.rd L R):db n z L R:=by
 cases z with
 |own t=>exact db.own _ _ _ h
 |_=>exact h
def awu{Q:Int}(H:FD (bq n (.sl X))[R]?=z)(G:z≠ .aI)(h:db n z (cz z (cellAt i Q R)) N):l8 n X i N:=by
 have L:=awt h;simp only[cellAt,aIC] at L;cases F:i[Q.toNat]? with
 |none=>rw[F] at L;exact(ajC (by simpa using L)).elim
 |some A=>
  rw[F] at L;simp only[aJd] at L;cases C:A[R]? with
  |none=>rw[C] at L;exact(ajC (by simpa using L)).elim
  |some c=>
   rw[C] at L;cases B:(bq n (.sl X))[R]? with
   |none=>rw[B] at H;exact absurd H.symm G
   |some y=>
    rw[B] at H;subst H;cases y with
    |aI M x=>exact⟨_,R,A,c,M,x,F,C,B,by simpa[FD] using L⟩
    |int _=>exact absurd rfl G
    |bool=>exact absurd rfl G
def SC{o:Ty}{O:aa}{s:S}{b:Nat}:∀{r:RE}{e:RK},e≠ .aI->r.kind o s=e->db o e (r.rv O) b->
  ∃R Q,r.root=U R/\s.rs[R]?=U Q/\((r=.v R/\Q.rd=e)\/∃t,Q.rd=.sl t/\l8 o t (O.rv R).rows b)
 |.v k,e,X,h,N=>by
  simp only[RE.kind,aIC] at h;cases H:s.rs[k]? with
  |none=>rw[H] at h;exact absurd (show e=.aI from h.symm) X
  |some q=>rw[H] at h;simp at h;exact⟨k,q,rfl,H,.inl ⟨rfl,h⟩⟩
 |.cell r i j y,e,X,h,N=>by
  simp only[RE.kind] at h;split at h;rename_i G F;split at h;rename_i C;subst h;simp only[RE.rv] at N;have L:=awu C X N;have B:db o (.sl G) (r.rv O) b:=by
   revert L;generalize r.rv O=v;intro L;obtain⟨v,rows⟩:=v;exact SA L
  obtain⟨R,Q,A,z,M⟩:=SC (r:=r) (e:=.sl G) (by simp) F B;refine⟨R,Q,A,z,.inr ?_⟩;rcases M with⟨rfl,M⟩|M;exact⟨G,M,by simpa[RE.rv] using L⟩;exact M;exact absurd h.symm X;exact absurd h.symm X
 |.k v,e,X,h,N=>by
  cases v<;>simp only[RE.kind] at h
  case string s=>subst h;cases N
  all_goals exact absurd h.symm X
section
variable{p:ai}{d:World}{D:bQ}{P:Program}{o:Ty}{B:lu}{V:ai}{O:aa}{s:S}{a:Act}{W:World}
def s6(X:av p d D o V O s a W)(h:s.rs[R]?=U z):O.r[R]?=U (O.rv R):=by
 have Q:R<Y O.r:=by rw[X.er];exact(aIz.1 h).1
 simp[aa.rv,Q]
def Gc(v:RV):RV.mk v.val v.rows=v:=by cases v;rfl
def Jl{e0:RK}(h:e0.rd=.sl X)(Q:l8 o X (O.rv R).rows N):db o e0 (O.rv R) N:=by
 apply SB;rw[h,<-Gc (O.rv R)];exact SA Q
def Nv(Q:av p d D o V O s a W)(H:s.rs[R]?=U (.own X))(F:O.r[R]?=U L)(y:L.jR=U N){t:TypeId}(M:s.rs[h]?=U z)(G:z.rd=.sl t)(C:l8 o t (O.rv h).rows N):False:=by
 have B:=Q.fl R X L N H F y;by_cases A:h=R;subst A;rw[H] at M;cases M;simp only[RK.rd,RK.sl.injEq] at G;subst G;have:=s6 Q H;rw[F] at this;cases this;exact B.inner C;exact B.alone h z (O.rv h) A M (s6 Q M) (.inl (Jl G C))
def SD(Q:av p d D o V O s a W)(F:s.rs[R]?=U (.own X))(C:O.r[R]?=U L)(B:L.jR=U N){r:RE}(x:z≠ .aI)(h:r.kind o s=z)(A:db o z (r.rv O) N):r=.v R:=by
 obtain⟨H,w,n,G,M⟩:=SC x h A;rcases M with⟨rfl,M⟩|⟨t,M,u⟩;by_cases y:H=R;rw[y];have q:=Q.fl R X L N F C B;exact absurd (.inl (SB (by rw[M];exact A))) (q.alone H w (O.rv H) y G (s6 Q G));exact(Nv Q F C B G M u).elim
def Jm(X:av p d D o V O s a W){r:RE}(F:z≠ .aI)(h:r.kind o s=z)(H:db o z (r.rv O) R):O.oz o s.rs R/\∀i,aL s.boxes i=J->ad V i≠R:=by
 obtain⟨N,M,B,L,Q⟩:=SC F h H;have G:db o M (O.rv N) R:=by
  rcases Q with⟨rfl,Q⟩|⟨t,Q,C⟩;exact SB (by rw[Q];exact H);exact Jl Q C
 exact⟨⟨N,M,L,G⟩,(X.mem.ref N M _ L (s6 X L)).2 R G⟩
def ajD(R:av p d D o V O s a W){k:RK}{r:RE}(h:r.fits o s k=J):bu W o k (r.rv O):=by
 unfold RE.fits at h;split at h;rename_i e;simp only[aIZ,decide_eq_true_eq] at h;rcases h with h|h;exact pV R (by simp) h;unfold RE.isNil at h;split at h;exact BN Z 0;cases h;simp only[decide_eq_true_eq] at h;exact pV R (by simp) h;cases h
def aap{r:RE}(h:r.fits o s z=J)(Q:db o z (r.rv O) R):r.kind o s=z/\z≠ .aI:=by
 unfold RE.fits at h;split at h;rename_i e;simp only[aIZ,decide_eq_true_eq] at h;rcases h with h|h;exact⟨h,by simp⟩;unfold RE.isNil at h;split at h;simp only[RE.rv] at Q;cases Q with
 |deep e v rows i j M c X z R N=>simp at N
 cases h;simp only[decide_eq_true_eq] at h;exact⟨h,by simp⟩;cases h
def Gd:∀{ae:dS}{R:ah},kR o s ae R=J->Y R=Y ae/\∀(j:Nat)(X:CT)(v:SV),ae[j]?=U X->R[j]?=U v->qX o s X v=J
 |[],[],_=>⟨rfl,λj X v h=>by simp at h⟩
 |[],_::_,h=>by simp[kR] at h
 |_::_,[],h=>by simp[kR] at h
 |c::G,v::F,h=>by
  simp only[kR,aIy] at h;obtain⟨M,L⟩:=Gd h.2;refine⟨by simp[M],λj X H Q N=> ?_⟩;cases j with
  |zero=>simp at Q N;subst Q N;exact h.1
  |succ j=>exact L j X H (by simpa using Q) (by simpa using N)
def ajE{X:CT}(h:qX o s X M=J):M.den O V=(M.bN O).val:=by
 unfold qX at h;split at h<;>first|rfl|cases h
structure SE(W:World)(o:Ty)(ae:dS)(row:aH):Prop where
 len:Y row=Y ae
 int:∀(j:Nat)(c:RV)(k:IntKind),row[j]?=U c->ae[j]?=U (.int k)->∃n,c.val=.int k n
 bool:∀(j:Nat)(c:RV),row[j]?=U c->ae[j]?=U .bool->∃x,c.val=.bool x
 aI:∀(j:Nat)(c:RV)(z:Value)(k:RK),row[j]?=U c->ae[j]?=U (.aI z k)->bu W o k c
def eG.of(h:∀(R:Nat)(Q:aH),i[R]?=U Q->SE W o (bq o (.sl X)) Q):eG W o X i:=
 ⟨λR Q N=>(h R Q N).len,λR j Q c k N=>(h R Q N).int j c k,λR j Q c N=>(h R Q N).bool j c,λR j Q c z k N=>(h R Q N).aI j c z k⟩
def eG.get(h:eG W o X i){Q:aH}(N:i[R]?=U Q):SE W o (bq o (.sl X)) Q:=
 ⟨h.len R Q N,λj c k=>h.int R j Q c k N,λj c=>h.bool R j Q c N,λj c z k=>h.aI R j Q c z k N⟩
def aaq(R:av p d D o V O s a W){ae:dS}(h:kR o s ae w=J):SE W o ae (w.map (SV.bN O)):=by
 obtain⟨F,C⟩:=Gd h;have H:∀(j:Nat)(c:RV)(L:CT),(w.map (SV.bN O))[j]?=U c->ae[j]?=U L->∃v,qX o s L v=J/\c=v.bN O:=by
  intro j c L N M;rw[aIE] at N;cases G:w[j]? with
  |none=>rw[G] at N;cases N
  |some v=>rw[G] at N;simp at N;exact⟨v,C j L v M G,N.symm⟩
 refine⟨by simpa using F,λj c k N M=> ?_,λj c N M=> ?_,λj c z k N M=> ?_⟩;obtain⟨v,Q,rfl⟩:=H j c _ N M;unfold qX at Q;split at Q;rename_i X;cases X;simp at Q;subst Q;exact⟨_,rfl⟩;rename_i X;cases X;rename_i X;cases X;cases Q;obtain⟨v,Q,rfl⟩:=H j c _ N M;unfold qX at Q;split at Q;rename_i X;cases X;exact⟨_,rfl⟩;rename_i X;cases X;cases Q;obtain⟨v,Q,rfl⟩:=H j c _ N M;unfold qX at Q;split at Q;rename_i X;cases X;rename_i X;cases X;rename_i X;cases X;exact ajD R Q;cases Q
def aar{ae:dS}(h:kR o s ae w=J)(X:(w.map (SV.bN O))[R]?=U L)(F:ae[R]?=U (.aI c z))(H:db o z L N):
  ∃r:RE,w[R]?=U (.ref r)/\r.kind o s=z/\z≠ .aI/\db o z (r.rv O) N:=by
 obtain⟨B,C⟩:=Gd h;rw[aIE] at X;cases G:w[R]? with
 |none=>rw[G] at X;cases X
 |some v=>
  rw[G] at X;simp at X;subst X;have Q:=C R _ v F G;unfold qX at Q;split at Q;rename_i M;cases M;rename_i M;cases M;rename_i r M;cases M;exact⟨r,rfl,(aap (O:=O) Q H).1,(aap (O:=O) Q H).2,H⟩;cases Q
def Du:∀{ae:dS}{l:vK},lX o s ae l=J->∀(i:Nat)(X:ah),l[i]?=U X->kR o s ae X=J
 |ae,[],_,i,X,h=>by simp at h
 |ae,r::Q,h,0,X,R=>by simp only[lX,aIy] at h;simp at R;subst R;exact h.1
 |ae,r::Q,h,i+1,X,R=>by simp only[lX,aIy] at h;exact Du h.2 i X (by simpa using R)
def aas{Q:bc}(h:(jw y 0 Q)[R]?=U (.own X)):Q[R]?=U (.own X)/\R∉y:=by
 rw[Jj] at h;cases M:Q[R]? with
 |none=>rw[M] at h;cases h
 |some x=>
  rw[M] at h;simp only[aI8,aII,aID] at h;cases x<;>simp[xF] at h
  case own t=>
   by_cases N:R∈y;simp[N] at h;simp[N] at h;exact⟨by rw[h],N⟩
def ajF{Q:bc}(h:(ip y 0 Q)[R]?=U z):(R∈y/\z=.dead)\/(R∉y/\Q[R]?=U z):=by
 rw[Ji] at h;cases N:Q[R]? with
 |none=>rw[N] at h;cases h
 |some x=>
  rw[N] at h;simp only[aI8,aII,aID] at h;by_cases X:R∈y;simp[X] at h;exact .inl ⟨X,h.symm⟩;simp[X] at h;exact .inr ⟨X,by rw[h]⟩
structure Dv(W W':World)(e:TypeId)(w:Nat)(old:bR)(rows:am)(A:mu)(cap:Nat):Prop where
 le:Y rows<=cap
 nil:A=Z->cap=0
 mem:cap=0\/∃b cur,A=U ⟨b,0,Z⟩/\W'.heap[b]?=U (.cells cur e (0,0))/\cap<=maxLen/\cur.size=cap*w/\cur.toList.take (Y rows*w)=dt rows/\(W.heap.size<=b\/old=U b)
def BO(o:Ty)(V:ai)(O:aa)(s:S)(e:TypeId)(rows:am)(R:ai):Prop:=
 ∀b,l8 o e rows b->O.oz o s.rs b/\(∀i,aL s.boxes i=J->ad V i≠b)/\∀(k:Nat)(t:TypeId)(X:RV),s.rs[k]?=U (.own t)->O.r[k]?=U X->X.jR=U b->k∈R
def Nw{X:bc}(h:s.bd=J)(R:Y X=Y s.rs):({s with rs:=X}:S).bd=true:=by
 simp only[S.bd,R] at h⊢;exact h
def av.bind(R:av p d D o V O s a W)(hb:s.bd=J){e:TypeId}{rows:am}{kill frz:ai}{old:bR}{W':World}{A:mu}{cap:Nat}
  (hk:(kill=[]/\old=Z)\/∃k t w,kill=[k]/\s.rs[k]?=U (.own t)/\O.r[k]?=U w/\old=w.jR)(bb:∀k∈kill,k∉frz)
  (g:W.grownBy W' old)(ag:eG W o e rows)(f:BO o V O s e rows frz)(B:Dv W W' e (bq o (.sl e)).length old rows A cap):
  av p d D o V (O.add (.r (.mk (.slice A (Y rows) cap) rows))) {s with rs:=jw frz 0 (ip kill 0 s.rs)++[.own e]} a W'/\∀b,db o (.sl e) (.mk (.slice A (Y rows) cap) rows) b->d.heap.size<=b\/b∈p\/O.oz o s.rs b:=by
 have z:∀b,old=U b->(d.heap.size<=b\/b∈p)/\b<W.heap.size/\(∀i,aL s.boxes i=J->ad V i≠b)/\(∀L H M,L∉kill->s.rs[L]?=U H->O.r[L]?=U M->¬xN o H M b)/\¬l8 o e rows b:=by
  intro b m;rcases hk with⟨_,n⟩|⟨k,t,w,rfl,X,F,y⟩;rw[n] at m;cases m;rw[y] at m;have tp:=R.fl k t w b X F m;refine⟨tp.own,tp.lt,tp.box,λL H M hn=>tp.alone L H M (by simpa using hn),λG=> ?_⟩;exact bb k (by simp) ((f b G).2.2 k t w X F m)
 have R1:av p d D o V O {s with rs:=ip kill 0 s.rs} a W':=by
  rcases hk with⟨rfl,rfl⟩|⟨k,t,w,rfl,X,F,rfl⟩;have:ip [] 0 s.rs=s.rs:=by
   apply aI0;intro i;rw[Ji];cases s.rs[i]?<;>simp
  rw[this];exact R.grown g;exact R.dO X F g
 have R2:=R1.mc (Sz frz _);have bf:eG W' o e rows:=ag.world (λb G=>g.block b (ag.lt G) (λh=>(z b h.symm).2.2.2.2 G)) g.size;have bg:bu W' o (.sl e) (.mk (.slice A (Y rows) cap) rows):=by
  rcases B.mem with n|⟨b,al,rfl,X,F,y,h4,Q⟩;have N:=B.le;have:rows=[]:=aI1 (by omega);subst this;exact BN A cap;refine aao bf ⟨_,_,_,X⟩ (λq u hq=> ?_) B.le;rw[<-h4,aI6] at hq;split at hq;simp only[World.cell?,X,aI8];simpa using hq;cases hq
 have an:∀b,xN o (.own e) (.mk (.slice A (Y rows) cap) rows) b->(W.heap.size<=b\/old=U b)\/l8 o e rows b:=by
  intro b N;have a4:∀v,A=U v->cap≠0->v.block=b->(W.heap.size<=b\/old=U b):=by
   intro v hA hc af;rcases B.mem with n|⟨x,al,X,_,_,_,_,Q⟩;exact absurd n hc;rw[X] at hA;cases hA;simp only at af;subst af;exact Q
  rcases N with N|⟨-,N⟩;cases N with
  |own e w b N=>
   rcases ajB N with⟨v,b0,b1,X,rfl⟩|X;simp only[Value.slice.injEq] at X;exact .inl (a4 v X.1 (by have:=B.le;omega) rfl);exact .inr X
  simp only[RV.jR,RV.lZ] at N;split at N;rename_i v l0 c0 X;cases X;simp at N;exact .inl (a4 v rfl (by omega) N);cases N
 have bk:∀{k:Nat}{H:RK},(jw frz 0 (ip kill 0 s.rs))[k]?=U H->∃e0,(ip kill 0 s.rs)[k]?=U e0/\pi e0 H:=λh=>(Sz frz _).get _ _ h
 constructor;refine R2.add (Nw (Nw hb (zL _ _ _)) (zM _ _ _)) (bu.own e _ bg (λl c h=>by cases h;exact B.nil rfl)) (λb N i G=> ?_) (λk t M b X F y N=> ?_) (λt b ht a9=> ?_);rcases an b (.inl N) with(h|h)|h;have:=R.mem.lt G;omega;exact(z b h).2.2.1 i G;exact(f b h).2.1 i G;obtain⟨bl,br⟩:=aas X;rcases ajF bl with⟨_,h⟩|⟨bs,a1⟩;cases h;rcases an b N with(h|h)|h;have:=(R.fl k t M b a1 F y).lt;omega;exact(z b h).2.2.2.1 k _ M bs a1 F (.inr ⟨⟨t,rfl⟩,y⟩);exact br ((f b h).2.2 k t M a1 F y);cases ht;have bt:cap≠0:=by
  intro h;subst h;simp[RV.jR] at a9
 rcases B.mem with n|⟨x,al,rfl,X,F,y,h4,Q⟩;exact absurd n bt;have af:x=b:=by
  obtain⟨c',rfl⟩:∃c',cap=c'+1:=⟨cap-1,by omega⟩;simpa[RV.jR] using a9
 subst af;have bx:∀(L:Nat)(H:RK)(M:RV),(ip kill 0 s.rs)[L]?=U H->O.r[L]?=U M->¬xN o H M x:=by
  intro L H M g1 j C;rcases ajF g1 with⟨_,rfl⟩|⟨hn,a3⟩;rcases C with C|⟨⟨t,ht⟩,_⟩;cases C;cases ht;rcases Q with Q|Q;rcases C with C|⟨⟨t,rfl⟩,C⟩;have:=(R.mem.ref L H M a3 j).1.lt C;omega;have:=(R.fl L t M x a3 j C).lt;omega;exact(z x Q).2.2.2.1 L H M hn a3 j C
 refine⟨?_,⟨Y rows,cap,al,rfl,X,B.le,F,y⟩,λi G=> ?_,λL H M g1 j C=> ?_,λG=> ?_⟩;rcases Q with Q|Q;exact .inl (aJL R.mem.base.size Q);exact(z x Q).1;rcases Q with Q|Q;have:=R.mem.lt G;omega;exact(z x Q).2.2.1 i G;obtain⟨e0,g4,hw⟩:=bk g1;exact bx L e0 M g4 j (C.mc hw);rcases Q with Q|Q;have:=ag.lt G;omega;exact(z x Q).2.2.2.2 G;intro b N;rcases an b (.inl (db.own _ _ _ N)) with(h|h)|h;exact .inl (aJL R.mem.base.size h);exact(z b h).1.imp id .inl;exact .inr (.inr (f b h).1)
end
section
variable{p:ai}{d:World}{D:bQ}{P:Program}{o:Ty}{V:ai}{O:aa}{s:S}{a:Act}{W:World}
def jT(A:mu)(X:Nat):bR:=match A,X with
 |U a,_+1=>U a.block
 |_,_=>Z
def Jn(A:mu)(n X:Nat)(R:am):(RV.mk (.slice A n X) R).jR=jT A X:=by
 cases A<;>cases X<;>rfl
structure Jo(W:World)(e:TypeId)(w:Nat)(A:mu)(cap:Nat):Prop where
 nil:A=Z->cap=0
 mem:cap=0\/∃b cur,A=U ⟨b,0,Z⟩/\W.heap[b]?=U (.cells cur e (0,0))/\cap<=maxLen/\cur.size=cap*w
def aat{e:TypeId}{X:am}{b n N:Nat}{Q:kN}{t:TypeId}{M:Nat×Nat}(h:bu W o (.sl e) (.mk (.slice (U ⟨b,0,Z⟩) n N) X))(L:W.heap[b]?=U (.cells Q t M)):
  Q.toList.take (Y X*(bq o (.sl e)).length)=dt X:=by
 have C:=zN (eG.wc h).len;have H:∀(q:Nat)(u:Value),(dt X)[q]?=U u->Q[q]?=U u:=by
  intro q u R;obtain⟨B,A,G,z,F⟩:=Ns h q u R;cases G;simpa[World.cell?,L] using F
 apply aI0;intro q;rw[aI6];by_cases R:q<(dt X).length;rw[if_pos (by omega),aIA R];simpa using H q _ (aIA R);rw[if_neg (by omega),aIT (by omega)]
def awv{e t t2 tyR:TypeId}{G:TI}(bd:dV P e G)(hw:Y G.ae≠0)(al:(bq o (.sl e)).length=Y G.ae)(r:P.underlying t=U (.slice e))(p:P.underlying t2=U (.slice e))
  {L N:am}{H n:mu}{X Q R cap2:Nat}(C:bu W o (.sl e) (.mk (.slice H X Q) L))(hr:Jo W e (Y G.ae) H Q)
  (an:Y N=R)(bf:eG W o e N)(bg:∀(q:Nat)(u:Value),(dt N)[q]?=U u->∃m,n=U m/\W.cell? (m.add q)=U u)
  (cl:X<=536870912)(cp:R<=536870912):
  ∃A bk W',(Builtin.append_ #[t,t2] tyR #[.slice H X Q,.slice n R cap2]).run P W=.ok (.slice A (X+R) bk) W'/\W.grownBy W' (jT H Q)/\Dv W W' e (Y G.ae) (jT H Q) (L++N) A bk:=by
 obtain⟨i,B,y,z,hz,bt⟩:=bd.I7;have bx:=bd.bytes i B;have b0:z.cells.size=Y G.ae:=by rw[<-aJJ,bt];simp
 obtain⟨l,cs⟩:=ru C;have b1:=eG.wc C;have bl:(dt L).length=X*i.size:=by rw[zN b1.len,l,al,y]
 have a3:(dt N).length=R*i.size:=by rw[zN bf.len,an,al,y]
 have a4:(dt (L++N)).length=(X+R)*Y G.ae:=by rw[aan,aIO,bl,a3,y,aJC]
 have g:(L++N).length=X+R:=by simp[l,an]
 have a9:∀M:World,(∀x,M.cell? x=W.cell? x)->(Builtin.firstCells i.size R (.slice n R cap2)).run P M=.ok (dt N).toArray M:=by
  intro M f;cases n with
  |none=>
   have:dt N=[]:=by
    cases hq:dt N with
    |nil=>rfl
    |cons x xs=>obtain⟨m,h,_⟩:=bg 0 x (by rw[hq];rfl);cases h
   rw[run_firstCells_none,this]
  |some a2=>
   refine run_firstCells_some M i.size R a2 R cap2 _ a3 (λj v hj=> ?_);obtain⟨m,h,h'⟩:=bg j v hj;cases h;rw[f];exact h'
 have b2:∀M:World,(∀x,M.cell? x=W.cell? x)->(Builtin.firstCells i.size X (.slice H X Q)).run P M=.ok (dt L).toArray M:=by
  intro M f;cases H with
  |none=>
   have:dt L=[]:=by
    cases hq:dt L with
    |nil=>rfl
    |cons x xs=>obtain⟨b,b3,h,_⟩:=Ns C 0 x (by rw[hq];rfl);cases h
   rw[run_firstCells_none,this]
  |some d=>
   refine run_firstCells_some M i.size X d X Q _ bl (λj v hj=> ?_);obtain⟨b,b3,h,_,h'⟩:=Ns C j v hj;cases h;rw[f,wb];exact h'
 by_cases af:X+R<=Q
 
 rcases aJB Q with h0|h0;have e1:X=0:=by omega
 have e2:R=0:=by omega
 subst h0 e1 e2;have r1:L=[]:=aI1 l;have r2:N=[]:=aI1 an;subst r1 r2;refine⟨H,0,W, ?_,⟨rfl,rfl,rfl,aIG _,λ_ _ _=>rfl⟩,⟨aIG _,λ_=>rfl,.inl rfl⟩⟩;have F:=a9 W (λ_=>rfl);have ag:∀d:Addr,(storeCells d [] 0).run P W=.ok () W:=λ_=>rfl
 cases H with
 |none=>simp[Builtin.append_,run_underlying r,run_underlying p,Go.sizeOf,typeInfo,B,Builtin.lenOf,F,dt]
 |some d=>simp[Builtin.append_,run_underlying r,run_underlying p,Go.sizeOf,typeInfo,B,Builtin.lenOf,F,dt,ag]
 rcases hr.mem with f|⟨b,w,rfl,hg,bb,b4⟩;omega;have b5:X*i.size+(dt N).length<=w.size:=by rw[a3,b4,<-aJC,y];exact aJM _ af
 have F:=a9 W (λ_=>rfl);have ag:=run_storeCells_at P b (X*i.size) e (dt N) 0 w W hg (by simpa using b5) (λu hu=>ajw (bf.single u hu));simp only[aJU] at ag;have br:jT (U ⟨b,0,Z⟩) Q=U b:=by cases Q with
  |zero=>omega
  |succ c=>rfl
 refine⟨U ⟨b,0,Z⟩,Q,W.setRow b (w.toList.take (X*i.size)++dt N++w.toList.drop (X*i.size+(dt N).length)).toArray, ?_,⟨rfl,rfl,rfl,by simp[World.setRow],λk _ hk=>setRow_other W b k _ (λh=>hk (by rw[br,h]))⟩,
  ⟨by rw[g];exact af,by simp,.inr ⟨b,_,rfl,setRow_heap W b w _ e _ hg,bb, ?_, ?_,.inr br⟩⟩⟩
 simp[Builtin.append_,run_underlying r,run_underlying p,Go.sizeOf,typeInfo,B,Builtin.lenOf,af,F,Addr.add_lit,ag];simp only[aJZ,aIO,aJS,aJT,aJJ];omega;have bs:=aat C hg;rw[l,al,<-y] at bs;rw[g,bs,<-aan,<-a4];exact List.take_left
 
 have b6:X+R<=1073741824:=by omega
 have b7:(X+R)*i.bytes<=140737488355328:=by
  have:(X+R)*i.bytes<=1073741824*131072:=aKM b6 bx;omega
 have ct:=growslice_fits (show Q<X+R by omega) b7;have b8:X+R<=maxLen:=by simp only[maxLen];omega
 have ca:=grownCap_ge W (X+R) Q e;have bb:=grownCap_le_maxLen W (X+R) Q e b8;have F:=a9 W.drew (λ_=>by simp);have cc:=b2 W.drew (λ_=>by simp);have cf:¬(9223372036854775807<((X:Int)+(R:Int))):=by omega
 have ch:¬(281474976710656<Builtin.nextslicecap (X+R) Q*i.bytes):=by omega
 refine⟨U ⟨W.heap.size,0,Z⟩,grownCap W (X+R) Q e,W.drew.alloc (.cells ((dt (L++N)).toArray++Builtin.zeroCells z.cells (grownCap W (X+R) Q e-(X+R))) e), ?_,
  ⟨rfl,rfl,rfl,by simp,λk hk _=>Below.heap_alloc W.drew _ _ hk⟩,⟨by rw[g];exact ca,by simp,.inr ⟨W.heap.size,_,rfl,World.alloc_heap_new W.drew _,bb, ?_, ?_,.inl (aIG _)⟩⟩⟩
 simp[Builtin.append_,run_underlying r,run_underlying p,Go.sizeOf,typeInfo,zeroValue,B,hz,Builtin.lenOf,af,cf,ch,Question.forced,F,cc,newRow,grownCap];congr 2;apply aJu;simp[aJ5,aan];simp only[Array.size_append,aJZ,size_zeroCells,b0,a4,<-aJC];congr 1;omega;simp only[Array.toList_append,g,<-a4];exact List.take_left
end
structure bF(s:S)(O:aa)(V:ai)(s':S)(O':aa)(V':ai):Prop where
 ext:mb s.boxes O O' V V'
 mono:∀i,aL s.boxes i=J->aL s'.boxes i=J
 len:Y s.boxes<=Y s'.boxes
 aq:s.aq<=s'.aq
def bF.refl(s:S)(O:aa)(V:ai):bF s O V s O V:=⟨mb.refl _ _ _,λ_ h=>h,aIG _,aIG _⟩
def bF.trans{s s' X:S}{O R Q:aa}{V N M:ai}(h:bF s O V s' R N)(k:bF s' R N X Q M):bF s O V X Q M:=
 ⟨h.ext.trans k.ext h.mono,λi L=>k.mono i (h.mono i L),aJL h.len k.len,aJL h.aq k.aq⟩
def bF.put{s s':S}{X:aa}{R:ai}(h:bF s k y s' X R)(d:bR)(v:SV):bF s k y (s'.put d v) X R:=by
 cases d<;>exact⟨h.ext,h.mono,h.len,h.aq⟩
def OR.gives(O:aa)(X:S):OR->Prop
 |.ok x=>X=x
 |.bj b x=>b.den O=J/\X=x
 |.split b R Q=>X=if b.den O then R else Q
 |.no _=>False
def rz(P:Program)(o:Oper)(a:Act)(W:World)(v:Value)(X:World):Prop:=
 (execOp a.eval o).run P W=.ok (.value v) X\/((execOp a.eval o).run P W=.ok .skip X/\v=undef)
def aau{s:S}(h:fj s.boxes R=J)(t:TypeId)(X:ah)(d:bR)(v:SV):bF s k y ((s.ck R t X).put d v) k (y.set R N):=by
 refine bF.put (s':=s.ck R t X) ⟨aju h k y N,λi Q=>(nT (lC h).2).2 (.inr Q),by simp[S.ck],by simp[S.ck]⟩ d v
def ajG{s:S}{Q:ah}(h:bU s.boxes R=U (X,w))(d:bR)(v:SV):bF s k y ((s.ck R X Q).put d v) k y:=by
 refine bF.put (s':=s.ck R X Q) ⟨mb.refl _ _ _,λi N=>(nT (aIz.1 (i8.1 h)).1).2 (.inr N),by simp[S.ck],by simp[S.ck]⟩ d v
def bF.lk{s X:S}{R:aa}{Q:ai}(h:bF s k y X R Q)(n:Nat):bF s k y {X with lk:=n} R Q:=⟨h.ext,h.mono,h.len,h.aq⟩
section
variable{g:ai}{u:World}{D:bQ}{P:Program}{f:bz}{V:ai}{O:aa}{s:S}{a:Act}{W:World}
def av.lk(R:av g u D f.ty V O s a W)(n:Nat):av g u D f.ty V O {s with lk:=n} a W:=⟨R.mem,R.fH,R.ei,R.eb,R.er,R.cM,R.size,R.tmps,R.fl⟩
def zO{s X:S}{d:bR}{r:PR}(h:(qY s d R r).gives k X):∃v,r.gives k v/\X=s.cq d v R:=by
 cases r with
 |ok v=>exact⟨v,rfl,h⟩
 |bj b v=>
  simp only[qY] at h;split at h;exact⟨v,⟨h.1,rfl⟩,h.2⟩;exact h.elim
 |no w=>exact h.elim
def ajH(n:Nat)(l:ah):(vP n l).length=n*Y l:=by
 induction n with
 |zero=>simp[vP]
 |succ n X=>simp[vP,X,aJC];omega
def aav(l:ah):∀(n k:Nat),k<n*Y l->(vP n l)[k]?=l[k%Y l]?
 |0,k,h=>by simp at h
 |n+1,k,h=>by
  have Q:0<Y l:=by
   rcases aJB (Y l) with X|X;rw[X] at h;simp at h;exact X
  rw[vP];by_cases R:k<Y l;rw[aIB R,Nat.mod_eq_of_lt R];rw[aIH (by omega),aav l n (k-Y l) (by rw[aJC] at h;omega)];congr 1;have:k=(k-Y l)+Y l:=by omega
  conv=>rhs;rw[this,Nat.add_mod_right]
def Nx(R:av g u D f.ty V O s a W)(C:iu P f.ty)(F:ek f.gl O)(m:OM){s':S}(h:(fw f m s).gives O s'):
  ∃v W' V',rz P m.o a W v W'/\av g u D f.ty V' O s' (a.put m.o.dst v) W'/\bF s O V s' O V':=by
 unfold fw at h;split at h;exact h.elim;rename_i Q;have Q:∀x∈m.o.op.operands.toList,(s.ev f.gl x).dP=false:=by
  intro x hx;cases hh:(s.ev f.gl x).dP;rfl;exact absurd (aI7.2 ⟨x,hx,hh⟩) Q
 split at h
 
 rename_i t X;split at h;rename_i ti w;split at h;rename_i N;simp only[aIy] at N;cases h;obtain⟨z,ag,al⟩:=Jb (P:=P) (W:=W) (O:=O) (V:=V) (C _ _ w);have G:=R.alloc (rr N.2) t (di ti) N.1;rw[rq (Jh N.2)] at G;have n:=lC (rr N.2);refine⟨.pointer (U ⟨W.heap.size,0,Z⟩),W.alloc (.cells (SV.aA O V (di ti)).toArray t),V.set m.ix W.heap.size,.inl ?_, ?_,aau (rr N.2) _ _ _ _⟩;rw[<-al];simp[execOp,X,Instr.alloc,ag,newVar,newRow];have:=G.put m.o.dst (.loc m.ix 0);rw[SV.den,BM (by rw[R.fH];exact n.2)] at this;exact this;exact h.elim;exact h.elim
 
 rename_i t x X;rw[X] at Q;have he:=cu R F x (Q x (by simp[Op.operands]));split at h;rename_i ti w;split at h;rename_i N;simp only[aIy] at N;cases h;obtain⟨⟨⟨-,j⟩,h2⟩,H⟩:=N;have an:=Sw (O:=O) (V:=V) (uy R) h2;have G:=R.alloc (rr H) t (s.ev f.gl x).cells j;rw[rq (Jh H)] at G;have n:=lC (rr H);refine⟨.pointer (U ⟨W.heap.size,0,Z⟩),W.alloc (.cells (SV.aA O V (s.ev f.gl x).cells).toArray t),V.set m.ix W.heap.size,.inl ?_, ?_,aau (rr H) _ _ _ _⟩;rw[<-an];simp[execOp,X,Instr.box,newVar,newRow,he];have:=G.put m.o.dst (.loc m.ix 0);rw[SV.den,BM (by rw[R.fH];exact n.2)] at this;exact this;exact h.elim;exact h.elim
 
 rename_i t L parts X;rw[X] at Q;have a9:(parts.map λ(i,x)=>(i,a.eval x)).toList=(parts.toList.map λp=>(p.1,s.ev f.gl p.2)).map λp=>(p.1,p.2.den O V):=by
  simp only[aJy,aJo];apply aIY;intro p hp;have:=cu R F p.2 (Q p.2 (by simp[Op.operands];exact⟨p.1,by simpa using hp⟩));simp[this]
 split at h;rename_i e ae q w;split at h;rename_i M a0;split at h;rename_i l hf;split at h;rename_i N;simp only[aIy,decide_eq_true_eq] at N;cases h;obtain⟨⟨j,h2⟩,H⟩:=N;have hd:P.underlying t=U (.slice e):=(C _ _ w).desc;obtain⟨z,ag,al⟩:=Jb (P:=P) (W:=W) (O:=O) (V:=V) (C _ _ a0);have bb:=Np (V:=V) (uy R) _ _ _ _ hf;have d:(di M).length=Y M.ae:=by simp[di]
 have hzero:((aLL (L*Y M.ae)).map ((if L*Y M.ae=0 then #[] else z.cells)[· %(if L*Y M.ae=0 then #[] else z.cells).size]!))=(SV.aA O V (vP L (di M))).toArray:=by
  apply aJu;apply aI0;intro k;by_cases af:k<L*Y M.ae;have bg:¬L*Y M.ae=0:=by omega
  have bk:0<Y M.ae:=by
   rcases aJB (Y M.ae) with B|B;rw[B] at af;simp at af;exact B
  have bd:k%Y M.ae<(SV.aA O V (di M)).length:=by rw[F6,d];exact aKA _ bk
  simp only[bg,if_false,al,aJy,aLr,aIE,aJ1 af,aII,rk,aav _ _ _ (by rw[d];exact af),d];rw[<-rk,aIA bd];simp only[aJZ,F6,d];rw[getElem!_pos _ _ (by simpa using bd)];simp;rw[aIT (by simp;omega),aIT (by simp[ajH,d];omega)]
 have G:=R.alloc (rr H) e l j;rw[rq (Jh H)] at G;have n:=lC (rr H);refine⟨.slice (U ⟨W.heap.size,0,Z⟩) L L,W.alloc (.cells (SV.aA O V l).toArray e),V.set m.ix W.heap.size,.inl ?_, ?_,aau (rr H) _ _ _ _⟩;have bf:¬L*Y M.ae>2^24:=by omega
 by_cases B:L*Y M.ae=0;simp only[if_pos B] at hzero;simp only[execOp,X,Instr.buildSlice,Sem.run_bind,dV.gt hd,Result.andThen_ok,(C _ _ a0).ma,bf,if_false,Sem.run_pure,if_pos B,a9];rw[hzero,bb];simp[newRow];simp only[if_neg B] at hzero;simp only[execOp,X,Instr.buildSlice,Sem.run_bind,dV.gt hd,Result.andThen_ok,(C _ _ a0).ma,bf,if_false,Sem.run_pure,if_neg B,a9,ag];rw[hzero,bb];simp[newRow];have:=G.put m.o.dst (.gY m.ix 0 L L);rw[SV.den,BM (by rw[R.fH];exact n.2)] at this;exact this;exact h.elim;exact h.elim;exact h.elim;exact h.elim
 
 rename_i t x y X;rw[X] at Q;have a1:=cu R F x (Q x (by simp[Op.operands]));have a3:=cu R F y (Q y (by simp[Op.operands]));split at h;rename_i ti i br w hx;split at h;rename_i bt cs r;split at h;rename_i N;simp only[aIy,beq_iff_eq,decide_eq_true_eq] at N;cases h;obtain⟨⟨⟨⟨j,h2⟩,H⟩,h4⟩,-⟩:=N;have an:=Sw (O:=O) (V:=V) (uy R) h4;obtain⟨r,bl⟩:=xP r;obtain⟨W',hr,G⟩:=R.store (C _ _ w) r bl j h2 H an;refine⟨undef,W',V,.inr ⟨?_,rfl⟩,G.put m.o.dst (.bH []),ajG r _ _⟩;simp only[execOp,X,a1,a3,hx,SV.den,Sem.run_bind,hr,Result.andThen_ok,Sem.run_pure];exact h.elim;exact h.elim;exact h.elim
 
 rename_i c x y X;rw[X] at Q;have a4:=cu R F c (Q c (by simp[Op.operands]));have a1:=cu R F x (Q x (by simp[Op.operands]));have a3:=cu R F y (Q y (by simp[Op.operands]));split at h;rename_i b r;simp only[OR.gives] at h;rw[r,SV.den] at a4;cases A:b.den O;simp only[A,aIU,if_false] at h;subst h;refine⟨_,W,V,.inl ?_,R.put _ _,(bF.refl _ _ _).put _ _⟩;simp[execOp,X,a4,A,asBool,a3];simp only[A,if_true] at h;subst h;refine⟨_,W,V,.inl ?_,R.put _ _,(bF.refl _ _ _).put _ _⟩;simp[execOp,X,a4,A,asBool,a1];exact h.elim
 
 rename_i t x X;obtain⟨v,A,rfl⟩:=zO h;exact⟨v.den O V,W,V,.inl (ajr R C F m.o Q (by rw[X];exact A)),(R.lk _).put _ _,((bF.refl _ _ _).lk _).put _ _⟩
 
 obtain⟨v,A,rfl⟩:=zO h;exact⟨v.den O V,W,V,.inl (ajr R C F m.o Q A),(R.lk _).put _ _,((bF.refl _ _ _).lk _).put _ _⟩
def av.room{g:ai}{u:World}{D:bQ}{V:ai}{O:aa}{s:S}{a:Act}{W:World}(R:av g u D f.ty V O s a W)(n:Nat):
  av g u D f.ty (V++aIL n 0) O (s.room n) a W/\bF s O V (s.room n) O (V++aIL n 0):=by
 have X:∀k,ad (V++aIL n 0) k=ad V k:=by
  intro k;simp only[ad,aIC];by_cases h:k<Y V;rw[aIB h];rw[aIH (by omega),aIT (l:=V) (by omega),aJD];split<;>rfl
 have G:∀i,bU (s.boxes++aIL n Z) i=bU s.boxes i:=by
  intro i;simp only[cw];by_cases h:i<Y s.boxes;rw[aIB h];rw[aIH (by omega),aIT (l:=s.boxes) (by omega),aJD];split;rename_i N;split at N<;>cases N;rfl
 have M:∀i,aL (s.boxes++aIL n Z) i=aL s.boxes i:=λi=>by simp[aL,G]
 have C:=gT.refl O (Y O.i) (Y O.b) (Y O.r);have F:∀v,SV.den O (V++aIL n 0) v=v.den O V:=by
  intro v;have:ad (V++aIL n 0)=ad V:=funext X;exact Sm this v
 have w:∀l,SV.aA O (V++aIL n 0) l=SV.aA O V l:=λl=>by simp only[nQ];exact aIY λv _=>F v
 refine⟨⟨⟨R.mem.base,λi Q=> ?_,λi j Q B=> ?_,λi t A h=> ?_,λk e L N H=> ?_⟩,by simp[S.room,R.fH],R.ei,R.eb,R.er,R.cM,R.size,λt z h=> ?_,λk e L b N H y=> ?_⟩,⟨⟨C,aIG _,aIG _,aIG _,λk _=>X k⟩,λi Q=> ?_,by simp[S.room],aIG _⟩⟩;rw[X];exact R.mem.own i (by rw[<-M];exact Q);rw[X,X];exact R.mem.inj i j (by rw[<-M];exact Q) (by rw[<-M];exact B);rw[X,ai1 (funext X)];exact R.mem.box i t A (by rw[<-G];exact h);refine⟨(R.mem.ref k e L N H).1,λb x i Q=> ?_⟩;rw[X];exact(R.mem.ref k e L N H).2 b x i (by rw[<-M];exact Q);rw[F];exact R.tmps t z h;have t:=R.fl k e L b N H y;exact⟨t.own,t.mem,λi Q=>by rw[X];exact t.box i (by rw[<-M];exact Q),t.alone,t.inner⟩;simp only[S.room];rw[M];exact Q
end
section
variable{p:ai}{f:World}{D:bQ}{P:Program}{cf:bz}{V:ai}{O:aa}{s:S}{a:Act}{W:World}
def xT{d:bR}{bj:BE}{x:LE}{R:ai}{b:BI}(h:jm s d bj X z x y R=U b):
  s.bd=J/\(∀z∈y,z∉R)/\b=⟨bj,X,x,({s with rs:=jw R 0 (ip y 0 s.rs)++[z]}:S).put d (.ref (.v (Y s.rs)))⟩:=by
 unfold jm at h;split at h;rename_i Q;cases h;simp only[aIy] at Q;exact⟨Q.1.1.1,λz N=>by have:=aIN.1 Q.1.1.2 z N;simpa using this,rfl⟩;cases h
def Ge{X:S}(N:av p f D n V (O.add (.r L)) X a Q)(M:Y O.r=R)(d:bR):av p f D n V (O.add (.r L)) (X.put d (.ref (.v R))) (a.put d L.val) Q:=by
 have:=N.put d (.ref (.v R));have e:SV.den (O.add (.r L)) V (.ref (.v R))=L.val:=by subst M;simp[SV.den,RE.den,RE.rv,aa.rv,aa.add]
 rwa [e] at this
def Dw{rv:RV}(X:bc)(d:bR)(v:SV):bF s O V (({s with rs:=X}:S).put d v) (O.add (.r rv)) V:=
 bF.put (s:=s) (s':={s with rs:=X}) ⟨pW _ _ _ _,λ_ h=>h,aIG _,aIG _⟩ d v
def SF{n:IE}(h:(IG n).den O=J):n.den O<=536870912:=by
 unfold IG at h;rw[BH] at h;simp only[gg,IE.den,IF] at h;exact of_decide_eq_true h
def Jp(P:Program)(p:ai)(f:World)(D:bQ)(R:Ty)(V:ai)(O:aa)(s:S)(a:Act)(W:World)(o:Oper)(b:BI):Prop:=
 ∃v Q X,rz P o a W v Q/\F7 R p f b.e b.x s.rs O X/\av p f D R V (O.add (.r X)) b.s (a.put o.dst v) Q/\bF s O V b.s (O.add (.r X)) V
def Ny(Q:av p f D cf.ty V O s a W)(h:s.rs[R]?=U (.own X)):∃A n N,O.rv R=.mk (.slice A n N) (O.rv R).rows/\bu W cf.ty (.sl X) (.mk (.slice A n N) (O.rv R).rows)/\Jo W X (bq cf.ty (.sl X)).length A N:=by
 have M:=aab Q h;have x:=s6 Q h;have G:=λb F=>Q.fl R X _ b h x F
 revert M G;generalize O.rv R=w;intro M G;cases M with
 |own X w M B=>
  cases M with
  |sl X A L N z v u t r F q=>
   refine⟨A,L,N,rfl,bu.sl X A L N z v u t r F q,λo=>B L N (by rw[o];rfl), ?_⟩;rcases aJB N with y|y;exact .inl y;right;cases A with
   |none=>have:=B L N rfl;omega
   |some C=>
    have m:(RV.mk (.slice (U C) L N) z).jR=U C.block:=by rw[Jn];cases N with
     |zero=>omega
     |succ c=>rfl
    obtain⟨d,c',l,H,j,g3,i,g⟩:=(G _ m).mem;simp only[RV.lZ,Value.slice.injEq] at H;obtain⟨H,rfl,rfl⟩:=H;exact⟨C.block,l,H,j,i,g⟩
def aww(R:av p f D cf.ty V O s a W){F:LE}{v:BE}(h:vQ s X t M=U (F,v,y))(q:v.den O=J):
  ∃A n N,M.den O V=.slice A n N/\bu W cf.ty (.sl X) (.mk (.slice A n N) (F.rows O))/\Jo W X (bq cf.ty (.sl X)).length A N/\n<=536870912/\
   ((y=[]/\jT A N=Z)\/∃k Q C,y=[k]/\s.rs[k]?=U (.own Q)/\O.r[k]?=U C/\jT A N=C.jR)/\∀G,BO cf.ty V O s X (F.rows O) G:=by
 unfold vQ at h;split at h;rename_i k;split at h;rename_i o;cases h;have L:=o.1;obtain⟨A,n,N,B,m,l⟩:=Ny R L;have z:=SF q;refine⟨A,n,N,by simp only[SV.den,RE.den,RE.rv];rw[B];rfl,by simpa[LE.rows,RE.rv] using m,l, ?_,.inr ⟨k,X,O.rv k,rfl,L,s6 R L,by rw[B,Jn]⟩,λG b H=> ?_⟩;simp only[IE.den,RE.rv] at z;rw[B] at z;simp[lenOf] at z;omega;simp only[LE.rows,RE.rv] at H;have u:=Jl (O:=O) (e0:=.own X) rfl H;refine⟨⟨k,_,L,u⟩,(R.mem.ref k _ _ L (s6 R L)).2 b u,λd Q C j i g=>(Nv R j i g L rfl H).elim⟩;cases h;rename_i r c;split at h;rename_i w;cases h;unfold RE.isNil at w;split at w;refine⟨Z,0,0,rfl,BN _ _,⟨λ_=>rfl,.inl rfl⟩,by omega,.inl ⟨rfl,rfl⟩,λG b H=>(Nu (by simpa[LE.rows] using H)).elim⟩;cases w;cases h;cases h;refine⟨_,0,0,rfl,BN _ _,⟨by simp,.inl rfl⟩,by omega,.inl ⟨rfl,rfl⟩,λG b H=>(Nu (by simpa[LE.rows] using H)).elim⟩;cases h
def SH{w:Nat}:∀{n:Nat}{l:ah}{i:Nat}{X:ah},(iN w n l)[i]?=U X->X=(l.drop (i*w)).take w/\i<n
 |0,l,i,X,h=>by simp[iN] at h
 |n+1,l,0,X,h=>by simp[iN] at h;subst h;exact⟨by simp,by omega⟩
 |n+1,l,i+1,X,h=>by
  simp only[iN,aJa] at h;obtain⟨R,Q⟩:=SH h;refine⟨?_,by omega⟩;rw[R,aKr];congr 2;rw[aJC];omega
def SI(w:Nat):∀(n:Nat)(l:ah),(iN w n l).length=n
 |0,l=>rfl
 |n+1,l=>by simp[iN,SI w n]
def SJ:∀{l:ah}{r:RE}{k:Nat},SV.ref r∈l->r.root=U k->k∈SV.nL l
 |[],r,k,h,_=>by simp at h
 |x::R,r,k,h,X=>by
  simp only[SV.nL,aIM];rcases aIK.1 h with rfl|h;left;simp[SV.ZE,X];right;exact SJ h X
def ajI(R:av p f D cf.ty V O s a W){l:vK}{frz:ai}(C:lX cf.ty s (bq cf.ty (.sl X)) l=J)(B:∀N∈l,∀(r:RE)(k:Nat),SV.ref r∈N->r.root=U k->k∈frz):
  BO cf.ty V O s X (l.map λN=>N.map (SV.bN O)) frz:=by
 intro b ⟨i,j,N,c,z,k,Q,A,y,x⟩;rw[aIE] at Q;cases M:l[i]? with
 |none=>rw[M] at Q;cases Q
 |some L=>
  rw[M] at Q;simp at Q;subst Q;obtain⟨r,w,H,G,F⟩:=aar (Du C i L M) A y x;obtain⟨v,u⟩:=Jm R G H F;refine⟨v,u,λn t m q o k3=> ?_⟩;have:=SD R q o k3 G H F;subst this;exact B L (aIW M) _ _ (aIW w) rfl
def aaw(R:av p f D cf.ty V O s a W){l:vK}(M:lX cf.ty s (bq cf.ty (.sl X)) l=J):eG W cf.ty X (l.map λN=>N.map (SV.bN O)):=by
 refine eG.of (λi N Q=> ?_);rw[aIE] at Q;cases h:l[i]? with
 |none=>rw[h] at Q;cases Q
 |some L=>rw[h] at Q;simp at Q;subst Q;exact aaq R (Du M i L h)
def aax{e:TypeId}{l:ah}{w n:Nat}(z:(bq cf.ty (.sl e)).length=w)(G:lX cf.ty s (bq cf.ty (.sl e)) (iN w n l)=J){q:Nat}{u:Value}(F:(∀(i:Nat)(R:aH),((iN w n l).map λR=>R.map (SV.bN O))[i]?=U R->Y R=w))
  (h:(dt ((iN w n l).map λR=>R.map (SV.bN O)))[q]?=U u):(SV.aA O V l)[q]?=U u:=by
 obtain⟨i,j,R,c,Q,N,rfl,rfl⟩:=Jk F h;rw[aIE] at Q;cases M:(iN w n l)[i]? with
 |none=>rw[M] at Q;cases Q
 |some L=>
  rw[M] at Q;simp at Q;subst Q;rw[aIE] at N;cases X:L[j]? with
  |none=>rw[X] at N;cases N
  |some v=>
   rw[X] at N;simp at N;subst N;obtain⟨y,C⟩:=Gd (Du G i L M);have x:j<Y L:=(aIz.1 X).1;obtain⟨H,B⟩:∃H,(bq cf.ty (.sl e))[j]?=U H:=⟨_,aIA (by omega)⟩;rw[rk];have A:=(SH M).1;have:l[i*w+j]?=U v:=by
    rw[A,aI6] at X;split at X
    rwa [aJi] at X
    cases X
   rw[this];simp only[aII,aID];exact ajE (C j H v B X)
def awx(R:av p f D cf.ty V O s a W)(ag:cf.ty X=U v){G:LE}{n2:BE}(h:pR cf.ty s X v M=U (G,n2,y))(hn:n2.den O=J):
  ∃A n N,M.den O V=.slice A n N/\(G.rows O).length=n/\eG W cf.ty X (G.rows O)/\(∀(q:Nat)(u:Value),(dt (G.rows O))[q]?=U u->∃a0,A=U a0/\W.cell? (a0.add q)=U u)/\n<=536870912/\BO cf.ty V O s X (G.rows O) y:=by
 have m:bq cf.ty (.sl X)=v.ae:=by simp[bq,ag]
 unfold pR at h;split at h;rename_i r;split at h;rename_i l;cases h;unfold RE.isNil at l;split at l;exact⟨Z,0,0,rfl,rfl,eG.nil,λq u L=>by simp[LE.rows,dt] at L,by omega,λb Q=>(Nu (by simpa[LE.rows] using Q)).elim⟩;cases l;split at h;rename_i F;cases h;have B:=pV R (by simp) F;have z:=SF hn;simp only[IE.den] at z;have j:BO cf.ty V O s X (r.rv O).rows []:=by
  intro b Q;have hl:db cf.ty (.sl X) (r.rv O) b:=by rw[<-Gc (r.rv O)];exact SA Q
  obtain⟨q1,q2⟩:=Jm R (by simp) F hl;refine⟨q1,q2,λk' t g x k2 k3=> ?_⟩;have:=SD R x k2 k3 (by simp) F hl;subst this;simp only[RE.kind,aIC,x,aJd,RK.rd,RK.sl.injEq] at F;subst F;exact(Nv R x k2 k3 x rfl Q).elim
 simp only[SV.den,RE.den,LE.rows];revert B z j;generalize r.rv O=g;intro B z j;have w:=eG.wc (v:=g.val) (rows:=g.rows) (by rw[Gc];exact B);cases B with
 |sl X A H N al o h2 d hi Q ho=>
  refine⟨A,H,N,rfl,o,w,λq u L=> ?_,by simp[lenOf] at z;omega,j⟩;obtain⟨b,c,g1,g2,g3⟩:=Ns (bu.sl X A H N al o h2 d hi Q ho) q u L;exact⟨_,g1,by rw[wb];exact g3⟩
 cases h;rename_i i c H N;split at h;rename_i bt cs Q;split at h;rename_i hc;cases h;simp only[aIy,decide_eq_true_eq] at hc;obtain⟨⟨o,h2⟩,d⟩:=hc;have hf:lX cf.ty s (bq cf.ty (.sl X)) (iN (Y v.ae) H (vN cs c (H*Y v.ae)))=true:=by rw[m];exact o
 have w:=aaw R hf;refine⟨U ⟨ad V i,c,Z⟩,H,N,rfl,by simp[LE.rows,SI],by simpa[LE.rows] using w,λq u L=> ?_,by simp[IF] at d;omega, ?_⟩;simp only[LE.rows] at L;have C:=aax (V:=V) (by rw[m]) hf (λi af hr=>by rw[w.len i af hr,m]) L;refine⟨_,rfl, ?_⟩;rw[rk,vN,aI6] at C;split at C;rw[aJi,<-rk] at C;obtain⟨Q,an⟩:=xP Q;have:=R.mem.box i bt cs Q;rw[rq an] at this;rw[wb];simp[World.cell?,this,C];simp at C;refine ajI R hf (λaf a1 r k hr hk=> ?_);obtain⟨ii,a3⟩:=aJg a1;have:=(SH a3).1;subst this;exact SJ (aJA (aJG hr)) hk;cases h;cases h;cases h
end
section
variable{d:ai}{g:World}{D:bQ}{P:Program}{f:bz}{V:ai}{O:aa}{s:S}{a:Act}{W:World}
def zP{x y:BE}(h:(uo x y).den O=J):x.den O=J/\y.den O=true:=by
 rw[Z6] at h;simpa using h
def xU{x y:IE}(h:(oq .leq x y).den O=J):x.den O<=y.den O:=by
 rw[BH] at h;simp only[gg] at h;exact of_decide_eq_true h
def awy(R:av d g D f.ty V O s a W)(H:iu P f.ty)(hg:ek f.gl O){c:Call}(r:F.op=.call c)(n:c.callee=.builtin .append){dr:Bool}{b:BI}(h:dM f F t dr s=U b)(hn:b.bj.den O=J):
  Jp P d g D f.ty V O s a W F b:=by
 unfold dM at h;simp only[r,n] at h;split at h;rename_i X m x y ag G;split at h;rename_i e ae q L bl q2 ht al;split at h;rename_i l C;split at h;cases h;rename_i k;have he:e=L:=by by_cases Q:e=L;exact Q;exact absurd (.inl Q) k
 have an:Y l.ae≠0:=λQ=>k (.inr Q)
 subst he;split at h;rename_i N n1 br M n2 j i h2;obtain⟨a0,a1,rfl⟩:=xT h;obtain⟨a3,a4⟩:=zP hn;obtain⟨A1,m1,c1,e1,B,g2,g3,g4,g5⟩:=aww (cf:=f) R i a3;obtain⟨A2,m2,c2,L,k1,k2,k3,k4,k5⟩:=awx R C h2 a4;have w:(bq f.ty (.sl e)).length=Y l.ae:=by simp[bq,C]
 obtain⟨A,v,W',r1,r2,r3⟩:=awv (P:=P) (tyR:=F.type) (t:=X) (t2:=m) (cap2:=c2) (H _ _ C) an w (H _ _ ht).desc (H _ _ al).desc B (by rw[<-w];exact g2) k1 k2 k3 g3 k4;have a9:(LE.kz N M).rows O=N.rows O++M.rows O:=rfl;have af:(N.rows O++M.rows O).length=m1+m2:=by rw[aIO,(ru B).1,k1]
 have bb:BO f.ty V O s e (N.rows O++M.rows O) j:=λb hb=>(aws hb).elim (g5 j b) (k5 b)
 obtain⟨R',bd⟩:=R.bind a0 (old:=jT A1 c1) g4 a1 r2 ((eG.wc B).kz k2) bb (by rw[w];exact r3);refine⟨.slice A (m1+m2) v,W',.mk (.slice A (N.rows O++M.rows O).length v) (N.rows O++M.rows O),.inl ?_,⟨⟨A,_,v,by rw[a9],rfl⟩,bd,λ_ _ _ _ h=>by cases h⟩, ?_,Dw _ _ _⟩;have ha:c.args.toList=[c.args.toList.getD 0 default,c.args.toList.getD 1 default]:=by
  have hl:Y c.args.toList=2:=by have:=congrArg Y G;simpa using this
  match c.args.toList,hl with
  |[p,q],_=>rfl
 have bf:∀z∈c.args.toList,a.eval z=(s.ev f.gl z).den O V:=by
  intro z u;refine cu R hg z ?_;have:s.ev f.gl z∈[x,y]:=by rw[<-G];exact List.mem_map_of_mem u
  rcases aIK.1 this with Q|Q;rw[Q];cases x<;>first|rfl|(simp[vQ] at i)
  rw[aKB.1 Q];cases y<;>first|rfl|(simp[pR] at h2)
 have bg:c.args.map a.eval= #[x.den O V,y.den O V]:=by
  apply aJu;rw[aJy];have:c.args.toList.map a.eval=(c.args.toList.map (s.ev f.gl)).map (SV.den O V):=by
   rw[aJo];exact aIY λz u=>bf z u
  rw[this,G];rfl
 have bk:c.argTypes= #[X,m]:=by apply aJu;rw[ag]
 simp only[execOp,r,resolve,n,Sem.run_bind,Sem.run_pure,Result.andThen_ok,invoke,builtin,bg,bk,e1,L,r1];have:=Ge R' R.er F.dst;rw[RV.lZ,af] at this;rw[af];exact this;cases h;cases h;cases h;cases h
def awz(X:CT):((Bi X).bN O).val=ph X:=by cases X<;>rfl
def awA(R:av d g D f.ty V O s a W)(af:iu P f.ty)(hg:ek f.gl O){xm:Operand}(ho:F.op=.makeSlice X r xm){dr:Bool}{b:BI}(h:dM f F t dr s=U b)(hn:b.bj.den O=J):
  Jp P d g D f.ty V O s a W F b:=by
 unfold dM at h;simp only[ho] at h;split at h;rename_i e ae q n m ht a4 a9;split at h;rename_i Q y;split at h;rename_i hc;simp only[aIy,bne_iff_ne,ne_eq] at hc;obtain⟨⟨bk,bl⟩,br⟩:=hc;obtain⟨bs,cv,rfl⟩:=xT h;obtain⟨ag,al⟩:=zP hn;have ag:=xU ag;have al:=SF al;simp only[IE.den] at ag;obtain⟨N,x⟩:∃N:Nat,n.den O=(N:Int):=⟨(n.den O).toNat,by omega⟩;rw[x] at al;have bt:N<=536870912:=by omega
 have hw:(bq f.ty (.sl e)).length=Y Q.ae:=by simp[bq,y]
 have u:bq f.ty (.sl e)=Q.ae:=by simp[bq,y]
 have an:=cu R hg r (by rw[a4];rfl);have a1:=cu R hg xm (by rw[a9];rfl);have bx:m=n:=(IE.bI _ _ bk).symm;rw[a4,SV.den,x] at an;rw[a9,SV.den,bx,x] at a1;obtain⟨i,hi,b0,z,hz,bb⟩:=(af _ _ y).I7;have b1:=(af _ _ y).bytes i hi;have bd:z.cells.size=Y Q.ae:=by rw[<-aJJ,bb];simp
 have hf:lX f.ty s (bq f.ty (.sl e)) [di Q]=true:=by rw[u];exact bl
 have b2:SE W f.ty (bq f.ty (.sl e)) ((di Q).map (SV.bN O)):=aaq R (Du hf 0 _ rfl);have b3:(LE.sM n (di Q)).rows O=aIL N ((di Q).map (SV.bN O)):=by simp[LE.rows,x]
 have C:eG W f.ty e (aIL N ((di Q).map (SV.bN O))):=eG.of (λi p H=>by
  rw[aJD] at H;split at H;cases H;exact b2;cases H)
 have b4:BO f.ty V O s e (aIL N ((di Q).map (SV.bN O))) []:=by
  intro b ⟨i,j,p,c,z,k,G,L,M,hl⟩;rw[aJD] at G;split at G;cases G;exfalso;rw[aIE,di,aIE] at L;rw[u] at M;rw[M] at L;simp only[aII,aID,Bi,SV.bN,RE.rv] at L;subst L;cases hl with
  |deep e v b5 i j p c z k b g1=>simp at g1
  |own e' cx b hl=>
   have a3:=(Gd (Du hf 0 _ rfl)).2 j _ (.ref (.k z)) (by rw[u];exact M) (by simp[di,M,Bi]);simp[qX,RE.fits] at a3
  |here e a0 b6 b7 b5=>
   have a3:=(Gd (Du hf 0 _ rfl)).2 j _ (.ref (.k (.slice (U a0) (b6+1) b7))) (by rw[u];exact M) (by simp[di,M,Bi]);simp[qX,RE.fits,RE.kind,RE.isNil] at a3
  cases G
 have b8:(aLL (N*Y Q.ae)).map (z.cells[· %z.cells.size]!)=(dt (aIL N ((di Q).map (SV.bN O)))).toArray:=by
  apply aJu;apply aI0;intro q;have cy:(dt (aIL N ((di Q).map (SV.bN O)))).length=N*Y Q.ae:=by rw[zN C.len,hw];simp
  by_cases hq:q<N*Y Q.ae;have ca:0<Y Q.ae:=by omega
  have cc:q/Y Q.ae<N:=aLe (by rw[aK1];exact hq);have hj:q%Y Q.ae<Y Q.ae:=aKA _ ca;have bf:Q.ae[q%Y Q.ae]?=U Q.ae[q%Y Q.ae]:=aIA hj;have G:(aIL N ((di Q).map (SV.bN O)))[q/Y Q.ae]?=U ((di Q).map (SV.bN O)):=by rw[aJD,if_pos cc]
  have L:((di Q).map (SV.bN O))[q%Y Q.ae]?=U ((Bi Q.ae[q%Y Q.ae]).bN O):=by simp[di,bf]
  have M:=Nr (w:=Y Q.ae) (λi p H=>by rw[C.len i p H,hw]) G L;have ch:q/Y Q.ae*Y Q.ae+q%Y Q.ae=q:=by rw[aK1];exact aLf q _
  rw[ch,awz] at M;simp only[aJy,aLr,aIE,aJ1 hq,aII,bd];rw[M];congr 1;have bg:q%Y Q.ae<z.cells.size:=by rw[bd];exact hj
  rw[getElem!_pos z.cells _ bg];have:z.cells.toList[q%Y Q.ae]?=U (ph Q.ae[q%Y Q.ae]):=by rw[bb,aIE,bf];rfl
  rw[aKm,aKX bg] at this;simpa using this;rw[aIT (by simp;omega),aIT (by rw[aKt];omega)]
 have cl:IntKind.i64.wrap (N:Int)=N:=IntWalk.i64_in _ (by omega);have cA:(i.bytes:Int)*N<=2^46:=by
  have:i.bytes*N<=131072*536870912:=aKM b1 bt;have L:((i.bytes*N:Nat):Int)<=((131072*536870912:Nat):Int):=Int.ofNat_le.2 this;simp only[Int.natCast_mul] at L;omega
 obtain⟨R',cp⟩:=R.bind bs (old:=Z) (kill:=[]) (frz:=[]) (A:=U ⟨W.heap.size,0,Z⟩) (cap:=N) (W':=W.alloc (.cells (dt (aIL N ((di Q).map (SV.bN O)))).toArray e)) (.inl ⟨rfl,rfl⟩) (by simp) (World.grownBy_alloc W _ Z) C b4
  ⟨by simp,by simp,by
   rcases aJB N with B|B;exact .inl B;exact .inr ⟨W.heap.size,_,rfl,World.alloc_heap_new W _,by simp only[maxLen];omega,by
    rw[aJZ,zN C.len,hw];simp,by
    rw[aKt,aJW];rw[zN C.len];exact aIG _,.inl (aIG _)⟩⟩
 refine⟨.slice (U ⟨W.heap.size,0,Z⟩) N N,W.alloc (.cells (dt (aIL N ((di Q).map (SV.bN O)))).toArray e),.mk (.slice (U ⟨W.heap.size,0,Z⟩) (aIL N ((di Q).map (SV.bN O))).length N) _,.inl ?_,⟨⟨_,_,_,by rw[b3],rfl⟩,cp,λ_ _ _ _ h=>by cases h⟩, ?_,Dw _ _ _⟩;have hd:P.underlying X=U (.slice e):=(af _ _ ht).desc;rw[<-b8];have c1:¬((N:Int)<0):=by omega
 have c2:¬((i.bytes:Int)*N>2^48):=by omega
 by_cases B:N*Y Q.ae=0;have cs:N=0:=by rcases Nat.mul_eq_zero.1 B with l|l;exact l;exact absurd l br
 subst cs;have ct:IntKind.i64.wrap 0=0:=IntWalk.i64_in 0 (by omega);simp[execOp,ho,an,a1,Instr.makeSlice,dV.gt hd,asInt,asIntOf,typeInfo,hi,ct,Go.sizeOf,newRow,askRoom];congr 2;apply aJu;simp[aLL];simp[execOp,ho,an,a1,Instr.makeSlice,dV.gt hd,asInt,asIntOf,typeInfo,hi,cl,c1,Go.sizeOf,b0,B,zeroValue,hz,newRow];intro l;omega;have:=Ge R' R.er F.dst;rw[RV.lZ] at this;simp only[List.length_replicate] at this⊢;exact this;cases h;cases h;cases h
def awB(Q:av d g D f.ty V O s a W)(B:iu P f.ty)(hg:ek f.gl O){parts:Array (Nat×Operand)}(n:F.op=.buildSlice X R parts){dr:Bool}{b:BI}(h:dM f F t dr s=U b):
  Jp P d g D f.ty V O s a W F b:=by
 unfold dM at h;simp only[n] at h;split at h;cases h;split at h;rename_i e ae q ht;split at h;rename_i N y;split at h;rename_i l hf;split at h;rename_i hc;simp only[aIy,bne_iff_ne,ne_eq,beq_iff_eq,decide_eq_true_eq,aIR] at hc;obtain⟨⟨⟨⟨⟨h1,h2⟩,h3⟩,h4⟩,h5⟩,h6⟩:=hc;obtain⟨a3,a4,rfl⟩:=xT h;have H:bq f.ty (.sl e)=N.ae:=by simp[bq,y]
 have m:lX f.ty s (bq f.ty (.sl e)) (iN (Y N.ae) R l)=true:=by rw[H];exact h2
 have j:=aaw Q m;have a9:(LE.lit (iN (Y N.ae) R l)).rows O=(iN (Y N.ae) R l).map λM=>M.map (SV.bN O):=rfl
 have v:((iN (Y N.ae) R l).map λM=>M.map (SV.bN O)).length=R:=by simp[SI]
 have bb:=ajI Q m (frz:=SV.nL l) (λM bd r k G c=>by
  obtain⟨ii,bf⟩:=aJg bd;have:=(SH bf).1;subst this;exact SJ (aJA (aJG G)) c)
 have u:(dt ((iN (Y N.ae) R l).map λM=>M.map (SV.bN O))).length=R*Y N.ae:=by rw[zN (w:=Y N.ae) (λi M G=>by rw[j.len i M G,H]),v]
 have bg:dt ((iN (Y N.ae) R l).map λM=>M.map (SV.bN O))=SV.aA O V l:=by
  apply aI0;intro k;by_cases c:k<R*Y N.ae;have af:k<(dt ((iN (Y N.ae) R l).map λM=>M.map (SV.bN O))).length:=by rw[u];exact c
  have:=aax (V:=V) (by rw[H]) m (λi M G=>by rw[j.len i M G,H]) (aIA af);rw[this,aIA af];rw[aIT (by rw[u];omega),aIT (by rw[F6,h1];omega)]
 have bx:R<=536870912:=by simp only[IF] at h4;omega
 obtain⟨R',bk⟩:=Q.bind a3 (old:=Z) (kill:=[]) (frz:=SV.nL l) (A:=U ⟨W.heap.size,0,Z⟩) (cap:=R) (W':=W.alloc (.cells (dt ((iN (Y N.ae) R l).map λM=>M.map (SV.bN O))).toArray e)) (.inl ⟨rfl,rfl⟩) a4 (World.grownBy_alloc W _ Z) j bb
  ⟨by rw[v];exact aIG _,by simp,by
   rcases aJB R with L|L;exact .inl L;exact .inr ⟨W.heap.size,_,rfl,World.alloc_heap_new W _,by simp only[maxLen];omega,by
    rw[aJZ,u,H],by
    rw[aKt,aJW];rw[u,v,H];exact aIG _,.inl (aIG _)⟩⟩
 refine⟨.slice (U ⟨W.heap.size,0,Z⟩) R R,W.alloc (.cells (dt ((iN (Y N.ae) R l).map λM=>M.map (SV.bN O))).toArray e),.mk (.slice (U ⟨W.heap.size,0,Z⟩) ((iN (Y N.ae) R l).map λM=>M.map (SV.bN O)).length R) _,.inl ?_,⟨⟨_,_,_,by rw[a9],rfl⟩,bk,λ_ _ _ _ h=>by cases h⟩, ?_,Dw _ _ _⟩;have hd:P.underlying X=U (.slice e):=(B _ _ ht).desc;have ag:(parts.map λ(i,x)=>(i,a.eval x)).toList=(parts.toList.map λp=>(p.1,s.ev f.gl p.2)).map λp=>(p.1,p.2.den O V):=by
  simp only[aJy,aJo];apply aIY;intro p hp;have:=cu Q hg p.2 (by
   cases hh:(s.ev f.gl p.2).dP;rfl;exact absurd (aI7.2 ⟨p,hp,hh⟩) (by rw[h6];simp))
  simp[this]
 obtain⟨z,bl,br⟩:=Jb (P:=P) (W:=W) (O:=O) (V:=V) (B _ _ y);have al:=Np (V:=V) (uy Q) _ _ _ _ hf;have C:(di N).length=Y N.ae:=by simp[di]
 have hzero:((aLL (R*Y N.ae)).map ((if R*Y N.ae=0 then #[] else z.cells)[· %(if R*Y N.ae=0 then #[] else z.cells).size]!))=(SV.aA O V (vP R (di N))).toArray:=by
  apply aJu;apply aI0;intro k;by_cases an:k<R*Y N.ae;have bs:¬R*Y N.ae=0:=by omega
  have bt:0<Y N.ae:=Nat.pos_of_ne_zero h3;have a0:k%Y N.ae<(SV.aA O V (di N)).length:=by rw[F6,C];exact aKA _ bt
  simp only[bs,if_false,br,aJy,aLr,aIE,aJ1 an,aII,rk,aav _ _ _ (by rw[C];exact an),C];rw[<-rk,aIA a0];simp only[aJZ,F6,C];rw[getElem!_pos _ _ (by simpa using a0)];simp;rw[aIT (by simp;omega),aIT (by simp[ajH,C];omega)]
 have a1:¬R*Y N.ae>2^24:=by omega
 rw[bg];by_cases L:R*Y N.ae=0;simp only[if_pos L] at hzero;simp only[execOp,n,Instr.buildSlice,Sem.run_bind,dV.gt hd,Result.andThen_ok,(B _ _ y).ma,a1,if_false,Sem.run_pure,if_pos L,ag];rw[hzero,al];simp[newRow];simp only[if_neg L] at hzero;simp only[execOp,n,Instr.buildSlice,Sem.run_bind,dV.gt hd,Result.andThen_ok,(B _ _ y).ma,a1,if_false,Sem.run_pure,if_neg L,ag,bl];rw[hzero,al];simp[newRow];have:=Ge R' Q.er F.dst;rw[RV.lZ] at this;rw[v] at this⊢;exact this;cases h;cases h;cases h;cases h
end
section
variable{p:ai}{g:World}{D:bQ}{P:Program}{d:bz}{V:ai}{O:aa}{s:S}{a:Act}{W:World}
def Nz{h:Nat}{Q:aH}(X:((i.take h).drop R)[N]?=U Q):i[R+N]?=U Q/\R+N<h:=by
 rw[aJi,aI6] at X;split at X;exact⟨X,by assumption⟩;cases X
def awC{h:Nat}(M:l8 n X ((i.take h).drop R) N):l8 n X i N:=by
 obtain⟨Q,j,L,c,z,k,H,G,F,C⟩:=M;exact⟨_,j,L,c,z,k,(Nz H).1,G,F,C⟩
def awD{X:Ty}{e:TypeId}{A:mu}{n Q l h:Nat}{R:am}(M:bu W X (.sl e) (.mk (.slice A n Q) R))(g:l<=h)(f:h<=n):
  bu W X (.sl e) (.mk (.slice (if Q=l then A else A.map (·.add (l*(bq X (.sl e)).length))) (h-l) (Q-l)) ((R.take h).drop l)):=by
 obtain⟨F,d⟩:=ru M;have C:((R.take h).drop l).length=h-l:=by simp[F];omega
 have B:=eG.wc M;have L:eG W X e ((R.take h).drop l):=eG.of (λi N z=>B.get (Nz z).1);by_cases y:l=h;have:(R.take h).drop l=[]:=aI1 (by omega);rw[this,y,aLg];exact BN _ _;have af:l<h:=by omega
 have x:Q≠l:=by omega
 rw[if_neg x];obtain⟨N,w⟩:∃N,R[l]?=U N:=⟨_,aIA (by omega)⟩;cases M with
 |sl e A ag Q R g1 g2 H hi hb ho=>
  obtain⟨-,b,G,rfl,v,-⟩:=H l N w;rw[<-C];simp only[aII,wb];refine aao L v (λq u t=> ?_) (by omega);obtain⟨i,j,r,c,p,o,rfl,rfl⟩:=Jk L.len t;obtain⟨-,b',al,m,-,k⟩:=H (l+i) r (Nz p).1;cases m;have:=k j c o;rw[show G+l*(bq X (.sl e)).length+(i*(bq X (.sl e)).length+j)=G+(l+i)*(bq X (.sl e)).length+j by rw[aJC];omega];exact this
def aay(Q:av p g D d.ty V O s a W)(q:s.bd=J){r:RE}(G:r.kind d.ty s=.sl X){A:mu}(o:r.den O=.slice A R N){l h:Nat}(m:l<=h)(j:h<=R){F:mu}{C:Nat}
  (L:F=if N=l then A else A.map (·.add (l*(bq d.ty (.sl X)).length)))(f:C=N-l):
  av p g D d.ty V (O.add (.r (.mk (.slice F (h-l) C) (((r.rv O).rows.take h).drop l)))) {s with rs:=jw r.root.toList 0 (ip [] 0 s.rs)++[.sl X]} a W/\
   (((r.rv O).rows.take h).drop l).length=h-l/\∀b,db d.ty (.sl X) (.mk (.slice F (h-l) C) (((r.rv O).rows.take h).drop l)) b->g.heap.size<=b\/b∈p\/O.oz d.ty s.rs b:=by
 have B:=pV Q (by simp) G;have w:r.rv O=.mk (.slice A R N) (r.rv O).rows:=by rw[<-o];exact(Gc _).symm
 rw[w] at B;have c:=awD B m j;have z:∀b,db d.ty (.sl X) (.mk (.slice F (h-l) C) (((r.rv O).rows.take h).drop l)) b->db d.ty (.sl X) (r.rv O) b:=by
  intro b H;rw[w];rcases ajB H with⟨a0,a4,c0,M,rfl⟩|M;simp only[Value.slice.injEq] at M;obtain⟨M,v,q3⟩:=M;obtain⟨y,rfl⟩:∃y,R=y+1:=⟨R-1,by omega⟩;rw[M] at L;have af:N≠l:=by have:=(ru B).2;omega
  rw[if_neg af] at L;cases A with
  |none=>simp at L
  |some u=>
   simp only[aII,aID] at L;have:a0.block=u.block:=by rw[L];unfold Addr.add;split<;>rfl
   rw[this];exact db.here X u y N _
  exact SA (awC M)
 have ag:ip [] 0 s.rs=s.rs:=by
  apply aI0;intro i;rw[Ji];cases s.rs[i]?<;>simp
 rw[ag];have R1:=Q.mc (Sz r.root.toList s.rs);refine⟨?_,by have:=(ru B).1;simp;omega,λb H=>.inr (.inr (Jm Q (by simp) G (z b H)).1)⟩;refine R1.add (Nw q (zM _ _ _)) (by rw[L,f];exact c) (λb H=>(Jm Q (by simp) G (z b H)).2) (λk t rv b M v q3 x=> ?_) (λt b ht=>by cases ht);obtain⟨al,an⟩:=aas M;rcases x with x|⟨⟨t',a3⟩,_⟩;have:=SD Q al v q3 (by simp) G (z b x);subst this;exact an (by simp[RE.root]);cases a3
def NA{n:Int}(h:0<=n):∃N:Nat,n=(N:Int):=⟨n.toNat,by omega⟩
def awE(R:av p g D d.ty V O s a W)(i:iu P d.ty)(hg:ek d.gl O){lo hi mx:Option Operand}(ho:F.op=.slice X r lo hi mx){dr:Bool}{b:BI}(h:dM d F t dr s=U b)(hn:b.bj.den O=J):
  Jp P p g D d.ty V O s a W F b:=by
 unfold dM at h;simp only[ho] at h;split at h;cases h;have a3:∀{y:Option Operand}{v:SV},y.map (s.ev d.gl)=U v->v≠ .any->y.map a.eval=U (v.den O V):=by
  intro y v hy M;cases y with
  |none=>cases hy
  |some z=>
   simp only[aII,aID] at hy⊢;rw[<-hy];exact cu R hg z (by rw[hy];cases v<;>first|rfl|exact absurd rfl M)
 have a4:∀{y:Option Operand},y.map (s.ev d.gl)=Z->y.map a.eval=none:=by
  intro y hy;cases y with
  |none=>rfl
  |some z=>cases hy
 split at h
 
 rename_i e ae q Q k1 k2 ht C ag al an;split at h;rename_i te m;split at h;rename_i hc;obtain⟨a0,bf,rfl⟩:=xT h;have B:=cu R hg r (by rw[C];rfl);rw[C,SV.den] at B;have hd:P.underlying X=U (.slice e):=(i _ _ ht).desc;obtain⟨A,n,N,M⟩:∃A n N,Q.den O=.slice A n N:=by
  rcases hc with hc|hc;exact No R hc;unfold RE.isNil at hc;split at hc;exact⟨Z,0,0,rfl⟩;cases hc
 obtain⟨R',a1⟩:=R.bind a0 (old:=Z) (kill:=[]) (frz:=[]) (rows:=[]) (e:=e) (A:=A) (cap:=0) (W':=W) (.inl ⟨rfl,rfl⟩) (by simp) ⟨rfl,rfl,rfl,aIG _,λ_ _ _=>rfl⟩ eG.nil (λb hb=>(Nu hb).elim) ⟨by simp,λ_=>rfl,.inl rfl⟩;refine⟨.slice A 0 0,W,.mk (.slice A 0 0) [],.inl ?_,⟨⟨A,0,0,rfl,rfl⟩,a1,λ_ _ _ _ h=>by cases h⟩,Ge R' R.er F.dst,Dw _ _ _⟩;have f:=a3 ag (by simp);have k:=a3 al (by simp);have j:=a4 an;simp only[SV.den,IE.den] at f k;simp[execOp,ho,B,M,f,k,j,Instr.sliceAt,dV.gt hd,Instr.slice,Instr.sliceBounds,Instr.sliceBound,asIntOf,(i _ _ m).ma];cases h;cases h
 
 rename_i e ae q Q ih il ht C ag al an;split at h;rename_i te m;split at h;rename_i w;obtain⟨a0,bf,rfl⟩:=xT h;obtain⟨G,bd⟩:=zP hn;obtain⟨bd,u⟩:=zP bd;have G:=xU G;have bd:=xU bd;have u:=xU u;have B:=cu R hg r (by rw[C];rfl);rw[C,SV.den] at B;have hd:P.underlying X=U (.slice e):=(i _ _ ht).desc;obtain⟨A,n,N,M⟩:=No R w;have a9:lenOf (Q.rv O).val=n:=by have:=M;unfold RE.den at this;rw[this];rfl
 simp only[IE.den,a9] at G u;obtain⟨L,hL⟩:=NA G;obtain⟨H,hH⟩:=NA (show 0<=ih.den O by omega);have bg:n<=N:=by
  have:=pV R (by simp) w;rw[<-Gc (Q.rv O),show(Q.rv O).val=.slice A n N from M] at this;exact(ru this).2
 obtain⟨R',bb,a1⟩:=aay R a0 w M (l:=L) (h:=H) (by omega) (by omega) rfl rfl;have af:(LE.sub (.ref Q) il ih).rows O=((Q.rv O).rows.take H).drop L:=by simp[LE.rows,hL,hH]
 have hw:(bq d.ty (.sl e)).length=Y te.ae:=by simp[bq,m]
 refine⟨.slice (if N=L then A else A.map (·.add (L*(bq d.ty (.sl e)).length))) (H-L) (N-L),W,_,.inl ?_,⟨⟨_,_,_,by rw[af],by rw[af];exact bb⟩,a1,λ_ _ _ _ h=>by cases h⟩,Ge R' R.er F.dst,Dw _ _ _⟩;have f:=a4 ag;have k:=a3 al (by simp);have j:=a3 an (by simp);simp only[SV.den,hL,hH] at k j;have c1:(H:Int)<=(N:Int):=by omega
 have c2:(L:Int)<=(H:Int):=by omega
 simp[execOp,ho,B,M,f,k,j,Instr.sliceAt,dV.gt hd,Instr.slice,Instr.sliceBounds,Instr.sliceBound,asIntOf,(i _ _ m).ma,hw];simp[show H<=N by omega,show L<=H by omega];cases h;cases h
 
 rename_i e ae q Q ih ht C ag al an;split at h;rename_i te m;split at h;rename_i w;obtain⟨a0,bf,rfl⟩:=xT h;obtain⟨G,u⟩:=zP hn;have G:=xU G;have u:=xU u;have B:=cu R hg r (by rw[C];rfl);rw[C,SV.den] at B;have hd:P.underlying X=U (.slice e):=(i _ _ ht).desc;obtain⟨A,n,N,M⟩:=No R w;have a9:lenOf (Q.rv O).val=n:=by have:=M;unfold RE.den at this;rw[this];rfl
 simp only[IE.den,a9] at G u;obtain⟨H,hH⟩:=NA G;have bg:n<=N:=by
  have:=pV R (by simp) w;rw[<-Gc (Q.rv O),show(Q.rv O).val=.slice A n N from M] at this;exact(ru this).2
 obtain⟨R',bb,a1⟩:=aay R a0 w M (l:=0) (h:=H) (by omega) (by omega) rfl rfl;have af:(LE.sub (.ref Q) (.c 0) ih).rows O=((Q.rv O).rows.take H).drop 0:=by simp[LE.rows,hH,IE.den]
 have hw:(bq d.ty (.sl e)).length=Y te.ae:=by simp[bq,m]
 refine⟨.slice (if N=0 then A else A.map (·.add (0*(bq d.ty (.sl e)).length))) (H-0) (N-0),W,_,.inl ?_,⟨⟨_,_,_,by rw[af],by rw[af];exact bb⟩,a1,λ_ _ _ _ h=>by cases h⟩,Ge R' R.er F.dst,Dw _ _ _⟩;have f:=a4 ag;have k:=a3 al (by simp);have j:=a4 an;simp only[SV.den,hH] at k;simp[execOp,ho,B,M,f,k,j,Instr.sliceAt,dV.gt hd,Instr.slice,Instr.sliceBounds,Instr.sliceBound,asIntOf,(i _ _ m).ma,hw];intro hh;omega;cases h;cases h
 
 rename_i e ae q Q il ht C ag al an;split at h;rename_i te m;split at h;rename_i w;obtain⟨a0,bf,rfl⟩:=xT h;obtain⟨G,u⟩:=zP hn;have G:=xU G;have u:=xU u;have B:=cu R hg r (by rw[C];rfl);rw[C,SV.den] at B;have hd:P.underlying X=U (.slice e):=(i _ _ ht).desc;obtain⟨A,n,N,M⟩:=No R w;have a9:lenOf (Q.rv O).val=n:=by have:=M;unfold RE.den at this;rw[this];rfl
 simp only[IE.den,a9] at G u;obtain⟨L,hL⟩:=NA G;have bg:n<=N:=by
  have:=pV R (by simp) w;rw[<-Gc (Q.rv O),show(Q.rv O).val=.slice A n N from M] at this;exact(ru this).2
 obtain⟨R',bb,a1⟩:=aay R a0 w M (l:=L) (h:=n) (by omega) (by omega) rfl rfl;have af:(LE.sub (.ref Q) il (.len Q)).rows O=((Q.rv O).rows.take n).drop L:=by simp[LE.rows,hL,IE.den,a9]
 have hw:(bq d.ty (.sl e)).length=Y te.ae:=by simp[bq,m]
 refine⟨.slice (if N=L then A else A.map (·.add (L*(bq d.ty (.sl e)).length))) (n-L) (N-L),W,_,.inl ?_,⟨⟨_,_,_,by rw[af],by rw[af];exact bb⟩,a1,λ_ _ _ _ h=>by cases h⟩,Ge R' R.er F.dst,Dw _ _ _⟩;have f:=a4 ag;have k:=a4 al;have j:=a3 an (by simp);simp only[SV.den,hL] at j;simp[execOp,ho,B,M,f,k,j,Instr.sliceAt,dV.gt hd,Instr.slice,Instr.sliceBounds,Instr.sliceBound,asIntOf,(i _ _ m).ma,hw];intro hh;omega;cases h;cases h;cases h
mutual
def aaz{k n:Nat}(h:(O.rv n).val=(O.rv k).val):∀(v:SV),(v.gq k n).den O V=v.den O V
 |.int _ _|.bool _|.loc _ _|.gY _ _ _ _|.yl _|.any=>rfl
 |.ref (.v j)=>by
  simp only[SV.gq];split;rename_i X;simp at X;subst X;simp only[SV.den,RE.den,RE.rv,h];rfl
 |.ref (.cell _ _ _ _)=>rfl
 |.ref (.k _)=>rfl
 |.el (.v j) w i o=>by
  simp only[SV.gq];split;rename_i X;simp at X;subst X;simp only[SV.den,RE.den,RE.rv,h];rfl
 |.el (.cell _ _ _ _) _ _ _=>rfl
 |.el (.k _) _ _ _=>rfl
 |.agg l=>by simp only[SV.gq,SV.den,Jq h l]
 |.bH l=>by simp only[SV.gq,SV.den,Jq h l]
 |.fn f l=>by simp only[SV.gq,SV.den,Jq h l]
 |.fh t x=>by simp only[SV.gq,SV.den,aaz h x]
 |.mp _=>rfl
 |.eR e Q R=>by simp only[SV.gq,SV.den,Jq h R]
def Jq{k n:Nat}(h:(O.rv n).val=(O.rv k).val):∀(l:ah),SV.aA O V (SV.nM k n l)=SV.aA O V l
 |[]=>rfl
 |x::X=>by simp only[SV.nM,SV.aA,aaz h x,Jq h X]
end
def awF(v:SV):v.gq R N=.any<->v=.any:=by
 cases v with
 |ref r=>cases r<;>simp[SV.gq]<;>split<;>simp
 |el r w i o=>cases r<;>simp[SV.gq]<;>split<;>simp
 |_=>simp[SV.gq]
def ajJ{k n:Nat}:∀(l:ah)(i:Nat),(SV.nM k n l)[i]?=(l[i]?).map (SV.gq k n)
 |[],i=>by simp[SV.nM]
 |x::X,0=>by simp[SV.nM]
 |x::X,i+1=>by simp[SV.nM,ajJ X i]
def ajK{k n:Nat}:∀(l:ah),(SV.nM k n l).length=Y l
 |[]=>rfl
 |x::X=>by simp[SV.nM,ajK X]
def NB{k n:Nat}:∀(l:bw),(sO k n l).length=Y l
 |[]=>rfl
 |Z::X=>by simp[sO,NB X]
 |U (t,R)::X=>by simp[sO,NB X]
def aaA(k n:Nat)(x:TypeId×ah):TypeId×ah:=(x.1,if oY x.1 then x.2 else SV.nM k n x.2)
def SK{k n:Nat}:∀(l:bw)(i:Nat),bU (sO k n l) i=(bU l i).map (aaA k n)
 |[],i=>by simp[sO,cw]
 |Z::X,0=>by simp[sO,cw]
 |U (t,R)::X,0=>by simp[sO,cw,aaA]
 |Z::X,i+1=>by have:=SK X i (k:=k) (n:=n);simpa[sO,cw] using this
 |U (t,R)::X,i+1=>by have:=SK X i (k:=k) (n:=n);simpa[sO,cw] using this
def Gf{k n:Nat}(l:bw)(i:Nat):aL (sO k n l) i=aL l i:=by simp[aL,SK]
def av.gq{B:Ty}(R:av p g D B V O s a W){k n:Nat}(h:(O.rv n).val=(O.rv k).val):av p g D B V O (s.gq k n) a W:=by
 have z:(s.gq k n).boxes=sO k n s.boxes:=rfl;refine⟨⟨R.mem.base,λi N=>R.mem.own i (by rw[<-Gf (k:=k) (n:=n)];exact N),λi j N y=>R.mem.inj i j (by rw[<-Gf (k:=k) (n:=n)];exact N) (by rw[<-Gf (k:=k) (n:=n)];exact y),λi t u X=> ?_,λH e G Q F=> ?_⟩,
  by simp[S.gq,NB,R.fH],R.ei,R.eb,R.er,R.cM,by simp[S.gq,ajK,R.size],λt r L=> ?_,λH e G b Q F w=> ?_⟩
 rw[z,SK] at X;cases M:bU s.boxes i with
 |none=>rw[M] at X;cases X
 |some x=>
  obtain⟨A,jD⟩:=x;rw[M] at X;simp only[aII,aaA,aID,aKj] at X;obtain⟨rfl,rfl⟩:=X;have C:=R.mem.box i A jD M;cases v:oY A;simp only[aIU,if_false];rw[rq v] at C⊢;rw[Jq h];exact C;simp only[if_true];exact C
 exact⟨(R.mem.ref H e G Q F).1,λb X i N=>(R.mem.ref H e G Q F).2 b X i (by rw[<-Gf (k:=k) (n:=n)];exact N)⟩;simp only[S.gq,ajJ] at L;cases M:s.tmps[t]? with
 |none=>rw[M] at L;cases L
 |some x=>
  rw[M] at L;simp only[aII,aID] at L;subst L;rcases R.tmps t x M with Q|Q;exact .inl ((awF x).2 Q);right;rw[aaz h];exact Q
 have t:=R.fl H e G b Q F w;exact⟨t.own,t.mem,λi N=>t.box i (by rw[<-Gf (k:=k) (n:=n)];exact N),t.alone,t.inner⟩

def ajL:∀(Q X:aH)(R:Nat),(gF X R Q).length=Y X
 |[],X,R=>rfl
 |v::Q,X,R=>by rw[gF,ajL];simp
def SL:∀(R Q:aH)(X j:Nat),X+Y R<=Y Q->(gF Q X R)[j]?=if X<=j/\j<X+Y R then R[j-X]? else Q[j]?
 |[],Q,X,j,_=>by simp[gF];intro M N;omega
 |v::R,Q,X,j,h=>by
  simp only[aJm] at h;rw[gF,SL R _ (X+1) j (by simp;omega)];by_cases M:j=X;subst M;rw[if_neg (by omega),if_pos (by simp),aJX (by omega)];simp;by_cases N:X+1<=j/\j<X+1+Y R;rw[if_pos N,if_pos (by simp;omega),show j-X=(j-(X+1))+1 by omega];simp;rw[if_neg N,if_neg (by simp;omega),aJf (by omega)]
def ajM:∀(R l:fe)(X j:Nat),X+Y R<=Y l->(xS l X R)[j]?=if X<=j/\j<X+Y R then R[j-X]? else l[j]?
 |[],l,X,j,_=>by simp[xS];intro N Q;omega
 |v::R,l,X,j,h=>by
  simp only[aJm] at h;rw[xS,ajM R _ (X+1) j (by simp;omega)];by_cases N:j=X;subst N;rw[if_neg (by omega),if_pos (by simp),aJX (by omega)];simp;by_cases Q:X+1<=j/\j<X+1+Y R;rw[if_pos Q,if_pos (by simp;omega),show j-X=(j-(X+1))+1 by omega];simp;rw[if_neg Q,if_neg (by simp;omega),aJf (by omega)]
def Jr{f:aH->aH}{Q:aH}(h:(i.modify R f)[N]?=U Q):(N=R/\∃X,i[R]?=U X/\Q=f X)\/(N≠R/\i[N]?=U Q):=by
 rw[aL0] at h;by_cases M:R=N;subst M;simp only[if_true] at h;cases L:i[R]? with
 |none=>rw[L] at h;cases h
 |some X=>rw[L] at h;simp at h;exact .inl ⟨rfl,X,rfl,h.symm⟩
 simp only[M,if_false] at h;exact .inr ⟨λH=>M H.symm,by simpa using h⟩
def awG{w:Nat}{l:fe}(Q:∀(X:Nat)(R:aH),i[X]?=U R->Y R=w)(M:Y l=Y i*w)(h:∀(X j:Nat)(R:aH)(c:RV),i[X]?=U R->R[j]?=U c->l[X*w+j]?=U c.val):l=dt i:=by
 apply aI0;intro q;by_cases L:q<(dt i).length;have N:=aIA L;obtain⟨X,j,R,c,H,G,F,C⟩:=Jk Q N;rw[N,C];subst F;exact h X j R c H G;rw[aIT (l:=dt i) (by omega),aIT];rw[M,<-zN Q];omega
def awH(R:av p g D d.ty V O s a W)(cA:iu P d.ty)(hg:ek d.gl O){y:Operand}(ho:F.op=.store X r y){dr:Bool}{b:BI}(h:dM d F t dr s=U b)(hn:b.bj.den O=J):
  Jp P p g D d.ty V O s a W F b:=by
 unfold dM at h;simp only[ho] at h;split at h;cases h;split at h;rename_i G k w i M cB hx;split at h;rename_i e hk;split at h;rename_i te cC;split at h;rename_i hc;simp only[aIy,beq_iff_eq,decide_eq_true_eq] at hc;obtain⟨⟨⟨⟨cD,bb⟩,cI⟩,al⟩,cO⟩:=hc;cases hb:jm s Z (uq i (.len (.v k))) e (.own e) (.set (.ref (.v k)) i M (s.ev d.gl y).cells) [k] (SV.nL (s.ev d.gl y).cells) with
 |none=>rw[hb] at h;cases h
 |some b0=>
  rw[hb] at h;simp only[aII,aID] at h;obtain⟨cW,c0,rfl⟩:=xT hb;subst h;have b4:bq d.ty (.sl e)=te.ae:=by simp[bq,cC]
  have hw:(bq d.ty (.sl e)).length=w:=by rw[b4];exact cD
  obtain⟨A,n,l,g1,g2,g3⟩:=Ny R hk;have bl:=s6 R hk;simp only[uq] at hn;obtain⟨bd,an⟩:=zP hn;have bd:=xU bd;rw[BH] at an;simp only[gg,IE.den,RE.rv] at bd an;have an:=of_decide_eq_true an;rw[g1] at an;simp only[RV.lZ,lenOf] at an;obtain⟨Q,hI⟩:=NA bd;have dz:Q<n:=by omega
  obtain⟨b5,b6⟩:=ru g2;have a4:=eG.wc g2;obtain⟨bk,a9,hA,b7,c1,bf⟩:∃b a9,A=U ⟨b,0,Z⟩/\W.heap[b]?=U (.cells a9 e (0,0))/\l<=maxLen/\a9.size=l*(bq d.ty (.sl e)).length:=by
   rcases g3.mem with h0|h0;omega;exact h0
  subst hA;have c2:jT (U ⟨bk,0,Z⟩) l=U bk:=by cases l with
   |zero=>omega
   |succ c=>rfl
  have c3:s.ev d.gl y≠ .any:=by
   intro hy;rw[hy] at al bb;simp only[SV.cells,aKL] at bb;rw[<-bb] at al;cases hd:(te.ae.drop M).take 1 with
   |nil=>rw[hd] at al;simp[kR,SV.cells] at al
   |cons c cs=>rw[hd] at al;simp[kR,SV.cells,qX] at al
  have c4:=cu R hg y (by cases hh:s.ev d.gl y<;>first|rfl|exact absurd hh c3);have c5:=cu R hg r (by rw[hx];rfl);have c6:=Sw (O:=O) (V:=V) (uy R) cO;obtain⟨f1,f2⟩:=Gd al;have bg:(s.ev d.gl y).cells.length=Y G.ae:=bb;have dT:((te.ae.drop M).take (Y G.ae)).length=Y G.ae:=by simp;omega
  have b8:∀(j:Nat),j<Y G.ae->((te.ae.drop M).take (Y G.ae))[j]?=(bq d.ty (.sl e))[M+j]?:=by
   intro j f;rw[aI6,if_pos f,aJi,b4]
  have ca:SV.aA O V (s.ev d.gl y).cells=((s.ev d.gl y).cells.map (SV.bN O)).map RV.val:=by
   apply aI0;intro j;rw[rk,aIE,aIE];cases hv:(s.ev d.gl y).cells[j]? with
   |none=>rfl
   |some v=>
    have f:j<Y G.ae:=by rw[<-bg];exact(aIz.1 hv).1
    obtain⟨ct,c7⟩:∃ct,((te.ae.drop M).take (Y G.ae))[j]?=U ct:=⟨_,aIA (by omega)⟩;simp only[aII];rw[ajE (f2 j ct v c7 hv)]
  have a0:=aaq R al;have cc:(LE.set (.ref (.v k)) i M (s.ev d.gl y).cells).rows O=(O.rv k).rows.modify Q λL=>gF L M ((s.ev d.gl y).cells.map (SV.bN O)):=by simp[LE.rows,RE.rv,hI]
  have br:((s.ev d.gl y).cells.map (SV.bN O)).length=Y G.ae:=by simp[bg]
  generalize c8:(s.ev d.gl y).cells.map (SV.bN O)=vv at*;have bs:∀H:aH,Y H=(bq d.ty (.sl e)).length->M+Y vv<=Y H:=λH h0=>by rw[h0,hw,br];exact cI
  have bt:eG W d.ty e ((O.rv k).rows.modify Q λL=>gF L M vv):=by
   refine eG.of (λC L hr=> ?_);rcases Jr hr with⟨rfl,H,m,rfl⟩|⟨bx,m⟩
   ·have q:=a4.get m;have c9:=bs H q.len;refine⟨by rw[ajL];exact q.len,λj c kk af ag=> ?_,λj c af ag=> ?_,λj c z kk af ag=> ?_⟩
    all_goals
     rw[SL _ _ _ _ c9] at af;split at af;rename_i f;have b1:j-M<Y G.ae:=by omega
     have a1:=b8 _ b1;rw[show M+(j-M)=j by omega,ag] at a1
     first
      |exact a0.int (j-M) c _ af a1
      |exact a0.bool (j-M) c af a1
      |exact a0.aI (j-M) c _ _ af a1
     first
      |exact q.int j c _ af ag
      |exact q.bool j c af ag
      |exact q.aI j c _ _ af ag
   exact a4.get m
  have dc:BO d.ty V O s e ((O.rv k).rows.modify Q λL=>gF L M vv) (SV.nL (s.ev d.gl y).cells):=by
   intro b ⟨C,j,L,c,z,kk,h1,B,h3,hl⟩;have elder:∀H,(O.rv k).rows[C]?=U H->H[j]?=U c->O.oz d.ty s.rs b/\(∀i,aL s.boxes i=J->ad V i≠b)/\∀(k':Nat)(X:TypeId)(rv:RV),s.rs[k']?=U (.own X)->O.r[k']?=U rv->rv.jR=U b->k'∈SV.nL (s.ev d.gl y).cells:=by
    intro H q1 q2;have hi:l8 d.ty e (O.rv k).rows b:=⟨C,j,H,c,z,kk,q1,q2,h3,hl⟩;have ch:=Jl (O:=O) (e0:=.own e) rfl hi;exact⟨⟨k,_,hk,ch⟩,(R.mem.ref k _ _ hk bl).2 b ch,λk' X rv q3 q4 q5=>(Nv R q3 q4 q5 hk rfl hi).elim⟩
   rcases Jr h1 with⟨rfl,H,m,rfl⟩|⟨bx,m⟩;rw[SL _ _ _ _ (bs H (a4.len _ _ m))] at B;split at B;rename_i f;have b1:j-M<Y G.ae:=by omega
   have a1:((te.ae.drop M).take (Y G.ae))[j-M]?=U (.aI z kk):=(b8 _ b1).trans (by rw[show M+(j-M)=j by omega];exact h3);rw[<-c8] at B;obtain⟨N,q1,q2,q3,q4⟩:=aar al B a1 hl;obtain⟨p1,p2⟩:=Jm R q3 q2 q4;refine⟨p1,p2,λk' X rv k1 k2 k3=> ?_⟩;have:=SD R k1 k2 k3 q3 q2 q4;subst this;exact SJ (aIW q1) rfl;exact elder H m B;exact elder L m B
  have b2:(SV.aA O V (s.ev d.gl y).cells).length=Y G.ae:=by simp[bg]
  have dd:Q*w+M+Y G.ae<=l*w:=by
   have:(Q+1)*w<=l*w:=aJM _ (by omega);rw[aJC] at this;omega
  obtain⟨W',r1,r2,r3,r4,r5,r6,r7⟩:=aal (P:=P) bk (Q*w+M) e (SV.aA O V (s.ev d.gl y).cells) 0 a9 W b7 (by rw[b2,bf,hw];omega) (λu hu=>by
   rw[ca] at hu;obtain⟨c,df,rfl⟩:=aI3.1 hu;obtain⟨j,f⟩:=aJg df;have d0:j<Y G.ae:=by rw[<-br];exact(aIz.1 f).1
   obtain⟨ct,ag⟩:∃ct,((te.ae.drop M).take (Y G.ae))[j]?=U ct:=⟨_,aIA (by omega)⟩;cases ct with
   |int kk=>obtain⟨n',b3⟩:=a0.int j c kk f ag;rw[b3];rfl
   |bool=>obtain⟨n',b3⟩:=a0.bool j c f ag;rw[b3];rfl
   |aI z kk=>exact Ja (a0.aI j c z kk f ag))
  have a3:((O.rv k).rows.modify Q λL=>gF L M vv).length=n:=by simp[b5]
  have cl:=aat g2 b7;rw[b5,hw] at cl;obtain⟨R',dk⟩:=R.bind cW (old:=U bk) (kill:=[k]) (frz:=SV.nL (s.ev d.gl y).cells) (A:=U ⟨bk,0,Z⟩) (cap:=l) (W':=W') (.inr ⟨k,e,_,rfl,hk,bl,by rw[g1,Jn,c2]⟩) c0
   ⟨r5,r6,r7,by omega,λq _ hq=>r3 q (λh=>hq (by rw[h]))⟩ bt dc
   ⟨by rw[a3];exact b6,by simp,.inr ⟨bk,_,rfl,r2,c1,by rw[hw,aJZ,aak,aJJ,bf,hw],by
    rw[a3,hw];refine awG (w:=w) (λC L hr=>by rw[bt.len C L hr,hw]) ?_ (λC j L c h1 B=> ?_);rw[a3,aJS,aKt,aak,aJJ,bf,hw];exact aLh (aJM _ b6);have d1:C<n:=by rw[<-a3];exact(aIz.1 h1).1
    have d2:j<w:=by rw[<-hw,<-bt.len C L h1];exact(aIz.1 B).1
    have cp:C*w+j<n*w:=by
     have:(C+1)*w<=n*w:=aJM _ (by omega);rw[aJC] at this;omega
    rw[aI6,if_pos cp,aKt,aJU,ajM _ _ _ _ (by rw[b2,aJJ,bf,hw];exact dd),b2];have cv:∀H:aH,(O.rv k).rows[C]?=U H->H[j]?=U c->a9.toList[C*w+j]?=U c.val:=by
     intro H q1 q2;have:=Nr (w:=w) (λi L hr=>by rw[a4.len i L hr,hw]) q1 q2;rw[<-cl,aI6,if_pos cp] at this;exact this
    rcases Jr h1 with⟨rfl,H,m,rfl⟩|⟨bx,m⟩;rw[SL _ _ _ _ (bs H (a4.len _ _ m)),br] at B;by_cases f:M<=j/\j<M+Y G.ae;rw[if_pos f] at B;rw[if_pos (by omega),ca,show C*w+j-(C*w+M)=j-M by omega,aIE,B];rfl;rw[if_neg f] at B;rw[if_neg (by omega)];exact cv H m B;have dn:¬(Q*w+M<=C*w+j/\C*w+j<Q*w+M+Y G.ae):=by
     rintro⟨q1,q2⟩;rcases aL8 bx with d3|d4;have:(C+1)*w<=Q*w:=aJM _ (by omega);rw[aJC] at this;omega;have:(Q+1)*w<=C*w:=aJM _ (by omega);rw[aJC] at this;omega
    rw[if_neg dn];exact cv L m B,.inr rfl⟩⟩
  have ds:k<Y O.r:=(aIz.1 bl).1;have R2:=R'.gq (k:=k) (n:=Y s.rs) (by
   rw[<-R.er];have e1:(O.add (.r (.mk (.slice (U ⟨bk,0,Z⟩) ((O.rv k).rows.modify Q λL=>gF L M vv).length l) ((O.rv k).rows.modify Q λL=>gF L M vv)))).rv (Y O.r)=.mk (.slice (U ⟨bk,0,Z⟩) ((O.rv k).rows.modify Q λL=>gF L M vv).length l) ((O.rv k).rows.modify Q λL=>gF L M vv):=by simp[aa.rv,aa.add]
   have e2:(O.add (.r (.mk (.slice (U ⟨bk,0,Z⟩) ((O.rv k).rows.modify Q λL=>gF L M vv).length l) ((O.rv k).rows.modify Q λL=>gF L M vv)))).rv k=O.rv k:=by simp[aa.rv,aa.add,aIB,ds]
   rw[e1,e2,RV.lZ,a3];have:=congrArg RV.val g1;exact this.symm)
  refine⟨undef,W',_,.inr ⟨?_,rfl⟩,⟨⟨_,_,_,by rw[cc],by rw[cc]⟩,dk,λk' _ _ _ hx=>by
   cases hx;rw[RV.lZ,a3];exact(congrArg RV.val g1).symm⟩,R2.put F.dst (.bH []), ?_⟩
  have dx:(O.rv k).val=.slice (U ⟨bk,0,Z⟩) n l:=by rw[g1];rfl
  have cx:((s.ev d.gl y).den O V).cells.toList=SV.aA O V (s.ev d.gl y).cells:=c6;have dy:((s.ev d.gl y).den O V).cells.size=Y G.ae:=by rw[<-aJJ,cx];simp[bg]
  simp only[execOp,ho,c5,c4,hx,SV.den,RE.den,RE.rv,dx,mA,hI,aJ0,aI8,Instr.storeAt,Instr.sureAddr,storeVar,Sem.run_bind,Sem.run_pure,Result.andThen_ok,(cA _ _ cB).ma,dy,cx,ne_eq,not_true_eq_false,if_false,r1];have cy:bF s O V ({s with rs:=jw (SV.nL (s.ev d.gl y).cells) 0 (ip [k] 0 s.rs)++[.own e]}:S) _ V:=Dw (rv:=.mk (.slice (U ⟨bk,0,Z⟩) ((O.rv k).rows.modify Q λL=>gF L M vv).length l) ((O.rv k).rows.modify Q λL=>gF L M vv)) _ Z (.bH []);refine bF.put (s:=s) (s':=(({s with rs:=jw (SV.nL (s.ev d.gl y).cells) 0 (ip [k] 0 s.rs)++[.own e]}:S).put Z (.ref (.v (Y s.rs)))).gq k (Y s.rs)) ⟨cy.ext,λq hq=> ?_,by simp[S.put,S.gq,NB],cy.aq⟩ _ _;simp only[S.put,S.gq,Gf];exact hq
 cases h;cases h;cases h;cases h
def aaB(R:av p g D d.ty V O s a W)(N:iu P d.ty)(M:ek d.gl O){G:Bool}{b:BI}(h:dM d F t G s=U b)(L:b.bj.den O=J):Jp P p g D d.ty V O s a W F b:=by
 cases Q:F.op with
 |call c=>
  cases H:c.callee with
  |builtin C=>cases C with
   |append=>exact awy R N M Q H h L
   |_=>simp[dM,Q,H] at h
  |_=>simp[dM,Q,H] at h
 |makeSlice X n m=>exact awA R N M Q h L
 |buildSlice X B parts=>exact awB R N M Q h
 |slice X x A z w=>exact awE R N M Q h L
 |store X x y=>exact awH R N M Q h L
 |_=>simp[dM,Q] at h
end
