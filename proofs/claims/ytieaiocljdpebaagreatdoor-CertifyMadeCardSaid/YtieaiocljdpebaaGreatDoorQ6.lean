/- Part 6 of the proof; the last part says what is shown. -/
import Derived.Test.YtieaiocljdpebaaGreatDoorQ5
import Derived.IntWalk
set_option linter.all false
open Bool renaming and_eq_true->axI,false_eq_true->ax3,or_eq_true->ayb,true_or->aBc
open List renaming getElem?_append_left->axL,getElem?_append_right->axP,cons_append->axY,mem_append->axS,nil_append->ax2,length_append->axX,all_eq_true->axU,pairwise_cons->ax5,pairwise_append->ayc,length_eq_zero_iff->ayl,append_assoc->azd,foldl_cons->ay8,length_singleton->aAh
open Nat renaming le_refl->axQ,eq_zero_or_pos->ayW,mod_lt->azX,gcd_comm->aBm,gcd->aBp
open List.Pairwise renaming nil->ayv
open Int renaming tmod_eq_emod_of_nonneg->aDL,natAbs_tmod->az5,fdiv_eq_ediv_of_nonneg->aAB
open List.Perm renaming refl->aAv,swap->aBt
namespace Go.Proofs.YtieaiocljdpebaaGreatDoor.Y
open Go.RowKit
noncomputable section
variable{V:FuncId}{Z:List XV}{U:Nat}{Q:List LK}{P:List SV}{N:T}
section
attribute[simp] IE.den BE.den RE.rv RE.den eG aa.rv de aa.ext aa.add kJ aaC Kl SV.xv fU Dk dh Gm aqp aqq aqr aqs aqt aqu aqv aqw aqx
def out(f:FuncId)(Z:List XV):List XV:=by classical exact if h:∃X,TB.Ev f Z (.ret X) then h.choose else[]
def xi(Z:List XV)(k:Nat):Int:=match Z.getD k (.i 0) with
 |.i n=>n
 |_=>0
def xb(Z:List XV)(k:Nat):Bool:=match Z.getD k (.i 0) with
 |.b x=>x
 |_=>false
def xr(Z:List XV)(k:Nat):RV:=match Z.getD k (.i 0) with
 |.r x=>x
 |_=>default
def oi(f:FuncId)(Z:List XV)(k:Nat):Int:=xi (out f Z) k
def ob(f:FuncId)(Z:List XV)(k:Nat):Bool:=xb (out f Z) k
def or(f:FuncId)(Z:List XV)(k:Nat):RV:=xr (out f Z) k
def mQ{X:List XV}(h:TB.Ev V Z (.ret X)):out V Z=X:=by
 have W:∃X,TB.Ev V Z (.ret X):=⟨X,h⟩;have:out V Z=W.choose:=by unfold out;rw[dif_pos W]
 rw[this];have:=WL W.choose_spec h;injection this
def aqy{P:List XV->Prop}(h:∃o,TB.Ev V Z o/\∃X,o=.ret X/\P X):TB.Ev V Z (.ret (out V Z))/\P (out V Z):=by
 obtain⟨o,W,X,rfl,U⟩:=h;rw[mQ W];exact⟨W,U⟩
def qB(Z:List XV):List LK->Nat->List XV
 |[],_=>[]
 |.int _::e,n=>.i (xi Z n)::qB Z e (n+1)
 |.bool::e,n=>.b (xb Z n)::qB Z e (n+1)
 |.ref _::e,n=>.r (xr Z n)::qB Z e (n+1)
def ajr(X:List XV):∀(e:List LK)(Z:List XV),dh e Z=true->qB (X++Z) e X.length=Z
 |[],[],_=>rfl
 |[],_::_,h=>by simp at h
 |k::e,[],h=>by cases k<;>simp at h
 |k::e,y::Z,h=>by
  have W:=ajr (X++[y]) e Z;simp only[dh,axI] at h;have W:=W h.2;simp only[azd,List.singleton_append,axX,aAh] at W;have V:(X++y::Z).getD X.length (.i 0)=y:=by simp[List.getD]
  cases k<;>cases y<;>simp at h<;>simp only[qB,W,xi,xb,xr,V]
def shp(e:List LK){P:List XV->Prop}(h:∃o,TB.Ev V Z o/\∃X,o=.ret X/\dh e X=true/\P X):TB.Ev V Z (.ret (qB (out V Z) e 0))/\P (out V Z):=by
 obtain⟨W,U,Q⟩:=aqy h;rw[show qB (out V Z) e 0=out V Z from ajr [] e _ U];exact⟨W,Q⟩
def gC(n Z X:Int):Bool:=decide (Z<=n)&&decide (n<=X)
@[simp] def aw6 (n Z X:Int):gC n Z X=true<->Z<=n/\n<=X:=by simp[gC]
def ajd(a b:Int):Int:=if a<b then-1 else if b<a then 1 else 0
def St(a b c d:Int):Int:=if gX a b&&gX c d then ajd (IntKind.i64.wrap (a*d)) (IntKind.i64.wrap (c*b)) else 0
def Eu:FuncId->Option Fn
 |142=>some ⟨RX,false,false⟩
 |210=>some ⟨RY,false,false⟩
 |276=>some ⟨RZ,false,false⟩
 |275=>some ⟨R7,false,false⟩
 |110=>some ⟨R8,false,false⟩
 |192=>some ⟨R9,false,false⟩
 |_=>none
section
variable{g:fW}(H:∀f fn,Eu f=some fn->Gr g f fn)
include H
def aqA(a b:Nat):g.Ev 275 [.i a,.i b] (.ret [.i (aBp a b)]):=by
 refine Dl (H _ _ rfl) (.inl rfl) ?_;simp[R7];split;rename_i X;simp[X];rename_i X;refine zP (λZ=>∃d x y:Nat,Z=[.i d,.i x,.i y]/\y≠0/\aBp x y=aBp a b/\(x=0->d=aBp a b)) (λZ=>(xi Z 2).toNat) ⟨b,a,b,by simp,X,rfl,λW=>by subst W;simp⟩ ?_;rintro Z ⟨d,x,y,rfl,U,V,W⟩;have Q:max (y:Int) 1=y:=by omega
 have P:aR .rem .u64 (x:Int) (y:Int)=((x%y:Nat):Int):=by
  simp only[aR];rw[aDL (by omega)];exact(Int.natCast_emod x y).symm
 simp[xi,Q,P,zO];split;rename_i N;simp[W N];refine⟨by omega, ?_⟩;split;rename_i J;rw[<-V,aBm,Nat.gcd_rec,show x%y=0 by omega];simp;refine⟨⟨x,y,x%y,⟨rfl,rfl,by omega⟩,by omega, ?_,λM=>absurd M U⟩, ?_⟩;rw[<-V,aBm x y,Nat.gcd_rec y x,aBm];have:=azX x (show 0<y by omega);omega
def aqB(n:Int)(X:-1073741824<=n)(W:n<=1073741824):g.Ev 276 [.i n] (.ret [.i n.natAbs]):=by
 refine Dl (H _ _ rfl) (.inl rfl) ?_;simp[RZ,aR];have Z:∀x:Int,IntKind.u64.wrap x=x%18446744073709551616:=λx=>rfl
 rw[Z,Z];split<;>omega
def ajs(n:Int):g.Ev 192 [.i n] (.ret [.b false]):=by
 refine Dl (H _ _ rfl) (.inl rfl) ?_;simp[R9]
def aaG(a b:Int):g.Ev 110 [.i a,.i b] (.ret [.i (ajd a b)]):=by
 refine Dl (H _ _ rfl) (.inl rfl) ?_;simp[R8,ajd,aS (ajs H _)]
 grind
def ajt(n d:Int):g.Ev 210 [.i n,.i d] (.ret [.i (if gX n d then 0 else 120)]):=by
 refine Dl (H _ _ rfl) (.inl rfl) ?_;simp[RY]
 repeat' split
 any_goals(simp[gX];omega)
 all_goals
  rw[aS (aqB H n (by omega) (by omega))];have Z:IntKind.u64.wrap d=(d.toNat:Int):=by
   have:IntKind.u64.wrap d=d%18446744073709551616:=rfl;omega
  have X:max d 0=(d.toNat:Int):=by omega
  simp[Z];rw[X,aS (aqA H n.natAbs d.toNat)];simp[gX] at*;omega
def aju(a b c d:Int):g.Ev 142 [.i a,.i b,.i c,.i d] (.ret [.i (St a b c d),.i (if gX a b&&gX c d then 0 else 120)]):=by
 refine Dl (H _ _ rfl) (.inl rfl) ?_;simp[RX,St,aR,aS (ajt H _ _),aS (aaG H _ _)]
 grind
end
def Su(f:FuncId)(fn:Fn)(h:Eu f=some fn):Gr TB f fn:=by
 unfold Eu at h;split at h<;>cases h<;>exact has rfl (by decide) (by decide)
section
variable{R:aT->Prop}{e:List LK}{t:T}{O:aa}{L:List PC}
def e82(n Z X:Int):TB.Ev 82 [.i n,.i Z,.i X] (.ret [.b (gC n Z X)]):=by
 refine kR rfl rfl (.inl rfl) ?_;simp[Z4,gC]
 grind
@[simp] def c82 (n Z X:Int):eu TB.Ev R 82 [.i n,.i Z,.i X] e t O L=eE TB.Ev R (.ret [.b (gC n Z X)]) e t O L:=aS (e82 n Z X)
def aqD(n Z X:Int):TB.Ev 134 [.i n,.i Z,.i X] (.ret [.b (gC n Z X)]):=by
 refine kR rfl rfl (.inl rfl) ?_;simp[Z6,gC]
 grind
@[simp] def aw8 (n Z X:Int):eu TB.Ev R 134 [.i n,.i Z,.i X] e t O L=eE TB.Ev R (.ret [.b (gC n Z X)]) e t O L:=aS (aqD n Z X)
def aqE(n Z X:Int):TB.Ev 219 [.i n,.i Z,.i X] (.ret [.b (gC n Z X)]):=by
 refine kR rfl rfl (.inl rfl) ?_;simp[aai,gC]
 grind
@[simp] def aw9 (n Z X:Int):eu TB.Ev R 219 [.i n,.i Z,.i X] e t O L=eE TB.Ev R (.ret [.b (gC n Z X)]) e t O L:=aS (aqE n Z X)
def e70(n Z X:Int):TB.Ev 70 [.i n,.i Z,.i X] (.ret [.b (gC n Z X)]):=by
 refine kR rfl rfl (.inl rfl) ?_;simp[T70,gC]
 grind
@[simp] def c70 (n Z X:Int):eu TB.Ev R 70 [.i n,.i Z,.i X] e t O L=eE TB.Ev R (.ret [.b (gC n Z X)]) e t O L:=aS (e70 n Z X)
def aqG(n Z X:Int):TB.Ev 284 [.i n,.i Z,.i X] (.ret [.b (gC n Z X)]):=by
 refine kR rfl rfl (.inl rfl) ?_;simp[aav,gC]
 grind
@[simp] def axb (n Z X:Int):eu TB.Ev R 284 [.i n,.i Z,.i X] e t O L=eE TB.Ev R (.ret [.b (gC n Z X)]) e t O L:=aS (aqG n Z X)
def zQ(n:Int)(u:Bool)(Z X:Int):Bool:=if u then gC n Z X else n==0
def aqH(n Z X:Int)(u:Bool):TB.Ev 154 [.i n,.b u,.i Z,.i X] (.ret [.b (zQ n u Z X)]):=by
 refine kR rfl rfl (.inl rfl) ?_;simp[aah,zQ]
 grind
@[simp] def axc (n Z X:Int) (u:Bool):eu TB.Ev R 154 [.i n,.b u,.i Z,.i X] e t O L=eE TB.Ev R (.ret [.b (zQ n u Z X)]) e t O L:=aS (aqH n Z X u)
@[simp] def axd (n:Int):eu TB.Ev R 192 [.i n] e t O L=eE TB.Ev R (.ret [.b false]) e t O L:=aS (ajs Su n)
@[simp] def axe (a b:Int):eu TB.Ev R 110 [.i a,.i b] e t O L=eE TB.Ev R (.ret [.i (ajd a b)]) e t O L:=aS (aaG Su a b)
@[simp] def axf (n d:Int):eu TB.Ev R 210 [.i n,.i d] e t O L=eE TB.Ev R (.ret [.i (if gX n d then 0 else 120)]) e t O L:=aS (ajt Su n d)
@[simp] def axg (a b c d:Int):eu TB.Ev R 142 [.i a,.i b,.i c,.i d] e t O L=eE TB.Ev R (.ret [.i (St a b c d),.i (if gX a b&&gX c d then 0 else 120)]) e t O L:=aS (aju Su a b c d)
def e66(a b c d:Int):TB.Ev 66 [.i a,.i b,.i c,.i d] (.ret [.b (cK a b c d)]):=by
 refine kR rfl rfl (.inl rfl) ?_;simp[T66,cK]
 grind
@[simp] def c66 (a b c d:Int):eu TB.Ev R 66 [.i a,.i b,.i c,.i d] e t O L=eE TB.Ev R (.ret [.b (cK a b c d)]) e t O L:=aS (e66 a b c d)
def jn(Z:Bool)(x:Int):Int:=if Z then x else 0
def e72(a b c d Z X W V:Int):TB.Ev 72 [.i a,.i b,.i c,.i d,.i Z,.i X,.i W,.i V] (.ret [.i (jn (cK a b c d&&cK Z X W V) (min a Z)),.i (jn (cK a b c d&&cK Z X W V) (max b X)),.i (jn (cK a b c d&&cK Z X W V) (min c W)),.i (jn (cK a b c d&&cK Z X W V) (max d V)),.i (if cK a b c d&&cK Z X W V then 0 else 150)]):=by
 refine kR rfl rfl (.inl rfl) ?_;simp[T72,jn]
 grind
@[simp] def c72 (a b c d Z X W V:Int):eu TB.Ev R 72 [.i a,.i b,.i c,.i d,.i Z,.i X,.i W,.i V] e t O L=eE TB.Ev R (.ret [.i (jn (cK a b c d&&cK Z X W V) (min a Z)),.i (jn (cK a b c d&&cK Z X W V) (max b X)),.i (jn (cK a b c d&&cK Z X W V) (min c W)),.i (jn (cK a b c d&&cK Z X W V) (max d V)),.i (if cK a b c d&&cK Z X W V then 0 else 150)]) e t O L:=aS (e72 a b c d Z X W V)
def e69(a b c d:Int):TB.Ev 69 [.i a,.i b,.i c,.i d] (.ret [.b (cK a b c d)]):=by
 refine kR rfl rfl (.inl rfl) ?_;simp[T69]
 grind
@[simp] def c69 (a b c d:Int):eu TB.Ev R 69 [.i a,.i b,.i c,.i d] e t O L=eE TB.Ev R (.ret [.b (cK a b c d)]) e t O L:=aS (e69 a b c d)
def B5(a b c d Z X W V:Int):Bool:=decide (Z<=a)&&decide (b<=X)&&decide (W<=c)&&decide (d<=V)
def e24(a b c d Z X W V:Int):TB.Ev 24 [.i a,.i b,.i c,.i d,.i Z,.i X,.i W,.i V] (.ret [.b (cK a b c d&&cK Z X W V&&B5 a b c d Z X W V),.i (if cK a b c d&&cK Z X W V then 0 else 150)]):=by
 refine kR rfl rfl (.inl rfl) ?_;simp[T24,B5]
 grind
@[simp] def c24 (a b c d Z X W V:Int):eu TB.Ev R 24 [.i a,.i b,.i c,.i d,.i Z,.i X,.i W,.i V] e t O L=eE TB.Ev R (.ret [.b (cK a b c d&&cK Z X W V&&B5 a b c d Z X W V),.i (if cK a b c d&&cK Z X W V then 0 else 150)]) e t O L:=aS (e24 a b c d Z X W V)
def e26(a b c d Z X W V:Int):TB.Ev 26 [.i a,.i b,.i c,.i d,.i Z,.i X,.i W,.i V] (.ret [.b (cK a b c d&&cK Z X W V&&vu a b c d Z X W V),.i (if cK a b c d&&cK Z X W V then 0 else 150)]):=by
 refine WK ?_;simp only[TB,Et,Sr,if_true];cases U:cK a b c d&&cK Z X W V<;>simp
@[simp] def c26 (a b c d Z X W V:Int):eu TB.Ev R 26 [.i a,.i b,.i c,.i d,.i Z,.i X,.i W,.i V] e t O L=eE TB.Ev R (.ret [.b (cK a b c d&&cK Z X W V&&vu a b c d Z X W V),.i (if cK a b c d&&cK Z X W V then 0 else 150)]) e t O L:=aS (e26 a b c d Z X W V)
def aqN(a b c d Z X W V:Int):TB.Ev 181 [.i a,.i b,.i c,.i d,.i Z,.i X,.i W,.i V] (.ret [.b (!(cK a b c d&&cK Z X W V&&vu a b c d Z X W V))]):=by
 refine kR rfl rfl (.inl rfl) ?_;simp[aar]
@[simp] def axm (a b c d Z X W V:Int):eu TB.Ev R 181 [.i a,.i b,.i c,.i d,.i Z,.i X,.i W,.i V] e t O L=eE TB.Ev R (.ret [.b (!(cK a b c d&&cK Z X W V&&vu a b c d Z X W V))]) e t O L:=aS (aqN a b c d Z X W V)
def vx(a b c d x y:Int):Int:=if !cK a b c d then 150 else if !(decide (-2199023255552<=x)&&decide (x<=2199023255552)&&decide (-2199023255552<=y)&&decide (y<=2199023255552)) then 2 else if cK (IntKind.i64.wrap (a+x)) (IntKind.i64.wrap (b+x)) (IntKind.i64.wrap (c+y)) (IntKind.i64.wrap (d+y)) then 0 else 2
def aqO(a b c d x y:Int):TB.Ev 133 [.i a,.i b,.i c,.i d,.i x,.i y] (.ret [.i (jn (vx a b c d x y==0) (IntKind.i64.wrap (a+x))),.i (jn (vx a b c d x y==0) (IntKind.i64.wrap (b+x))),.i (jn (vx a b c d x y==0) (IntKind.i64.wrap (c+y))),.i (jn (vx a b c d x y==0) (IntKind.i64.wrap (d+y))),.i (vx a b c d x y)]):=by
 refine kR rfl rfl (.inl rfl) ?_;simp[aad,jn,aR]
 repeat' split
 all_goals(simp_all[vx])
 all_goals grind
@[simp] def axn (a b c d x y:Int):eu TB.Ev R 133 [.i a,.i b,.i c,.i d,.i x,.i y] e t O L=eE TB.Ev R (.ret [.i (jn (vx a b c d x y==0) (IntKind.i64.wrap (a+x))),.i (jn (vx a b c d x y==0) (IntKind.i64.wrap (b+x))),.i (jn (vx a b c d x y==0) (IntKind.i64.wrap (c+y))),.i (jn (vx a b c d x y==0) (IntKind.i64.wrap (d+y))),.i (vx a b c d x y)]) e t O L:=aS (aqO a b c d x y)
end
structure Sl(v:RV):Prop where
 sl:∃a n c,v.val=.slice a n c
 len:lenOf v.val=v.rows.length
 sm:v.rows.length<=140737488355328
def ci(v:RV)(i j:Nat):Int:=bg (cellAt v.rows i j).val
def cb(v:RV)(i j:Nat):Bool:=gV (cellAt v.rows i j).val
def vy(n:Nat)(J:Nat->List XV->Prop):List XV->Prop
 |.i j::Z=>∃i:Nat,j=i/\i<=n/\J i Z
 |_=>False
def tV(n:Nat):List XV->Nat
 |.i j::_=>n-j.toNat
 |_=>0
section
variable{l:FuncId->List XV->aT->Prop}{R:aT->Prop}{O:aa}{L:List PC}
def bM(n:Nat)(J:Nat->List XV->Prop)(W:vy n J (P.map (SV.xv O)))(h:∀(i:Nat) Z,i<=n->J i Z->N.wp l R (O.ext (.i i::Z)) (⟨U,vy n J,tV n,n-i⟩::L)):T.wp l R (.loop U Q P N) O L:=by
 refine zP (vy n J) (tV n) W λV X=> ?_
 match V,X with
 |.i j::Z,X=>
  obtain⟨i,rfl,M,I⟩:=X;have:=h i Z M I;simpa[tV] using this
def fk{n:Int}(Z:-9223372036854775808<=n)(X:n<9223372036854775808):IntKind.i64.wrap n=n:=by
 rw[IntKind.wrap_i64];omega
def B6{i:Nat}(h:i<=140737488355328):aR .add .i64 (i:Int) 1=((i+1:Nat):Int):=by
 simp only[aR];rw[fk (by omega) (by omega)];omega
def bG{n:Nat}{J:Nat->List XV->Prop}{i:Nat}(X:i<n)(W:n<=140737488355328):L7 (some ⟨U,vy n J,tV n,n-i⟩) (.i (aR .add .i64 (i:Int) 1)::Z)=J (i+1) Z:=by
 rw[B6 (by omega)];refine propext ⟨λh=> ?_,λh=>⟨⟨i+1,rfl,by omega,h⟩, ?_⟩⟩;obtain⟨⟨k,V,_,h⟩,_⟩:=h;have:k=i+1:=by omega
 exact this▸h;simp only[tV];omega
end
end
inductive KX where
 |i
 |b
 |r
 deriving DecidableEq
def LK.kx:LK->KX
 |.int _=>.i
 |.bool=>.b
 |.ref _=>.r
def XV.kx:XV->KX
 |.i _=>.i
 |.b _=>.b
 |.r _=>.r
def SV.kx:SV->KX
 |.bool _=>.b
 |.ref _=>.r
 |_=>.i
abbrev Tot:=FuncId->Option (List KX×List KX)
def Tot.ok(oI:Tot):Prop:=∀f p r,oI f=some (p,r)->∀Z,Z.map XV.kx=p->∃X,TB.Ev f Z (.ret X)/\X.map XV.kx=r
def isTrue:BE->Bool
 |.c b=>b
 |_=>false
def T.oI(oI:Tot)(r:List KX):T->Bool
 |.ret v _ _=>decide ((aaC v).map SV.kx=r)
 |.node _ t f=>t.oI oI r&&f.oI oI r
 |.az b t=>isTrue b&&t.oI oI r
 |.call f Z _ _ X _ t=>decide (oI f=some ((kJ Z).map SV.kx,X.map LK.kx))&&t.oI oI r
 |.new _ _ _ _ t=>t.oI oI r
 |.rows _ _ _ t=>t.oI oI r
 |_=>false
section
def Ew{P:Int->Prop}(h:∃o,TB.Ev V Z o/\∃e,o=.ret [.i e]/\P e):TB.Ev V Z (.ret [.i (oi V Z 0)])/\P (oi V Z 0):=by
 obtain⟨o,X,e,rfl,W⟩:=h;have:oi V Z 0=e:=by simp only[oi,mQ X];rfl
 rw[this];exact⟨X,W⟩
def mkb{P:Bool->Prop}(h:∃o,TB.Ev V Z o/\∃e,o=.ret [.b e]/\P e):TB.Ev V Z (.ret [.b (ob V Z 0)])/\P (ob V Z 0):=by
 obtain⟨o,X,e,rfl,W⟩:=h;have:ob V Z 0=e:=by simp only[ob,mQ X];rfl
 rw[this];exact⟨X,W⟩
structure vz(roles bars:Int)(c:Nat->Int):Prop where
 kind:1<=c 4/\c 4<=9
 aN:0<=c 1/\c 1<roles
 ae:0<=c 2/\c 2<bars
 mark:1<=c 3/\c 3<=3
 side:if c 4=1\/c 4=3\/c 4=4\/c 4=9 then 1<=c 5/\c 5<=2 else c 5=0
 dir:if c 4=1\/c 4=2 then 1<=c 6/\c 6<=8 else if c 4=3\/c 4=4\/c 4=5 then 0<=c 6/\c 6<=8 else c 6=0
 aqP:if c 4=3\/c 4=4\/c 4=5\/c 4=9 then 1<=c 7/\c 7<=3 else c 7=0
 size:if c 4=1\/c 4=2 then 1<=c 8/\c 8<=16 else if c 4=6 then 1<=c 8/\c 8<=7 else c 8=0
 wth:if c 4=7\/c 4=8 then 1<=c 9/\c 9<=roles else c 9=0
 from_:gX (c 10) (c 11)=true
 to:gX (c 12) (c 13)=true
section
variable{R:aT->Prop}{g:List LK}{t:T}{O:aa}{L:List PC}
def fu(c:Nat->Int):List XV:=[.i (c 0),.i (c 1),.i (c 2),.i (c 3),.i (c 4),.i (c 5),.i (c 6),.i (c 7),.i (c 8),.i (c 9),.i (c 10),.i (c 11),.i (c 12),.i (c 13)]
def kT(k:Int)(j:Nat):RV:=cellAt (lX[0]?.getD default).rows k j
def aqQ{c:Nat->Int}{Z X:Int}(N:1<=c 4/\c 4<=9)(M:0<=c 1/\c 1<=Z-1)(J:0<=c 2/\c 2<=X-1)(I:1<=c 3/\c 3<=3)(W:zQ (c 5) (gV (kT (c 4) 0).val) 1 2=true)(V:zQ (c 6) (gV (kT (c 4) 1).val) (bg (kT (c 4) 3).val) 8=true)(U:zQ (c 7) (decide (0<bg (kT (c 4) 4).val)) 1 (bg (kT (c 4) 4).val)=true)(Q:zQ (c 8) (decide (0<bg (kT (c 4) 5).val)) 1 (bg (kT (c 4) 5).val)=true)(P:zQ (c 9) (gV (kT (c 4) 2).val) 1 Z=true)
  (H:gX (c 10) (c 11)=true)(G:gX (c 12) (c 13)=true):vz Z X c:=by
 have:c 4=1\/c 4=2\/c 4=3\/c 4=4\/c 4=5\/c 4=6\/c 4=7\/c 4=8\/c 4=9:=by omega
 rcases this with h|h|h|h|h|h|h|h|h
 all_goals
  simp[h,kT,lX,uL,bV,iV,cellAt,zQ,gV,bg] at W V U Q P;constructor<;>(first|omega|assumption|(simp[h];done)|(simp[h];omega))
set_option maxHeartbeats 2000000 in
def t84 (c:Nat->Int) (Z X:Int) (Q:-1000<=Z/\Z<=1000000) (P:-1000<=X/\X<=1000000):∃o,TB.Ev 84 (fu c++[.i Z,.i X]) o/\∃b,o=.ret [.b b]/\(b=true->vz Z X c):=by
 refine dw rfl rfl (.inl rfl) ?_;have W:aR .sub .i64 Z 1=Z-1:=by simp only[aR];rw[fk (by omega) (by omega)]
 have V:aR .sub .i64 X 1=X-1:=by simp only[aR];rw[fk (by omega) (by omega)]
 have U:lenOf (lX[0]?.getD default).val=10:=rfl;simp[Z5,fu,W,V,U]
 repeat' split
 all_goals(try simp)
 all_goals(intros;refine⟨by omega, ?_⟩;intros;apply aqQ<;>(first|assumption|omega|grind))
def f84(c:Nat->Int)(Z X:Int)(W:-1000<=Z/\Z<=1000000)(V:-1000<=X/\X<=1000000):TB.Ev 84 (fu c++[.i Z,.i X]) (.ret [.b (ob 84 (fu c++[.i Z,.i X]) 0)])/\(ob 84 (fu c++[.i Z,.i X]) 0=true->vz Z X c):=mkb (t84 c Z X W V)
def aaK{a b:Int}(h:b≠0):(a.tmod b).natAbs<b.natAbs:=by
 rw[az5];exact azX _ (by omega)
def aqT(a b c:Int)(Q:1<=c)(P:c<=32768)(N:-c<=a/\a<=c)(M:-c<=b/\b<=c):∃o,TB.Ev 153 [.i a,.i b,.i c] o/\∃x y z,o=.ret [.i x,.i y,.i z]:=by
 refine dw rfl rfl (.inl rfl) ?_;simp[aaz];refine zP (λZ=>∃n d:Int,Z=[.i n,.i d]∧-c<=n/\n<=c∧-c<=d/\d<=c) (λZ=>(xi Z 0).natAbs) ⟨a,0,rfl,by omega,by omega,by omega,by omega⟩ ?_;rintro _ ⟨n,d,rfl,X,W,V,U⟩;simp[xi,zO,aR];split
 case isFalse h=>
  have:=aaK (a:=d) h;refine⟨h,⟨_,_,⟨rfl,rfl⟩, ?_⟩,by rw[<-az5];exact this⟩;omega
 refine zP (λZ=>∃n d:Int,Z=[.i n,.i d]∧-c<=n/\n<=c∧-c<=d/\d<=c) (λZ=>(xi Z 0).natAbs) ⟨b,d,rfl,by omega,by omega,by omega,by omega⟩ ?_;rintro _ ⟨n,d,rfl,X,W,V,U⟩;simp[xi,zO,aR];split
 case isFalse h=>
  have:=aaK (a:=d) h;refine⟨h,⟨_,_,⟨rfl,rfl⟩, ?_⟩,by rw[<-az5];exact this⟩;omega
 refine zP (λZ=>∃n d:Int,Z=[.i n,.i d]∧-c<=n/\n<=c∧-c<=d/\d<=c/\(n≠0\/d≠0)) (λZ=>(xi Z 0).natAbs) ⟨c,d,rfl,by omega,by omega,by omega,by omega,by omega⟩ ?_;rintro _ ⟨n,d,rfl,X,W,V,U,J⟩;simp[xi,zO,aR];split
 case isFalse h=>
  have:=aaK (a:=d) h;refine⟨h,⟨_,_,⟨rfl,rfl⟩, ?_⟩,by rw[<-az5];exact this⟩;omega
 have:IntKind.i64.wrap (-d)=-d:=fk (by omega) (by omega);simp[this];omega
def t83(a b c:Int):∃o,TB.Ev 83 [.i a,.i b,.i c] o/\∃e,o=.ret [.i e]/\True:=by
 refine dw rfl rfl (.inl rfl) ?_;simp[T83];intro W V Z U Q;have X:aR .sub .i64 0 c=-c:=by simp only[aR];rw[fk (by omega) (by omega)];omega
 rw[X] at Z;obtain⟨o,h,x,y,z,rfl⟩:=aqT a b c (by omega) (by omega) (by omega) (by omega);rw[aS h];simp
@[simp] def c83 (a b c:Int):eu TB.Ev R 83 [.i a,.i b,.i c] g t O L=eE TB.Ev R (.ret [.i (oi 83 [.i a,.i b,.i c] 0)]) g t O L:=aS (Ew (t83 a b c)).1
structure Io(tp:RV):Prop where
 sl:Sl tp
 pos:0<tp.rows.length
 zero:ci tp 0 0=0
def aaL{j:Nat}(h:j<=140737488355328)(X:U<=j):IntKind.i64.wrap (aR .shr .u64 (IntKind.u64.wrap (aR .add .i64 (U:Int) (j:Int))) 1)=(((U+j)/2:Nat):Int):=by
 simp only[aR];rw[fk (n:=(U:Int)+j) (by omega) (by omega)];rw[show IntKind.u64.wrap ((U:Int)+j)=(U:Int)+j by rw[IntKind.wrap_u64];omega];have:((U:Int)+j).fdiv (2^min (1:Int).toNat IntKind.u64.bits)=(((U+j)/2:Nat):Int):=by
  have Z:(2:Int)^min (1:Int).toNat IntKind.u64.bits=2:=rfl;rw[Z,aAB _ (by omega)];omega
 rw[this,fk (by omega) (by omega)]
def aqV(U ae:Int)(Z Q P:RV)(h:Io Z)(G:0<=ae):∃o,TB.Ev 220 [.i U,.r Z,.r Q,.r P,.i ae] o/\∃e,o=.ret [.i e]/\True:=by
 refine dw rfl rfl (.inl rfl) ?_;simp[aaj];have F:=h.pos;have E:=h.sl.sm;refine zP (λX=>∃i j:Nat,X=[.i i,.i j]/\i<=j/\j<=Z.rows.length/\(j=Z.rows.length\/ae<ci Z j 0)) (λX=>(xi X 1-xi X 0).toNat) ⟨0,Z.rows.length,by simp[h.sl.len],by omega,by omega,.inl rfl⟩ ?_;rintro _ ⟨i,j,rfl,N,D,W⟩;simp[xi,zO,h.sl.len,aaL (show j<=140737488355328 by omega) N];split;rename_i M;refine⟨by omega, ?_⟩;have J:((i:Int)+j)/2=(((i+j)/2:Nat):Int):=by omega
 have I:=B6 (i:=(i+j)/2) (by omega);rw[J,I];split;refine⟨⟨(i+j)/2+1,j,⟨rfl,rfl⟩,by omega,by omega,W⟩,by omega⟩;rename_i V;refine⟨⟨i,(i+j)/2,⟨rfl,rfl⟩,by omega,by omega,.inr ?_⟩,by omega⟩;simp only[ci];omega;rename_i M;have H:i=j:=by omega
 subst H;have:1<=i:=by
  rcases ayW i with rfl|V;have:=h.zero;rcases W with W|W<;>omega;exact V
 rw[show aR .sub .i64 (i:Int) 1=(i:Int)-1 by simp only[aR];rw[fk (by omega) (by omega)]];omega
def ajv(X ae:Int)(Z W V:RV)(h:Io Z)(U:0<=ae):eu TB.Ev R 220 [.i X,.r Z,.r W,.r V,.i ae] g t O L=eE TB.Ev R (.ret [.i (oi 220 [.i X,.r Z,.r W,.r V,.i ae] 0)]) g t O L:=aS (Ew (aqV X ae Z W V h U)).1
end
end
variable{X:List (List RV)}
section
def aF(Z:List (List RV)):RV:=.mk (.slice none Z.length Z.length) Z
@[simp] def axp (x:LE) (O:aa):eI x O=aF (x.rows O):=rfl
@[simp] def axq (r:List (List RV)):(aF r).rows=r:=rfl
@[simp] def axr (r:List (List RV)):lenOf (aF r).val=r.length:=rfl
@[simp] def ajw:RV.mk (.slice none 0 0) []=aF []:=rfl
def Sv(h:X.length<=140737488355328):Sl (aF X):=⟨⟨_,_,_,rfl⟩,rfl,h⟩
attribute[simp] LE.rows SV.bu
def Ip(c:Nat->Int):List RV:=[.mk (.int .i64 (c 0)) [],.mk (.int .i64 (c 1)) [],.mk (.int .i64 (c 2)) [],.mk (.int .i64 (c 3)) [],.mk (.int .i64 (c 4)) [],.mk (.int .i64 (c 5)) [],.mk (.int .i64 (c 6)) [],.mk (.int .i64 (c 7)) [],.mk (.int .i64 (c 8)) [],.mk (.int .i64 (c 9)) [],.mk (.int .i64 (c 10)) [],.mk (.int .i64 (c 11)) [],.mk (.int .i64 (c 12)) [],.mk (.int .i64 (c 13)) []]
def ajx{lt:List RV->List RV->Bool}{x:List RV}:∀{l:List (List RV)},(cU lt x l).Perm (x::l)
 |[]=>aAv _
 |y::r=>by
  simp only[cU];split;exact aAv _;exact((ajx (l:=r)).cons y).trans (aBt x y r)
def ajy{lt:List RV->List RV->Bool}:∀(l acc:List (List RV)),(l.foldl (λacc x=>cU lt x acc) acc).Perm (acc++l)
 |[],acc=>by simp
 |x::l,acc=>by
  simp only[ay8];refine(ajy l _).trans ?_;refine(List.Perm.append_right l ajx).trans ?_;rw[axY];exact List.perm_middle.symm
def zR{lt:List RV->List RV->Bool}(l:List (List RV)):(aU lt l).Perm l:=by
 have:=ajy (lt:=lt) l [];simpa[aU] using this
def qC(Z:List (List RV)):Prop:=Z.Pairwise λx y=>aP 0 x≠aP 0 y
def qC.perm{Z:List (List RV)}(h:qC X)(V:Z.Perm X):qC Z:=(V.symm.pairwise_iff (λ{x y} h=>h.symm)).1 h
def ajz:∀{Z:List (List RV)},qC Z->pU (aI.lex [0] false).lt Z=true
 |[],_=>rfl
 |x::r,h=>by
  simp only[qC,ax5] at h;simp only[pU,axI,axU,ayb];refine⟨λy V=> ?_,ajz h.2⟩;have X:¬aP 0 x=aP 0 y:=h.1 y V;have U:¬aP 0 y=aP 0 x:=λe=>X e.symm
  simp only[aI.lt,fJ,if_neg X,if_neg U,ax3,if_false,decide_eq_true_eq];omega
def ajA{Z:Bool}(V:X.length<=1099511627776)(h:qC X):dB (.lex [0] false) Z X=some (aU (aI.lex [0] false).lt X):=by
 simp only[dB];rw[if_pos (by simp[V,ajz h,aI.ok])]
def aqW{rows:List (List RV)}(Z:rows.length<=1099511627776)(h:∀x∈rows,gX (aP 10 x) (aP 11 x)=true):dB (.ratio 10 11) true rows=some (aU (aI.ratio 10 11).lt rows):=by
 simp only[dB];rw[if_pos (by simp only[axI,decide_eq_true_eq,aBc,and_true];exact⟨Z,axU.2 h⟩)]
structure oJ(W D d:Int)(rl tp sg:RV):Prop where
 nr:1<=rl.rows.length/\rl.rows.length<=64
 ns:sg.rows.length<=4096
 br:1<=d/\d<=4096
 wd:1<=W/\W<=1000/\1<=D/\D<=1000
 tp:Io tp
 Iq:∀i<sg.rows.length,vz rl.rows.length d (ci sg i)
 id:∀i<sg.rows.length,0<=ci sg i 0/\ci sg i 0<=1048576
 ids:∀i j,i<j->j<sg.rows.length->ci sg i 0<ci sg j 0
structure fF(rl tp ps sp sg:RV):Prop where
 rl:Sl rl
 tp:Sl tp
 ps:Sl ps
 sp:Sl sp
 sg:Sl sg
section
variable{R:aT->Prop}{f:List LK}{t:T}{O:aa}{L:List PC}
variable(W D A B C d:Int)(rl tp ps sp sg:RV)
def wk:List XV:=[.i W,.i D,.i A,.i B,.i C,.r rl,.i d,.r tp,.r ps,.r sp,.r sg]
def rY:Prop:=∀(d:Int)(tp ps sp:RV),Sl tp->Sl ps->Sl sp->TB.Ev 81 [.i d,.r tp,.r ps,.r sp] (.ret [.i (oi 81 [.i d,.r tp,.r ps,.r sp] 0)])/\(oi 81 [.i d,.r tp,.r ps,.r sp] 0=0->Io tp/\1<=d/\d<=4096)
def t37(I:rY)(h:fF rl tp ps sp sg):∃o,TB.Ev 37 (wk W D A B C d rl tp ps sp sg) o/\∃e,o=.ret [.i e]/\(e=0->oJ W D d rl tp sg):=by
 refine dw rfl rfl (.inl rfl) ?_;obtain⟨H,G⟩:=I d tp ps sp h.tp h.ps h.sp;simp[T37,wk,h.rl.len,h.sg.len,aS H]
 repeat'(first|intro _|split)
 any_goals(exfalso;omega)
 obtain⟨F,r,q⟩:=G (by assumption);refine bM rl.rows.length (λ_ Q=>Q=[]) ⟨0,rfl,by omega,rfl⟩ ?_;rintro i _ Z rfl;simp[h.rl.len];split;rename_i Z;simp[bG Z h.rl.sm,Z];refine bM sg.rows.length (λi Q=>∃V:Int,Q=[.i V]∧-1<=V/\(∀k<i,vz rl.rows.length d (ci sg k)/\0<=ci sg k 0/\ci sg k 0<=V/\ci sg k 0<=1048576)/\∀j k,j<k->k<i->ci sg j 0<ci sg k 0) ⟨0,rfl,by omega,-1,rfl,by omega,by omega,by omega⟩ ?_;rintro j _ P ⟨V,rfl,p,X,N⟩;simp[h.rl.len,h.sg.len];split;rename_i P;refine⟨P,λn m=> ?_⟩;obtain⟨M,U⟩:=f84 (ci sg j) rl.rows.length d (by omega) (by omega);simp only[fu,ci,axY,ax2] at M U;rw[aS M];simp[bG P h.sg.sm];intro E;have U:=U E;refine⟨by omega,λk l=> ?_,λa b J g=> ?_⟩;by_cases z:k=j;subst z;refine⟨U, ?_, ?_, ?_⟩<;>simp only[ci]<;>omega;obtain⟨y,x,w,v⟩:=X k (by omega);exact⟨y,x,by simp only[ci] at w⊢;omega,v⟩;by_cases u:b=j;subst u;have:=(X a J).2.2.1;simp only[ci] at this⊢;omega;exact N a b J (by omega);have s:j=sg.rows.length:=by omega
 subst s;have f:rl.rows.length≠0:=λe=>absurd (ayl.1 e) (by assumption)
 exact⟨by omega,by omega,by omega,by omega,F,λi Z=>(X i Z).1,λi Z=>⟨(X i Z).2.1,(X i Z).2.2.2⟩,N⟩
end
end
section
section
variable{R:aT->Prop}{l:List LK}{t:T}{O:aa}{L:List PC}
variable(W D A B C d:Int)(b e f g a:RV)
@[simp] def Ex (c:Nat->Int) (j:Nat) (h:j<14):aP j (Ip c)=c j:=by
 match j,h with
 |0,_|1,_|2,_|3,_|4,_|5,_|6,_|7,_|8,_|9,_|10,_|11,_|12,_|13,_=>rfl
def qD(a:RV)(aN ae:Int):Nat->List (List RV)
 |0=>[]
 |i+1=>qD a aN ae i++(if ci a i 1=aN/\ci a i 2=ae then[Ip (ci a i)] else[])
def Sw{aN ae:Int}:∀i,(qD a aN ae i).length<=i
 |0=>by simp[qD]
 |i+1=>by
  have:=Sw (aN:=aN) (ae:=ae) i;simp only[qD,axX];split<;>simp<;>omega
def Sx{aN ae:Int}{x:List RV}:∀{i},x∈qD a aN ae i<->∃k<i,x=Ip (ci a k)/\ci a k 1=aN/\ci a k 2=ae
 |0=>by simp[qD]
 |i+1=>by
  simp only[qD,axS,Sx (i:=i)];constructor;rintro(⟨k,V,Z⟩|h);exact⟨k,by omega,Z⟩;split at h;rename_i U;simp at h;exact⟨i,by omega,h,U⟩;simp at h;rintro⟨k,V,Z,X⟩;by_cases Q:k=i;subst Q;right;rw[if_pos X];simp[Z];exact .inl ⟨k,by omega,Z,X⟩
def ajB{aN ae:Int}(h:∀i j,i<j->j<a.rows.length->ci a i 0<ci a j 0):∀{i},i<=a.rows.length->qC (qD a aN ae i)
 |0,_=>ayv
 |i+1,U=>by
  simp only[qD,qC,ayc];refine⟨ajB h (by omega),by split<;>simp,λx X y Z=> ?_⟩;obtain⟨k,V,rfl,-⟩:=(Sx a).1 X;split at Z;simp at Z;subst Z;rw[Ex _ _ (by omega),Ex _ _ (by omega)];have:=h k i V (by omega);omega;simp at Z
def jR:Int:=oi 37 (wk W D A B C d b e f g a) 0
def jo(aN ae:Int):Int:=if jR W D A B C d b e f g a=0 then(if gC aN 0 (b.rows.length-1)&&gC ae 0 (d-1) then 0 else 1) else jR W D A B C d b e f g a
def cm(aN ae:Int):List (List RV):=if jo W D A B C d b e f g a aN ae=0 then aU (aI.ratio 10 11).lt (qD a aN ae a.rows.length) else[]
def rZ(Z:rY)(h:fF b e f g a):TB.Ev 37 (wk W D A B C d b e f g a) (.ret [.i (jR W D A B C d b e f g a)])/\(jR W D A B C d b e f g a=0->oJ W D d b e a):=Ew (t37 W D A B C d b e f g a Z h)
def Ey(J:rY)(h:fF b e f g a)(aN ae:Int):TB.Ev 77 (wk W D A B C d b e f g a++[.i aN,.i ae]) (.ret [.r (aF (cm W D A B C d b e f g a aN ae)),.i (jo W D A B C d b e f g a aN ae)]):=by
 refine kR rfl rfl (.inl rfl) ?_;obtain⟨X,I⟩:=rZ W D A B C d b e f g a J h;simp only[wk] at X;simp[T77,wk,h.rl.len,aS X];split
 case isFalse Z=>
  simp[cm,jo,Z]
 rename_i Z;have V:=I Z;have y:=V.nr;have w:=V.br;rw[show aR .sub .i64 (b.rows.length:Int) 1=b.rows.length-1 by simp only[aR];rw[fk (by omega) (by omega)],show aR .sub .i64 d 1=d-1 by simp only[aR];rw[fk (by omega) (by omega)]];split
 case isFalse U=>
  simp[cm,jo,Z,U]
 rename_i U;split
 case isFalse P=>
  simp[cm,jo,Z,U,P]
 rename_i P;refine bM a.rows.length (λi H=>H=[.r (aF (qD a aN ae i))]) ⟨0,rfl,by omega,rfl⟩ ?_;rintro i _ N rfl;have bi:=Sw a (aN:=aN) (ae:=ae) i;have v:=V.ns;simp[h.sg.len];split;rename_i N;simp[bG N h.sg.sm,qD,ci,N];have u:(qD a aN ae i).length<=536870912:=by omega
 split;rename_i Q;split;rename_i M;simp[Q,M,Ip,ci];omega;rename_i M;simp[Q,M];rename_i Q;simp[Q];have G:i=a.rows.length:=by omega
 subst G;have F:=aqW (rows:=qD a aN ae a.rows.length) (by have:=Sw a (aN:=aN) (ae:=ae) a.rows.length;have:=h.sg.sm;omega) (λx E=>by
  obtain⟨k,X,rfl,-⟩:=(Sx a).1 E;rw[Ex _ _ (by omega),Ex _ _ (by omega)];exact(V.Iq k X).from_)
 simp only[nM];refine⟨_,F, ?_⟩;have z:jo W D A B C d b e f g a aN ae=0:=by simp[jo,Z,U,P]
 simp[cm,z,aF,jC]
def aaM{aN ae:Int}(U:jR W D A B C d b e f g a=0->oJ W D d b e a){x:List RV}(Z:x∈cm W D A B C d b e f g a aN ae):∃k<a.rows.length,x=Ip (ci a k)/\ci a k 1=aN/\ci a k 2=ae/\vz b.rows.length d (ci a k):=by
 unfold cm at Z;split at Z;rename_i X;have Q:jR W D A B C d b e f g a=0:=by
  unfold jo at X;split at X;assumption;exact X
 obtain⟨k,V,P,N,M⟩:=(Sx a).1 ((zR _).mem_iff.1 Z);exact⟨k,V,P,N,M,(U Q).Iq k V⟩;simp at Z
def Sy{aN ae:Int}(X:jR W D A B C d b e f g a=0->oJ W D d b e a):qC (cm W D A B C d b e f g a aN ae):=by
 unfold cm;split;rename_i Z;have V:jR W D A B C d b e f g a=0:=by
  unfold jo at Z;split at Z;assumption;exact Z
 exact(ajB a (X V).ids (axQ _)).perm (zR _);exact ayv
def L9{aN ae:Int}(X:jR W D A B C d b e f g a=0->oJ W D d b e a):(cm W D A B C d b e f g a aN ae).length<=4096:=by
 unfold cm;split;rename_i Z;have V:jR W D A B C d b e f g a=0:=by
  unfold jo at Z;split at Z;assumption;exact Z
 rw[jC];have:=Sw a (aN:=aN) (ae:=ae) a.rows.length;have:=(X V).ns;omega;simp
end
end
section
section
variable{R:aT->Prop}{a:List LK}{t:T}{O:aa}{L:List PC}
def aqY(c:Nat->Int)(x y z:Int)(b:Bool):∃o,TB.Ev 225 (fu c++[.i x,.i y,.i z,.b b]) o/\∃e,o=.ret [.b e]/\(e=true->x=c 0):=by
 refine dw rfl rfl (.inl rfl) ?_;simp[aau,fu]
 repeat' split
 all_goals(intros;grind [gC])
def ajC(c:Nat->Int)(x y z:Int)(b:Bool):TB.Ev 225 (fu c++[.i x,.i y,.i z,.b b]) (.ret [.b (ob 225 (fu c++[.i x,.i y,.i z,.b b]) 0)])/\(ob 225 (fu c++[.i x,.i y,.i z,.b b]) 0=true->x=c 0):=mkb (aqY c x y z b)
def aaN(c:Nat->Int)(r:RV)(k:Nat):List RV:=Ip c++[.mk (.int .i64 (ci r k 0)) [],.mk (.int .i64 (ci r k 1)) [],.mk (.int .i64 (ci r k 2)) [],.mk (.bool (cb r k 3)) []]
def aZ(Z:List (List RV))(i j:Nat):Int:=bg (cellAt Z i j).val
def tW(l:List (List RV))(r:RV)(n:Nat)(out:List (List RV)):Prop:=out.length=n/\∀i<n,∃k<r.rows.length,out[i]?=some (aaN (aZ l i) r k)/\ci r k 0=aZ l i 0
def tW.add{r:RV}{out:List (List RV)}(h:tW X r U out){k:Nat}(Z:k<r.rows.length)(hid:ci r k 0=aZ X U 0):tW X r (U+1) (out++[aaN (aZ X U) r k]):=by
 refine⟨by simp[h.1],λi M=> ?_⟩;by_cases W:i=U;subst W;refine⟨k,Z, ?_,hid⟩;rw[axP (by rw[h.1];omega),h.1];simp;obtain⟨V,Q,P,N⟩:=h.2 i (by omega);exact⟨V,Q,by rw[axL (by rw[h.1];omega)];exact P,N⟩
def aqZ(l:List (List RV))(r:RV)(X:Sl r)(H:l.length<=4096)(M:qC l)(Q:0<l.length):∃o,TB.Ev 155 [.r (aF l),.r r] o/\∃v b,o=.ret [.r (aF v),.b b]/\(b=false->v=[])/\(b=true->tW l r l.length v):=by
 refine dw rfl rfl (.inl rfl) ?_;simp[Sf,X.len];intro J;simp only[L8];refine⟨.inl rfl,λ_=> ?_,λh=> ?_,λ_ h=> ?_⟩;simp;refine⟨by omega, ?_⟩;simp only[nM];refine⟨_,ajA (by simp;omega) (by simpa using M), ?_⟩;simp;have G:(aU (aI.lex [0] false).lt l).length=l.length:=jC;refine bM l.length (λi W=>∃v,W=[.r (aF v)]/\tW l r i v) ⟨0,rfl,by omega,[],rfl,rfl,by omega⟩ ?_;rintro i _ V ⟨v,rfl,U⟩;simp;split;rename_i V;refine⟨V, ?_⟩;refine bM l.length (λj W=>W=[.r (aF v)]) ⟨0,rfl,by omega,rfl⟩ ?_;rintro j _ Z rfl;simp[X.len];intro Z;have F:=U.1;simp[bG Z (show l.length<=140737488355328 by omega)];refine⟨Z,λE=>⟨by omega, ?_⟩⟩;obtain⟨P,N⟩:=ajC (aZ l i) (ci r j 0) (ci r j 1) (ci r j 2) (cb r j 3);simp only[fu,aZ,ci,cb,axY,ax2] at P N;rw[aS P];simp[bG Z (show l.length<=140737488355328 by omega),bG V (show l.length<=140737488355328 by omega),<-J,X.len];intro I;refine⟨Z,by omega, ?_⟩;have:=U.add (k:=j) (by omega) (N I);exact⟨_,rfl,this⟩;have:i=l.length:=by omega
 subst this;exact⟨_,rfl,U⟩;simp at h;simp[h] at Q;simp at h;simp[h] at Q
def aq0(r:RV)(V:Sl r):TB.Ev 155 [.r (aF []),.r r] (.ret [.r (aF []),.b (r.rows.length==0)]):=by
 refine kR rfl rfl (.inl rfl) ?_;simp[Sf,V.len];split
 case isFalse h=>
  intro e;simp[e] at h
 rename_i h;have Z:r.rows.length=0:=by omega
 have W:dB (aI.lex [0] false) false []=some []:=rfl;simp only[L8,nM];refine⟨.inl rfl,λ_=> ?_,λ_=> ?_,λ_ _=>single (by rw[Z];rfl)⟩
 ·try simp
  try simp only[nM]
  refine⟨_,by simpa using W, ?_⟩;refine bM 0 (λi X=>X=[.r (aF [])]) ⟨0,rfl,by omega,rfl⟩ ?_;rintro i _ U rfl;have:i=0:=by omega
  simp[Z,this]
 ·try simp
  try simp only[nM]
  refine⟨_,by simpa using W, ?_⟩;refine bM 0 (λi X=>X=[.r (aF [])]) ⟨0,rfl,by omega,rfl⟩ ?_;rintro i _ U rfl;have:i=0:=by omega
  simp[Z,this]
def ajD(l:List (List RV))(r:RV)(Z:Sl r)(X:l.length<=4096)(W:qC l):∃o,TB.Ev 155 [.r (aF l),.r r] o/\∃v b,o=.ret [.r (aF v),.b b]/\(b=false->v=[])/\(b=true->tW l r l.length v):=by
 cases l with
 |nil=>exact⟨_,aq0 r Z,[],r.rows.length==0,rfl,λ_=>rfl,λ_=>⟨rfl,by simp⟩⟩
 |cons x l=>exact aqZ (x::l) r Z X W (by simp)
end
end
section
def j7(g:List LK)(h:∃o,TB.Ev V Z o/\∃X,o=.ret X/\dh g X=true):TB.Ev V Z (.ret (qB (out V Z) g 0)):=by
 obtain⟨o,W,X,U,Q⟩:=h;exact(shp g (P:=λ_=>True) ⟨o,W,X,U,Q,trivial⟩).1
def kI:Nat->List LK
 |0=>[]
 |n+1=>.int .i64::kI n
@[simp] def Sz:kI 0=[]:=rfl
@[simp] def Ir (n:Nat):kI (n+1)=.int .i64::kI n:=rfl
section
variable{R:aT->Prop}{g:List LK}{t:T}{O:aa}{L:List PC}
def aq1(a b:Int):∃o,TB.Ev 138 [.i a,.i b] o/\∃Z,o=.ret Z/\dh (kI 2) Z=true:=by
 refine dw rfl rfl (.inl rfl) ?_;simp[Z7]
@[simp] def axs (a b:Int):eu TB.Ev R 138 [.i a,.i b] g t O L=eE TB.Ev R (.ret [.i (oi 138 [.i a,.i b] 0),.i (oi 138 [.i a,.i b] 1)]) g t O L:=aS (j7 _ (aq1 a b))
def aq2(a b:Int):∃o,TB.Ev 139 [.i a,.i b] o/\∃Z,o=.ret Z/\dh (kI 4) Z=true:=by
 refine dw rfl rfl (.inl rfl) ?_;simp[Z8]
 repeat'(first|intro _|split)
 have X:lenOf (lX[2]?.getD default).val=8:=rfl;rw[show aR .sub .i64 a 1=a-1 by simp only[aR];exact fk (by omega) (by omega),X];omega
@[simp] def axt (a b:Int):eu TB.Ev R 139 [.i a,.i b] g t O L=eE TB.Ev R (.ret [.i (oi 139 [.i a,.i b] 0),.i (oi 139 [.i a,.i b] 1),.i (oi 139 [.i a,.i b] 2),.i (oi 139 [.i a,.i b] 3)]) g t O L:=aS (j7 _ (aq2 a b))
def aq3(a:Int):∃o,TB.Ev 376 [.i a] o/\∃Z,o=.ret Z/\dh (kI 3) Z=true:=by
 refine dw rfl rfl (.inl rfl) ?_;simp[Z9]
 repeat'(first|intro _|split)
 have X:lenOf (lX[2]?.getD default).val=8:=rfl;rw[show aR .sub .i64 a 1=a-1 by simp only[aR];exact fk (by omega) (by omega),X];omega
@[simp] def axu (a:Int):eu TB.Ev R 376 [.i a] g t O L=eE TB.Ev R (.ret [.i (oi 376 [.i a] 0),.i (oi 376 [.i a] 1),.i (oi 376 [.i a] 2)]) g t O L:=aS (j7 _ (aq3 a))
def aq4(a b c d e f:Int):∃o,TB.Ev 361 [.i a,.i b,.i c,.i d,.i e,.i f] o/\∃Z,o=.ret Z/\dh (kI 2) Z=true:=by
 refine dw rfl rfl (.inl rfl) ?_;simp[aaf]
@[simp] def axv (a b c d e f:Int):eu TB.Ev R 361 [.i a,.i b,.i c,.i d,.i e,.i f] g t O L=eE TB.Ev R (.ret [.i (oi 361 [.i a,.i b,.i c,.i d,.i e,.i f] 0),.i (oi 361 [.i a,.i b,.i c,.i d,.i e,.i f] 1)]) g t O L:=aS (j7 _ (aq4 a b c d e f))
def aq5(a b c:Int):∃o,TB.Ev 248 [.i a,.i b,.i c] o/\∃Z,o=.ret Z/\dh (kI 3) Z=true:=by
 refine dw rfl rfl (.inl rfl) ?_;simp[aag]
@[simp] def axw (a b c:Int):eu TB.Ev R 248 [.i a,.i b,.i c] g t O L=eE TB.Ev R (.ret [.i (oi 248 [.i a,.i b,.i c] 0),.i (oi 248 [.i a,.i b,.i c] 1),.i (oi 248 [.i a,.i b,.i c] 2)]) g t O L:=aS (j7 _ (aq5 a b c))
def aq6(s:RV)(b:Int):∃o,TB.Ev 272 [.r s,.i b] o/\∃Z,o=.ret Z/\dh (kI 1) Z=true:=by
 cases X:s.val with
 |string u=>exact⟨_,WK (by simp only[TB,Et,Ss,X];rfl),_,rfl,rfl⟩
 |_=>exact⟨_,WK (by simp only[TB,Et,Ss,X];rfl),_,rfl,rfl⟩
@[simp] def axx (s:RV) (b:Int):eu TB.Ev R 272 [.r s,.i b] g t O L=eE TB.Ev R (.ret [.i (oi 272 [.r s,.i b] 0)]) g t O L:=aS (j7 _ (aq6 s b))
def aq7(a:Int):∃o,TB.Ev 207 [.i a] o/\∃Z,o=.ret Z/\dh (kI 1) Z=true:=by
 refine dw rfl rfl (.inl rfl) ?_;simp[aaw]
@[simp] def axy (a:Int):eu TB.Ev R 207 [.i a] g t O L=eE TB.Ev R (.ret [.i (oi 207 [.i a] 0)]) g t O L:=aS (j7 _ (aq7 a))
def vA(v:RV):Prop:=∃s,v.val=.string s
def tX(v:RV):vA (cd .str v):=by
 simp only[cd];split<;>exact⟨_,rfl⟩
def aq8(s:RV)(V:vA s):∃o,TB.Ev 135 [.r s] o/\∃X,o=.ret X/\dh [.bool] X=true:=by
 refine dw rfl rfl (.inl rfl) ?_;obtain⟨u,W⟩:=V;simp[aas,W,nV,lenOf];intro U M;have Q:0<u.size:=by
  rcases ayW u.size with h|h;exfalso;apply U;have P:u=ByteArray.empty:=by simpa using h
  rw[P,ByteArray.toList,ByteArray.toList.loop];simp;exact h
 refine⟨Q,λ_=> ?_⟩;refine bM u.size (λ_ N=>N=[]) ⟨0,rfl,by omega,rfl⟩ ?_;rintro i _ Z rfl;simp[W,lenOf];intro Z;simp[bG Z (show u.size<=140737488355328 by omega),Z]
def ajE(s:RV)(Z:vA s):eu TB.Ev R 135 [.r s] g t O L=eE TB.Ev R (.ret [.b (ob 135 [.r s] 0)]) g t O L:=aS (j7 [.bool] (aq8 s Z))
def t74(X W V U Q P N M J I H G F:Int):∃o,TB.Ev 74 [.i X,.i W,.i V,.i U,.i Q,.i P,.i N,.i M,.i J,.i I,.i H,.i G,.i F] o/\∃Z,o=.ret Z/\dh (kI 1) Z=true:=by
 refine dw rfl rfl (.inl rfl) ?_;simp[T74]
def o74(Z X W V U Q P N M J I H G:Int):Int:=oi 74 [.i Z,.i X,.i W,.i V,.i U,.i Q,.i P,.i N,.i M,.i J,.i I,.i H,.i G] 0
@[simp] def c74 (Z X W V U Q P N M J I H G:Int):eu TB.Ev R 74 [.i Z,.i X,.i W,.i V,.i U,.i Q,.i P,.i N,.i M,.i J,.i I,.i H,.i G] g t O L=eE TB.Ev R (.ret [.i (o74 Z X W V U Q P N M J I H G)]) g t O L:=aS (j7 _ (t74 Z X W V U Q P N M J I H G))
def t75(s:RV)(V:vA s)(U Q P N M J I H G F E Z X W D C:Int):∃o,TB.Ev 75 [.r s,.i U,.i Q,.i P,.i N,.i M,.i J,.i I,.i H,.i G,.i F,.i E,.i Z,.i X,.i W,.i D,.i C] o/\∃e,o=.ret [.i e]/\(e=0->(1<=Z/\Z<=3)/\(1<=X/\X<=3)/\1<=W/\W<=3):=by
 refine dw rfl rfl (.inl rfl) ?_;simp[Si,ajE s V];intros;omega
def vC(s:RV)(Z X W V U Q P N M J I H G F E D:Int):Int:=oi 75 [.r s,.i Z,.i X,.i W,.i V,.i U,.i Q,.i P,.i N,.i M,.i J,.i I,.i H,.i G,.i F,.i E,.i D] 0
def SA(s:RV)(C:vA s)(V U Q P N M J I H G F Z X W E D:Int):TB.Ev 75 [.r s,.i V,.i U,.i Q,.i P,.i N,.i M,.i J,.i I,.i H,.i G,.i F,.i Z,.i X,.i W,.i E,.i D] (.ret [.i (vC s V U Q P N M J I H G F Z X W E D)])/\(vC s V U Q P N M J I H G F Z X W E D=0->(1<=Z/\Z<=3)/\(1<=X/\X<=3)/\1<=W/\W<=3):=Ew (t75 s C V U Q P N M J I H G F Z X W E D)
def c75(s:RV)(C:vA s)(Z X W V U Q P N M J I H G F E D:Int):eu TB.Ev R 75 [.r s,.i Z,.i X,.i W,.i V,.i U,.i Q,.i P,.i N,.i M,.i J,.i I,.i H,.i G,.i F,.i E,.i D] g t O L=eE TB.Ev R (.ret [.i (vC s Z X W V U Q P N M J I H G F E D)]) g t O L:=aS (SA s C Z X W V U Q P N M J I H G F E D).1
set_option maxHeartbeats 4000000 in
def t27 (X W V U Q P N M J I H G F:Int) (s:RV) (E:vA s) (D C B A z y x w v u q p n m l k:Int):∃o,TB.Ev 27 [.i X,.i W,.i V,.i U,.i Q,.i P,.i N,.i M,.i J,.i I,.i H,.i G,.i F,.r s,.i D,.i C,.i B,.i A,.i z,.i y,.i x,.i w,.i v,.i u,.i q,.i p,.i n,.i m,.i l,.i k] o/\∃Z,o=.ret Z/\dh (kI 5) Z=true:=by
 refine dw rfl rfl (.inl rfl) ?_;simp(config:={maxSteps:=10000000}) [Sg,c75 s E]
end
end
section
section
variable{R:aT->Prop}{d:List LK}{t:T}{O:aa}{L:List PC}
variable(W D A B C a:Int)(rl tp ps sp sg:RV)
structure Ma(a:Int)(rl tp ps sp sg:RV):Prop where
 rl:lenOf rl.val<=100
 tp:lenOf tp.val<=64
 ps:lenOf ps.val<=64
 sp:lenOf sp.val<=64
 sg:lenOf sg.val<=5000
def t33:∃o,TB.Ev 33 (wk W D A B C a rl tp ps sp sg) o/\∃b,o=.ret [.b b]/\(b=true->Ma a rl tp ps sp sg):=by
 refine dw rfl rfl (.inl rfl) ?_;by_cases h:lenOf rl.val<=100/\lenOf tp.val<=64/\lenOf ps.val<=64/\lenOf sp.val<=64/\lenOf sg.val<=5000
 ·have Z:Ma a rl tp ps sp sg:=⟨h.1,h.2.1,h.2.2.1,h.2.2.2.1,h.2.2.2.2⟩;simp[Sc,wk,Z];intros
  repeat' split
  all_goals(intros;omega)
 ·have Z:¬Ma a rl tp ps sp sg:=λf=>h ⟨f.rl,f.tp,f.ps,f.sp,f.sg⟩
  simp[Sc,wk,Z];intros
  repeat' split
  all_goals(intros;omega)
def f33:TB.Ev 33 (wk W D A B C a rl tp ps sp sg) (.ret [.b (ob 33 (wk W D A B C a rl tp ps sp sg) 0)])/\(ob 33 (wk W D A B C a rl tp ps sp sg) 0=true->Ma a rl tp ps sp sg):=mkb (t33 W D A B C a rl tp ps sp sg)
def cr(e:TypeId)(v:RV)(i:Nat):RV:=cd (.sl e) (cellAt v.rows i 0)
structure ard(a:Int)(rl tp ps sp sg wg bd st re:RV):Prop where
 few:Ma a rl tp ps sp sg
 wg:lenOf wg.val<=20
 bd:lenOf bd.val<=100
 st:lenOf st.val<=100
 rel:lenOf re.val<=100
 eP:∀i:Nat,i<lenOf re.val->lenOf (cr 96 re i).val<=100
def are(Z:RV)(I:lenOf Z.val<=100)(H:0<=lenOf Z.val){L:List PC}{O:aa}
  (V:P.map (SV.xv O)=[.i 0])
  (M:∀(i:Nat),i<=lenOf Z.val->(∀k<i,lenOf (cr 96 Z k).val<=100)->N.wp TB.Ev R (O.ext [.i i]) (⟨U,vy (lenOf Z.val).toNat (λi X=>X=[]/\∀k<i,lenOf (cr 96 Z k).val<=100),tV (lenOf Z.val).toNat,(lenOf Z.val).toNat-i⟩::L)):
  T.wp TB.Ev R (.loop U Q P N) O L:=by
 refine bM (lenOf Z.val).toNat (λi X=>X=[]/\∀k<i,lenOf (cr 96 Z k).val<=100) (by rw[V];exact⟨0,rfl,by omega,rfl,by omega⟩) ?_;rintro i _ G ⟨rfl,J⟩;exact M i (by omega) J
def t12(V U Q Z:RV)(J:0<=lenOf Z.val):∃o,TB.Ev 12 (wk W D A B C a rl tp ps sp sg++[.r V,.r U,.r Q,.r Z]) o/\∃b,o=.ret [.b b]/\(b=true->ard a rl tp ps sp sg V U Q Z):=by
 refine dw rfl rfl (.inl rfl) ?_;obtain⟨P,N⟩:=f33 W D A B C a rl tp ps sp sg;simp only[wk] at P N;simp[T12,wk,aS P];intro X;have X:=N X
 repeat'(first|intro _|split)
 all_goals
  refine are Z ?_ J ?_ ?_;omega;rfl;intro i z M;simp;split;rename_i I;have H:i<(lenOf Z.val).toNat:=by omega
  rw[bG H (by omega)];refine⟨by omega,λG=>⟨rfl,λk F=> ?_⟩⟩;by_cases E:k=i;subst E;simp only[cr];exact G;exact M k (by omega);rename_i I;exact⟨X,by omega,by omega,by omega,by omega,λk F=>M k (by omega)⟩
def e65(V:rY)(h:fF rl tp ps sp sg)(ae:Int):TB.Ev 65 (wk W D A B C a rl tp ps sp sg++[.i ae]) (.ret [.i (if jR W D A B C a rl tp ps sp sg=0 then(if gC ae 0 (a-1) then 0 else 1) else jR W D A B C a rl tp ps sp sg)]):=by
 refine kR rfl rfl (.inl rfl) ?_;obtain⟨X,U⟩:=rZ W D A B C a rl tp ps sp sg V h;simp only[wk] at X;simp[T65,wk,aS X];split;rename_i Z;have:=(U Z).br;rw[show aR .sub .i64 a 1=a-1 by simp only[aR];rw[fk (by omega) (by omega)]];split<;>simp_all;rename_i Z;simp[Z]
def Is(c:Nat->Int):List XV:=[.i (c 0),.i (c 1),.i (c 2),.i (c 3),.i (c 4),.i (c 5),.i (c 6),.i (c 7)]
def t25(c:Nat->Int)(ae:Int):∃o,TB.Ev 25 (Is c++[.i ae]) o/\∃Z,o=.ret Z/\dh (kI 5) Z=true:=by
 refine dw rfl rfl (.inl rfl) ?_;simp[T25,Is]
def iX(c:Nat->Int)(ae:Int)(k:Nat):Int:=oi 25 (Is c++[.i ae]) k
def f25(c:Nat->Int)(ae:Int):TB.Ev 25 (Is c++[.i ae]) (.ret [.i (iX c ae 0),.i (iX c ae 1),.i (iX c ae 2),.i (iX c ae 3),.i (iX c ae 4)]):=j7 _ (t25 c ae)
def ajH(n:Nat)(v:List (List RV)):Prop:=v.length<=4096/\∀x∈v,(0<=aP 0 x/\aP 0 x<n)/\0<=aP 1 x/\aP 1 x<n
def t23(M:rY)(h:fF rl tp ps sp sg)(ae:Int):∃o,TB.Ev 23 (wk W D A B C a rl tp ps sp sg++[.i ae]) o/\∃v e,o=.ret [.r (aF v),.i e]/\(e≠0->v=[])/\ajH rl.rows.length v/\(e=0->jR W D A B C a rl tp ps sp sg=0/\gC ae 0 (a-1)=true):=by
 refine dw rfl rfl (.inl rfl) ?_;have N:=e65 W D A B C a rl tp ps sp sg M h ae;obtain⟨-,I⟩:=rZ W D A B C a rl tp ps sp sg M h;simp only[wk,axY,ax2] at N;obtain⟨e,Q⟩:∃e,e=(if jR W D A B C a rl tp ps sp sg=0 then(if gC ae 0 (a-1) then 0 else 1) else jR W D A B C a rl tp ps sp sg):=⟨_,rfl⟩;rw[<-Q] at N;simp[T23,wk,aS N];split
 case isFalse H=>
  exact⟨[],e,⟨rfl,rfl⟩,λ_=>rfl,⟨by simp,by simp⟩,λh=>absurd h H⟩
 rename_i G;have Z:jR W D A B C a rl tp ps sp sg=0/\gC ae 0 (a-1)=true:=by
  subst G;by_cases Z:jR W D A B C a rl tp ps sp sg=0;rw[if_pos Z] at Q;refine⟨Z, ?_⟩;cases F:gC ae 0 (a-1);simp[F] at Q;rfl;rw[if_neg Z] at Q;exact absurd Q.symm Z
 have E:=I Z.1;have y:=E.nr;refine bM sg.rows.length (λi P=>∃v,P=[.r v]) ⟨0,rfl,by omega,_,rfl⟩ ?_;rintro i _ X ⟨m,rfl⟩;simp[h.sg.len];split;rename_i X;simp[bG X h.sg.sm,X];refine bM rl.rows.length (λi P=>∃v,P=[.r (aF v)]/\v.length<=i*64/\∀x∈v,(0<=aP 0 x/\aP 0 x<rl.rows.length)/\0<=aP 1 x/\aP 1 x<rl.rows.length) ⟨0,rfl,by omega,[],rfl,by simp,by simp⟩ ?_;rintro i _ X ⟨v,rfl,z,V⟩;simp[h.rl.len];split;rename_i X;refine bM rl.rows.length (λj P=>∃v,P=[.r (aF v)]/\v.length<=i*64+j/\∀x∈v,(0<=aP 0 x/\aP 0 x<rl.rows.length)/\0<=aP 1 x/\aP 1 x<rl.rows.length) ⟨0,rfl,by omega,v,rfl,by omega,V⟩ ?_;rintro j _ J ⟨v,rfl,z,V⟩;simp[h.rl.len];split
 ·rename_i J;simp[bG J h.rl.sm]
  repeat' split
  all_goals first
   |exact⟨v,rfl,by omega,V⟩
   |(refine⟨by omega,_,rfl,by simp;omega,λx U=> ?_⟩
     rcases axS.1 U with U|U;exact V x U;simp at U;subst U;simp[aP,bg];omega)
 simp[bG X h.rl.sm];exact⟨v,rfl,by omega,V⟩;exact⟨v,0,⟨rfl,rfl⟩,by simp,⟨by omega,V⟩,λ_=>by simpa using Z⟩
end
end
section
section
variable{R:aT->Prop}{m:List LK}{t:T}{O:aa}{L:List PC}
variable(W D A B C g:Int)(a b c d f:RV)
def arj(N:rY)(h:fF a b c d f)(aN ae:Int)(r:RV)(V:Sl r)(M:0<(cm W D A B C g a b c d f aN ae).length):∃o,TB.Ev 85 (wk W D A B C g a b c d f++[.i aN,.i ae,.r r]) o/\∃e,o=.ret [.i e]/\(e=0->jo W D A B C g a b c d f aN ae=0/\∃v,tW (cm W D A B C g a b c d f aN ae) r (cm W D A B C g a b c d f aN ae).length v):=by
 refine dw rfl rfl (.inl rfl) ?_;have J:=Ey W D A B C g a b c d f N h aN ae;have I:=(rZ W D A B C g a b c d f N h).2;have y:=L9 W D A B C g a b c d f (aN:=aN) (ae:=ae) I;have F:=Sy W D A B C g a b c d f (aN:=aN) (ae:=ae) I;simp only[wk,axY,ax2] at J;generalize cm W D A B C g a b c d f aN ae=l at*;generalize jo W D A B C g a b c d f aN ae=e at*;simp[Sj,wk,aS J,V.len];split
 case isFalse X=>simp[X]
 rename_i X;intro E;rw[L8];refine⟨.inl rfl,λ_=> ?_,λh=> ?_,λ_ h=> ?_⟩;simp;refine⟨by omega, ?_⟩;rw[nM];refine⟨_,ajA (by simp;omega) (by simpa using F), ?_⟩;simp;have x:(aU (aI.lex [0] false).lt l).length=l.length:=jC;refine bM l.length (λi U=>∃v,U=[.r (aF v)]/\tW l r i v) ⟨0,rfl,by omega,[],rfl,rfl,by omega⟩ ?_;rintro i _ Q ⟨v,rfl,P⟩;simp;split;rename_i Q;refine⟨Q, ?_⟩;refine bM l.length (λj U=>U=[.r (aF v)]) ⟨0,rfl,by omega,rfl⟩ ?_;rintro j _ Z rfl;simp[V.len];intro Z;have w:=P.1;simp[bG Z (show l.length<=140737488355328 by omega)];refine⟨Z,λX=>⟨by omega, ?_⟩⟩;obtain⟨H,G⟩:=ajC (aZ l i) (ci r j 0) (ci r j 1) (ci r j 2) (cb r j 3);simp only[fu,aZ,ci,cb,axY,ax2] at H G;rw[aS H];simp[bG Z (show l.length<=140737488355328 by omega),bG Q (show l.length<=140737488355328 by omega),<-E,V.len];intro z;refine⟨Z,by omega, ?_⟩;have:=P.add (k:=j) (by omega) (G z);exact⟨_,rfl,this⟩;have:i=l.length:=by omega
 subst this;exact⟨X,v,P⟩;simp at h;simp[h] at M;simp at h;simp[h] at M
def ark(P:rY)(h:fF a b c d f)(aN ae:Int)(r:RV)(N:Sl r)(M:cm W D A B C g a b c d f aN ae=[]):TB.Ev 85 (wk W D A B C g a b c d f++[.i aN,.i ae,.r r]) (.ret [.i (if jo W D A B C g a b c d f aN ae≠0 then jo W D A B C g a b c d f aN ae else if r.rows.length=0 then 0 else 270)]):=by
 refine kR rfl rfl (.inl rfl) ?_;have X:=Ey W D A B C g a b c d f P h aN ae;rw[M] at X;simp only[wk,axY,ax2] at X;generalize jo W D A B C g a b c d f aN ae=e at*;simp[Sj,wk,aS X,N.len];split
 case isFalse Z=>simp[Z]
 rename_i Z;split
 case isFalse h=>
  simp;intro e;simp[e] at h
 rename_i h;have V:r.rows=[]:=ayl.1 (by omega);have Q:dB (aI.lex [0] false) false []=some []:=rfl;simp only[L8,nM];refine⟨.inl rfl,λ_=> ?_,λ_=> ?_,λ_ _=>single (by rw[V];rfl)⟩
 ·try simp
  try simp only[nM]
  refine⟨_,by simpa using Q, ?_⟩;refine bM 0 (λi U=>U=[.r (aF [])]) ⟨0,rfl,by omega,rfl⟩ ?_;rintro i _ J rfl;have:i=0:=by omega
  simp[V,Z,this]
 ·try simp
  try simp only[nM]
  refine⟨_,by simpa using Q, ?_⟩;refine bM 0 (λi U=>U=[.r (aF [])]) ⟨0,rfl,by omega,rfl⟩ ?_;rintro i _ J rfl;have:i=0:=by omega
  simp[V,Z,this]
def t85(X:rY)(h:fF a b c d f)(aN ae:Int)(r:RV)(V:Sl r):∃o,TB.Ev 85 (wk W D A B C g a b c d f++[.i aN,.i ae,.r r]) o/\∃e,o=.ret [.i e]/\(e=0->jo W D A B C g a b c d f aN ae=0/\∃v,tW (cm W D A B C g a b c d f aN ae) r (cm W D A B C g a b c d f aN ae).length v):=by
 by_cases Z:cm W D A B C g a b c d f aN ae=[];refine⟨_,ark W D A B C g a b c d f X h aN ae r V Z,_,rfl,λU=> ?_⟩;split at U;rename_i Q;exact absurd U Q;rename_i Q;exact⟨by omega,[],by rw[Z];exact⟨rfl,by simp⟩⟩;exact arj W D A B C g a b c d f X h aN ae r V (List.length_pos_iff.2 Z)
end
end
end
end Go.Proofs.YtieaiocljdpebaaGreatDoor.Y
