/- Part 6 of the proof; the last part says what is shown. -/
import Derived.Test.YtieaiocljdpebaaGreatDoorQ5
import Derived.IntWalk
set_option linter.all false
open Bool renaming and_eq_true->ayz,false_eq_true->ayV,or_eq_true->ay2,true_or->aB6
open List renaming getElem?_append_left->ayD,getElem?_append_right->ayG,mem_append->ayL,all_eq_true->ayM,length_append->ayN,cons_append->ayP,nil_append->ayU,pairwise_cons->ayY,pairwise_append->ay6,append_assoc->azt,length_eq_zero_iff->azw,foldl_cons->az0,length_singleton->aAg
open Nat renaming le_refl->ayH,eq_zero_or_pos->azO,mod_lt->aAY,gcd_comm->aCf,gcd->aCh
open List.Pairwise renaming nil->azu
open Int renaming natAbs_tmod->aBe,fdiv_eq_ediv_of_nonneg->aBq
open List.Perm renaming refl->aBY,swap->aCl
namespace Go.Proofs.YtieaiocljdpebaaGreatDoor.Y
open Go.RowKit
noncomputable section
variable{V:FuncId}{Z:List XV}{U:Nat}{Q:List LK}{P:List SV}{N:T}
section
attribute[simp] IE.den BE.den RE.rv RE.den ey aa.rv dB aa.ext aa.add lu qO JZ SV.xv iH C7 dj F2 are arf arh ari arj ark arl arm arn
def out(f:FuncId)(Z:List XV):List XV:=by classical exact if h:∃X,TB.Ev f Z (.ret X) then h.choose else[]
def xi(Z:List XV)(k:Nat):Int:=match Z.getD k (.i 0) with
 |.i n=>n
 |_=>0
def xb(Z:List XV)(k:Nat):Bool:=match Z.getD k (.i 0) with
 |.b x=>x
 |_=>false
def xr(Z:List XV)(k:Nat):RV:=match Z.getD k (.i 0) with
 |.r x=>x
 |_=>default
def oi(f:FuncId)(Z:List XV)(k:Nat):Int:=xi (out f Z) k
def ob(f:FuncId)(Z:List XV)(k:Nat):Bool:=xb (out f Z) k
def or(f:FuncId)(Z:List XV)(k:Nat):RV:=xr (out f Z) k
def tH{X:List XV}(h:TB.Ev V Z (.ret X)):out V Z=X:=by
 have W:∃X,TB.Ev V Z (.ret X):=⟨X,h⟩;have:out V Z=W.choose:=by unfold out;rw[dif_pos W]
 rw[this];have:=Ox W.choose_spec h;injection this
def arq{P:List XV->Prop}(h:∃o,TB.Ev V Z o/\∃X,o=.ret X/\P X):TB.Ev V Z (.ret (out V Z))/\P (out V Z):=by
 obtain⟨o,W,X,rfl,U⟩:=h;rw[tH W];exact⟨W,U⟩
def tI(Z:List XV):List LK->Nat->List XV
 |[],_=>[]
 |.int _::e,n=>.i (xi Z n)::tI Z e (n+1)
 |.bool::e,n=>.b (xb Z n)::tI Z e (n+1)
 |.ref _::e,n=>.r (xr Z n)::tI Z e (n+1)
def aj9(X:List XV):∀(e:List LK)(Z:List XV),dj e Z=true->tI (X++Z) e X.length=Z
 |[],[],_=>rfl
 |[],_::_,h=>by simp at h
 |k::e,[],h=>by cases k<;>simp at h
 |k::e,y::Z,h=>by
  have W:=aj9 (X++[y]) e Z;simp only[dj,ayz] at h;have W:=W h.2;simp only[azt,List.singleton_append,ayN,aAg] at W;have V:(X++y::Z).getD X.length (.i 0)=y:=by simp[List.getD]
  cases k<;>cases y<;>simp at h<;>simp only[tI,W,xi,xb,xr,V]
def shp(e:List LK){P:List XV->Prop}(h:∃o,TB.Ev V Z o/\∃X,o=.ret X/\dj e X=true/\P X):TB.Ev V Z (.ret (tI (out V Z) e 0))/\P (out V Z):=by
 obtain⟨W,U,Q⟩:=arq h;rw[show tI (out V Z) e 0=out V Z from aj9 [] e _ U];exact⟨W,Q⟩
def hJ(n Z X:Int):Bool:=decide (Z<=n)&&decide (n<=X)
@[simp] def axL (n Z X:Int):hJ n Z X=true<->Z<=n/\n<=X:=by simp[hJ]
def xj(a b:Int):Int:=if a<b then-1 else if b<a then 1 else 0
def Sz(a b c d:Int):Int:=if iG a b&&iG c d then xj (IntKind.i64.wrap (a*d)) (IntKind.i64.wrap (c*b)) else 0
def zv:FuncId->Option Fn
 |142=>some ⟨Sc,false,false⟩
 |210=>some ⟨Sd,false,false⟩
 |276=>some ⟨Se,false,false⟩
 |275=>some ⟨Sg,false,false⟩
 |110=>some ⟨Si,false,false⟩
 |192=>some ⟨Sj,false,false⟩
 |_=>none
section
variable{g:gT}(H:∀f fn,zv f=some fn->Ga g f fn)
include H
def art(a b:Nat):g.Ev 275 [.i a,.i b] (.ret [.i (aCh a b)]):=by
 refine C8 (H _ _ rfl) (.inl rfl) ?_;simp[Sg];split;rename_i X;simp[X];rename_i X;refine H6 (λZ=>∃d x y:Nat,Z=[.i d,.i x,.i y]/\y≠0/\aCh x y=aCh a b/\(x=0->d=aCh a b)) (λZ=>(xi Z 2).toNat) ⟨b,a,b,by simp,X,rfl,λW=>by subst W;simp⟩ ?_;rintro Z ⟨d,x,y,rfl,U,V,W⟩;have Q:max (y:Int) 1=y:=by omega
 have P:aP .rem .u64 (x:Int) (y:Int)=((x%y:Nat):Int):=by
  simp only[aP];rw[Int.tmod_eq_emod_of_nonneg (by omega)];exact(Int.natCast_emod x y).symm
 simp[xi,Q,P,LG];split;rename_i N;simp[W N];refine⟨by omega, ?_⟩;split;rename_i J;rw[<-V,aCf,Nat.gcd_rec,show x%y=0 by omega];simp;refine⟨⟨x,y,x%y,⟨rfl,rfl,by omega⟩,by omega, ?_,λM=>absurd M U⟩, ?_⟩;rw[<-V,aCf x y,Nat.gcd_rec y x,aCf];have:=aAY x (show 0<y by omega);omega
def aru(n:Int)(X:-1073741824<=n)(W:n<=1073741824):g.Ev 276 [.i n] (.ret [.i n.natAbs]):=by
 refine C8 (H _ _ rfl) (.inl rfl) ?_;simp[Se,aP];have Z:∀x:Int,IntKind.u64.wrap x=x%18446744073709551616:=λx=>rfl
 rw[Z,Z];split<;>omega
def aka(n:Int):g.Ev 192 [.i n] (.ret [.b false]):=by
 refine C8 (H _ _ rfl) (.inl rfl) ?_;simp[Sj]
def aa0(a b:Int):g.Ev 110 [.i a,.i b] (.ret [.i (xj a b)]):=by
 refine C8 (H _ _ rfl) (.inl rfl) ?_;simp[Si,xj,bC (aka H _)]
 grind
def akb(n d:Int):g.Ev 210 [.i n,.i d] (.ret [.i (if iG n d then 0 else 120)]):=by
 refine C8 (H _ _ rfl) (.inl rfl) ?_;simp[Sd]
 repeat' split
 any_goals(simp[iG];omega)
 all_goals
  rw[bC (aru H n (by omega) (by omega))];have Z:IntKind.u64.wrap d=(d.toNat:Int):=by
   have:IntKind.u64.wrap d=d%18446744073709551616:=rfl;omega
  have X:max d 0=(d.toNat:Int):=by omega
  simp[Z];rw[X,bC (art H n.natAbs d.toNat)];simp[iG] at*;omega
def akc(a b c d:Int):g.Ev 142 [.i a,.i b,.i c,.i d] (.ret [.i (Sz a b c d),.i (if iG a b&&iG c d then 0 else 120)]):=by
 refine C8 (H _ _ rfl) (.inl rfl) ?_;simp[Sc,Sz,aP,bC (akb H _ _),bC (aa0 H _ _)]
 grind
end
def SA(f:FuncId)(fn:Fn)(h:zv f=some fn):Ga TB f fn:=by
 unfold zv at h;split at h<;>cases h<;>exact has rfl (by decide) (by decide)
section
variable{R:aQ->Prop}{e:List LK}{t:T}{O:aa}{L:List PC}
def e82(n Z X:Int):TB.Ev 82 [.i n,.i Z,.i X] (.ret [.b (hJ n Z X)]):=by
 refine gG rfl rfl (.inl rfl) ?_;simp[T82,hJ]
 grind
@[simp] def c82 (n Z X:Int):eQ TB.Ev R 82 [.i n,.i Z,.i X] e t O L=eR TB.Ev R (.ret [.b (hJ n Z X)]) e t O L:=bC (e82 n Z X)
def arw(n Z X:Int):TB.Ev 134 [.i n,.i Z,.i X] (.ret [.b (hJ n Z X)]):=by
 refine gG rfl rfl (.inl rfl) ?_;simp[aau,hJ]
 grind
@[simp] def axN (n Z X:Int):eQ TB.Ev R 134 [.i n,.i Z,.i X] e t O L=eR TB.Ev R (.ret [.b (hJ n Z X)]) e t O L:=bC (arw n Z X)
def arx(n Z X:Int):TB.Ev 219 [.i n,.i Z,.i X] (.ret [.b (hJ n Z X)]):=by
 refine gG rfl rfl (.inl rfl) ?_;simp[aaG,hJ]
 grind
@[simp] def axO (n Z X:Int):eQ TB.Ev R 219 [.i n,.i Z,.i X] e t O L=eR TB.Ev R (.ret [.b (hJ n Z X)]) e t O L:=bC (arx n Z X)
def e70(n Z X:Int):TB.Ev 70 [.i n,.i Z,.i X] (.ret [.b (hJ n Z X)]):=by
 refine gG rfl rfl (.inl rfl) ?_;simp[T70,hJ]
 grind
@[simp] def c70 (n Z X:Int):eQ TB.Ev R 70 [.i n,.i Z,.i X] e t O L=eR TB.Ev R (.ret [.b (hJ n Z X)]) e t O L:=bC (e70 n Z X)
def arz(n Z X:Int):TB.Ev 284 [.i n,.i Z,.i X] (.ret [.b (hJ n Z X)]):=by
 refine gG rfl rfl (.inl rfl) ?_;simp[aaQ,hJ]
 grind
@[simp] def axQ (n Z X:Int):eQ TB.Ev R 284 [.i n,.i Z,.i X] e t O L=eR TB.Ev R (.ret [.b (hJ n Z X)]) e t O L:=bC (arz n Z X)
def zw(n:Int)(u:Bool)(Z X:Int):Bool:=if u then hJ n Z X else n==0
def arA(n Z X:Int)(u:Bool):TB.Ev 154 [.i n,.b u,.i Z,.i X] (.ret [.b (zw n u Z X)]):=by
 refine gG rfl rfl (.inl rfl) ?_;simp[aaF,zw]
 grind
@[simp] def axR (n Z X:Int) (u:Bool):eQ TB.Ev R 154 [.i n,.b u,.i Z,.i X] e t O L=eR TB.Ev R (.ret [.b (zw n u Z X)]) e t O L:=bC (arA n Z X u)
@[simp] def axS (n:Int):eQ TB.Ev R 192 [.i n] e t O L=eR TB.Ev R (.ret [.b false]) e t O L:=bC (aka SA n)
@[simp] def axT (a b:Int):eQ TB.Ev R 110 [.i a,.i b] e t O L=eR TB.Ev R (.ret [.i (xj a b)]) e t O L:=bC (aa0 SA a b)
@[simp] def axU (n d:Int):eQ TB.Ev R 210 [.i n,.i d] e t O L=eR TB.Ev R (.ret [.i (if iG n d then 0 else 120)]) e t O L:=bC (akb SA n d)
@[simp] def axV (a b c d:Int):eQ TB.Ev R 142 [.i a,.i b,.i c,.i d] e t O L=eR TB.Ev R (.ret [.i (Sz a b c d),.i (if iG a b&&iG c d then 0 else 120)]) e t O L:=bC (akc SA a b c d)
def e66(a b c d:Int):TB.Ev 66 [.i a,.i b,.i c,.i d] (.ret [.b (bE a b c d)]):=by
 refine gG rfl rfl (.inl rfl) ?_;simp[T66,bE]
 grind
@[simp] def c66 (a b c d:Int):eQ TB.Ev R 66 [.i a,.i b,.i c,.i d] e t O L=eR TB.Ev R (.ret [.b (bE a b c d)]) e t O L:=bC (e66 a b c d)
def jn(Z:Bool)(x:Int):Int:=if Z then x else 0
def e72(a b c d Z X W V:Int):TB.Ev 72 [.i a,.i b,.i c,.i d,.i Z,.i X,.i W,.i V] (.ret [.i (jn (bE a b c d&&bE Z X W V) (min a Z)),.i (jn (bE a b c d&&bE Z X W V) (max b X)),.i (jn (bE a b c d&&bE Z X W V) (min c W)),.i (jn (bE a b c d&&bE Z X W V) (max d V)),.i (if bE a b c d&&bE Z X W V then 0 else 150)]):=by
 refine gG rfl rfl (.inl rfl) ?_;simp[T72,jn]
 grind
@[simp] def c72 (a b c d Z X W V:Int):eQ TB.Ev R 72 [.i a,.i b,.i c,.i d,.i Z,.i X,.i W,.i V] e t O L=eR TB.Ev R (.ret [.i (jn (bE a b c d&&bE Z X W V) (min a Z)),.i (jn (bE a b c d&&bE Z X W V) (max b X)),.i (jn (bE a b c d&&bE Z X W V) (min c W)),.i (jn (bE a b c d&&bE Z X W V) (max d V)),.i (if bE a b c d&&bE Z X W V then 0 else 150)]) e t O L:=bC (e72 a b c d Z X W V)
def e69(a b c d:Int):TB.Ev 69 [.i a,.i b,.i c,.i d] (.ret [.b (bE a b c d)]):=by
 refine gG rfl rfl (.inl rfl) ?_;simp[T69]
 grind
@[simp] def c69 (a b c d:Int):eQ TB.Ev R 69 [.i a,.i b,.i c,.i d] e t O L=eR TB.Ev R (.ret [.b (bE a b c d)]) e t O L:=bC (e69 a b c d)
def LH(a b c d Z X W V:Int):Bool:=decide (Z<=a)&&decide (b<=X)&&decide (W<=c)&&decide (d<=V)
def e24(a b c d Z X W V:Int):TB.Ev 24 [.i a,.i b,.i c,.i d,.i Z,.i X,.i W,.i V] (.ret [.b (bE a b c d&&bE Z X W V&&LH a b c d Z X W V),.i (if bE a b c d&&bE Z X W V then 0 else 150)]):=by
 refine gG rfl rfl (.inl rfl) ?_;simp[T24,LH]
 grind
@[simp] def c24 (a b c d Z X W V:Int):eQ TB.Ev R 24 [.i a,.i b,.i c,.i d,.i Z,.i X,.i W,.i V] e t O L=eR TB.Ev R (.ret [.b (bE a b c d&&bE Z X W V&&LH a b c d Z X W V),.i (if bE a b c d&&bE Z X W V then 0 else 150)]) e t O L:=bC (e24 a b c d Z X W V)
def e26(a b c d Z X W V:Int):TB.Ev 26 [.i a,.i b,.i c,.i d,.i Z,.i X,.i W,.i V] (.ret [.b (bE a b c d&&bE Z X W V&&u9 a b c d Z X W V),.i (if bE a b c d&&bE Z X W V then 0 else 150)]):=by
 refine WO ?_;simp only[TB,tG,LD,if_true];cases U:bE a b c d&&bE Z X W V<;>simp
@[simp] def c26 (a b c d Z X W V:Int):eQ TB.Ev R 26 [.i a,.i b,.i c,.i d,.i Z,.i X,.i W,.i V] e t O L=eR TB.Ev R (.ret [.b (bE a b c d&&bE Z X W V&&u9 a b c d Z X W V),.i (if bE a b c d&&bE Z X W V then 0 else 150)]) e t O L:=bC (e26 a b c d Z X W V)
def arG(a b c d Z X W V:Int):TB.Ev 181 [.i a,.i b,.i c,.i d,.i Z,.i X,.i W,.i V] (.ret [.b (!(bE a b c d&&bE Z X W V&&u9 a b c d Z X W V))]):=by
 refine gG rfl rfl (.inl rfl) ?_;simp[aaM]
@[simp] def ax1 (a b c d Z X W V:Int):eQ TB.Ev R 181 [.i a,.i b,.i c,.i d,.i Z,.i X,.i W,.i V] e t O L=eR TB.Ev R (.ret [.b (!(bE a b c d&&bE Z X W V&&u9 a b c d Z X W V))]) e t O L:=bC (arG a b c d Z X W V)
def mW(a b c d x y:Int):Int:=if !bE a b c d then 150 else if !(decide (-2199023255552<=x)&&decide (x<=2199023255552)&&decide (-2199023255552<=y)&&decide (y<=2199023255552)) then 2 else if bE (IntKind.i64.wrap (a+x)) (IntKind.i64.wrap (b+x)) (IntKind.i64.wrap (c+y)) (IntKind.i64.wrap (d+y)) then 0 else 2
def arH(a b c d x y:Int):TB.Ev 133 [.i a,.i b,.i c,.i d,.i x,.i y] (.ret [.i (jn (mW a b c d x y==0) (IntKind.i64.wrap (a+x))),.i (jn (mW a b c d x y==0) (IntKind.i64.wrap (b+x))),.i (jn (mW a b c d x y==0) (IntKind.i64.wrap (c+y))),.i (jn (mW a b c d x y==0) (IntKind.i64.wrap (d+y))),.i (mW a b c d x y)]):=by
 refine gG rfl rfl (.inl rfl) ?_;simp[aaB,jn,aP]
 repeat' split
 all_goals(simp_all[mW])
 all_goals grind
@[simp] def ax2 (a b c d x y:Int):eQ TB.Ev R 133 [.i a,.i b,.i c,.i d,.i x,.i y] e t O L=eR TB.Ev R (.ret [.i (jn (mW a b c d x y==0) (IntKind.i64.wrap (a+x))),.i (jn (mW a b c d x y==0) (IntKind.i64.wrap (b+x))),.i (jn (mW a b c d x y==0) (IntKind.i64.wrap (c+y))),.i (jn (mW a b c d x y==0) (IntKind.i64.wrap (d+y))),.i (mW a b c d x y)]) e t O L:=bC (arH a b c d x y)
end
structure Sl(v:RV):Prop where
 sl:∃a n c,v.val=.slice a n c
 len:lenOf v.val=v.rows.length
 sm:v.rows.length<=140737488355328
def ci(v:RV)(i j:Nat):Int:=bc (cellAt v.rows i j).val
def cb(v:RV)(i j:Nat):Bool:=gv (cellAt v.rows i j).val
def BN(n:Nat)(J:Nat->List XV->Prop):List XV->Prop
 |.i j::Z=>∃i:Nat,j=i/\i<=n/\J i Z
 |_=>False
def zx(n:Nat):List XV->Nat
 |.i j::_=>n-j.toNat
 |_=>0
section
variable{l:FuncId->List XV->aQ->Prop}{R:aQ->Prop}{O:aa}{L:List PC}
def di(n:Nat)(J:Nat->List XV->Prop)(W:BN n J (P.map (SV.xv O)))(h:∀(i:Nat) Z,i<=n->J i Z->N.wp l R (O.ext (.i i::Z)) (⟨U,BN n J,zx n,n-i⟩::L)):T.wp l R (.loop U Q P N) O L:=by
 refine H6 (BN n J) (zx n) W λV X=> ?_
 match V,X with
 |.i j::Z,X=>
  obtain⟨i,rfl,M,I⟩:=X;have:=h i Z M I;simpa[zx] using this
def ef{n:Int}(Z:-9223372036854775808<=n)(X:n<9223372036854775808):IntKind.i64.wrap n=n:=by
 rw[IntKind.wrap_i64];omega
def akd{i:Nat}(h:i<=140737488355328):aP .add .i64 (i:Int) 1=((i+1:Nat):Int):=by
 simp only[aP];rw[ef (by omega) (by omega)];omega
def dh{n:Nat}{J:Nat->List XV->Prop}{i:Nat}(X:i<n)(W:n<=140737488355328):Sy (some ⟨U,BN n J,zx n,n-i⟩) (.i (aP .add .i64 (i:Int) 1)::Z)=J (i+1) Z:=by
 rw[akd (by omega)];refine propext ⟨λh=> ?_,λh=>⟨⟨i+1,rfl,by omega,h⟩, ?_⟩⟩;obtain⟨⟨k,V,_,h⟩,_⟩:=h;have:k=i+1:=by omega
 exact this▸h;simp only[zx];omega
end
end
inductive KX where
 |i
 |b
 |r
 deriving DecidableEq
def LK.kx:LK->KX
 |.int _=>.i
 |.bool=>.b
 |.ref _=>.r
def XV.kx:XV->KX
 |.i _=>.i
 |.b _=>.b
 |.r _=>.r
def SV.kx:SV->KX
 |.bool _=>.b
 |.ref _=>.r
 |_=>.i
abbrev Tot:=FuncId->Option (List KX×List KX)
def Tot.ok(mX:Tot):Prop:=∀f p r,mX f=some (p,r)->∀Z,Z.map XV.kx=p->∃X,TB.Ev f Z (.ret X)/\X.map XV.kx=r
def isTrue:BE->Bool
 |.c b=>b
 |_=>false
def T.mX(mX:Tot)(r:List KX):T->Bool
 |.ret v _ _=>decide ((qO v).map SV.kx=r)
 |.node _ t f=>t.mX mX r&&f.mX mX r
 |.aF b t=>isTrue b&&t.mX mX r
 |.call f Z _ _ X _ t=>decide (mX f=some ((lu Z).map SV.kx,X.map LK.kx))&&t.mX mX r
 |.new _ _ _ _ t=>t.mX mX r
 |.rows _ _ _ t=>t.mX mX r
 |_=>false
section
def xk{P:Int->Prop}(h:∃o,TB.Ev V Z o/\∃e,o=.ret [.i e]/\P e):TB.Ev V Z (.ret [.i (oi V Z 0)])/\P (oi V Z 0):=by
 obtain⟨o,X,e,rfl,W⟩:=h;have:oi V Z 0=e:=by simp only[oi,tH X];rfl
 rw[this];exact⟨X,W⟩
def mkb{P:Bool->Prop}(h:∃o,TB.Ev V Z o/\∃e,o=.ret [.b e]/\P e):TB.Ev V Z (.ret [.b (ob V Z 0)])/\P (ob V Z 0):=by
 obtain⟨o,X,e,rfl,W⟩:=h;have:ob V Z 0=e:=by simp only[ob,tH X];rfl
 rw[this];exact⟨X,W⟩
structure BO(roles bars:Int)(c:Nat->Int):Prop where
 kind:1<=c 4/\c 4<=9
 be:0<=c 1/\c 1<roles
 ai:0<=c 2/\c 2<bars
 mark:1<=c 3/\c 3<=3
 side:if c 4=1\/c 4=3\/c 4=4\/c 4=9 then 1<=c 5/\c 5<=2 else c 5=0
 dir:if c 4=1\/c 4=2 then 1<=c 6/\c 6<=8 else if c 4=3\/c 4=4\/c 4=5 then 0<=c 6/\c 6<=8 else c 6=0
 ax3:if c 4=3\/c 4=4\/c 4=5\/c 4=9 then 1<=c 7/\c 7<=3 else c 7=0
 size:if c 4=1\/c 4=2 then 1<=c 8/\c 8<=16 else if c 4=6 then 1<=c 8/\c 8<=7 else c 8=0
 wth:if c 4=7\/c 4=8 then 1<=c 9/\c 9<=roles else c 9=0
 from_:iG (c 10) (c 11)=true
 to:iG (c 12) (c 13)=true
section
variable{R:aQ->Prop}{g:List LK}{t:T}{O:aa}{L:List PC}
def ja(c:Nat->Int):List XV:=[.i (c 0),.i (c 1),.i (c 2),.i (c 3),.i (c 4),.i (c 5),.i (c 6),.i (c 7),.i (c 8),.i (c 9),.i (c 10),.i (c 11),.i (c 12),.i (c 13)]
def kT(k:Int)(j:Nat):RV:=cellAt (oE[0]?.getD default).rows k j
def arI{c:Nat->Int}{Z X:Int}(N:1<=c 4/\c 4<=9)(M:0<=c 1/\c 1<=Z-1)(J:0<=c 2/\c 2<=X-1)(I:1<=c 3/\c 3<=3)(W:zw (c 5) (gv (kT (c 4) 0).val) 1 2=true)(V:zw (c 6) (gv (kT (c 4) 1).val) (bc (kT (c 4) 3).val) 8=true)(U:zw (c 7) (decide (0<bc (kT (c 4) 4).val)) 1 (bc (kT (c 4) 4).val)=true)(Q:zw (c 8) (decide (0<bc (kT (c 4) 5).val)) 1 (bc (kT (c 4) 5).val)=true)(P:zw (c 9) (gv (kT (c 4) 2).val) 1 Z=true)
  (H:iG (c 10) (c 11)=true)(G:iG (c 12) (c 13)=true):BO Z X c:=by
 have:c 4=1\/c 4=2\/c 4=3\/c 4=4\/c 4=5\/c 4=6\/c 4=7\/c 4=8\/c 4=9:=by omega
 rcases this with h|h|h|h|h|h|h|h|h
 all_goals
  simp[h,kT,oE,ux,bV,iV,cellAt,zw,gv,bc] at W V U Q P;constructor<;>(first|omega|assumption|(simp[h];done)|(simp[h];omega))
set_option maxHeartbeats 2000000 in
def t84 (c:Nat->Int) (Z X:Int) (Q:-1000<=Z/\Z<=1000000) (P:-1000<=X/\X<=1000000):∃o,TB.Ev 84 (ja c++[.i Z,.i X]) o/\∃b,o=.ret [.b b]/\(b=true->BO Z X c):=by
 refine eS rfl rfl (.inl rfl) ?_;have W:aP .sub .i64 Z 1=Z-1:=by simp only[aP];rw[ef (by omega) (by omega)]
 have V:aP .sub .i64 X 1=X-1:=by simp only[aP];rw[ef (by omega) (by omega)]
 have U:lenOf (oE[0]?.getD default).val=10:=rfl;simp[T84,ja,W,V,U]
 repeat' split
 all_goals(try simp)
 all_goals(intros;refine⟨by omega, ?_⟩;intros;apply arI<;>(first|assumption|omega|grind))
def f84(c:Nat->Int)(Z X:Int)(W:-1000<=Z/\Z<=1000000)(V:-1000<=X/\X<=1000000):TB.Ev 84 (ja c++[.i Z,.i X]) (.ret [.b (ob 84 (ja c++[.i Z,.i X]) 0)])/\(ob 84 (ja c++[.i Z,.i X]) 0=true->BO Z X c):=mkb (t84 c Z X W V)
def aa3{a b:Int}(h:b≠0):(a.tmod b).natAbs<b.natAbs:=by
 rw[aBe];exact aAY _ (by omega)
def arL(a b c:Int)(Q:1<=c)(P:c<=32768)(N:-c<=a/\a<=c)(M:-c<=b/\b<=c):∃o,TB.Ev 153 [.i a,.i b,.i c] o/\∃x y z,o=.ret [.i x,.i y,.i z]:=by
 refine eS rfl rfl (.inl rfl) ?_;simp[aaT];refine H6 (λZ=>∃n d:Int,Z=[.i n,.i d]∧-c<=n/\n<=c∧-c<=d/\d<=c) (λZ=>(xi Z 0).natAbs) ⟨a,0,rfl,by omega,by omega,by omega,by omega⟩ ?_;rintro _ ⟨n,d,rfl,X,W,V,U⟩;simp[xi,LG,aP];split
 case isFalse h=>
  have:=aa3 (a:=d) h;refine⟨h,⟨_,_,⟨rfl,rfl⟩, ?_⟩,by rw[<-aBe];exact this⟩;omega
 refine H6 (λZ=>∃n d:Int,Z=[.i n,.i d]∧-c<=n/\n<=c∧-c<=d/\d<=c) (λZ=>(xi Z 0).natAbs) ⟨b,d,rfl,by omega,by omega,by omega,by omega⟩ ?_;rintro _ ⟨n,d,rfl,X,W,V,U⟩;simp[xi,LG,aP];split
 case isFalse h=>
  have:=aa3 (a:=d) h;refine⟨h,⟨_,_,⟨rfl,rfl⟩, ?_⟩,by rw[<-aBe];exact this⟩;omega
 refine H6 (λZ=>∃n d:Int,Z=[.i n,.i d]∧-c<=n/\n<=c∧-c<=d/\d<=c/\(n≠0\/d≠0)) (λZ=>(xi Z 0).natAbs) ⟨c,d,rfl,by omega,by omega,by omega,by omega,by omega⟩ ?_;rintro _ ⟨n,d,rfl,X,W,V,U,J⟩;simp[xi,LG,aP];split
 case isFalse h=>
  have:=aa3 (a:=d) h;refine⟨h,⟨_,_,⟨rfl,rfl⟩, ?_⟩,by rw[<-aBe];exact this⟩;omega
 have:IntKind.i64.wrap (-d)=-d:=ef (by omega) (by omega);simp[this];omega
def t83(a b c:Int):∃o,TB.Ev 83 [.i a,.i b,.i c] o/\∃e,o=.ret [.i e]/\True:=by
 refine eS rfl rfl (.inl rfl) ?_;simp[T83];intro W V Z U Q;have X:aP .sub .i64 0 c=-c:=by simp only[aP];rw[ef (by omega) (by omega)];omega
 rw[X] at Z;obtain⟨o,h,x,y,z,rfl⟩:=arL a b c (by omega) (by omega) (by omega) (by omega);rw[bC h];simp
@[simp] def c83 (a b c:Int):eQ TB.Ev R 83 [.i a,.i b,.i c] g t O L=eR TB.Ev R (.ret [.i (oi 83 [.i a,.i b,.i c] 0)]) g t O L:=bC (xk (t83 a b c)).1
structure H7(tp:RV):Prop where
 sl:Sl tp
 pos:0<tp.rows.length
 zero:ci tp 0 0=0
def arN{j:Nat}(h:j<=140737488355328)(X:U<=j):IntKind.i64.wrap (aP .shr .u64 (IntKind.u64.wrap (aP .add .i64 (U:Int) (j:Int))) 1)=(((U+j)/2:Nat):Int):=by
 simp only[aP];rw[ef (n:=(U:Int)+j) (by omega) (by omega)];rw[show IntKind.u64.wrap ((U:Int)+j)=(U:Int)+j by rw[IntKind.wrap_u64];omega];have:((U:Int)+j).fdiv (2^min (1:Int).toNat IntKind.u64.bits)=(((U+j)/2:Nat):Int):=by
  have Z:(2:Int)^min (1:Int).toNat IntKind.u64.bits=2:=rfl;rw[Z,aBq _ (by omega)];omega
 rw[this,ef (by omega) (by omega)]
def arO(U ai:Int)(Z Q P:RV)(h:H7 Z)(G:0<=ai):∃o,TB.Ev 220 [.i U,.r Z,.r Q,.r P,.i ai] o/\∃e,o=.ret [.i e]/\True:=by
 refine eS rfl rfl (.inl rfl) ?_;simp[aaH];have F:=h.pos;have E:=h.sl.sm;refine H6 (λX=>∃i j:Nat,X=[.i i,.i j]/\i<=j/\j<=Z.rows.length/\(j=Z.rows.length\/ai<ci Z j 0)) (λX=>(xi X 1-xi X 0).toNat) ⟨0,Z.rows.length,by simp[h.sl.len],by omega,by omega,.inl rfl⟩ ?_;rintro _ ⟨i,j,rfl,N,D,W⟩;simp[xi,LG,h.sl.len,arN (show j<=140737488355328 by omega) N];split;rename_i M;refine⟨by omega, ?_⟩;have J:((i:Int)+j)/2=(((i+j)/2:Nat):Int):=by omega
 have I:=akd (i:=(i+j)/2) (by omega);rw[J,I];split;refine⟨⟨(i+j)/2+1,j,⟨rfl,rfl⟩,by omega,by omega,W⟩,by omega⟩;rename_i V;refine⟨⟨i,(i+j)/2,⟨rfl,rfl⟩,by omega,by omega,.inr ?_⟩,by omega⟩;simp only[ci];omega;rename_i M;have H:i=j:=by omega
 subst H;have:1<=i:=by
  rcases azO i with rfl|V;have:=h.zero;rcases W with W|W<;>omega;exact V
 rw[show aP .sub .i64 (i:Int) 1=(i:Int)-1 by simp only[aP];rw[ef (by omega) (by omega)]];omega
def arP(X ai:Int)(Z W V:RV)(h:H7 Z)(U:0<=ai):eQ TB.Ev R 220 [.i X,.r Z,.r W,.r V,.i ai] g t O L=eR TB.Ev R (.ret [.i (oi 220 [.i X,.r Z,.r W,.r V,.i ai] 0)]) g t O L:=bC (xk (arO X ai Z W V h U)).1
end
end
variable{X:List (List RV)}
section
def aC(Z:List (List RV)):RV:=.mk (.slice none Z.length Z.length) Z
@[simp] def ax6 (x:LE) (O:aa):eK x O=aC (x.rows O):=rfl
@[simp] def H8 (r:List (List RV)):(aC r).rows=r:=rfl
@[simp] def ax7 (r:List (List RV)):lenOf (aC r).val=r.length:=rfl
@[simp] def ake:RV.mk (.slice none 0 0) []=aC []:=rfl
def iB(h:X.length<=140737488355328):Sl (aC X):=⟨⟨_,_,_,rfl⟩,rfl,h⟩
attribute[simp] LE.rows SV.bu
def H9(c:Nat->Int):List RV:=[.mk (.int .i64 (c 0)) [],.mk (.int .i64 (c 1)) [],.mk (.int .i64 (c 2)) [],.mk (.int .i64 (c 3)) [],.mk (.int .i64 (c 4)) [],.mk (.int .i64 (c 5)) [],.mk (.int .i64 (c 6)) [],.mk (.int .i64 (c 7)) [],.mk (.int .i64 (c 8)) [],.mk (.int .i64 (c 9)) [],.mk (.int .i64 (c 10)) [],.mk (.int .i64 (c 11)) [],.mk (.int .i64 (c 12)) [],.mk (.int .i64 (c 13)) []]
def akf{lt:List RV->List RV->Bool}{x:List RV}:∀{l:List (List RV)},(cQ lt x l).Perm (x::l)
 |[]=>aBY _
 |y::r=>by
  simp only[cQ];split;exact aBY _;exact((akf (l:=r)).cons y).trans (aCl x y r)
def akg{lt:List RV->List RV->Bool}:∀(l acc:List (List RV)),(l.foldl (λacc x=>cQ lt x acc) acc).Perm (acc++l)
 |[],acc=>by simp
 |x::l,acc=>by
  simp only[az0];refine(akg l _).trans ?_;refine(List.Perm.append_right l akf).trans ?_;rw[ayP];exact List.perm_middle.symm
def SB{lt:List RV->List RV->Bool}(l:List (List RV)):(bp lt l).Perm l:=by
 have:=akg (lt:=lt) l [];simpa[bp] using this
def vc(Z:List (List RV)):Prop:=Z.Pairwise λx y=>aD 0 x≠aD 0 y
def vc.perm{Z:List (List RV)}(h:vc X)(V:Z.Perm X):vc Z:=(V.symm.pairwise_iff (λ{x y} h=>h.symm)).1 h
def akh:∀{Z:List (List RV)},vc Z->sj (aU.lex [0] false).lt Z=true
 |[],_=>rfl
 |x::r,h=>by
  simp only[vc,ayY] at h;simp only[sj,ayz,ayM,ay2];refine⟨λy V=> ?_,akh h.2⟩;have X:¬aD 0 x=aD 0 y:=h.1 y V;have U:¬aD 0 y=aD 0 x:=λe=>X e.symm
  simp only[aU.lt,fZ,if_neg X,if_neg U,ayV,if_false,decide_eq_true_eq];omega
def aki{Z:Bool}(V:X.length<=1099511627776)(h:vc X):fh (.lex [0] false) Z X=some (bp (aU.lex [0] false).lt X):=by
 simp only[fh];rw[if_pos (by simp[V,akh h,aU.ok])]
def arQ{rows:List (List RV)}(Z:rows.length<=1099511627776)(h:∀x∈rows,iG (aD 10 x) (aD 11 x)=true):fh (.ratio 10 11) true rows=some (bp (aU.ratio 10 11).lt rows):=by
 simp only[fh];rw[if_pos (by simp only[ayz,decide_eq_true_eq,aB6,and_true];exact⟨Z,ayM.2 h⟩)]
structure Ia(W D d:Int)(rl tp sg:RV):Prop where
 nr:1<=rl.rows.length/\rl.rows.length<=64
 ns:sg.rows.length<=4096
 br:1<=d/\d<=4096
 wd:1<=W/\W<=1000/\1<=D/\D<=1000
 tp:H7 tp
 sgs:∀i<sg.rows.length,BO rl.rows.length d (ci sg i)
 id:∀i<sg.rows.length,0<=ci sg i 0/\ci sg i 0<=1048576
 ids:∀i j,i<j->j<sg.rows.length->ci sg i 0<ci sg j 0
structure gH(rl tp ps sp sg:RV):Prop where
 rl:Sl rl
 tp:Sl tp
 ps:Sl ps
 sp:Sl sp
 sg:Sl sg
section
variable{R:aQ->Prop}{f:List LK}{t:T}{O:aa}{L:List PC}
variable(W D A B C d:Int)(rl tp ps sp sg:RV)
def wk:List XV:=[.i W,.i D,.i A,.i B,.i C,.r rl,.i d,.r tp,.r ps,.r sp,.r sg]
def xl:Prop:=∀(d:Int)(tp ps sp:RV),Sl tp->Sl ps->Sl sp->TB.Ev 81 [.i d,.r tp,.r ps,.r sp] (.ret [.i (oi 81 [.i d,.r tp,.r ps,.r sp] 0)])/\(oi 81 [.i d,.r tp,.r ps,.r sp] 0=0->H7 tp/\1<=d/\d<=4096)
def t37(I:xl)(h:gH rl tp ps sp sg):∃o,TB.Ev 37 (wk W D A B C d rl tp ps sp sg) o/\∃e,o=.ret [.i e]/\(e=0->Ia W D d rl tp sg):=by
 refine eS rfl rfl (.inl rfl) ?_;obtain⟨H,G⟩:=I d tp ps sp h.tp h.ps h.sp;simp[T37,wk,h.rl.len,h.sg.len,bC H]
 repeat'(first|intro _|split)
 any_goals(exfalso;omega)
 obtain⟨F,r,q⟩:=G (by assumption);refine di rl.rows.length (λ_ Q=>Q=[]) ⟨0,rfl,by omega,rfl⟩ ?_;rintro i _ Z rfl;simp[h.rl.len];split;rename_i Z;simp[dh Z h.rl.sm,Z];refine di sg.rows.length (λi Q=>∃V:Int,Q=[.i V]∧-1<=V/\(∀k<i,BO rl.rows.length d (ci sg k)/\0<=ci sg k 0/\ci sg k 0<=V/\ci sg k 0<=1048576)/\∀j k,j<k->k<i->ci sg j 0<ci sg k 0) ⟨0,rfl,by omega,-1,rfl,by omega,by omega,by omega⟩ ?_;rintro j _ P ⟨V,rfl,p,X,N⟩;simp[h.rl.len,h.sg.len];split;rename_i P;refine⟨P,λn m=> ?_⟩;obtain⟨M,U⟩:=f84 (ci sg j) rl.rows.length d (by omega) (by omega);simp only[ja,ci,ayP,ayU] at M U;rw[bC M];simp[dh P h.sg.sm];intro E;have U:=U E;refine⟨by omega,λk l=> ?_,λa b J g=> ?_⟩;by_cases z:k=j;subst z;refine⟨U, ?_, ?_, ?_⟩<;>simp only[ci]<;>omega;obtain⟨y,x,w,v⟩:=X k (by omega);exact⟨y,x,by simp only[ci] at w⊢;omega,v⟩;by_cases u:b=j;subst u;have:=(X a J).2.2.1;simp only[ci] at this⊢;omega;exact N a b J (by omega);have s:j=sg.rows.length:=by omega
 subst s;have f:rl.rows.length≠0:=λe=>absurd (azw.1 e) (by assumption)
 exact⟨by omega,by omega,by omega,by omega,F,λi Z=>(X i Z).1,λi Z=>⟨(X i Z).2.1,(X i Z).2.2.2⟩,N⟩
end
end
section
section
variable{R:aQ->Prop}{l:List LK}{t:T}{O:aa}{L:List PC}
variable(W D A B C d:Int)(b e f g a:RV)
@[simp] def LI (c:Nat->Int) (j:Nat) (h:j<14):aD j (H9 c)=c j:=by
 match j,h with
 |0,_|1,_|2,_|3,_|4,_|5,_|6,_|7,_|8,_|9,_|10,_|11,_|12,_|13,_=>rfl
def qh(a:RV)(be ai:Int):Nat->List (List RV)
 |0=>[]
 |i+1=>qh a be ai i++(if ci a i 1=be/\ci a i 2=ai then[H9 (ci a i)] else[])
def SC{be ai:Int}:∀i,(qh a be ai i).length<=i
 |0=>by simp[qh]
 |i+1=>by
  have:=SC (be:=be) (ai:=ai) i;simp only[qh,ayN];split<;>simp<;>omega
def SD{be ai:Int}{x:List RV}:∀{i},x∈qh a be ai i<->∃k<i,x=H9 (ci a k)/\ci a k 1=be/\ci a k 2=ai
 |0=>by simp[qh]
 |i+1=>by
  simp only[qh,ayL,SD (i:=i)];constructor;rintro(⟨k,V,Z⟩|h);exact⟨k,by omega,Z⟩;split at h;rename_i U;simp at h;exact⟨i,by omega,h,U⟩;simp at h;rintro⟨k,V,Z,X⟩;by_cases Q:k=i;subst Q;right;rw[if_pos X];simp[Z];exact .inl ⟨k,by omega,Z,X⟩
def akj{be ai:Int}(h:∀i j,i<j->j<a.rows.length->ci a i 0<ci a j 0):∀{i},i<=a.rows.length->vc (qh a be ai i)
 |0,_=>azu
 |i+1,U=>by
  simp only[qh,vc,ay6];refine⟨akj h (by omega),by split<;>simp,λx X y Z=> ?_⟩;obtain⟨k,V,rfl,-⟩:=(SD a).1 X;split at Z;simp at Z;subst Z;rw[LI _ _ (by omega),LI _ _ (by omega)];have:=h k i V (by omega);omega;simp at Z
def kq:Int:=oi 37 (wk W D A B C d b e f g a) 0
def kW(be ai:Int):Int:=if kq W D A B C d b e f g a=0 then(if hJ be 0 (b.rows.length-1)&&hJ ai 0 (d-1) then 0 else 1) else kq W D A B C d b e f g a
def ep(be ai:Int):List (List RV):=if kW W D A B C d b e f g a be ai=0 then bp (aU.ratio 10 11).lt (qh a be ai a.rows.length) else[]
def xo(Z:xl)(h:gH b e f g a):TB.Ev 37 (wk W D A B C d b e f g a) (.ret [.i (kq W D A B C d b e f g a)])/\(kq W D A B C d b e f g a=0->Ia W D d b e a):=xk (t37 W D A B C d b e f g a Z h)
def Ib(J:xl)(h:gH b e f g a)(be ai:Int):TB.Ev 77 (wk W D A B C d b e f g a++[.i be,.i ai]) (.ret [.r (aC (ep W D A B C d b e f g a be ai)),.i (kW W D A B C d b e f g a be ai)]):=by
 refine gG rfl rfl (.inl rfl) ?_;obtain⟨X,I⟩:=xo W D A B C d b e f g a J h;simp only[wk] at X;simp[T77,wk,h.rl.len,bC X];split
 case isFalse Z=>
  simp[ep,kW,Z]
 rename_i Z;have V:=I Z;have y:=V.nr;have w:=V.br;rw[show aP .sub .i64 (b.rows.length:Int) 1=b.rows.length-1 by simp only[aP];rw[ef (by omega) (by omega)],show aP .sub .i64 d 1=d-1 by simp only[aP];rw[ef (by omega) (by omega)]];split
 case isFalse U=>
  simp[ep,kW,Z,U]
 rename_i U;split
 case isFalse P=>
  simp[ep,kW,Z,U,P]
 rename_i P;refine di a.rows.length (λi H=>H=[.r (aC (qh a be ai i))]) ⟨0,rfl,by omega,rfl⟩ ?_;rintro i _ N rfl;have bZ:=SC a (be:=be) (ai:=ai) i;have v:=V.ns;simp[h.sg.len];split;rename_i N;simp[dh N h.sg.sm,qh,ci,N];have u:(qh a be ai i).length<=536870912:=by omega
 split;rename_i Q;split;rename_i M;simp[Q,M,H9,ci];omega;rename_i M;simp[Q,M];rename_i Q;simp[Q];have G:i=a.rows.length:=by omega
 subst G;have F:=arQ (rows:=qh a be ai a.rows.length) (by have:=SC a (be:=be) (ai:=ai) a.rows.length;have:=h.sg.sm;omega) (λx E=>by
  obtain⟨k,X,rfl,-⟩:=(SD a).1 E;rw[LI _ _ (by omega),LI _ _ (by omega)];exact(V.sgs k X).from_)
 simp only[zt,zu];refine⟨_,F, ?_⟩;have z:kW W D A B C d b e f g a be ai=0:=by simp[kW,Z,U,P]
 simp[ep,z,aC,nq]
def arS{be ai:Int}(U:kq W D A B C d b e f g a=0->Ia W D d b e a){x:List RV}(Z:x∈ep W D A B C d b e f g a be ai):∃k<a.rows.length,x=H9 (ci a k)/\ci a k 1=be/\ci a k 2=ai/\BO b.rows.length d (ci a k):=by
 unfold ep at Z;split at Z;rename_i X;have Q:kq W D A B C d b e f g a=0:=by
  unfold kW at X;split at X;assumption;exact X
 obtain⟨k,V,P,N,M⟩:=(SD a).1 ((SB _).mem_iff.1 Z);exact⟨k,V,P,N,M,(U Q).sgs k V⟩;simp at Z
def LJ{be ai:Int}(X:kq W D A B C d b e f g a=0->Ia W D d b e a):vc (ep W D A B C d b e f g a be ai):=by
 unfold ep;split;rename_i Z;have V:kq W D A B C d b e f g a=0:=by
  unfold kW at Z;split at Z;assumption;exact Z
 exact(akj a (X V).ids (ayH _)).perm (SB _);exact azu
def LL{be ai:Int}(X:kq W D A B C d b e f g a=0->Ia W D d b e a):(ep W D A B C d b e f g a be ai).length<=4096:=by
 unfold ep;split;rename_i Z;have V:kq W D A B C d b e f g a=0:=by
  unfold kW at Z;split at Z;assumption;exact Z
 rw[nq];have:=SC a (be:=be) (ai:=ai) a.rows.length;have:=(X V).ns;omega;simp
end
end
section
section
variable{R:aQ->Prop}{a:List LK}{t:T}{O:aa}{L:List PC}
def arT(c:Nat->Int)(x y z:Int)(b:Bool):∃o,TB.Ev 225 (ja c++[.i x,.i y,.i z,.b b]) o/\∃e,o=.ret [.b e]/\(e=true->x=c 0):=by
 refine eS rfl rfl (.inl rfl) ?_;simp[aaP,ja]
 repeat' split
 all_goals(intros;grind [hJ])
def akk(c:Nat->Int)(x y z:Int)(b:Bool):TB.Ev 225 (ja c++[.i x,.i y,.i z,.b b]) (.ret [.b (ob 225 (ja c++[.i x,.i y,.i z,.b b]) 0)])/\(ob 225 (ja c++[.i x,.i y,.i z,.b b]) 0=true->x=c 0):=mkb (arT c x y z b)
def aa5(c:Nat->Int)(r:RV)(k:Nat):List RV:=H9 c++[.mk (.int .i64 (ci r k 0)) [],.mk (.int .i64 (ci r k 1)) [],.mk (.int .i64 (ci r k 2)) [],.mk (.bool (cb r k 3)) []]
def eh(Z:List (List RV))(i j:Nat):Int:=bc (cellAt Z i j).val
def xp(l:List (List RV))(r:RV)(n:Nat)(out:List (List RV)):Prop:=out.length=n/\∀i<n,∃k<r.rows.length,out[i]?=some (aa5 (eh l i) r k)/\ci r k 0=eh l i 0
def xp.add{r:RV}{out:List (List RV)}(h:xp X r U out){k:Nat}(Z:k<r.rows.length)(hid:ci r k 0=eh X U 0):xp X r (U+1) (out++[aa5 (eh X U) r k]):=by
 refine⟨by simp[h.1],λi M=> ?_⟩;by_cases W:i=U;subst W;refine⟨k,Z, ?_,hid⟩;rw[ayG (by rw[h.1];omega),h.1];simp;obtain⟨V,Q,P,N⟩:=h.2 i (by omega);exact⟨V,Q,by rw[ayD (by rw[h.1];omega)];exact P,N⟩
def arU(l:List (List RV))(r:RV)(X:Sl r)(H:l.length<=4096)(M:vc l)(Q:0<l.length):∃o,TB.Ev 155 [.r (aC l),.r r] o/\∃v b,o=.ret [.r (aC v),.b b]/\(b=false->v=[])/\(b=true->xp l r l.length v):=by
 refine eS rfl rfl (.inl rfl) ?_;simp[Sm,X.len];intro J;simp only[D9];refine⟨.inl rfl,λ_=> ?_,λh=> ?_,λ_ h=> ?_⟩;simp;refine⟨by omega, ?_⟩;simp only[zt,zu];refine⟨_,aki (by simp;omega) (by simpa using M), ?_⟩;simp;have G:(bp (aU.lex [0] false).lt l).length=l.length:=nq;refine di l.length (λi W=>∃v,W=[.r (aC v)]/\xp l r i v) ⟨0,rfl,by omega,[],rfl,rfl,by omega⟩ ?_;rintro i _ V ⟨v,rfl,U⟩;simp;split;rename_i V;refine⟨V, ?_⟩;refine di l.length (λj W=>W=[.r (aC v)]) ⟨0,rfl,by omega,rfl⟩ ?_;rintro j _ Z rfl;simp[X.len];intro Z;have F:=U.1;simp[dh Z (show l.length<=140737488355328 by omega)];refine⟨Z,λE=>⟨by omega, ?_⟩⟩;obtain⟨P,N⟩:=akk (eh l i) (ci r j 0) (ci r j 1) (ci r j 2) (cb r j 3);simp only[ja,eh,ci,cb,ayP,ayU] at P N;rw[bC P];simp[dh Z (show l.length<=140737488355328 by omega),dh V (show l.length<=140737488355328 by omega),<-J,X.len];intro I;refine⟨Z,by omega, ?_⟩;have:=U.add (k:=j) (by omega) (N I);exact⟨_,rfl,this⟩;have:i=l.length:=by omega
 subst this;exact⟨_,rfl,U⟩;simp at h;simp[h] at Q;simp at h;simp[h] at Q
def arV(r:RV)(V:Sl r):TB.Ev 155 [.r (aC []),.r r] (.ret [.r (aC []),.b (r.rows.length==0)]):=by
 refine gG rfl rfl (.inl rfl) ?_;simp[Sm,V.len];split
 case isFalse h=>
  intro e;simp[e] at h
 rename_i h;have X:r.rows.length=0:=by omega
 have W:fh (aU.lex [0] false) false []=some []:=rfl;simp only[D9,zt,zu];refine⟨.inl rfl,λ_=> ?_,λ_=> ?_,λ_ _=>single (Og _)⟩
 ·try simp
  try simp only[zt,zu]
  refine⟨_,by simpa using W, ?_⟩;refine di 0 (λi Z=>Z=[.r (aC [])]) ⟨0,rfl,by omega,rfl⟩ ?_;rintro i _ U rfl;have:i=0:=by omega
  simp[X,this]
 ·try simp
  try simp only[zt,zu]
  refine⟨_,by simpa using W, ?_⟩;refine di 0 (λi Z=>Z=[.r (aC [])]) ⟨0,rfl,by omega,rfl⟩ ?_;rintro i _ U rfl;have:i=0:=by omega
  simp[X,this]
def SE(l:List (List RV))(r:RV)(Z:Sl r)(X:l.length<=4096)(W:vc l):∃o,TB.Ev 155 [.r (aC l),.r r] o/\∃v b,o=.ret [.r (aC v),.b b]/\(b=false->v=[])/\(b=true->xp l r l.length v):=by
 cases l with
 |nil=>exact⟨_,arV r Z,[],r.rows.length==0,rfl,λ_=>rfl,λ_=>⟨rfl,by simp⟩⟩
 |cons x l=>exact arU (x::l) r Z X W (by simp)
end
end
section
def mY(g:List LK)(h:∃o,TB.Ev V Z o/\∃X,o=.ret X/\dj g X=true):TB.Ev V Z (.ret (tI (out V Z) g 0)):=by
 obtain⟨o,W,X,U,Q⟩:=h;exact(shp g (P:=λ_=>True) ⟨o,W,X,U,Q,trivial⟩).1
def kI:Nat->List LK
 |0=>[]
 |n+1=>.int .i64::kI n
@[simp] def SF:kI 0=[]:=rfl
@[simp] def Ic (n:Nat):kI (n+1)=.int .i64::kI n:=rfl
section
variable{R:aQ->Prop}{g:List LK}{t:T}{O:aa}{L:List PC}
def arW(a b:Int):∃o,TB.Ev 138 [.i a,.i b] o/\∃Z,o=.ret Z/\dj (kI 2) Z=true:=by
 refine eS rfl rfl (.inl rfl) ?_;simp[aav]
@[simp] def ax8 (a b:Int):eQ TB.Ev R 138 [.i a,.i b] g t O L=eR TB.Ev R (.ret [.i (oi 138 [.i a,.i b] 0),.i (oi 138 [.i a,.i b] 1)]) g t O L:=bC (mY _ (arW a b))
def arX(a b:Int):∃o,TB.Ev 139 [.i a,.i b] o/\∃Z,o=.ret Z/\dj (kI 4) Z=true:=by
 refine eS rfl rfl (.inl rfl) ?_;simp[Sb]
 repeat'(first|intro _|split)
 have X:lenOf (oE[2]?.getD default).val=8:=rfl;rw[show aP .sub .i64 a 1=a-1 by simp only[aP];exact ef (by omega) (by omega),X];omega
@[simp] def ax9 (a b:Int):eQ TB.Ev R 139 [.i a,.i b] g t O L=eR TB.Ev R (.ret [.i (oi 139 [.i a,.i b] 0),.i (oi 139 [.i a,.i b] 1),.i (oi 139 [.i a,.i b] 2),.i (oi 139 [.i a,.i b] 3)]) g t O L:=bC (mY _ (arX a b))
def arY(a:Int):∃o,TB.Ev 376 [.i a] o/\∃Z,o=.ret Z/\dj (kI 3) Z=true:=by
 refine eS rfl rfl (.inl rfl) ?_;simp[aaw]
 repeat'(first|intro _|split)
 have X:lenOf (oE[2]?.getD default).val=8:=rfl;rw[show aP .sub .i64 a 1=a-1 by simp only[aP];exact ef (by omega) (by omega),X];omega
@[simp] def aya (a:Int):eQ TB.Ev R 376 [.i a] g t O L=eR TB.Ev R (.ret [.i (oi 376 [.i a] 0),.i (oi 376 [.i a] 1),.i (oi 376 [.i a] 2)]) g t O L:=bC (mY _ (arY a))
def arZ(a b c d e f:Int):∃o,TB.Ev 361 [.i a,.i b,.i c,.i d,.i e,.i f] o/\∃Z,o=.ret Z/\dj (kI 2) Z=true:=by
 refine eS rfl rfl (.inl rfl) ?_;simp[aaD]
@[simp] def ayb (a b c d e f:Int):eQ TB.Ev R 361 [.i a,.i b,.i c,.i d,.i e,.i f] g t O L=eR TB.Ev R (.ret [.i (oi 361 [.i a,.i b,.i c,.i d,.i e,.i f] 0),.i (oi 361 [.i a,.i b,.i c,.i d,.i e,.i f] 1)]) g t O L:=bC (mY _ (arZ a b c d e f))
def ar0(a b c:Int):∃o,TB.Ev 248 [.i a,.i b,.i c] o/\∃Z,o=.ret Z/\dj (kI 3) Z=true:=by
 refine eS rfl rfl (.inl rfl) ?_;simp[aaE]
@[simp] def ayc (a b c:Int):eQ TB.Ev R 248 [.i a,.i b,.i c] g t O L=eR TB.Ev R (.ret [.i (oi 248 [.i a,.i b,.i c] 0),.i (oi 248 [.i a,.i b,.i c] 1),.i (oi 248 [.i a,.i b,.i c] 2)]) g t O L:=bC (mY _ (ar0 a b c))
def ar1(s:RV)(b:Int):∃o,TB.Ev 272 [.r s,.i b] o/\∃Z,o=.ret Z/\dj (kI 1) Z=true:=by
 cases X:s.val with
 |string u=>exact⟨_,WO (by simp only[TB,tG,LF,X];rfl),_,rfl,rfl⟩
 |_=>exact⟨_,WO (by simp only[TB,tG,LF,X];rfl),_,rfl,rfl⟩
@[simp] def ayd (s:RV) (b:Int):eQ TB.Ev R 272 [.r s,.i b] g t O L=eR TB.Ev R (.ret [.i (oi 272 [.r s,.i b] 0)]) g t O L:=bC (mY _ (ar1 s b))
def ar2(a:Int):∃o,TB.Ev 207 [.i a] o/\∃Z,o=.ret Z/\dj (kI 1) Z=true:=by
 refine eS rfl rfl (.inl rfl) ?_;simp[aaR]
@[simp] def aye (a:Int):eQ TB.Ev R 207 [.i a] g t O L=eR TB.Ev R (.ret [.i (oi 207 [.i a] 0)]) g t O L:=bC (mY _ (ar2 a))
def vd(v:RV):Prop:=∃s,v.val=.string s
def zy(v:RV):vd (cN .str v):=by
 simp only[cN];split<;>exact⟨_,rfl⟩
def ar3(s:RV)(V:vd s):∃o,TB.Ev 135 [.r s] o/\∃X,o=.ret X/\dj [.bool] X=true:=by
 refine eS rfl rfl (.inl rfl) ?_;obtain⟨u,W⟩:=V;simp[aaN,W,qD,lenOf];intro U M;have Q:0<u.size:=by
  rcases azO u.size with h|h;exfalso;apply U;have P:u=ByteArray.empty:=by simpa using h
  rw[P,ByteArray.toList,ByteArray.toList.loop];simp;exact h
 refine⟨Q,λ_=> ?_⟩;refine di u.size (λ_ N=>N=[]) ⟨0,rfl,by omega,rfl⟩ ?_;rintro i _ Z rfl;simp[W,lenOf];intro Z;simp[dh Z (show u.size<=140737488355328 by omega),Z]
def akl(s:RV)(Z:vd s):eQ TB.Ev R 135 [.r s] g t O L=eR TB.Ev R (.ret [.b (ob 135 [.r s] 0)]) g t O L:=bC (mY [.bool] (ar3 s Z))
def t74(X W V U Q P N M J I H G F:Int):∃o,TB.Ev 74 [.i X,.i W,.i V,.i U,.i Q,.i P,.i N,.i M,.i J,.i I,.i H,.i G,.i F] o/\∃Z,o=.ret Z/\dj (kI 1) Z=true:=by
 refine eS rfl rfl (.inl rfl) ?_;simp[Sn]
def BP(Z X W V U Q P N M J I H G:Int):Int:=oi 74 [.i Z,.i X,.i W,.i V,.i U,.i Q,.i P,.i N,.i M,.i J,.i I,.i H,.i G] 0
@[simp] def c74 (Z X W V U Q P N M J I H G:Int):eQ TB.Ev R 74 [.i Z,.i X,.i W,.i V,.i U,.i Q,.i P,.i N,.i M,.i J,.i I,.i H,.i G] g t O L=eR TB.Ev R (.ret [.i (BP Z X W V U Q P N M J I H G)]) g t O L:=bC (mY _ (t74 Z X W V U Q P N M J I H G))
def t75(s:RV)(V:vd s)(U Q P N M J I H G F E Z X W D C:Int):∃o,TB.Ev 75 [.r s,.i U,.i Q,.i P,.i N,.i M,.i J,.i I,.i H,.i G,.i F,.i E,.i Z,.i X,.i W,.i D,.i C] o/\∃e,o=.ret [.i e]/\(e=0->(1<=Z/\Z<=3)/\(1<=X/\X<=3)/\1<=W/\W<=3):=by
 refine eS rfl rfl (.inl rfl) ?_;simp[Sq,akl s V];intros;omega
def BQ(s:RV)(Z X W V U Q P N M J I H G F E D:Int):Int:=oi 75 [.r s,.i Z,.i X,.i W,.i V,.i U,.i Q,.i P,.i N,.i M,.i J,.i I,.i H,.i G,.i F,.i E,.i D] 0
def f75(s:RV)(C:vd s)(V U Q P N M J I H G F Z X W E D:Int):TB.Ev 75 [.r s,.i V,.i U,.i Q,.i P,.i N,.i M,.i J,.i I,.i H,.i G,.i F,.i Z,.i X,.i W,.i E,.i D] (.ret [.i (BQ s V U Q P N M J I H G F Z X W E D)])/\(BQ s V U Q P N M J I H G F Z X W E D=0->(1<=Z/\Z<=3)/\(1<=X/\X<=3)/\1<=W/\W<=3):=xk (t75 s C V U Q P N M J I H G F Z X W E D)
def Ed(s:RV)(C:vd s)(Z X W V U Q P N M J I H G F E D:Int):eQ TB.Ev R 75 [.r s,.i Z,.i X,.i W,.i V,.i U,.i Q,.i P,.i N,.i M,.i J,.i I,.i H,.i G,.i F,.i E,.i D] g t O L=eR TB.Ev R (.ret [.i (BQ s Z X W V U Q P N M J I H G F E D)]) g t O L:=bC (f75 s C Z X W V U Q P N M J I H G F E D).1
set_option maxHeartbeats 4000000 in
def t27 (X W V U Q P N M J I H G F:Int) (s:RV) (E:vd s) (D C B A z y x w v u q p n m l k:Int):∃o,TB.Ev 27 [.i X,.i W,.i V,.i U,.i Q,.i P,.i N,.i M,.i J,.i I,.i H,.i G,.i F,.r s,.i D,.i C,.i B,.i A,.i z,.i y,.i x,.i w,.i v,.i u,.i q,.i p,.i n,.i m,.i l,.i k] o/\∃Z,o=.ret Z/\dj (kI 5) Z=true:=by
 refine eS rfl rfl (.inl rfl) ?_;simp(config:={maxSteps:=10000000}) [H4,Ed s E]
end
end
section
section
variable{R:aQ->Prop}{d:List LK}{t:T}{O:aa}{L:List PC}
variable(W D A B C a:Int)(rl tp ps sp sg:RV)
structure LM(a:Int)(rl tp ps sp sg:RV):Prop where
 rl:lenOf rl.val<=100
 tp:lenOf tp.val<=64
 ps:lenOf ps.val<=64
 sp:lenOf sp.val<=64
 sg:lenOf sg.val<=5000
def t33:∃o,TB.Ev 33 (wk W D A B C a rl tp ps sp sg) o/\∃b,o=.ret [.b b]/\(b=true->LM a rl tp ps sp sg):=by
 refine eS rfl rfl (.inl rfl) ?_;by_cases h:lenOf rl.val<=100/\lenOf tp.val<=64/\lenOf ps.val<=64/\lenOf sp.val<=64/\lenOf sg.val<=5000
 ·have Z:LM a rl tp ps sp sg:=⟨h.1,h.2.1,h.2.2.1,h.2.2.2.1,h.2.2.2.2⟩;simp[Sk,wk,Z];intros
  repeat' split
  all_goals(intros;omega)
 ·have Z:¬LM a rl tp ps sp sg:=λf=>h ⟨f.rl,f.tp,f.ps,f.sp,f.sg⟩
  simp[Sk,wk,Z];intros
  repeat' split
  all_goals(intros;omega)
def f33:TB.Ev 33 (wk W D A B C a rl tp ps sp sg) (.ret [.b (ob 33 (wk W D A B C a rl tp ps sp sg) 0)])/\(ob 33 (wk W D A B C a rl tp ps sp sg) 0=true->LM a rl tp ps sp sg):=mkb (t33 W D A B C a rl tp ps sp sg)
def cr(e:TypeId)(v:RV)(i:Nat):RV:=cN (.sl e) (cellAt v.rows i 0)
structure asa(a:Int)(rl tp ps sp sg wg bd st re:RV):Prop where
 few:LM a rl tp ps sp sg
 wg:lenOf wg.val<=20
 bd:lenOf bd.val<=100
 st:lenOf st.val<=100
 rel:lenOf re.val<=100
 fe:∀i:Nat,i<lenOf re.val->lenOf (cr 96 re i).val<=100
def asb(Z:RV)(I:lenOf Z.val<=100)(H:0<=lenOf Z.val){L:List PC}{O:aa}
  (V:P.map (SV.xv O)=[.i 0])
  (M:∀(i:Nat),i<=lenOf Z.val->(∀k<i,lenOf (cr 96 Z k).val<=100)->N.wp TB.Ev R (O.ext [.i i]) (⟨U,BN (lenOf Z.val).toNat (λi X=>X=[]/\∀k<i,lenOf (cr 96 Z k).val<=100),zx (lenOf Z.val).toNat,(lenOf Z.val).toNat-i⟩::L)):
  T.wp TB.Ev R (.loop U Q P N) O L:=by
 refine di (lenOf Z.val).toNat (λi X=>X=[]/\∀k<i,lenOf (cr 96 Z k).val<=100) (by rw[V];exact⟨0,rfl,by omega,rfl,by omega⟩) ?_;rintro i _ G ⟨rfl,J⟩;exact M i (by omega) J
def t12(V U Q Z:RV)(J:0<=lenOf Z.val):∃o,TB.Ev 12 (wk W D A B C a rl tp ps sp sg++[.r V,.r U,.r Q,.r Z]) o/\∃b,o=.ret [.b b]/\(b=true->asa a rl tp ps sp sg V U Q Z):=by
 refine eS rfl rfl (.inl rfl) ?_;obtain⟨P,N⟩:=f33 W D A B C a rl tp ps sp sg;simp only[wk] at P N;simp[T12,wk,bC P];intro X;have X:=N X
 repeat'(first|intro _|split)
 all_goals
  refine asb Z ?_ J ?_ ?_;omega;rfl;intro i z M;simp;split;rename_i I;have H:i<(lenOf Z.val).toNat:=by omega
  rw[dh H (by omega)];refine⟨by omega,λG=>⟨rfl,λk F=> ?_⟩⟩;by_cases E:k=i;subst E;simp only[cr];exact G;exact M k (by omega);rename_i I;exact⟨X,by omega,by omega,by omega,by omega,λk F=>M k (by omega)⟩
def e65(V:xl)(h:gH rl tp ps sp sg)(ai:Int):TB.Ev 65 (wk W D A B C a rl tp ps sp sg++[.i ai]) (.ret [.i (if kq W D A B C a rl tp ps sp sg=0 then(if hJ ai 0 (a-1) then 0 else 1) else kq W D A B C a rl tp ps sp sg)]):=by
 refine gG rfl rfl (.inl rfl) ?_;obtain⟨X,U⟩:=xo W D A B C a rl tp ps sp sg V h;simp only[wk] at X;simp[T65,wk,bC X];split;rename_i Z;have:=(U Z).br;rw[show aP .sub .i64 a 1=a-1 by simp only[aP];rw[ef (by omega) (by omega)]];split<;>simp_all;rename_i Z;simp[Z]
def LN(c:Nat->Int):List XV:=[.i (c 0),.i (c 1),.i (c 2),.i (c 3),.i (c 4),.i (c 5),.i (c 6),.i (c 7)]
def t25(c:Nat->Int)(ai:Int):∃o,TB.Ev 25 (LN c++[.i ai]) o/\∃Z,o=.ret Z/\dj (kI 5) Z=true:=by
 refine eS rfl rfl (.inl rfl) ?_;simp[T25,LN]
def nX(c:Nat->Int)(ai:Int)(k:Nat):Int:=oi 25 (LN c++[.i ai]) k
def f25(c:Nat->Int)(ai:Int):TB.Ev 25 (LN c++[.i ai]) (.ret [.i (nX c ai 0),.i (nX c ai 1),.i (nX c ai 2),.i (nX c ai 3),.i (nX c ai 4)]):=mY _ (t25 c ai)
end
end
section
section
variable{R:aQ->Prop}{m:List LK}{t:T}{O:aa}{L:List PC}
variable(W D A B C g:Int)(a b c d f:RV)
def ase(N:xl)(h:gH a b c d f)(be ai:Int)(r:RV)(V:Sl r)(M:0<(ep W D A B C g a b c d f be ai).length):∃o,TB.Ev 85 (wk W D A B C g a b c d f++[.i be,.i ai,.r r]) o/\∃e,o=.ret [.i e]/\(e=0->kW W D A B C g a b c d f be ai=0/\∃v,xp (ep W D A B C g a b c d f be ai) r (ep W D A B C g a b c d f be ai).length v):=by
 refine eS rfl rfl (.inl rfl) ?_;have J:=Ib W D A B C g a b c d f N h be ai;have I:=(xo W D A B C g a b c d f N h).2;have y:=LL W D A B C g a b c d f (be:=be) (ai:=ai) I;have F:=LJ W D A B C g a b c d f (be:=be) (ai:=ai) I;simp only[wk,ayP,ayU] at J;generalize ep W D A B C g a b c d f be ai=l at*;generalize kW W D A B C g a b c d f be ai=e at*;simp[Sr,wk,bC J,V.len];split
 case isFalse X=>simp[X]
 rename_i X;intro E;rw[D9];refine⟨.inl rfl,λ_=> ?_,λh=> ?_,λ_ h=> ?_⟩;simp;refine⟨by omega, ?_⟩
 first|rw[zt]|rw[zu]
 refine⟨_,aki (by simp;omega) (by simpa using F), ?_⟩;simp;have x:(bp (aU.lex [0] false).lt l).length=l.length:=nq;refine di l.length (λi U=>∃v,U=[.r (aC v)]/\xp l r i v) ⟨0,rfl,by omega,[],rfl,rfl,by omega⟩ ?_;rintro i _ Q ⟨v,rfl,P⟩;simp;split;rename_i Q;refine⟨Q, ?_⟩;refine di l.length (λj U=>U=[.r (aC v)]) ⟨0,rfl,by omega,rfl⟩ ?_;rintro j _ Z rfl;simp[V.len];intro Z;have w:=P.1;simp[dh Z (show l.length<=140737488355328 by omega)];refine⟨Z,λX=>⟨by omega, ?_⟩⟩;obtain⟨H,G⟩:=akk (eh l i) (ci r j 0) (ci r j 1) (ci r j 2) (cb r j 3);simp only[ja,eh,ci,cb,ayP,ayU] at H G;rw[bC H];simp[dh Z (show l.length<=140737488355328 by omega),dh Q (show l.length<=140737488355328 by omega),<-E,V.len];intro z;refine⟨Z,by omega, ?_⟩;have:=P.add (k:=j) (by omega) (G z);exact⟨_,rfl,this⟩;have:i=l.length:=by omega
 subst this;exact⟨X,v,P⟩;simp at h;simp[h] at M;simp at h;simp[h] at M
def asf(P:xl)(h:gH a b c d f)(be ai:Int)(r:RV)(N:Sl r)(M:ep W D A B C g a b c d f be ai=[]):TB.Ev 85 (wk W D A B C g a b c d f++[.i be,.i ai,.r r]) (.ret [.i (if kW W D A B C g a b c d f be ai≠0 then kW W D A B C g a b c d f be ai else if r.rows.length=0 then 0 else 270)]):=by
 refine gG rfl rfl (.inl rfl) ?_;have X:=Ib W D A B C g a b c d f P h be ai;rw[M] at X;simp only[wk,ayP,ayU] at X;generalize kW W D A B C g a b c d f be ai=e at*;simp[Sr,wk,bC X,N.len];split
 case isFalse Z=>simp[Z]
 rename_i Z;split
 case isFalse h=>
  simp;intro e;simp[e] at h
 rename_i h;have U:r.rows=[]:=azw.1 (by omega);have Q:fh (aU.lex [0] false) false []=some []:=rfl;simp only[D9,zt,zu];refine⟨.inl rfl,λ_=> ?_,λ_=> ?_,λ_ _=>single (Og _)⟩
 ·try simp
  try simp only[zt,zu]
  refine⟨_,by simpa using Q, ?_⟩;refine di 0 (λi V=>V=[.r (aC [])]) ⟨0,rfl,by omega,rfl⟩ ?_;rintro i _ J rfl;have:i=0:=by omega
  simp[U,Z,this]
 ·try simp
  try simp only[zt,zu]
  refine⟨_,by simpa using Q, ?_⟩;refine di 0 (λi V=>V=[.r (aC [])]) ⟨0,rfl,by omega,rfl⟩ ?_;rintro i _ J rfl;have:i=0:=by omega
  simp[U,Z,this]
def t85(X:xl)(h:gH a b c d f)(be ai:Int)(r:RV)(V:Sl r):∃o,TB.Ev 85 (wk W D A B C g a b c d f++[.i be,.i ai,.r r]) o/\∃e,o=.ret [.i e]/\(e=0->kW W D A B C g a b c d f be ai=0/\∃v,xp (ep W D A B C g a b c d f be ai) r (ep W D A B C g a b c d f be ai).length v):=by
 by_cases Z:ep W D A B C g a b c d f be ai=[];refine⟨_,asf W D A B C g a b c d f X h be ai r V Z,_,rfl,λU=> ?_⟩;split at U;rename_i Q;exact absurd U Q;rename_i Q;exact⟨by omega,[],by rw[Z];exact⟨rfl,by simp⟩⟩;exact ase W D A B C g a b c d f X h be ai r V (List.length_pos_iff.2 Z)
end
end
end
end Go.Proofs.YtieaiocljdpebaaGreatDoor.Y
