/- Part 6 of the proof; the last part says what is shown. -/
import Derived.Test.YtieaiocljdpebaaGreatDoorQ5
import Derived.IntWalk
set_option linter.defProp false
set_option linter.unusedVariables false
set_option linter.unusedSimpArgs false
set_option linter.unnecessarySimpa false
open Bool renaming and_eq_true→awF,false_eq_true→aw0,or_eq_true→aw9,true_or→aAa
open List renaming getElem?_append_left→awI,getElem?_append_right→awM,length_append→awQ,mem_append→awR,all_eq_true→awU,cons_append→awV,nil_append→awX,pairwise_cons→aw2,pairwise_append→aw8,length_eq_zero_iff→axp,foldl_cons→ax4,append_assoc→ax9,length_singleton→azf
open Nat renaming le_refl→awN,eq_zero_or_pos→axT,mod_lt→ayI,gcd→ayR,gcd_comm→azo,gcd_rec→aAp
open List.Pairwise renaming nil→axt
open Int renaming natAbs_tmod→azp,tmod_eq_emod_of_nonneg→azA,fdiv_eq_ediv_of_nonneg→azB
open List.Perm renaming refl→azu,swap→aAr
namespace Go.Proofs.YtieaiocljdpebaaGreatDoor.Y
open Go.RowKit
noncomputable section
section
attribute[simp] IE.den BE.den RE.rv RE.den ew aa.rv dY aa.ext aa.add nD sf JW SV.xv kb J3 dg FP apM apR apS apU apX aqa aqb aqc aqd
def out(f:FuncId)(xs:List XV):List XV:=by classical exact if h:∃ys,TB.Ev f xs (.ret ys) then h.choose else[]
def xi(ys:List XV)(k:Nat):Int:=match ys.getD k (.i 0) with
 |.i n=>n
 |_=>0
def xb(ys:List XV)(k:Nat):Bool:=match ys.getD k (.i 0) with
 |.b x=>x
 |_=>false
def xr(ys:List XV)(k:Nat):RV:=match ys.getD k (.i 0) with
 |.r x=>x
 |_=>default
def oi(f:FuncId)(xs:List XV)(k:Nat):Int:=xi (out f xs) k
def ob(f:FuncId)(xs:List XV)(k:Nat):Bool:=xb (out f xs) k
def or(f:FuncId)(xs:List XV)(k:Nat):RV:=xr (out f xs) k
def HQ{f:FuncId}{xs ys:List XV}(h:TB.Ev f xs (.ret ys)):out f xs=ys:=by
 have Z:∃ys,TB.Ev f xs (.ret ys):=⟨ys,h⟩;have:out f xs=Z.choose:=by unfold out;rw[dif_pos Z]
 rw[this];have:=aeX Z.choose_spec h;injection this
def apu{f:FuncId}{xs:List XV}{P:List XV->Prop}(h:∃o,TB.Ev f xs o/\∃ys,o=.ret ys/\P ys):TB.Ev f xs (.ret (out f xs))/\P (out f xs):=by
 obtain⟨o,Z,ys,rfl,X⟩:=h;rw[HQ Z];exact⟨Z,X⟩
def pW(ys:List XV):List LK->Nat->List XV
 |[],_=>[]
 |.int _::ks,n=>.i (xi ys n)::pW ys ks (n+1)
 |.bool::ks,n=>.b (xb ys n)::pW ys ks (n+1)
 |.ref _::ks,n=>.r (xr ys n)::pW ys ks (n+1)
def aiR(Z:List XV):∀(ks:List LK)(ys:List XV),dg ks ys=true->pW (Z++ys) ks Z.length=ys
 |[],[],_=>rfl
 |[],_::_,h=>by simp at h
 |k::ks,[],h=>by cases k<;>simp at h
 |k::ks,y::ys,h=>by
  have X:=aiR (Z++[y]) ks ys;simp only[dg,awF] at h;have X:=X h.2;simp only[ax9,List.singleton_append,awQ,azf] at X;have W:(Z++y::ys).getD Z.length (.i 0)=y:=by simp[List.getD]
  cases k<;>cases y<;>simp at h<;>simp only[pW,X,xi,xb,xr,W]
def shp{f:FuncId}{xs:List XV}(ks:List LK){P:List XV->Prop}(h:∃o,TB.Ev f xs o/\∃ys,o=.ret ys/\dg ks ys=true/\P ys):TB.Ev f xs (.ret (pW (out f xs) ks 0))/\P (out f xs):=by
 obtain⟨Z,X,W⟩:=apu h;rw[show pW (out f xs) ks 0=out f xs from aiR [] ks _ X];exact⟨Z,W⟩
def gt(n lo hi:Int):Bool:=decide (lo<=n)&&decide (n<=hi)
@[simp] def av4 (n lo hi:Int):gt n lo hi=true<->lo<=n/\n<=hi:=by simp[gt]
def Rj(a b:Int):Int:=if a<b then-1 else if b<a then 1 else 0
section
variable{R:aV->Prop}{ks:List LK}{t:T}{ρ:aa}{L:List PC}
def e82(n lo hi:Int):TB.Ev 82 [.i n,.i lo,.i hi] (.ret [.b (gt n lo hi)]):=by
 refine iJ rfl rfl (.inl rfl) ?_;simp[Y4,gt]
 grind
@[simp] def c82 (n lo hi:Int):eP TB.Ev R 82 [.i n,.i lo,.i hi] ks t ρ L=eX TB.Ev R (.ret [.b (gt n lo hi)]) ks t ρ L:=bo (e82 n lo hi)
def apx(n lo hi:Int):TB.Ev 134 [.i n,.i lo,.i hi] (.ret [.b (gt n lo hi)]):=by
 refine iJ rfl rfl (.inl rfl) ?_;simp[Y6,gt]
 grind
@[simp] def av6 (n lo hi:Int):eP TB.Ev R 134 [.i n,.i lo,.i hi] ks t ρ L=eX TB.Ev R (.ret [.b (gt n lo hi)]) ks t ρ L:=bo (apx n lo hi)
def apy(n lo hi:Int):TB.Ev 219 [.i n,.i lo,.i hi] (.ret [.b (gt n lo hi)]):=by
 refine iJ rfl rfl (.inl rfl) ?_;simp[Zp,gt]
 grind
@[simp] def av7 (n lo hi:Int):eP TB.Ev R 219 [.i n,.i lo,.i hi] ks t ρ L=eX TB.Ev R (.ret [.b (gt n lo hi)]) ks t ρ L:=bo (apy n lo hi)
def e70(n lo hi:Int):TB.Ev 70 [.i n,.i lo,.i hi] (.ret [.b (gt n lo hi)]):=by
 refine iJ rfl rfl (.inl rfl) ?_;simp[Zu,gt]
 grind
@[simp] def c70 (n lo hi:Int):eP TB.Ev R 70 [.i n,.i lo,.i hi] ks t ρ L=eX TB.Ev R (.ret [.b (gt n lo hi)]) ks t ρ L:=bo (e70 n lo hi)
def apA(n lo hi:Int):TB.Ev 284 [.i n,.i lo,.i hi] (.ret [.b (gt n lo hi)]):=by
 refine iJ rfl rfl (.inl rfl) ?_;simp[ZG,gt]
 grind
@[simp] def av9 (n lo hi:Int):eP TB.Ev R 284 [.i n,.i lo,.i hi] ks t ρ L=eX TB.Ev R (.ret [.b (gt n lo hi)]) ks t ρ L:=bo (apA n lo hi)
def zq(n:Int)(u:Bool)(lo hi:Int):Bool:=if u then gt n lo hi else n==0
def apB(n lo hi:Int)(u:Bool):TB.Ev 154 [.i n,.b u,.i lo,.i hi] (.ret [.b (zq n u lo hi)]):=by
 refine iJ rfl rfl (.inl rfl) ?_;simp[Zo,zq]
 grind
@[simp] def awa (n lo hi:Int) (u:Bool):eP TB.Ev R 154 [.i n,.b u,.i lo,.i hi] ks t ρ L=eX TB.Ev R (.ret [.b (zq n u lo hi)]) ks t ρ L:=bo (apB n lo hi u)
def apC(a b:Nat):TB.Ev 275 [.i a,.i b] (.ret [.i (ayR a b)]):=by
 refine iJ rfl rfl (.inl rfl) ?_;simp[Ze];split;rename_i Z;simp[Z];rename_i Z;refine Bz (λxs=>∃d x y:Nat,xs=[.i d,.i x,.i y]/\y≠0/\ayR x y=ayR a b/\(x=0->d=ayR a b)) (λxs=>(xi xs 2).toNat) ⟨b,a,b,by simp,Z,rfl,λX=>by subst X;simp⟩ ?_;rintro xs ⟨d,x,y,rfl,V,W,X⟩;have U:max (y:Int) 1=y:=by omega
 have Q:bh .rem .u64 (x:Int) (y:Int)=((x%y:Nat):Int):=by
  simp only[bh];rw[azA (by omega)];exact(Int.natCast_emod x y).symm
 simp[xi,U,Q,Bw];split;rename_i P;simp[X P];refine⟨by omega, ?_⟩;split;rename_i N;rw[<-W,azo,aAp,show x%y=0 by omega];simp;refine⟨⟨x,y,x%y,⟨rfl,rfl,by omega⟩,by omega, ?_,λO=>absurd O V⟩, ?_⟩;rw[<-W,azo x y,aAp y x,azo];have:=ayI x (show 0<y by omega);omega
def apD(n:Int)(X:-1073741824<=n)(W:n<=1073741824):TB.Ev 276 [.i n] (.ret [.i n.natAbs]):=by
 refine iJ rfl rfl (.inl rfl) ?_;simp[Zc,bh];have Z:∀x:Int,IntKind.u64.wrap x=x%18446744073709551616:=λx=>rfl
 rw[Z,Z];split<;>omega
def apE(n:Int):TB.Ev 192 [.i n] (.ret [.b false]):=by
 refine iJ rfl rfl (.inl rfl) ?_;simp[Zg]
@[simp] def awb (n:Int):eP TB.Ev R 192 [.i n] ks t ρ L=eX TB.Ev R (.ret [.b false]) ks t ρ L:=bo (apE n)
def apF(a b:Int):TB.Ev 110 [.i a,.i b] (.ret [.i (Rj a b)]):=by
 refine iJ rfl rfl (.inl rfl) ?_;simp[Zf,Rj]
 grind
@[simp] def awc (a b:Int):eP TB.Ev R 110 [.i a,.i b] ks t ρ L=eX TB.Ev R (.ret [.i (Rj a b)]) ks t ρ L:=bo (apF a b)
def apG(n d:Int):TB.Ev 210 [.i n,.i d] (.ret [.i (if jL n d then 0 else 120)]):=by
 refine iJ rfl rfl (.inl rfl) ?_;simp[Zb]
 repeat' split
 any_goals(simp[jL];omega)
 all_goals
  rw[bo (apD n (by omega) (by omega))];have Z:IntKind.u64.wrap d=(d.toNat:Int):=by
   have:IntKind.u64.wrap d=d%18446744073709551616:=rfl;omega
  have X:max d 0=(d.toNat:Int):=by omega
  simp[Z];rw[X,bo (apC n.natAbs d.toNat)];simp[jL] at*;omega
@[simp] def awd (n d:Int):eP TB.Ev R 210 [.i n,.i d] ks t ρ L=eX TB.Ev R (.ret [.i (if jL n d then 0 else 120)]) ks t ρ L:=bo (apG n d)
def ZU(a b c d:Int):Int:=if jL a b&&jL c d then Rj (IntKind.i64.wrap (a*d)) (IntKind.i64.wrap (c*b)) else 0
def apH(a b c d:Int):TB.Ev 142 [.i a,.i b,.i c,.i d] (.ret [.i (ZU a b c d),.i (if jL a b&&jL c d then 0 else 120)]):=by
 refine iJ rfl rfl (.inl rfl) ?_;simp[Za,ZU,bh]
 grind
@[simp] def awe (a b c d:Int):eP TB.Ev R 142 [.i a,.i b,.i c,.i d] ks t ρ L=eX TB.Ev R (.ret [.i (ZU a b c d),.i (if jL a b&&jL c d then 0 else 120)]) ks t ρ L:=bo (apH a b c d)
def e66(a b c d:Int):TB.Ev 66 [.i a,.i b,.i c,.i d] (.ret [.b (cE a b c d)]):=by
 refine iJ rfl rfl (.inl rfl) ?_;simp[Zh,cE]
 grind
@[simp] def c66 (a b c d:Int):eP TB.Ev R 66 [.i a,.i b,.i c,.i d] ks t ρ L=eX TB.Ev R (.ret [.b (cE a b c d)]) ks t ρ L:=bo (e66 a b c d)
def jn(Z:Bool)(x:Int):Int:=if Z then x else 0
def e72(a b c d a' Z X W:Int):TB.Ev 72 [.i a,.i b,.i c,.i d,.i a',.i Z,.i X,.i W] (.ret [.i (jn (cE a b c d&&cE a' Z X W) (min a a')),.i (jn (cE a b c d&&cE a' Z X W) (max b Z)),.i (jn (cE a b c d&&cE a' Z X W) (min c X)),.i (jn (cE a b c d&&cE a' Z X W) (max d W)),.i (if cE a b c d&&cE a' Z X W then 0 else 150)]):=by
 refine iJ rfl rfl (.inl rfl) ?_;simp[Zi,jn]
 grind
@[simp] def c72 (a b c d a' Z X W:Int):eP TB.Ev R 72 [.i a,.i b,.i c,.i d,.i a',.i Z,.i X,.i W] ks t ρ L=eX TB.Ev R (.ret [.i (jn (cE a b c d&&cE a' Z X W) (min a a')),.i (jn (cE a b c d&&cE a' Z X W) (max b Z)),.i (jn (cE a b c d&&cE a' Z X W) (min c X)),.i (jn (cE a b c d&&cE a' Z X W) (max d W)),.i (if cE a b c d&&cE a' Z X W then 0 else 150)]) ks t ρ L:=bo (e72 a b c d a' Z X W)
def e69(a b c d:Int):TB.Ev 69 [.i a,.i b,.i c,.i d] (.ret [.b (cE a b c d)]):=by
 refine iJ rfl rfl (.inl rfl) ?_;simp[Zj]
 grind
@[simp] def c69 (a b c d:Int):eP TB.Ev R 69 [.i a,.i b,.i c,.i d] ks t ρ L=eX TB.Ev R (.ret [.b (cE a b c d)]) ks t ρ L:=bo (e69 a b c d)
def BA(a b c d a' Z X W:Int):Bool:=decide (a'<=a)&&decide (b<=Z)&&decide (X<=c)&&decide (d<=W)
def e24(a b c d a' Z X W:Int):TB.Ev 24 [.i a,.i b,.i c,.i d,.i a',.i Z,.i X,.i W] (.ret [.b (cE a b c d&&cE a' Z X W&&BA a b c d a' Z X W),.i (if cE a b c d&&cE a' Z X W then 0 else 150)]):=by
 refine iJ rfl rfl (.inl rfl) ?_;simp[Zl,BA]
 grind
@[simp] def c24 (a b c d a' Z X W:Int):eP TB.Ev R 24 [.i a,.i b,.i c,.i d,.i a',.i Z,.i X,.i W] ks t ρ L=eX TB.Ev R (.ret [.b (cE a b c d&&cE a' Z X W&&BA a b c d a' Z X W),.i (if cE a b c d&&cE a' Z X W then 0 else 150)]) ks t ρ L:=bo (e24 a b c d a' Z X W)
def e26(a b c d a' Z X W:Int):TB.Ev 26 [.i a,.i b,.i c,.i d,.i a',.i Z,.i X,.i W] (.ret [.b (cE a b c d&&cE a' Z X W&&uY a b c d a' Z X W),.i (if cE a b c d&&cE a' Z X W then 0 else 150)]):=by
 refine VD ?_;simp only[TB,DZ,Rh,if_true];cases V:cE a b c d&&cE a' Z X W<;>simp[V]
@[simp] def c26 (a b c d a' Z X W:Int):eP TB.Ev R 26 [.i a,.i b,.i c,.i d,.i a',.i Z,.i X,.i W] ks t ρ L=eX TB.Ev R (.ret [.b (cE a b c d&&cE a' Z X W&&uY a b c d a' Z X W),.i (if cE a b c d&&cE a' Z X W then 0 else 150)]) ks t ρ L:=bo (e26 a b c d a' Z X W)
def apN(a b c d a' Z X W:Int):TB.Ev 181 [.i a,.i b,.i c,.i d,.i a',.i Z,.i X,.i W] (.ret [.b (!(cE a b c d&&cE a' Z X W&&uY a b c d a' Z X W))]):=by
 refine iJ rfl rfl (.inl rfl) ?_;simp[ZC]
@[simp] def awk (a b c d a' Z X W:Int):eP TB.Ev R 181 [.i a,.i b,.i c,.i d,.i a',.i Z,.i X,.i W] ks t ρ L=eX TB.Ev R (.ret [.b (!(cE a b c d&&cE a' Z X W&&uY a b c d a' Z X W))]) ks t ρ L:=bo (apN a b c d a' Z X W)
def uZ(a b c d x y:Int):Int:=if !cE a b c d then 150 else if !(decide (-2199023255552<=x)&&decide (x<=2199023255552)&&decide (-2199023255552<=y)&&decide (y<=2199023255552)) then 2 else if cE (IntKind.i64.wrap (a+x)) (IntKind.i64.wrap (b+x)) (IntKind.i64.wrap (c+y)) (IntKind.i64.wrap (d+y)) then 0 else 2
def apO(a b c d x y:Int):TB.Ev 133 [.i a,.i b,.i c,.i d,.i x,.i y] (.ret [.i (jn (uZ a b c d x y==0) (IntKind.i64.wrap (a+x))),.i (jn (uZ a b c d x y==0) (IntKind.i64.wrap (b+x))),.i (jn (uZ a b c d x y==0) (IntKind.i64.wrap (c+y))),.i (jn (uZ a b c d x y==0) (IntKind.i64.wrap (d+y))),.i (uZ a b c d x y)]):=by
 refine iJ rfl rfl (.inl rfl) ?_;simp[Zk,jn,bh]
 repeat' split
 all_goals(simp_all[uZ])
 all_goals grind
@[simp] def awl (a b c d x y:Int):eP TB.Ev R 133 [.i a,.i b,.i c,.i d,.i x,.i y] ks t ρ L=eX TB.Ev R (.ret [.i (jn (uZ a b c d x y==0) (IntKind.i64.wrap (a+x))),.i (jn (uZ a b c d x y==0) (IntKind.i64.wrap (b+x))),.i (jn (uZ a b c d x y==0) (IntKind.i64.wrap (c+y))),.i (jn (uZ a b c d x y==0) (IntKind.i64.wrap (d+y))),.i (uZ a b c d x y)]) ks t ρ L:=bo (apO a b c d x y)
end
structure Sl(v:RV):Prop where
 sl:∃a n c,v.val=.slice a n c
 len:lenOf v.val=v.rows.length
 sm:v.rows.length<=140737488355328
def ci(v:RV)(i j:Nat):Int:=ba (cellAt v.rows i j).val
def cb(v:RV)(i j:Nat):Bool:=jm (cellAt v.rows i j).val
def vc(n:Nat)(J:Nat->List XV->Prop):List XV->Prop
 |.i j::rest=>∃i:Nat,j=i/\i<=n/\J i rest
 |_=>False
def tw(n:Nat):List XV->Nat
 |.i j::_=>n-j.toNat
 |_=>0
section
variable{H:FuncId->List XV->aV->Prop}{R:aV->Prop}{ρ:aa}{L:List PC}
def cd{al:Nat}{ks:List LK}{X:List SV}{t:T}(n:Nat)(J:Nat->List XV->Prop)(W:vc n J (X.map (SV.xv ρ)))(h:∀(i:Nat) rest,i<=n->J i rest->t.wp H R (ρ.ext (.i i::rest)) (⟨al,vc n J,tw n,n-i⟩::L)):T.wp H R (.loop al ks X t) ρ L:=by
 refine Bz (vc n J) (tw n) W λxs Z=> ?_
 match xs,Z with
 |.i j::rest,Z=>
  obtain⟨i,rfl,V,U⟩:=Z;have:=h i rest V U;simpa[tw] using this
def iK{n:Int}(Z:-9223372036854775808<=n)(X:n<9223372036854775808):IntKind.i64.wrap n=n:=by
 rw[IntKind.wrap_i64];omega
def BB{i:Nat}(h:i<=140737488355328):bh .add .i64 (i:Int) 1=((i+1:Nat):Int):=by
 simp only[bh];rw[iK (by omega) (by omega)];omega
def bF{al n:Nat}{J:Nat->List XV->Prop}{i:Nat}{rest:List XV}(hi:i<n)(Z:n<=140737488355328):ZT (some ⟨al,vc n J,tw n,n-i⟩) (.i (bh .add .i64 (i:Int) 1)::rest)=J (i+1) rest:=by
 rw[BB (by omega)];refine propext ⟨λh=> ?_,λh=>⟨⟨i+1,rfl,by omega,h⟩, ?_⟩⟩;obtain⟨⟨k,X,_,h⟩,_⟩:=h;have:k=i+1:=by omega
 exact this▸h;simp only[tw];omega
end
end
inductive KX where
 |i
 |b
 |r
 deriving DecidableEq
def LK.kx:LK->KX
 |.int _=>.i
 |.bool=>.b
 |.ref _=>.r
def XV.kx:XV->KX
 |.i _=>.i
 |.b _=>.b
 |.r _=>.r
def SV.kx:SV->KX
 |.bool _=>.b
 |.ref _=>.r
 |_=>.i
abbrev ZV:=FuncId->Option (List KX×List KX)
def ZV.ok(n7:ZV):Prop:=∀f p r,n7 f=some (p,r)->∀xs,xs.map XV.kx=p->∃ys,TB.Ev f xs (.ret ys)/\ys.map XV.kx=r
def isTrue:BE->Bool
 |.c b=>b
 |_=>false
def T.n7(n7:ZV)(r:List KX):T->Bool
 |.ret v _ _=>decide ((sf v).map SV.kx=r)
 |.node _ t f=>t.n7 n7 r&&f.n7 n7 r
 |.az b t=>isTrue b&&t.n7 n7 r
 |.call f args _ _ ks _ t=>decide (n7 f=some ((nD args).map SV.kx,ks.map LK.kx))&&t.n7 n7 r
 |.new _ _ _ _ t=>t.n7 n7 r
 |.rows _ _ _ t=>t.n7 n7 r
 |_=>false
section
def D0{f:FuncId}{xs:List XV}{P:Int->Prop}(h:∃o,TB.Ev f xs o/\∃e,o=.ret [.i e]/\P e):TB.Ev f xs (.ret [.i (oi f xs 0)])/\P (oi f xs 0):=by
 obtain⟨o,Z,e,rfl,X⟩:=h;have:oi f xs 0=e:=by simp only[oi,HQ Z];rfl
 rw[this];exact⟨Z,X⟩
def ZW{f:FuncId}{xs:List XV}{P:Bool->Prop}(h:∃o,TB.Ev f xs o/\∃e,o=.ret [.b e]/\P e):TB.Ev f xs (.ret [.b (ob f xs 0)])/\P (ob f xs 0):=by
 obtain⟨o,Z,e,rfl,X⟩:=h;have:ob f xs 0=e:=by simp only[ob,HQ Z];rfl
 rw[this];exact⟨Z,X⟩
structure vd(roles bars:Int)(c:Nat->Int):Prop where
 kind:1<=c 4/\c 4<=9
 aQ:0<=c 1/\c 1<roles
 ae:0<=c 2/\c 2<bars
 mark:1<=c 3/\c 3<=3
 side:if c 4=1\/c 4=3\/c 4=4\/c 4=9 then 1<=c 5/\c 5<=2 else c 5=0
 dir:if c 4=1\/c 4=2 then 1<=c 6/\c 6<=8 else if c 4=3\/c 4=4\/c 4=5 then 0<=c 6/\c 6<=8 else c 6=0
 apP:if c 4=3\/c 4=4\/c 4=5\/c 4=9 then 1<=c 7/\c 7<=3 else c 7=0
 size:if c 4=1\/c 4=2 then 1<=c 8/\c 8<=16 else if c 4=6 then 1<=c 8/\c 8<=7 else c 8=0
 wth:if c 4=7\/c 4=8 then 1<=c 9/\c 9<=roles else c 9=0
 from_:jL (c 10) (c 11)=true
 to:jL (c 12) (c 13)=true
section
variable{R:aV->Prop}{ks:List LK}{t:T}{ρ:aa}{L:List PC}
def fJ(c:Nat->Int):List XV:=[.i (c 0),.i (c 1),.i (c 2),.i (c 3),.i (c 4),.i (c 5),.i (c 6),.i (c 7),.i (c 8),.i (c 9),.i (c 10),.i (c 11),.i (c 12),.i (c 13)]
def kT(k:Int)(j:Nat):RV:=cellAt (py[0]?.getD default).rows k j
def apQ{c:Nat->Int}{Z X:Int}(O:1<=c 4/\c 4<=9)(N:0<=c 1/\c 1<=Z-1)(M:0<=c 2/\c 2<=X-1)(J:1<=c 3/\c 3<=3)(W:zq (c 5) (jm (kT (c 4) 0).val) 1 2=true)(V:zq (c 6) (jm (kT (c 4) 1).val) (ba (kT (c 4) 3).val) 8=true)(U:zq (c 7) (decide (0<ba (kT (c 4) 4).val)) 1 (ba (kT (c 4) 4).val)=true)(Q:zq (c 8) (decide (0<ba (kT (c 4) 5).val)) 1 (ba (kT (c 4) 5).val)=true)(P:zq (c 9) (jm (kT (c 4) 2).val) 1 Z=true)
  (I:jL (c 10) (c 11)=true)(H:jL (c 12) (c 13)=true):vd Z X c:=by
 have:c 4=1\/c 4=2\/c 4=3\/c 4=4\/c 4=5\/c 4=6\/c 4=7\/c 4=8\/c 4=9:=by omega
 rcases this with h|h|h|h|h|h|h|h|h
 all_goals
  simp[h,kT,py,uo,bV,iV,cellAt,zq,jm,ba] at W V U Q P;constructor<;>(first|omega|assumption|(simp[h];done)|(simp[h];omega))
set_option maxHeartbeats 2000000 in
def t84 (c:Nat->Int) (Z X:Int) (Q:-1000<=Z/\Z<=1000000) (P:-1000<=X/\X<=1000000):∃o,TB.Ev 84 (fJ c++[.i Z,.i X]) o/\∃b,o=.ret [.b b]/\(b=true->vd Z X c):=by
 refine eA rfl rfl (.inl rfl) ?_;have W:bh .sub .i64 Z 1=Z-1:=by simp only[bh];rw[iK (by omega) (by omega)]
 have V:bh .sub .i64 X 1=X-1:=by simp only[bh];rw[iK (by omega) (by omega)]
 have U:lenOf (py[0]?.getD default).val=10:=rfl;simp[Y5,fJ,W,V,U]
 repeat' split
 all_goals(try simp)
 all_goals(intros;refine⟨by omega, ?_⟩;intros;apply apQ<;>(first|assumption|omega|grind))
def f84(c:Nat->Int)(Z X:Int)(W:-1000<=Z/\Z<=1000000)(V:-1000<=X/\X<=1000000):TB.Ev 84 (fJ c++[.i Z,.i X]) (.ret [.b (ob 84 (fJ c++[.i Z,.i X]) 0)])/\(ob 84 (fJ c++[.i Z,.i X]) 0=true->vd Z X c):=ZW (t84 c Z X W V)
def ZX{a b:Int}(h:b≠0):(a.tmod b).natAbs<b.natAbs:=by
 rw[azp];exact ayI _ (by omega)
def apT(a b c:Int)(U:1<=c)(Q:c<=32768)(P:-c<=a/\a<=c)(O:-c<=b/\b<=c):∃o,TB.Ev 153 [.i a,.i b,.i c] o/\∃x y z,o=.ret [.i x,.i y,.i z]:=by
 refine eA rfl rfl (.inl rfl) ?_;simp[ZL];refine Bz (λxs=>∃n d:Int,xs=[.i n,.i d]∧-c<=n/\n<=c∧-c<=d/\d<=c) (λxs=>(xi xs 0).natAbs) ⟨a,0,rfl,by omega,by omega,by omega,by omega⟩ ?_;rintro _ ⟨n,d,rfl,Z,X,W,V⟩;simp[xi,Bw,bh];split
 case isFalse h=>
  have:=ZX (a:=d) h;refine⟨h,⟨_,_,⟨rfl,rfl⟩, ?_⟩,by rw[<-azp];exact this⟩;omega
 refine Bz (λxs=>∃n d:Int,xs=[.i n,.i d]∧-c<=n/\n<=c∧-c<=d/\d<=c) (λxs=>(xi xs 0).natAbs) ⟨b,d,rfl,by omega,by omega,by omega,by omega⟩ ?_;rintro _ ⟨n,d,rfl,Z,X,W,V⟩;simp[xi,Bw,bh];split
 case isFalse h=>
  have:=ZX (a:=d) h;refine⟨h,⟨_,_,⟨rfl,rfl⟩, ?_⟩,by rw[<-azp];exact this⟩;omega
 refine Bz (λxs=>∃n d:Int,xs=[.i n,.i d]∧-c<=n/\n<=c∧-c<=d/\d<=c/\(n≠0\/d≠0)) (λxs=>(xi xs 0).natAbs) ⟨c,d,rfl,by omega,by omega,by omega,by omega,by omega⟩ ?_;rintro _ ⟨n,d,rfl,Z,X,W,V,N⟩;simp[xi,Bw,bh];split
 case isFalse h=>
  have:=ZX (a:=d) h;refine⟨h,⟨_,_,⟨rfl,rfl⟩, ?_⟩,by rw[<-azp];exact this⟩;omega
 have:IntKind.i64.wrap (-d)=-d:=iK (by omega) (by omega);simp[this];omega
def t83(a b c:Int):∃o,TB.Ev 83 [.i a,.i b,.i c] o/\∃e,o=.ret [.i e]/\True:=by
 refine eA rfl rfl (.inl rfl) ?_;simp[ZM];intro W V Z U Q;have X:bh .sub .i64 0 c=-c:=by simp only[bh];rw[iK (by omega) (by omega)];omega
 rw[X] at Z;obtain⟨o,h,x,y,z,rfl⟩:=apT a b c (by omega) (by omega) (by omega) (by omega);rw[bo h];simp
@[simp] def c83 (a b c:Int):eP TB.Ev R 83 [.i a,.i b,.i c] ks t ρ L=eX TB.Ev R (.ret [.i (oi 83 [.i a,.i b,.i c] 0)]) ks t ρ L:=bo (D0 (t83 a b c)).1
structure HR(tp:RV):Prop where
 sl:Sl tp
 pos:0<tp.rows.length
 zero:ci tp 0 0=0
def aiU{i j:Nat}(h:j<=140737488355328)(hi:i<=j):IntKind.i64.wrap (bh .shr .u64 (IntKind.u64.wrap (bh .add .i64 (i:Int) (j:Int))) 1)=(((i+j)/2:Nat):Int):=by
 simp only[bh];rw[iK (n:=(i:Int)+j) (by omega) (by omega)];rw[show IntKind.u64.wrap ((i:Int)+j)=(i:Int)+j by rw[IntKind.wrap_u64];omega];have:((i:Int)+j).fdiv (2^min (1:Int).toNat IntKind.u64.bits)=(((i+j)/2:Nat):Int):=by
  have Z:(2:Int)^min (1:Int).toNat IntKind.u64.bits=2:=rfl;rw[Z,azB _ (by omega)];omega
 rw[this,iK (by omega) (by omega)]
def apV(V ae:Int)(Z ps sp:RV)(h:HR Z)(M:0<=ae):∃o,TB.Ev 220 [.i V,.r Z,.r ps,.r sp,.i ae] o/\∃e,o=.ret [.i e]/\True:=by
 refine eA rfl rfl (.inl rfl) ?_;simp[Zq,h.sl.len];have J:=h.pos;have I:=h.sl.sm;refine Bz (λxs=>∃i j:Nat,xs=[.i i,.i j]/\i<=j/\j<=Z.rows.length/\(j=Z.rows.length\/ae<ci Z j 0)) (λxs=>(xi xs 1-xi xs 0).toNat) ⟨0,Z.rows.length,by simp[h.sl.len],by omega,by omega,.inl rfl⟩ ?_;rintro _ ⟨i,j,rfl,U,H,X⟩;simp[xi,Bw,h.sl.len,aiU (show j<=140737488355328 by omega) U];split;rename_i Q;refine⟨by omega, ?_⟩;have P:((i:Int)+j)/2=(((i+j)/2:Nat):Int):=by omega
 have O:=BB (i:=(i+j)/2) (by omega);rw[P,O];split;refine⟨⟨(i+j)/2+1,j,⟨rfl,rfl⟩,by omega,by omega,X⟩,by omega⟩;rename_i W;refine⟨⟨i,(i+j)/2,⟨rfl,rfl⟩,by omega,by omega,.inr ?_⟩,by omega⟩;simp only[ci];omega;rename_i Q;have N:i=j:=by omega
 subst N;have:1<=i:=by
  rcases axT i with rfl|W;have:=h.zero;rcases X with X|X<;>omega;exact W
 rw[show bh .sub .i64 (i:Int) 1=(i:Int)-1 by simp only[bh];rw[iK (by omega) (by omega)]];omega
def aiV(X ae:Int)(Z ps sp:RV)(h:HR Z)(W:0<=ae):eP TB.Ev R 220 [.i X,.r Z,.r ps,.r sp,.i ae] ks t ρ L=eX TB.Ev R (.ret [.i (oi 220 [.i X,.r Z,.r ps,.r sp,.i ae] 0)]) ks t ρ L:=bo (D0 (apV X ae Z ps sp h W)).1
end
end
section
def aH(rows:List (List RV)):RV:=.mk (.slice none rows.length rows.length) rows
@[simp] def awn (x:LE) (ρ:aa):fb x ρ=aH (x.rows ρ):=rfl
@[simp] def awo (r:List (List RV)):(aH r).rows=r:=rfl
@[simp] def awp (r:List (List RV)):lenOf (aH r).val=r.length:=rfl
@[simp] def aiW:RV.mk (.slice none 0 0) []=aH []:=rfl
def ZY{r:List (List RV)}(h:r.length<=140737488355328):Sl (aH r):=⟨⟨_,_,_,rfl⟩,rfl,h⟩
attribute[simp] LE.rows SV.bp
def HS(c:Nat->Int):List RV:=[.mk (.int .i64 (c 0)) [],.mk (.int .i64 (c 1)) [],.mk (.int .i64 (c 2)) [],.mk (.int .i64 (c 3)) [],.mk (.int .i64 (c 4)) [],.mk (.int .i64 (c 5)) [],.mk (.int .i64 (c 6)) [],.mk (.int .i64 (c 7)) [],.mk (.int .i64 (c 8)) [],.mk (.int .i64 (c 9)) [],.mk (.int .i64 (c 10)) [],.mk (.int .i64 (c 11)) [],.mk (.int .i64 (c 12)) [],.mk (.int .i64 (c 13)) []]
def aiX{lt:List RV->List RV->Bool}{x:List RV}:∀{l:List (List RV)},(cQ lt x l).Perm (x::l)
 |[]=>azu _
 |y::r=>by
  simp only[cQ];split;exact azu _;exact((aiX (l:=r)).cons y).trans (aAr x y r)
def aiY{lt:List RV->List RV->Bool}:∀(l acc:List (List RV)),(l.foldl (λacc x=>cQ lt x acc) acc).Perm (acc++l)
 |[],acc=>by simp
 |x::l,acc=>by
  simp only[ax4];refine(aiY l _).trans ?_;refine(List.Perm.append_right l aiX).trans ?_;rw[awV];exact List.perm_middle.symm
def zr{lt:List RV->List RV->Bool}(l:List (List RV)):(be lt l).Perm l:=by
 have:=aiY (lt:=lt) l [];simpa[be] using this
def pX(rows:List (List RV)):Prop:=rows.Pairwise λx y=>aK 0 x≠aK 0 y
def pX.perm{l Z:List (List RV)}(h:pX l)(X:Z.Perm l):pX Z:=(X.symm.pairwise_iff (λ{x y} h=>h.symm)).1 h
def aiZ:∀{rows:List (List RV)},pX rows->pi (aJ.lex [0] false).lt rows=true
 |[],_=>rfl
 |x::r,h=>by
  simp only[pX,aw2] at h;simp only[pi,awF,awU,aw9];refine⟨λy X=> ?_,aiZ h.2⟩;have Z:¬aK 0 x=aK 0 y:=h.1 y X;have V:¬aK 0 y=aK 0 x:=λe=>Z e.symm
  simp only[aJ.lt,fz,if_neg Z,if_neg V,aw0,if_false,decide_eq_true_eq];omega
def ai0{Z:Bool}{rows:List (List RV)}(X:rows.length<=1099511627776)(h:pX rows):dw (.lex [0] false) Z rows=some (be (aJ.lex [0] false).lt rows):=by
 simp only[dw];rw[if_pos (by simp[X,aiZ h,aJ.ok])]
def apW{rows:List (List RV)}(Z:rows.length<=1099511627776)(h:∀x∈rows,jL (aK 10 x) (aK 11 x)=true):dw (.ratio 10 11) true rows=some (be (aJ.ratio 10 11).lt rows):=by
 simp only[dw];rw[if_pos (by simp only[awF,decide_eq_true_eq,aAa,and_true];exact⟨Z,awU.2 h⟩)]
structure vf(W D u:Int)(rl tp sg:RV):Prop where
 nr:1<=rl.rows.length/\rl.rows.length<=64
 ns:sg.rows.length<=4096
 br:1<=u/\u<=4096
 wd:1<=W/\W<=1000/\1<=D/\D<=1000
 tp:HR tp
 Lw:∀i<sg.rows.length,vd rl.rows.length u (ci sg i)
 id:∀i<sg.rows.length,0<=ci sg i 0/\ci sg i 0<=1048576
 ids:∀i j,i<j->j<sg.rows.length->ci sg i 0<ci sg j 0
structure iL(rl tp ps sp sg:RV):Prop where
 rl:Sl rl
 tp:Sl tp
 ps:Sl ps
 sp:Sl sp
 sg:Sl sg
section
variable{R:aV->Prop}{ks:List LK}{t:T}{ρ:aa}{L:List PC}
variable(W D A B C u:Int)(rl tp ps sp sg:RV)
def wk:List XV:=[.i W,.i D,.i A,.i B,.i C,.r rl,.i u,.r tp,.r ps,.r sp,.r sg]
def rz:Prop:=∀(u:Int)(tp ps sp:RV),Sl tp->Sl ps->Sl sp->TB.Ev 81 [.i u,.r tp,.r ps,.r sp] (.ret [.i (oi 81 [.i u,.r tp,.r ps,.r sp] 0)])/\(oi 81 [.i u,.r tp,.r ps,.r sp] 0=0->HR tp/\1<=u/\u<=4096)
def t37(N:rz)(h:iL rl tp ps sp sg):∃o,TB.Ev 37 (wk W D A B C u rl tp ps sp sg) o/\∃e,o=.ret [.i e]/\(e=0->vf W D u rl tp sg):=by
 refine eA rfl rfl (.inl rfl) ?_;obtain⟨M,J⟩:=N u tp ps sp h.tp h.ps h.sp;simp[Zy,wk,h.rl.len,h.sg.len,bo M]
 repeat'(first|intro _|split)
 any_goals(exfalso;omega)
 obtain⟨I,v,s⟩:=J (by assumption);refine cd rl.rows.length (λ_ rest=>rest=[]) ⟨0,rfl,by omega,rfl⟩ ?_;rintro i _ hi rfl;simp[h.rl.len,h.sg.len];split;rename_i hi;simp[bF hi h.rl.sm,hi];refine cd sg.rows.length (λi rest=>∃X:Int,rest=[.i X]∧-1<=X/\(∀k<i,vd rl.rows.length u (ci sg k)/\0<=ci sg k 0/\ci sg k 0<=X/\ci sg k 0<=1048576)/\∀j k,j<k->k<i->ci sg j 0<ci sg k 0) ⟨0,rfl,by omega,-1,rfl,by omega,by omega,by omega⟩ ?_;rintro j _ U ⟨X,rfl,r,Z,Q⟩;simp[h.rl.len,h.sg.len];split;rename_i U;refine⟨U,λq p=> ?_⟩;obtain⟨P,V⟩:=f84 (ci sg j) rl.rows.length u (by omega) (by omega);simp only[fJ,ci,awV,awX] at P V;rw[bo P];simp[bF U h.sg.sm];intro H;have V:=V H;refine⟨by omega,λk n=> ?_,λa b O m=> ?_⟩;by_cases G:k=j;subst G;refine⟨V, ?_, ?_, ?_⟩<;>simp only[ci]<;>omega;obtain⟨F,E,z,y⟩:=Z k (by omega);exact⟨F,E,by simp only[ci] at z⊢;omega,y⟩;by_cases x:b=j;subst x;have:=(Z a O).2.2.1;simp only[ci] at this⊢;omega;exact Q a b O (by omega);have w:j=sg.rows.length:=by omega
 subst w;have l:rl.rows.length≠0:=λe=>absurd (axp.1 e) (by assumption)
 exact⟨by omega,by omega,by omega,by omega,I,λi hi=>(Z i hi).1,λi hi=>⟨(Z i hi).2.1,(Z i hi).2.2.2⟩,Q⟩
end
end
section
section
variable{R:aV->Prop}{ks:List LK}{t:T}{ρ:aa}{L:List PC}
variable(W D A B C I:Int)(H J ps sp u:RV)
@[simp] def HT (c:Nat->Int) (j:Nat) (h:j<14):aK j (HS c)=c j:=by
 match j,h with
 |0,_|1,_|2,_|3,_|4,_|5,_|6,_|7,_|8,_|9,_|10,_|11,_|12,_|13,_=>rfl
def pY(u:RV)(aQ ae:Int):Nat->List (List RV)
 |0=>[]
 |i+1=>pY u aQ ae i++(if ci u i 1=aQ/\ci u i 2=ae then[HS (ci u i)] else[])
def Rk{aQ ae:Int}:∀i,(pY u aQ ae i).length<=i
 |0=>by simp[pY]
 |i+1=>by
  have:=Rk (aQ:=aQ) (ae:=ae) i;simp only[pY,awQ];split<;>simp<;>omega
def Rl{aQ ae:Int}{x:List RV}:∀{i},x∈pY u aQ ae i<->∃k<i,x=HS (ci u k)/\ci u k 1=aQ/\ci u k 2=ae
 |0=>by simp[pY]
 |i+1=>by
  simp only[pY,awR,Rl (i:=i)];constructor;rintro(⟨k,V,Z⟩|h);exact⟨k,by omega,Z⟩;split at h;rename_i U;simp at h;exact⟨i,by omega,h,U⟩;simp at h;rintro⟨k,V,Z,X⟩;by_cases Q:k=i;subst Q;right;rw[if_pos X];simp[Z];exact .inl ⟨k,by omega,Z,X⟩
def ai1{aQ ae:Int}(h:∀i j,i<j->j<u.rows.length->ci u i 0<ci u j 0):∀{i},i<=u.rows.length->pX (pY u aQ ae i)
 |0,_=>axt
 |i+1,hi=>by
  simp only[pY,pX,aw8];refine⟨ai1 h (by omega),by split<;>simp,λx X y Z=> ?_⟩;obtain⟨k,V,rfl,-⟩:=(Rl u).1 X;split at Z;simp at Z;subst Z;rw[HT _ _ (by omega),HT _ _ (by omega)];have:=h k i V (by omega);omega;simp at Z
def jE:Int:=oi 37 (wk W D A B C I H J ps sp u) 0
def jc(aQ ae:Int):Int:=if jE W D A B C I H J ps sp u=0 then(if gt aQ 0 (H.rows.length-1)&&gt ae 0 (I-1) then 0 else 1) else jE W D A B C I H J ps sp u
def cm(aQ ae:Int):List (List RV):=if jc W D A B C I H J ps sp u aQ ae=0 then be (aJ.ratio 10 11).lt (pY u aQ ae u.rows.length) else[]
def xf(Z:rz)(h:iL H J ps sp u):TB.Ev 37 (wk W D A B C I H J ps sp u) (.ret [.i (jE W D A B C I H J ps sp u)])/\(jE W D A B C I H J ps sp u=0->vf W D I H J u):=D0 (t37 W D A B C I H J ps sp u Z h)
def D3(N:rz)(h:iL H J ps sp u)(aQ ae:Int):TB.Ev 77 (wk W D A B C I H J ps sp u++[.i aQ,.i ae]) (.ret [.r (aH (cm W D A B C I H J ps sp u aQ ae)),.i (jc W D A B C I H J ps sp u aQ ae)]):=by
 refine iJ rfl rfl (.inl rfl) ?_;obtain⟨X,M⟩:=xf W D A B C I H J ps sp u N h;simp only[wk] at X;simp[ZE,wk,h.rl.len,h.sg.len,bo X];split
 case isFalse Z=>
  simp[cm,jc,Z]
 rename_i Z;have V:=M Z;have y:=V.nr;have w:=V.br;rw[show bh .sub .i64 (H.rows.length:Int) 1=H.rows.length-1 by simp only[bh];rw[iK (by omega) (by omega)],show bh .sub .i64 I 1=I-1 by simp only[bh];rw[iK (by omega) (by omega)]];split
 case isFalse U=>
  simp[cm,jc,Z,U]
 rename_i U;split
 case isFalse P=>
  simp[cm,jc,Z,U,P]
 rename_i P;refine cd u.rows.length (λi rest=>rest=[.r (aH (pY u aQ ae i))]) ⟨0,rfl,by omega,rfl⟩ ?_;rintro i _ hi rfl;have bg:=Rk u (aQ:=aQ) (ae:=ae) i;have v:=V.ns;simp[h.sg.len];split;rename_i hi;simp[bF hi h.sg.sm,pY,ci,hi];have s:(pY u aQ ae i).length<=536870912:=by omega
 split;rename_i Q;split;rename_i O;simp[Q,O,HS,ci];omega;rename_i O;simp[Q,O];rename_i Q;simp[Q];have G:i=u.rows.length:=by omega
 subst G;have F:=apW (rows:=pY u aQ ae u.rows.length) (by have:=Rk u (aQ:=aQ) (ae:=ae) u.rows.length;have:=h.sg.sm;omega) (λx E=>by
  obtain⟨k,X,rfl,-⟩:=(Rl u).1 E;rw[HT _ _ (by omega),HT _ _ (by omega)];exact(V.Lw k X).from_)
 simp only[By,pV];refine⟨_,F, ?_⟩;have z:jc W D A B C I H J ps sp u aQ ae=0:=by simp[jc,Z,U,P]
 simp[cm,z,aH,kC]
def ai2{aQ ae:Int}(U:jE W D A B C I H J ps sp u=0->vf W D I H J u){x:List RV}(Z:x∈cm W D A B C I H J ps sp u aQ ae):∃k<u.rows.length,x=HS (ci u k)/\ci u k 1=aQ/\ci u k 2=ae/\vd H.rows.length I (ci u k):=by
 unfold cm at Z;split at Z;rename_i X;have Q:jE W D A B C I H J ps sp u=0:=by
  unfold jc at X;split at X;assumption;exact X
 obtain⟨k,V,P,O,N⟩:=(Rl u).1 ((zr _).mem_iff.1 Z);exact⟨k,V,P,O,N,(U Q).Lw k V⟩;simp at Z
def Rm{aQ ae:Int}(X:jE W D A B C I H J ps sp u=0->vf W D I H J u):pX (cm W D A B C I H J ps sp u aQ ae):=by
 unfold cm;split;rename_i Z;have V:jE W D A B C I H J ps sp u=0:=by
  unfold jc at Z;split at Z;assumption;exact Z
 exact(ai1 u (X V).ids (awN _)).perm (zr _);exact axt
def Lx{aQ ae:Int}(X:jE W D A B C I H J ps sp u=0->vf W D I H J u):(cm W D A B C I H J ps sp u aQ ae).length<=4096:=by
 unfold cm;split;rename_i Z;have V:jE W D A B C I H J ps sp u=0:=by
  unfold jc at Z;split at Z;assumption;exact Z
 rw[kC];have:=Rk u (aQ:=aQ) (ae:=ae) u.rows.length;have:=(X V).ns;omega;simp
end
end
section
section
variable{R:aV->Prop}{ks:List LK}{t:T}{ρ:aa}{L:List PC}
def apY(c:Nat->Int)(x y z:Int)(b:Bool):∃o,TB.Ev 225 (fJ c++[.i x,.i y,.i z,.b b]) o/\∃e,o=.ret [.b e]/\(e=true->x=c 0):=by
 refine eA rfl rfl (.inl rfl) ?_;simp[ZF,fJ]
 repeat' split
 all_goals(intros;grind [gt])
def ai3(c:Nat->Int)(x y z:Int)(b:Bool):TB.Ev 225 (fJ c++[.i x,.i y,.i z,.b b]) (.ret [.b (ob 225 (fJ c++[.i x,.i y,.i z,.b b]) 0)])/\(ob 225 (fJ c++[.i x,.i y,.i z,.b b]) 0=true->x=c 0):=ZW (apY c x y z b)
def ZZ(c:Nat->Int)(r:RV)(k:Nat):List RV:=HS c++[.mk (.int .i64 (ci r k 0)) [],.mk (.int .i64 (ci r k 1)) [],.mk (.int .i64 (ci r k 2)) [],.mk (.bool (cb r k 3)) []]
def bm(rows:List (List RV))(i j:Nat):Int:=ba (cellAt rows i j).val
def tA(l:List (List RV))(r:RV)(n:Nat)(out:List (List RV)):Prop:=out.length=n/\∀i<n,∃k<r.rows.length,out[i]?=some (ZZ (bm l i) r k)/\ci r k 0=bm l i 0
def tA.add{l:List (List RV)}{r:RV}{n:Nat}{out:List (List RV)}(h:tA l r n out){k:Nat}(Z:k<r.rows.length)(hid:ci r k 0=bm l n 0):tA l r (n+1) (out++[ZZ (bm l n) r k]):=by
 refine⟨by simp[h.1],λi hi=> ?_⟩;by_cases X:i=n;subst X;refine⟨k,Z, ?_,hid⟩;rw[awM (by rw[h.1];omega),h.1];simp;obtain⟨W,V,U,Q⟩:=h.2 i (by omega);exact⟨W,V,by rw[awI (by rw[h.1];omega)];exact U,Q⟩
def apZ(l:List (List RV))(r:RV)(X:Sl r)(M:l.length<=4096)(O:pX l)(V:0<l.length):∃o,TB.Ev 155 [.r (aH l),.r r] o/\∃v b,o=.ret [.r (aH v),.b b]/\(b=false->v=[])/\(b=true->tA l r l.length v):=by
 refine eA rfl rfl (.inl rfl) ?_;simp[Rc,X.len];intro U;simp only[By];refine⟨.inl rfl,λ_=> ?_,λh=> ?_,λ_ h=> ?_⟩;simp;refine⟨by omega, ?_⟩;simp only[By,pV];refine⟨_,ai0 (by simp;omega) (by simpa using O), ?_⟩;simp;have J:(be (aJ.lex [0] false).lt l).length=l.length:=kC;refine cd l.length (λi rest=>∃v,rest=[.r (aH v)]/\tA l r i v) ⟨0,rfl,by omega,[],rfl,rfl,by omega⟩ ?_;rintro i _ hi ⟨v,rfl,W⟩;simp;split;rename_i hi;refine⟨hi, ?_⟩;refine cd l.length (λj rest=>rest=[.r (aH v)]) ⟨0,rfl,by omega,rfl⟩ ?_;rintro j _ Z rfl;simp[X.len,kC];intro Z;have I:=W.1;simp[bF Z (show l.length<=140737488355328 by omega),bF hi (show l.length<=140737488355328 by omega),<-U];refine⟨Z,λH=>⟨by omega, ?_⟩⟩;obtain⟨Q,P⟩:=ai3 (bm l i) (ci r j 0) (ci r j 1) (ci r j 2) (cb r j 3);simp only[fJ,bm,ci,cb,awV,awX] at Q P;rw[bo Q];simp[bF Z (show l.length<=140737488355328 by omega),bF hi (show l.length<=140737488355328 by omega),<-U,X.len];intro N;refine⟨Z,by omega, ?_⟩;have:=W.add (k:=j) (by omega) (P N);exact⟨_,rfl,this⟩;have:i=l.length:=by omega
 subst this;exact⟨_,rfl,W⟩;simp at h;simp[h] at V;simp at h;simp[h] at V
def ap0(r:RV)(X:Sl r):TB.Ev 155 [.r (aH []),.r r] (.ret [.r (aH []),.b (r.rows.length==0)]):=by
 refine iJ rfl rfl (.inl rfl) ?_;simp[Rc,X.len];split
 case isFalse h=>
  intro e;simp[e] at h
 rename_i h;have Z:r.rows.length=0:=by omega
 have hsr:dw (aJ.lex [0] false) false []=some []:=rfl;simp only[By,pV];refine⟨.inl rfl,λ_=> ?_,λ_=> ?_,λ_ _=>single (by rw[Z];rfl)⟩
 ·try simp
  try simp only[pV]
  refine⟨_,by simpa using hsr, ?_⟩;refine cd 0 (λi rest=>rest=[.r (aH [])]) ⟨0,rfl,by omega,rfl⟩ ?_;rintro i _ hi rfl;have:i=0:=by omega
  simp[Z,this]
 ·try simp
  try simp only[pV]
  refine⟨_,by simpa using hsr, ?_⟩;refine cd 0 (λi rest=>rest=[.r (aH [])]) ⟨0,rfl,by omega,rfl⟩ ?_;rintro i _ hi rfl;have:i=0:=by omega
  simp[Z,this]
def ai4(l:List (List RV))(r:RV)(Z:Sl r)(X:l.length<=4096)(W:pX l):∃o,TB.Ev 155 [.r (aH l),.r r] o/\∃v b,o=.ret [.r (aH v),.b b]/\(b=false->v=[])/\(b=true->tA l r l.length v):=by
 cases l with
 |nil=>exact⟨_,ap0 r Z,[],r.rows.length==0,rfl,λ_=>rfl,λ_=>⟨rfl,by simp⟩⟩
 |cons x l=>exact apZ (x::l) r Z X W (by simp)
end
end
section
def jT{f:FuncId}{xs:List XV}(ks:List LK)(h:∃o,TB.Ev f xs o/\∃ys,o=.ret ys/\dg ks ys=true):TB.Ev f xs (.ret (pW (out f xs) ks 0)):=by
 obtain⟨o,Z,ys,X,W⟩:=h;exact(shp ks (P:=λ_=>True) ⟨o,Z,ys,X,W,trivial⟩).1
def kI:Nat->List LK
 |0=>[]
 |n+1=>.int .i64::kI n
@[simp] def Ro:kI 0=[]:=rfl
@[simp] def HV (n:Nat):kI (n+1)=.int .i64::kI n:=rfl
section
variable{R:aV->Prop}{ks:List LK}{t:T}{ρ:aa}{L:List PC}
def ap1(a b:Int):∃o,TB.Ev 138 [.i a,.i b] o/\∃ys,o=.ret ys/\dg (kI 2) ys=true:=by
 refine eA rfl rfl (.inl rfl) ?_;simp[Y7]
@[simp] def awq (a b:Int):eP TB.Ev R 138 [.i a,.i b] ks t ρ L=eX TB.Ev R (.ret [.i (oi 138 [.i a,.i b] 0),.i (oi 138 [.i a,.i b] 1)]) ks t ρ L:=bo (jT _ (ap1 a b))
def ap2(a b:Int):∃o,TB.Ev 139 [.i a,.i b] o/\∃ys,o=.ret ys/\dg (kI 4) ys=true:=by
 refine eA rfl rfl (.inl rfl) ?_;simp[Y8]
 repeat'(first|intro _|split)
 have Z:lenOf (py[2]?.getD default).val=8:=rfl;rw[show bh .sub .i64 a 1=a-1 by simp only[bh];exact iK (by omega) (by omega),Z];omega
@[simp] def awr (a b:Int):eP TB.Ev R 139 [.i a,.i b] ks t ρ L=eX TB.Ev R (.ret [.i (oi 139 [.i a,.i b] 0),.i (oi 139 [.i a,.i b] 1),.i (oi 139 [.i a,.i b] 2),.i (oi 139 [.i a,.i b] 3)]) ks t ρ L:=bo (jT _ (ap2 a b))
def ap3(a:Int):∃o,TB.Ev 376 [.i a] o/\∃ys,o=.ret ys/\dg (kI 3) ys=true:=by
 refine eA rfl rfl (.inl rfl) ?_;simp[Y9]
 repeat'(first|intro _|split)
 have Z:lenOf (py[2]?.getD default).val=8:=rfl;rw[show bh .sub .i64 a 1=a-1 by simp only[bh];exact iK (by omega) (by omega),Z];omega
@[simp] def aws (a:Int):eP TB.Ev R 376 [.i a] ks t ρ L=eX TB.Ev R (.ret [.i (oi 376 [.i a] 0),.i (oi 376 [.i a] 1),.i (oi 376 [.i a] 2)]) ks t ρ L:=bo (jT _ (ap3 a))
def ap4(a b c d e f:Int):∃o,TB.Ev 361 [.i a,.i b,.i c,.i d,.i e,.i f] o/\∃ys,o=.ret ys/\dg (kI 2) ys=true:=by
 refine eA rfl rfl (.inl rfl) ?_;simp[Zm]
@[simp] def awt (a b c d e f:Int):eP TB.Ev R 361 [.i a,.i b,.i c,.i d,.i e,.i f] ks t ρ L=eX TB.Ev R (.ret [.i (oi 361 [.i a,.i b,.i c,.i d,.i e,.i f] 0),.i (oi 361 [.i a,.i b,.i c,.i d,.i e,.i f] 1)]) ks t ρ L:=bo (jT _ (ap4 a b c d e f))
def ap5(a b c:Int):∃o,TB.Ev 248 [.i a,.i b,.i c] o/\∃ys,o=.ret ys/\dg (kI 3) ys=true:=by
 refine eA rfl rfl (.inl rfl) ?_;simp[Zn]
@[simp] def awu (a b c:Int):eP TB.Ev R 248 [.i a,.i b,.i c] ks t ρ L=eX TB.Ev R (.ret [.i (oi 248 [.i a,.i b,.i c] 0),.i (oi 248 [.i a,.i b,.i c] 1),.i (oi 248 [.i a,.i b,.i c] 2)]) ks t ρ L:=bo (jT _ (ap5 a b c))
def ap6(s:RV)(b:Int):∃o,TB.Ev 272 [.r s,.i b] o/\∃ys,o=.ret ys/\dg (kI 1) ys=true:=by
 cases Z:s.val with
 |string u=>exact⟨_,VD (by simp only[TB,DZ,Ri,Z];rfl),_,rfl,rfl⟩
 |_=>exact⟨_,VD (by simp only[TB,DZ,Ri,Z];rfl),_,rfl,rfl⟩
@[simp] def awv (s:RV) (b:Int):eP TB.Ev R 272 [.r s,.i b] ks t ρ L=eX TB.Ev R (.ret [.i (oi 272 [.r s,.i b] 0)]) ks t ρ L:=bo (jT _ (ap6 s b))
def ap7(a:Int):∃o,TB.Ev 207 [.i a] o/\∃ys,o=.ret ys/\dg (kI 1) ys=true:=by
 refine eA rfl rfl (.inl rfl) ?_;simp[ZH]
@[simp] def aww (a:Int):eP TB.Ev R 207 [.i a] ks t ρ L=eX TB.Ev R (.ret [.i (oi 207 [.i a] 0)]) ks t ρ L:=bo (jT _ (ap7 a))
def zt(v:RV):Prop:=∃s,v.val=.string s
def Rp(v:RV):zt (dv .str v):=by
 simp only[dv];split<;>exact⟨_,rfl⟩
def ap8(s:RV)(X:zt s):∃o,TB.Ev 135 [.r s] o/\∃ys,o=.ret ys/\dg [.bool] ys=true:=by
 refine eA rfl rfl (.inl rfl) ?_;obtain⟨u,Z⟩:=X;simp[ZD,Z,ql,lenOf];intro W Q;have V:0<u.size:=by
  rcases axT u.size with h|h;exfalso;apply W;have U:u=ByteArray.empty:=by simpa using h
  rw[U,ByteArray.toList,ByteArray.toList.loop];simp;exact h
 refine⟨V,λ_=> ?_⟩;refine cd u.size (λ_ rest=>rest=[]) ⟨0,rfl,by omega,rfl⟩ ?_;rintro i _ hi rfl;simp[Z,lenOf];intro hi;simp[bF hi (show u.size<=140737488355328 by omega),hi]
def ap9(s:RV)(Z:zt s):eP TB.Ev R 135 [.r s] ks t ρ L=eX TB.Ev R (.ret [.b (ob 135 [.r s] 0)]) ks t ρ L:=bo (jT [.bool] (ap8 s Z))
def t74(a0 Z a2 a3 a4 a5 X W V a9 U Q P:Int):∃o,TB.Ev 74 [.i a0,.i Z,.i a2,.i a3,.i a4,.i a5,.i X,.i W,.i V,.i a9,.i U,.i Q,.i P] o/\∃ys,o=.ret ys/\dg (kI 1) ys=true:=by
 refine eA rfl rfl (.inl rfl) ?_;simp[ZK]
def o74(a0 Z a2 a3 a4 a5 X W V a9 U Q P:Int):Int:=oi 74 [.i a0,.i Z,.i a2,.i a3,.i a4,.i a5,.i X,.i W,.i V,.i a9,.i U,.i Q,.i P] 0
@[simp] def c74 (a0 Z a2 a3 a4 a5 X W V a9 U Q P:Int):eP TB.Ev R 74 [.i a0,.i Z,.i a2,.i a3,.i a4,.i a5,.i X,.i W,.i V,.i a9,.i U,.i Q,.i P] ks t ρ L=eX TB.Ev R (.ret [.i (o74 a0 Z a2 a3 a4 a5 X W V a9 U Q P)]) ks t ρ L:=bo (jT _ (t74 a0 Z a2 a3 a4 a5 X W V a9 U Q P))
def t75(s:RV)(V:zt s)(a0 U a2 a3 a4 a5 Q P O a9 N Z X W M J:Int):∃o,TB.Ev 75 [.r s,.i a0,.i U,.i a2,.i a3,.i a4,.i a5,.i Q,.i P,.i O,.i a9,.i N,.i Z,.i X,.i W,.i M,.i J] o/\∃e,o=.ret [.i e]/\(e=0->(1<=Z/\Z<=3)/\(1<=X/\X<=3)/\1<=W/\W<=3):=by
 refine eA rfl rfl (.inl rfl) ?_;simp[ZN,ap9 s V];intros;omega
def HW(s:RV)(a0 Z a2 a3 a4 a5 X W V a9 U Q P O N M:Int):Int:=oi 75 [.r s,.i a0,.i Z,.i a2,.i a3,.i a4,.i a5,.i X,.i W,.i V,.i a9,.i U,.i Q,.i P,.i O,.i N,.i M] 0
def f75(s:RV)(J:zt s)(a0 V a2 a3 a4 a5 U Q P a9 O Z X W N M:Int):TB.Ev 75 [.r s,.i a0,.i V,.i a2,.i a3,.i a4,.i a5,.i U,.i Q,.i P,.i a9,.i O,.i Z,.i X,.i W,.i N,.i M] (.ret [.i (HW s a0 V a2 a3 a4 a5 U Q P a9 O Z X W N M)])/\(HW s a0 V a2 a3 a4 a5 U Q P a9 O Z X W N M=0->(1<=Z/\Z<=3)/\(1<=X/\X<=3)/\1<=W/\W<=3):=D0 (t75 s J a0 V a2 a3 a4 a5 U Q P a9 O Z X W N M)
def Z0(s:RV)(J:zt s)(a0 Z a2 a3 a4 a5 X W V a9 U Q P O N M:Int):eP TB.Ev R 75 [.r s,.i a0,.i Z,.i a2,.i a3,.i a4,.i a5,.i X,.i W,.i V,.i a9,.i U,.i Q,.i P,.i O,.i N,.i M] ks t ρ L=eX TB.Ev R (.ret [.i (HW s a0 Z a2 a3 a4 a5 X W V a9 U Q P O N M)]) ks t ρ L:=bo (f75 s J a0 Z a2 a3 a4 a5 X W V a9 U Q P O N M).1
set_option maxHeartbeats 4000000 in
def t27 (Z X W V U Q P O N M J I H:Int) (s:RV) (G:zt s) (a0 F a2 a3 a4 a5 E D C a9 B A z y x w:Int):∃o,TB.Ev 27 [.i Z,.i X,.i W,.i V,.i U,.i Q,.i P,.i O,.i N,.i M,.i J,.i I,.i H,.r s,.i a0,.i F,.i a2,.i a3,.i a4,.i a5,.i E,.i D,.i C,.i a9,.i B,.i A,.i z,.i y,.i x,.i w] o/\∃ys,o=.ret ys/\dg (kI 5) ys=true:=by
 refine eA rfl rfl (.inl rfl) ?_;simp(config:={maxSteps:=10000000}) [ZJ,Z0 s G]
end
end
section
section
variable{R:aV->Prop}{ks:List LK}{t:T}{ρ:aa}{L:List PC}
variable(W D A B C u:Int)(rl tp ps sp sg:RV)
structure Ly(u:Int)(rl tp ps sp sg:RV):Prop where
 rl:lenOf rl.val<=100
 tp:lenOf tp.val<=64
 ps:lenOf ps.val<=64
 sp:lenOf sp.val<=64
 sg:lenOf sg.val<=5000
def t33:∃o,TB.Ev 33 (wk W D A B C u rl tp ps sp sg) o/\∃b,o=.ret [.b b]/\(b=true->Ly u rl tp ps sp sg):=by
 refine eA rfl rfl (.inl rfl) ?_;by_cases h:lenOf rl.val<=100/\lenOf tp.val<=64/\lenOf ps.val<=64/\lenOf sp.val<=64/\lenOf sg.val<=5000
 ·have Z:Ly u rl tp ps sp sg:=⟨h.1,h.2.1,h.2.2.1,h.2.2.2.1,h.2.2.2.2⟩;simp[Ra,wk,Z];intros
  repeat' split
  all_goals(intros;omega)
 ·have Z:¬Ly u rl tp ps sp sg:=λf=>h ⟨f.rl,f.tp,f.ps,f.sp,f.sg⟩
  simp[Ra,wk,Z];intros
  repeat' split
  all_goals(intros;omega)
def f33:TB.Ev 33 (wk W D A B C u rl tp ps sp sg) (.ret [.b (ob 33 (wk W D A B C u rl tp ps sp sg) 0)])/\(ob 33 (wk W D A B C u rl tp ps sp sg) 0=true->Ly u rl tp ps sp sg):=ZW (t33 W D A B C u rl tp ps sp sg)
def cr(e:TypeId)(v:RV)(i:Nat):RV:=dv (.sl e) (cellAt v.rows i 0)
structure aqf(u:Int)(rl tp ps sp sg wg bd st re:RV):Prop where
 few:Ly u rl tp ps sp sg
 wg:lenOf wg.val<=20
 bd:lenOf bd.val<=100
 st:lenOf st.val<=100
 rel:lenOf re.val<=100
 fp:∀i:Nat,i<lenOf re.val->lenOf (cr 96 re i).val<=100
def aqg(Z:RV)(P:lenOf Z.val<=100)(O:0<=lenOf Z.val){al:Nat}{L:List PC}{ρ:aa}{t:T}{ks:List LK}{X:List SV}
  (V:X.map (SV.xv ρ)=[.i 0])
  (U:∀(i:Nat),i<=lenOf Z.val->(∀k<i,lenOf (cr 96 Z k).val<=100)->t.wp TB.Ev R (ρ.ext [.i i]) (⟨al,vc (lenOf Z.val).toNat (λi rest=>rest=[]/\∀k<i,lenOf (cr 96 Z k).val<=100),tw (lenOf Z.val).toNat,(lenOf Z.val).toNat-i⟩::L)):
  T.wp TB.Ev R (.loop al ks X t) ρ L:=by
 refine cd (lenOf Z.val).toNat (λi rest=>rest=[]/\∀k<i,lenOf (cr 96 Z k).val<=100) (by rw[V];exact⟨0,rfl,by omega,rfl,by omega⟩) ?_;rintro i _ hi ⟨rfl,Q⟩;exact U i (by omega) Q
def t12(V U Q Z:RV)(M:0<=lenOf Z.val):∃o,TB.Ev 12 (wk W D A B C u rl tp ps sp sg++[.r V,.r U,.r Q,.r Z]) o/\∃b,o=.ret [.b b]/\(b=true->aqf u rl tp ps sp sg V U Q Z):=by
 refine eA rfl rfl (.inl rfl) ?_;obtain⟨P,O⟩:=f33 W D A B C u rl tp ps sp sg;simp only[wk] at P O;simp[Zw,wk,bo P];intro X;have X:=O X
 repeat'(first|intro _|split)
 all_goals
  refine aqg Z ?_ M ?_ ?_;omega;rfl;intro i hi N;simp;split;rename_i J;have I:i<(lenOf Z.val).toNat:=by omega
  rw[bF I (by omega)];refine⟨by omega,λH=>⟨rfl,λk G=> ?_⟩⟩;by_cases F:k=i;subst F;simp only[cr];exact H;exact N k (by omega);rename_i J;exact⟨X,by omega,by omega,by omega,by omega,λk G=>N k (by omega)⟩
def e65(V:rz)(h:iL rl tp ps sp sg)(ae:Int):TB.Ev 65 (wk W D A B C u rl tp ps sp sg++[.i ae]) (.ret [.i (if jE W D A B C u rl tp ps sp sg=0 then(if gt ae 0 (u-1) then 0 else 1) else jE W D A B C u rl tp ps sp sg)]):=by
 refine iJ rfl rfl (.inl rfl) ?_;obtain⟨X,U⟩:=xf W D A B C u rl tp ps sp sg V h;simp only[wk] at X;simp[Zv,wk,bo X];split;rename_i Z;have:=(U Z).br;rw[show bh .sub .i64 u 1=u-1 by simp only[bh];rw[iK (by omega) (by omega)]];split<;>simp_all;rename_i Z;simp[Z]
def HX(c:Nat->Int):List XV:=[.i (c 0),.i (c 1),.i (c 2),.i (c 3),.i (c 4),.i (c 5),.i (c 6),.i (c 7)]
def t25(c:Nat->Int)(ae:Int):∃o,TB.Ev 25 (HX c++[.i ae]) o/\∃ys,o=.ret ys/\dg (kI 5) ys=true:=by
 refine eA rfl rfl (.inl rfl) ?_;simp[ZI,HX]
def iM(c:Nat->Int)(ae:Int)(k:Nat):Int:=oi 25 (HX c++[.i ae]) k
def f25(c:Nat->Int)(ae:Int):TB.Ev 25 (HX c++[.i ae]) (.ret [.i (iM c ae 0),.i (iM c ae 1),.i (iM c ae 2),.i (iM c ae 3),.i (iM c ae 4)]):=jT _ (t25 c ae)
def ai7(n:Nat)(v:List (List RV)):Prop:=v.length<=4096/\∀x∈v,(0<=aK 0 x/\aK 0 x<n)/\0<=aK 1 x/\aK 1 x<n
def t23(P:rz)(h:iL rl tp ps sp sg)(ae:Int):∃o,TB.Ev 23 (wk W D A B C u rl tp ps sp sg++[.i ae]) o/\∃v e,o=.ret [.r (aH v),.i e]/\(e≠0->v=[])/\ai7 rl.rows.length v/\(e=0->jE W D A B C u rl tp ps sp sg=0/\gt ae 0 (u-1)=true):=by
 refine eA rfl rfl (.inl rfl) ?_;have Q:=e65 W D A B C u rl tp ps sp sg P h ae;obtain⟨-,N⟩:=xf W D A B C u rl tp ps sp sg P h;simp only[wk,awV,awX] at Q;obtain⟨e,U⟩:∃e,e=(if jE W D A B C u rl tp ps sp sg=0 then(if gt ae 0 (u-1) then 0 else 1) else jE W D A B C u rl tp ps sp sg):=⟨_,rfl⟩;rw[<-U] at Q;simp[ZO,wk,bo Q,h.rl.len,h.sg.len];split
 case isFalse M=>
  exact⟨[],e,⟨rfl,rfl⟩,λ_=>rfl,⟨by simp,by simp⟩,λh=>absurd h M⟩
 rename_i J;have Z:jE W D A B C u rl tp ps sp sg=0/\gt ae 0 (u-1)=true:=by
  subst J;by_cases Z:jE W D A B C u rl tp ps sp sg=0;rw[if_pos Z] at U;refine⟨Z, ?_⟩;cases I:gt ae 0 (u-1);simp[I] at U;rfl;rw[if_neg Z] at U;exact absurd U.symm Z
 have H:=N Z.1;have F:=H.nr;refine cd sg.rows.length (λi rest=>∃v,rest=[.r v]) ⟨0,rfl,by omega,_,rfl⟩ ?_;rintro i _ hi ⟨m,rfl⟩;simp[h.rl.len,h.sg.len];split;rename_i hi;simp[bF hi h.sg.sm,hi];refine cd rl.rows.length (λi rest=>∃v,rest=[.r (aH v)]/\v.length<=i*64/\∀x∈v,(0<=aK 0 x/\aK 0 x<rl.rows.length)/\0<=aK 1 x/\aK 1 x<rl.rows.length) ⟨0,rfl,by omega,[],rfl,by simp,by simp⟩ ?_;rintro i _ hi ⟨v,rfl,G,X⟩;simp[h.rl.len,h.sg.len];split;rename_i hi;refine cd rl.rows.length (λj rest=>∃v,rest=[.r (aH v)]/\v.length<=i*64+j/\∀x∈v,(0<=aK 0 x/\aK 0 x<rl.rows.length)/\0<=aK 1 x/\aK 1 x<rl.rows.length) ⟨0,rfl,by omega,v,rfl,by omega,X⟩ ?_;rintro j _ O ⟨v,rfl,G,X⟩;simp[h.rl.len,h.sg.len];split
 ·rename_i O;simp[bF O h.rl.sm]
  repeat' split
  all_goals first
   |exact⟨v,rfl,by omega,X⟩
   |(refine⟨by omega,_,rfl,by simp;omega,λx V=> ?_⟩
     rcases awR.1 V with V|V;exact X x V;simp at V;subst V;simp[aK,ba];omega)
 simp[bF hi h.rl.sm];exact⟨v,rfl,by omega,X⟩;exact⟨v,0,⟨rfl,rfl⟩,by simp,⟨by omega,X⟩,λ_=>by simpa using Z⟩
end
end
section
section
variable{R:aV->Prop}{ks:List LK}{t:T}{ρ:aa}{L:List PC}
variable(W D A B C I:Int)(c u ps sp H:RV)
def aqk(Q:rz)(h:iL c u ps sp H)(aQ ae:Int)(r:RV)(V:Sl r)(P:0<(cm W D A B C I c u ps sp H aQ ae).length):∃o,TB.Ev 85 (wk W D A B C I c u ps sp H++[.i aQ,.i ae,.r r]) o/\∃e,o=.ret [.i e]/\(e=0->jc W D A B C I c u ps sp H aQ ae=0/\∃v,tA (cm W D A B C I c u ps sp H aQ ae) r (cm W D A B C I c u ps sp H aQ ae).length v):=by
 refine eA rfl rfl (.inl rfl) ?_;have O:=D3 W D A B C I c u ps sp H Q h aQ ae;have N:=(xf W D A B C I c u ps sp H Q h).2;have z:=Lx W D A B C I c u ps sp H (aQ:=aQ) (ae:=ae) N;have F:=Rm W D A B C I c u ps sp H (aQ:=aQ) (ae:=ae) N;simp only[wk,awV,awX] at O;generalize cm W D A B C I c u ps sp H aQ ae=l at*;generalize jc W D A B C I c u ps sp H aQ ae=e at*;simp[Re,wk,bo O,V.len];split
 case isFalse X=>simp[X]
 rename_i X;intro M;rw[By];refine⟨.inl rfl,λ_=> ?_,λh=> ?_,λ_ h=> ?_⟩;simp;refine⟨by omega, ?_⟩;rw[pV];refine⟨_,ai0 (by simp;omega) (by simpa using F), ?_⟩;simp;have y:(be (aJ.lex [0] false).lt l).length=l.length:=kC;refine cd l.length (λi rest=>∃v,rest=[.r (aH v)]/\tA l r i v) ⟨0,rfl,by omega,[],rfl,rfl,by omega⟩ ?_;rintro i _ hi ⟨v,rfl,U⟩;simp;split;rename_i hi;refine⟨hi, ?_⟩;refine cd l.length (λj rest=>rest=[.r (aH v)]) ⟨0,rfl,by omega,rfl⟩ ?_;rintro j _ Z rfl;simp[V.len,kC];intro Z;have x:=U.1;simp[bF Z (show l.length<=140737488355328 by omega),bF hi (show l.length<=140737488355328 by omega),<-M];refine⟨Z,λX=>⟨by omega, ?_⟩⟩;obtain⟨J,G⟩:=ai3 (bm l i) (ci r j 0) (ci r j 1) (ci r j 2) (cb r j 3);simp only[fJ,bm,ci,cb,awV,awX] at J G;rw[bo J];simp[bF Z (show l.length<=140737488355328 by omega),bF hi (show l.length<=140737488355328 by omega),<-M,V.len];intro E;refine⟨Z,by omega, ?_⟩;have:=U.add (k:=j) (by omega) (G E);exact⟨_,rfl,this⟩;have:i=l.length:=by omega
 subst this;exact⟨X,v,U⟩;simp at h;simp[h] at P;simp at h;simp[h] at P
def aql(U:rz)(h:iL c u ps sp H)(aQ ae:Int)(r:RV)(Q:Sl r)(P:cm W D A B C I c u ps sp H aQ ae=[]):TB.Ev 85 (wk W D A B C I c u ps sp H++[.i aQ,.i ae,.r r]) (.ret [.i (if jc W D A B C I c u ps sp H aQ ae≠0 then jc W D A B C I c u ps sp H aQ ae else if r.rows.length=0 then 0 else 270)]):=by
 refine iJ rfl rfl (.inl rfl) ?_;have X:=D3 W D A B C I c u ps sp H U h aQ ae;rw[P] at X;simp only[wk,awV,awX] at X;generalize jc W D A B C I c u ps sp H aQ ae=e at*;simp[Re,wk,bo X,Q.len];split
 case isFalse Z=>simp[Z]
 rename_i Z;split
 case isFalse h=>
  simp[Z];intro e;simp[e] at h
 rename_i h;have V:r.rows=[]:=axp.1 (by omega);have hsr:dw (aJ.lex [0] false) false []=some []:=rfl;simp only[By,pV];refine⟨.inl rfl,λ_=> ?_,λ_=> ?_,λ_ _=>single (by rw[V];rfl)⟩
 ·try simp
  try simp only[pV]
  refine⟨_,by simpa using hsr, ?_⟩;refine cd 0 (λi rest=>rest=[.r (aH [])]) ⟨0,rfl,by omega,rfl⟩ ?_;rintro i _ hi rfl;have:i=0:=by omega
  simp[V,Z,this]
 ·try simp
  try simp only[pV]
  refine⟨_,by simpa using hsr, ?_⟩;refine cd 0 (λi rest=>rest=[.r (aH [])]) ⟨0,rfl,by omega,rfl⟩ ?_;rintro i _ hi rfl;have:i=0:=by omega
  simp[V,Z,this]
def t85(X:rz)(h:iL c u ps sp H)(aQ ae:Int)(r:RV)(V:Sl r):∃o,TB.Ev 85 (wk W D A B C I c u ps sp H++[.i aQ,.i ae,.r r]) o/\∃e,o=.ret [.i e]/\(e=0->jc W D A B C I c u ps sp H aQ ae=0/\∃v,tA (cm W D A B C I c u ps sp H aQ ae) r (cm W D A B C I c u ps sp H aQ ae).length v):=by
 by_cases Z:cm W D A B C I c u ps sp H aQ ae=[];refine⟨_,aql W D A B C I c u ps sp H X h aQ ae r V Z,_,rfl,λU=> ?_⟩;split at U;rename_i Q;exact absurd U Q;rename_i Q;exact⟨by omega,[],by rw[Z];exact⟨rfl,by simp⟩⟩;exact aqk W D A B C I c u ps sp H X h aQ ae r V (List.length_pos_iff.2 Z)
end
end
end
end Go.Proofs.YtieaiocljdpebaaGreatDoor.Y
