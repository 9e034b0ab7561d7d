/- Part 8 of the proof. -/
import Derived.Test.YtieaiocljdpebaaGreatDoorQ5
import Derived.Test.YtieaiocljdpebaaGreatDoorQ7
set_option linter.all false
set_option maxRecDepth 100000
set_option maxHeartbeats 100000000
open Bool renaming and_eq_true->aA,not_eq_true'->iK,or_eq_true->jy,false_eq_true->jR,eq_iff_iff->vx,true_and->Du,eq_false_iff->H7,not_true->OK,not_eq_true->ajQ,not_false->ajU,false_and->axl,true->J,false->E
open Nat renaming le_refl->cg,zero_le->FJ,le_of_not_lt->T6,le_antisymm->aa9,add_sub_cancel->ajM
open List renaming getElem?_eq_getElem->cL,cons_append->da,nil_append->di,range->fj,getElem?_eq_none->ke,ext_getElem?->kK,getElem_mem->pl,length_eq_zero_iff->wS,map_append->OG,length_pos_iff->T2,length->Y
open Option renaming some->U
open Int renaming tmod_eq_emod_of_nonneg->Oy
open Go.IntKind renaming i64->I
namespace Go.Proofs.YtieaiocljdpebaaGreatDoor.Y
open Go.RowKit
noncomputable section
variable{W V z y:Int}{Q B:Nat}{P F:ar}{H w:RV}{X N:Nat→Int}{x:bn}{M:Nat→Bool}
section
variable[Inhabited dB]
def aO(X W V R Q P O N M L H G F:Int):bv:=if vc X W V R Q P O N M L H G F=0 then .ret [.i X,.i W,.i V,.i R,.i Q,.i P,.i O,.i N,.i M,.i L,.i H,.i G,.i F,.i 0] else .ret [.i 0,.i 0,.i 0,.i 0,.i 0,.i 0,.i 0,.i 0,.i 0,.i 0,.i 0,.i 0,.i 0,.i 2]
def Tt:ay .sub I 1 1=0:=rfl
def Tu:ay .sub I 2 1=1:=rfl
def Tv:ay .add I 1 1=2:=rfl
def Tw:ay .add I 2 1=3:=rfl
def eD(R Q X B A P O N M L H G F:Int)(c:Nat->Int)(p q r:Int)(w:kh W V c)(v:nU R Q X B A P O N M L H G F)(z:iq c p q r E)(D:c 4=1)(y:c 5=1):TB.Ev 227 ([.i R,.i Q,.i X,.i B,.i A,.i P,.i O,.i N,.i M,.i L,.i H,.i G,.i F]++bG c++[.i p,.i q,.i r,.b E]) (aO (o9 R X (c 6) (c 8)) (pe Q X (c 6) (c 8)) X 0 0 P O N M L H G F)/\TB.Ev 200 ([.i R,.i Q,.i X,.i B,.i A,.i P,.i O,.i N,.i M,.i L,.i H,.i G,.i F]++bG c++[.i p,.i q,.i r,.b E]) (aO (o9 R X (c 6) (c 8)) (pe Q X (c 6) (c 8)) X 0 0 P O N M L H G F):=by
 have u:=(o7 R Q X B A P O N M L H G F).2 v;have t:=wM c w;have s:=wN c p q r E z;simp only[bG,da,di,D,y] at t s;obtain⟨-,-,-,l,o,x,n,m,-,-,-⟩:=w;simp[D] at o x n m;simp[iq,D] at z;constructor;refine ce ?_;simp(maxSteps:=9999999) [rz,bG,D,y,Tt,u,l,o,x,n,m,z,aO,o9,pe];refine ax (λh=> ?_) (λh=> ?_);exact(aL h).symm;exact(aP h).symm;refine ce ?_;simp(maxSteps:=9999999) [tT,bG,D,y,Tt,u,aT t,aT s,aO,aT (aiQ _ _ _ _ _ _ _ _ _ _ _ _ _ (c 6) (c 8) v.f x)]
def eF(R Q X P O B A N M L H G F:Int)(c:Nat->Int)(p q r:Int)(w:kh W V c)(v:nU R Q X P O B A N M L H G F)(z:iq c p q r E)(D:c 4=1)(y:c 5=2):TB.Ev 227 ([.i R,.i Q,.i X,.i P,.i O,.i B,.i A,.i N,.i M,.i L,.i H,.i G,.i F]++bG c++[.i p,.i q,.i r,.b E]) (aO (o9 R X (c 6) (c 8)) (pe Q X (c 6) (c 8)) X P O 0 0 N M L H G F)/\TB.Ev 200 ([.i R,.i Q,.i X,.i P,.i O,.i B,.i A,.i N,.i M,.i L,.i H,.i G,.i F]++bG c++[.i p,.i q,.i r,.b E]) (aO (o9 R X (c 6) (c 8)) (pe Q X (c 6) (c 8)) X P O 0 0 N M L H G F):=by
 have u:=(o7 R Q X P O B A N M L H G F).2 v;have t:=wM c w;have s:=wN c p q r E z;simp only[bG,da,di,D,y] at t s;obtain⟨-,-,-,l,o,x,n,m,-,-,-⟩:=w;simp[D] at o x n m;simp[iq,D] at z;constructor;refine ce ?_;simp(maxSteps:=9999999) [rz,bG,D,y,Tu,u,l,o,x,n,m,z,aO,o9,pe];refine ax (λh=> ?_) (λh=> ?_);exact(aL h).symm;exact(aP h).symm;refine ce ?_;simp(maxSteps:=9999999) [tT,bG,D,y,Tu,u,aT t,aT s,aO,aT (aiQ _ _ _ _ _ _ _ _ _ _ _ _ _ (c 6) (c 8) v.f x)]
def a2(R Q X F D B A P O N M L H:Int)(c:Nat->Int)(p q r:Int)(x:kh W V c)(w:nU R Q X F D B A P O N M L H)(z:iq c p q r E)(G:c 4=2):TB.Ev 227 ([.i R,.i Q,.i X,.i F,.i D,.i B,.i A,.i P,.i O,.i N,.i M,.i L,.i H]++bG c++[.i p,.i q,.i r,.b E]) (aO (o9 R X (c 6) (c 8)) (pe Q X (c 6) (c 8)) X 0 0 0 0 P O N M L H)/\TB.Ev 200 ([.i R,.i Q,.i X,.i F,.i D,.i B,.i A,.i P,.i O,.i N,.i M,.i L,.i H]++bG c++[.i p,.i q,.i r,.b E]) (aO (o9 R X (c 6) (c 8)) (pe Q X (c 6) (c 8)) X 0 0 0 0 P O N M L H):=by
 have v:=(o7 R Q X F D B A P O N M L H).2 w;have u:=wM c x;have t:=wN c p q r E z;simp only[bG,da,di,G] at u t;obtain⟨-,-,-,m,s,y,o,n,-,-,-⟩:=x;simp[G] at s y o n;simp[iq,G] at z;constructor;refine ce ?_;simp(maxSteps:=9999999) [rz,bG,G,v,m,s,y,o,n,z,aO,o9,pe];refine ax (λh=> ?_) (λh=> ?_);exact(aL h).symm;exact(aP h).symm;refine ce ?_;simp(maxSteps:=9999999) [tT,bG,G,v,aT u,aT t,aO,aT (aiQ _ _ _ _ _ _ _ _ _ _ _ _ _ (c 6) (c 8) w.f y)]
def a31(X R Q B A P O N M L H G F:Int)(c:Nat->Int)(p q r:Int)(x:kh W V c)(m:nU X R Q B A P O N M L H G F)(z:iq c p q r E)(D:c 4=3)(y:c 5=1):TB.Ev 227 ([.i X,.i R,.i Q,.i B,.i A,.i P,.i O,.i N,.i M,.i L,.i H,.i G,.i F]++bG c++[.i p,.i q,.i r,.b E]) (aO X R Q q r P O N M L H G F)/\TB.Ev 200 ([.i X,.i R,.i Q,.i B,.i A,.i P,.i O,.i N,.i M,.i L,.i H,.i G,.i F]++bG c++[.i p,.i q,.i r,.b E]) (aO X R Q q r P O N M L H G F):=by
 have w:=(o7 X R Q B A P O N M L H G F).2 m;have v:=wM c x;have u:=wN c p q r E z;simp only[bG,da,di,D,y] at v u;obtain⟨-,-,-,l,t,s,o,n,-,-,-⟩:=x;simp[D] at t s o n;simp[iq,D] at z;constructor;refine ce ?_;simp(maxSteps:=9999999) [rz,bG,D,y,Tt,w,l,t,s,o,n,z,aO,o9,pe];refine ce ?_;simp(maxSteps:=9999999) [tT,bG,D,y,Tt,w,aT v,aT u,aO]
def a32(X R Q P O B A N M L H G F:Int)(c:Nat->Int)(p q r:Int)(x:kh W V c)(m:nU X R Q P O B A N M L H G F)(z:iq c p q r E)(D:c 4=3)(y:c 5=2):TB.Ev 227 ([.i X,.i R,.i Q,.i P,.i O,.i B,.i A,.i N,.i M,.i L,.i H,.i G,.i F]++bG c++[.i p,.i q,.i r,.b E]) (aO X R Q P O q r N M L H G F)/\TB.Ev 200 ([.i X,.i R,.i Q,.i P,.i O,.i B,.i A,.i N,.i M,.i L,.i H,.i G,.i F]++bG c++[.i p,.i q,.i r,.b E]) (aO X R Q P O q r N M L H G F):=by
 have w:=(o7 X R Q P O B A N M L H G F).2 m;have v:=wM c x;have u:=wN c p q r E z;simp only[bG,da,di,D,y] at v u;obtain⟨-,-,-,l,t,s,o,n,-,-,-⟩:=x;simp[D] at t s o n;simp[iq,D] at z;constructor;refine ce ?_;simp(maxSteps:=9999999) [rz,bG,D,y,Tu,w,l,t,s,o,n,z,aO,o9,pe];refine ce ?_;simp(maxSteps:=9999999) [tT,bG,D,y,Tu,w,aT v,aT u,aO]
def a41(X R Q P O N M B A L H G F:Int)(c:Nat->Int)(p q r:Int)(x:kh W V c)(m:nU X R Q P O N M B A L H G F)(z:iq c p q r E)(D:c 4=4)(y:c 5=1):TB.Ev 227 ([.i X,.i R,.i Q,.i P,.i O,.i N,.i M,.i B,.i A,.i L,.i H,.i G,.i F]++bG c++[.i p,.i q,.i r,.b E]) (aO X R Q P O N M q r L H G F)/\TB.Ev 200 ([.i X,.i R,.i Q,.i P,.i O,.i N,.i M,.i B,.i A,.i L,.i H,.i G,.i F]++bG c++[.i p,.i q,.i r,.b E]) (aO X R Q P O N M q r L H G F):=by
 have w:=(o7 X R Q P O N M B A L H G F).2 m;have v:=wM c x;have u:=wN c p q r E z;simp only[bG,da,di,D,y] at v u;obtain⟨-,-,-,l,t,s,o,n,-,-,-⟩:=x;simp[D] at t s o n;simp[iq,D] at z;constructor;refine ce ?_;simp(maxSteps:=9999999) [rz,bG,D,y,Tv,w,l,t,s,o,n,z,aO,o9,pe];refine ce ?_;simp(maxSteps:=9999999) [tT,bG,D,y,Tv,w,aT v,aT u,aO]
def a42(X R Q P O N M L H B A G F:Int)(c:Nat->Int)(p q r:Int)(x:kh W V c)(m:nU X R Q P O N M L H B A G F)(z:iq c p q r E)(D:c 4=4)(y:c 5=2):TB.Ev 227 ([.i X,.i R,.i Q,.i P,.i O,.i N,.i M,.i L,.i H,.i B,.i A,.i G,.i F]++bG c++[.i p,.i q,.i r,.b E]) (aO X R Q P O N M L H q r G F)/\TB.Ev 200 ([.i X,.i R,.i Q,.i P,.i O,.i N,.i M,.i L,.i H,.i B,.i A,.i G,.i F]++bG c++[.i p,.i q,.i r,.b E]) (aO X R Q P O N M L H q r G F):=by
 have w:=(o7 X R Q P O N M L H B A G F).2 m;have v:=wM c x;have u:=wN c p q r E z;simp only[bG,da,di,D,y] at v u;obtain⟨-,-,-,l,t,s,o,n,-,-,-⟩:=x;simp[D] at t s o n;simp[iq,D] at z;constructor;refine ce ?_;simp(maxSteps:=9999999) [rz,bG,D,y,Tw,w,l,t,s,o,n,z,aO,o9,pe];refine ce ?_;simp(maxSteps:=9999999) [tT,bG,D,y,Tw,w,aT v,aT u,aO]
def a5(X R Q P O N M L H G F B A:Int)(c:Nat->Int)(p q r:Int)(y:kh W V c)(n:nU X R Q P O N M L H G F B A)(z:iq c p q r E)(D:c 4=5):TB.Ev 227 ([.i X,.i R,.i Q,.i P,.i O,.i N,.i M,.i L,.i H,.i G,.i F,.i B,.i A]++bG c++[.i p,.i q,.i r,.b E]) (aO X R Q P O N M L H G F q r)/\TB.Ev 200 ([.i X,.i R,.i Q,.i P,.i O,.i N,.i M,.i L,.i H,.i G,.i F,.i B,.i A]++bG c++[.i p,.i q,.i r,.b E]) (aO X R Q P O N M L H G F q r):=by
 have x:=(o7 X R Q P O N M L H G F B A).2 n;have w:=wM c y;have v:=wN c p q r E z;simp only[bG,da,di,D] at w v;obtain⟨-,-,-,m,u,t,s,o,-,-,-⟩:=y;simp[D] at u t s o;simp[iq,D] at z;constructor;refine ce ?_;simp(maxSteps:=9999999) [rz,bG,D,x,m,u,t,s,o,z,aO,o9,pe];refine ce ?_;simp(maxSteps:=9999999) [tT,bG,D,x,aT w,aT v,aO]
def a6(X R Q P O N M L H G F D B:Int)(c:Nat->Int)(p q r:Int)(y:kh W V c)(n:nU X R Q P O N M L H G F D B)(z:iq c p q r E)(A:c 4=6):TB.Ev 227 ([.i X,.i R,.i Q,.i P,.i O,.i N,.i M,.i L,.i H,.i G,.i F,.i D,.i B]++bG c++[.i p,.i q,.i r,.b E]) (aO X R (ay .rem I (ay .add I Q (c 8)) 8) P O N M L H G F D B)/\TB.Ev 200 ([.i X,.i R,.i Q,.i P,.i O,.i N,.i M,.i L,.i H,.i G,.i F,.i D,.i B]++bG c++[.i p,.i q,.i r,.b E]) (aO X R (ay .rem I (ay .add I Q (c 8)) 8) P O N M L H G F D B):=by
 have x:=(o7 X R Q P O N M L H G F D B).2 n;have w:=wM c y;have v:=wN c p q r E z;simp only[bG,da,di,A] at w v;obtain⟨-,-,-,m,u,t,s,o,-,-,-⟩:=y;simp[A] at u t s o;simp[iq,A] at z;constructor;refine ce ?_;simp(maxSteps:=9999999) [rz,bG,A,x,m,u,t,s,o,z,aO,o9,pe];refine ce ?_;simp(maxSteps:=9999999) [tT,bG,A,x,aT w,aT v,aO]
def a7(X R Q P O N M F D B A L H:Int)(c:Nat->Int)(p q r:Int)(y:kh W V c)(n:nU X R Q P O N M F D B A L H)(z:iq c p q r E)(G:c 4=7):TB.Ev 227 ([.i X,.i R,.i Q,.i P,.i O,.i N,.i M,.i F,.i D,.i B,.i A,.i L,.i H]++bG c++[.i p,.i q,.i r,.b E]) (aO X R Q P O N M 0 0 0 0 L H)/\TB.Ev 200 ([.i X,.i R,.i Q,.i P,.i O,.i N,.i M,.i F,.i D,.i B,.i A,.i L,.i H]++bG c++[.i p,.i q,.i r,.b E]) (aO X R Q P O N M 0 0 0 0 L H):=by
 have x:=(o7 X R Q P O N M F D B A L H).2 n;have w:=wM c y;have v:=wN c p q r E z;simp only[bG,da,di,G] at w v;obtain⟨-,-,-,m,u,t,s,o,-,-,-⟩:=y;simp[G] at u t s o;simp[iq,G] at z;constructor;refine ce ?_;simp(maxSteps:=9999999) [rz,bG,G,x,m,u,t,s,o,z,aO,o9,pe];refine ce ?_;simp(maxSteps:=9999999) [tT,bG,G,x,aT w,aT v,aO]
def a8(X R Q F D B A P O N M L H:Int)(c:Nat->Int)(p q r:Int)(y:kh W V c)(n:nU X R Q F D B A P O N M L H)(z:iq c p q r E)(G:c 4=8):TB.Ev 227 ([.i X,.i R,.i Q,.i F,.i D,.i B,.i A,.i P,.i O,.i N,.i M,.i L,.i H]++bG c++[.i p,.i q,.i r,.b E]) (aO X R Q 0 0 0 0 P O N M L H)/\TB.Ev 200 ([.i X,.i R,.i Q,.i F,.i D,.i B,.i A,.i P,.i O,.i N,.i M,.i L,.i H]++bG c++[.i p,.i q,.i r,.b E]) (aO X R Q 0 0 0 0 P O N M L H):=by
 have x:=(o7 X R Q F D B A P O N M L H).2 n;have w:=wM c y;have v:=wN c p q r E z;simp only[bG,da,di,G] at w v;obtain⟨-,-,-,m,u,t,s,o,-,-,-⟩:=y;simp[G] at u t s o;simp[iq,G] at z;constructor;refine ce ?_;simp(maxSteps:=9999999) [rz,bG,G,x,m,u,t,s,o,z,aO,o9,pe];refine ce ?_;simp(maxSteps:=9999999) [tT,bG,G,x,aT w,aT v,aO]
def a91(X R Q P O N M B A L H G F:Int)(c:Nat->Int)(p q r:Int)(x:kh W V c)(m:nU X R Q P O N M B A L H G F)(z:iq c p q r E)(D:c 4=9)(y:c 5=1):TB.Ev 227 ([.i X,.i R,.i Q,.i P,.i O,.i N,.i M,.i B,.i A,.i L,.i H,.i G,.i F]++bG c++[.i p,.i q,.i r,.b E]) (aO X R Q P O N M 0 0 L H G F)/\TB.Ev 200 ([.i X,.i R,.i Q,.i P,.i O,.i N,.i M,.i B,.i A,.i L,.i H,.i G,.i F]++bG c++[.i p,.i q,.i r,.b E]) (aO X R Q P O N M 0 0 L H G F):=by
 have w:=(o7 X R Q P O N M B A L H G F).2 m;have v:=wM c x;have u:=wN c p q r E z;simp only[bG,da,di,D,y] at v u;obtain⟨-,-,-,l,t,s,o,n,-,-,-⟩:=x;simp[D] at t s o n;simp[iq,D] at z;constructor;refine ce ?_;simp(maxSteps:=9999999) [rz,bG,D,y,Tv,w,l,t,s,o,n,z,aO,o9,pe];refine ce ?_;simp(maxSteps:=9999999) [tT,bG,D,y,Tv,w,aT v,aT u,aO]
def a92(X R Q P O N M L H B A G F:Int)(c:Nat->Int)(p q r:Int)(x:kh W V c)(m:nU X R Q P O N M L H B A G F)(z:iq c p q r E)(D:c 4=9)(y:c 5=2):TB.Ev 227 ([.i X,.i R,.i Q,.i P,.i O,.i N,.i M,.i L,.i H,.i B,.i A,.i G,.i F]++bG c++[.i p,.i q,.i r,.b E]) (aO X R Q P O N M L H 0 0 G F)/\TB.Ev 200 ([.i X,.i R,.i Q,.i P,.i O,.i N,.i M,.i L,.i H,.i B,.i A,.i G,.i F]++bG c++[.i p,.i q,.i r,.b E]) (aO X R Q P O N M L H 0 0 G F):=by
 have w:=(o7 X R Q P O N M L H B A G F).2 m;have v:=wM c x;have u:=wN c p q r E z;simp only[bG,da,di,D,y] at v u;obtain⟨-,-,-,l,t,s,o,n,-,-,-⟩:=x;simp[D] at t s o n;simp[iq,D] at z;constructor;refine ce ?_;simp(maxSteps:=9999999) [rz,bG,D,y,Tw,w,l,t,s,o,n,z,aO,o9,pe];refine ce ?_;simp(maxSteps:=9999999) [tT,bG,D,y,Tw,w,aT v,aT u,aO]
def aD(X R Q P O N M L H G F D B:Int)(c:Nat->Int)(p q r:Int)(z:kh W V c)(s:nU X R Q P O N M L H G F D B)(A:iq c p q r J):TB.Ev 227 ([.i X,.i R,.i Q,.i P,.i O,.i N,.i M,.i L,.i H,.i G,.i F,.i D,.i B]++bG c++[.i p,.i q,.i r,.b J]) (.ret [.i X,.i R,.i Q,.i P,.i O,.i N,.i M,.i L,.i H,.i G,.i F,.i D,.i B,.i 0])/\TB.Ev 200 ([.i X,.i R,.i Q,.i P,.i O,.i N,.i M,.i L,.i H,.i G,.i F,.i D,.i B]++bG c++[.i p,.i q,.i r,.b J]) (.ret [.i X,.i R,.i Q,.i P,.i O,.i N,.i M,.i L,.i H,.i G,.i F,.i D,.i B,.i 0]):=by
 have y:=(o7 X R Q P O N M L H G F D B).2 s;have o:=wM c z;have x:=wN c p q r J A;simp only[bG,da,di] at x;obtain⟨l,-,-,n,w,v,u,t,-,-,-⟩:=z;simp[iq] at A;constructor
 ·refine ce ?_;have m:c 4=1\/c 4=2\/c 4=3\/c 4=4\/c 4=5\/c 4=6\/c 4=7\/c 4=8\/c 4=9:=aa;rcases m with h|h|h|h|h|h|h|h|h
  all_goals
   simp[h] at w v u t;simp(maxSteps:=9999999) [rz,bG,h,y,n,w,v,u,t,A]
 refine ce ?_;simp[tT,bG,y,aT o,aT x]
def aEx(X R Q P O N M L H G F D B:Int)(c:Nat->Int)(p q r:Int)(b:Bool)(A:kh W V c)(z:nU X R Q P O N M L H G F D B)(y:iq c p q r b):∃w,TB.Ev 227 ([.i X,.i R,.i Q,.i P,.i O,.i N,.i M,.i L,.i H,.i G,.i F,.i D,.i B]++bG c++[.i p,.i q,.i r,.b b]) (.ret w)/\TB.Ev 200 ([.i X,.i R,.i Q,.i P,.i O,.i N,.i M,.i L,.i H,.i G,.i F,.i D,.i B]++bG c++[.i p,.i q,.i r,.b b]) (.ret w)/\(xi w 13=0\/xi w 13=2):=by
 have x:∀{v:bn}{u t a2 s o a5 a6 a7 a8 n m eD eF:Int},TB.Ev 227 v (aO u t a2 s o a5 a6 a7 a8 n m eD eF)/\TB.Ev 200 v (aO u t a2 s o a5 a6 a7 a8 n m eD eF)->∃w,TB.Ev 227 v (.ret w)/\TB.Ev 200 v (.ret w)/\(xi w 13=0\/xi w 13=2):=λ{v u t a2 s o a5 a6 a7 a8 n m eD eF} h=>by
  simp only[aO] at h;by_cases k:vc u t a2 s o a5 a6 a7 a8 n m eD eF=0;rw[aL k] at h;exact⟨_,h.1,h.2,.inl rfl⟩;rw[aP k] at h;exact⟨_,h.1,h.2,.inr rfl⟩
 cases b with
 |true=>have k:=aD X R Q P O N M L H G F D B c p q r A z y;exact⟨_,k.1,k.2,.inl rfl⟩
 |false=>
  have l:=A.side;have j:c 4=1\/c 4=2\/c 4=3\/c 4=4\/c 4=5\/c 4=6\/c 4=7\/c 4=8\/c 4=9:=by have:=A.kind;omega
  rcases j with h|h|h|h|h|h|h|h|h
  all_goals simp[h] at l
  rcases(show c 5=1\/c 5=2 from aa) with d|d;exact x (eD X R Q P O N M L H G F D B c p q r A z y h d);exact x (eF X R Q P O N M L H G F D B c p q r A z y h d);exact x (a2 X R Q P O N M L H G F D B c p q r A z y h);rcases(show c 5=1\/c 5=2 from aa) with d|d;exact x (a31 X R Q P O N M L H G F D B c p q r A z y h d);exact x (a32 X R Q P O N M L H G F D B c p q r A z y h d);rcases(show c 5=1\/c 5=2 from aa) with d|d;exact x (a41 X R Q P O N M L H G F D B c p q r A z y h d);exact x (a42 X R Q P O N M L H G F D B c p q r A z y h d);exact x (a5 X R Q P O N M L H G F D B c p q r A z y h);exact x (a6 X R Q P O N M L H G F D B c p q r A z y h);exact x (a7 X R Q P O N M L H G F D B c p q r A z y h);exact x (a8 X R Q P O N M L H G F D B c p q r A z y h);rcases(show c 5=1\/c 5=2 from aa) with d|d;exact x (a91 X R Q P O N M L H G F D B c p q r A z y h d);exact x (a92 X R Q P O N M L H G F D B c p q r A z y h d)
end
section
variable{R:bv->Prop}{f:aY}{t:T}{O:ai}{L:dE}
variable[Inhabited dB]
def avn(r:RV)(X:Sl r)(id:Int)(M:Q<Y r.ae)(W:ci r Q 0=id)(P:∀j<Q,ci r j 0≠id):TB.Ev 115 [.r r,.i id] (.ret [.i (ci r Q 0),.i (ci r Q 1),.i (ci r Q 2),.b (cb r Q 3)]):=by
 refine ce ?_;simp[aho];refine cP (Y r.ae) (λi N=>N=[]/\i<=Q) ⟨0,rfl,aa,rfl,aa⟩ ?_;rintro i _ H ⟨rfl,G⟩;have V:i<Y r.ae:=aa;simp[X.len,V,cu V X.sm];by_cases e:i=Q;subst e;simp only[ci] at W;simp[W,ci,cb];have:=P i aa;simp only[ci] at this;simp[this];omega
def aaA(N:oA P)(W:nz P H)(M:qD P H (Y P) F)(V:Q<Y P):∃k<Y H.ae,(∀j<k,ci H j 0≠bu P Q 0)/\ci H k 0=bu P Q 0/\vk (bu P Q) H k/\(∀j<14,bu F Q j=bu P Q j)/\bu F Q 14=ci H k 0/\bu F Q 15=ci H k 1/\bu F Q 16=ci H k 2/\fW (aZ F Q 17).val=cb H k 3:=by
 obtain⟨k,w,u,G⟩:=M.2 Q V;have D:k<Y P:=by have:=W.1;omega
 have n:(jQ P).length=Y P:=lZ;obtain⟨q,s,B⟩:=oA.from D;have A:=W.2 k D;have z:bu (jQ P) k 0=bu P Q 0:=by rw[<-G];exact A.1.symm
 have p:Q=q:=(N.inj s V (by rw[<-B,z])).symm;subst p;have y:Q<Y F:=by rw[M.1];exact V
 have X:∀j,aZ F Q j=(Ff (bu P Q) H k).getD j default:=λj=>by
  have:F[Q]=Ff (bu P Q) H k:=by
   have:=u;rw[cL y] at this;exact me this
  simp[aZ,cL y,this]
 refine⟨k,w,λj x e=> ?_,G,(iq.congr B).1 A,λj x=> ?_, ?_, ?_, ?_, ?_⟩;have o:=W.2 j aa;have:bu (jQ P) j 0=bu (jQ P) k 0:=by rw[z,<-e];exact o.1.symm
 have:=N.by.inj (a:=j) (b:=k) aa aa this;omega;simp only[bu,X,Ff,nl]
 match j,x with
 |0,_|1,_|2,_|3,_|4,_|5,_|6,_|7,_|8,_|9,_|10,_|11,_|12,_|13,_=>rfl
 simp only[bu,X,Ff,nl];rfl;simp only[bu,X,Ff,nl];rfl;simp only[bu,X,Ff,nl];rfl;simp only[X,Ff,nl];rfl
def aiR(M:kh W V (bu P Q))(G:rS (cm X F Q))(D:vk (bu P Q) H B)(N:∀j<14,bu F Q j=bu P Q j)(A:bu F Q 14=ci H B 0)(z:bu F Q 15=ci H B 1)(y:bu F Q 16=ci H B 2)(w:fW (aZ F Q 17).val=cb H B 3):TB.Ev 200 ([.i (cm X F Q 0),.i (cm X F Q 1),.i (cm X F Q 2),.i (cm X F Q 3),.i (cm X F Q 4),.i (cm X F Q 5),.i (cm X F Q 6),.i (cm X F Q 7),.i (cm X F Q 8),.i (cm X F Q 9),.i (cm X F Q 10),.i (cm X F Q 11),.i (cm X F Q 12)]++bG (bu P Q)++[.i (ci H B 0),.i (ci H B 1),.i (ci H B 2),.b (cb H B 3)]) (.ret [.i (cm X F (Q+1) 0),.i (cm X F (Q+1) 1),.i (cm X F (Q+1) 2),.i (cm X F (Q+1) 3),.i (cm X F (Q+1) 4),.i (cm X F (Q+1) 5),.i (cm X F (Q+1) 6),.i (cm X F (Q+1) 7),.i (cm X F (Q+1) 8),.i (cm X F (Q+1) 9),.i (cm X F (Q+1) 10),.i (cm X F (Q+1) 11),.i (cm X F (Q+1) 12),.i (cm X F (Q+1) 13)])/\(cm X F (Q+1) 13=0\/cm X F (Q+1) 13=2):=by
 have u:=(o7 _ _ _ _ _ _ _ _ _ _ _ _ _).1 G;obtain⟨n,s,q,p⟩:=aEx _ _ _ _ _ _ _ _ _ _ _ _ _ (bu P Q) (ci H B 0) (ci H B 1) (ci H B 2) (cb H B 3) M u D;have e:=ahQ (cm X F Q) F Q;have o:bG (bu F Q)=bG (bu P Q):=by
  simp only[bG];rw[N 0 aa,N 1 aa,N 2 aa,N 3 aa,N 4 aa,N 5 aa,N 6 aa,N 7 aa,N 8 aa,N 9 aa,N 10 aa,N 11 aa,N 12 aa,N 13 aa]
 rw[o,A,z,y,w] at e;have d:=Aw s e;injection d with d;subst d;exact⟨q,p⟩
def stL(s:Nat->Int):aM:=[.mk (.int I (s 0)) [],.mk (.int I (s 1)) [],.mk (.int I (s 2)) [],.mk (.int I (s 3)) [],.mk (.int I (s 4)) [],.mk (.int I (s 5)) [],.mk (.int I (s 6)) [],.mk (.int I (s 7)) [],.mk (.int I (s 8)) [],.mk (.int I (s 9)) [],.mk (.int I (s 10)) [],.mk (.int I (s 11)) [],.mk (.int I (s 12)) []]
def aEy(s:Nat->Int)(j:Nat)(h:j<13):aN j (stL s)=s j:=by
 match j,h with
 |0,_|1,_|2,_|3,_|4,_|5,_|6,_|7,_|8,_|9,_|10,_|11,_|12,_=>rfl
def yo(x:Nat->Int)(v:ar)(n:Nat):ar:=(fj (n+1)).map λj=>stL (cm x v j)
def aiS(x:Nat->Int)(v:ar)(n:Nat):(yo x v n).length=n+1:=by simp[yo]
def aiT(x:Nat->Int)(v:ar)(h:B<=Q)(j:Nat)(X:j<13):bp (aZ (yo x v Q) B j).val=cm x v B j:=by
 have:bp (aZ (yo x v Q) B j).val=aN j (stL (cm x v B)):=by simp[aZ,aN,yo,show B<Q+1 from aa]
 rw[this,aEy _ _ X]
def aEz(x:Nat->Int)(v:ar)(n:Nat):yo x v (n+1)=yo x v n++[stL (cm x v (n+1))]:=by
 simp only[yo];rw[List.range_succ,OG];rfl
def rD(x:Nat->Int)(v:ar)(n:Nat):Prop:=∀i<n,cm x v (i+1) 13=0
def avo(Q:oA P)(D:∀i<Y P,kh W V (bu P i))(B:Sl H)(A:nz P H)(z:qD P H (Y P) F)(x:Nat->Int)(y:rS x):∃o,TB.Ev 237 ([.r (aI P)]++[.i (x 0),.i (x 1),.i (x 2),.i (x 3),.i (x 4),.i (x 5),.i (x 6),.i (x 7),.i (x 8),.i (x 9),.i (x 10),.i (x 11),.i (x 12)]++[.r H]) o/\∃b w,o=.ret [.r (aI w),.b b]/\(b=J->w=yo x F (Y P)/\rD x F (Y P))/\(b=E->¬rD x F (Y P)):=by
 refine dR ?_;simp[ahv];have hn:=Q.n;refine cP (Y P) (λi u=>u=[.r (aI (yo x F i))]/\rS (cm x F i)/\rD x F i) ⟨0,rfl,aa,rfl,y,λi h=>aa⟩ ?_;rintro i _ X ⟨rfl,s,N⟩;have m:=aiS x F i;simp[m];refine ax (λX=>⟨aa,X, ?_⟩) (λX=> ?_);obtain⟨k,g,f,e,d,a,e5,e6,e7,e8⟩:=aaA Q A z X;obtain⟨M,g2⟩:=aiR (D i X) s d a e5 e6 e7 e8;have G:=avn H B (bu P i 0) g e f;have c:∀j<13,bp (aZ (yo x F i) i j).val=cm x F i j:=λj hj=>aiT x F (cg i) j hj
 have af:rS (cm x F (i+1))\/cm x F (i+1) 13≠0:=by
  by_cases q:cm x F (i+1) 13=0;exact .inl (SY (cm x F i) F i q).1;exact .inr q
 simp only[bG,bu,ci,cb,da,di] at G M;rw[aT G];simp[c 0 aa,c 1 aa,c 2 aa,c 3 aa,c 4 aa,c 5 aa,c 6 aa,c 7 aa,c 8 aa,c 9 aa,c 10 aa,c 11 aa,c 12 aa,aT M,cu X (show Y P<=140737488355328 from aa)];refine ax (λq=>⟨aa, ?_,(SY (cm x F i) F i q).1,jc N q⟩) (λq=>⟨⟨[],rfl⟩,λp=>q (p i X)⟩);rw[aEz];rfl;have ac:i=Y P:=aa;subst ac;exact⟨_,rfl,rfl,N⟩
def Kv(X:nz P H):∃v,qD P H (Y P) v:=by
 suffices h:∀n≤Y P,∃v,qD P H n v from h _ (cg _)
 intro n;induction n with
 |zero=>exact λ_=>⟨[],rfl,λi N=>aa⟩
 |succ n W=>
  intro M;obtain⟨v,V⟩:=W aa;obtain⟨k,Q,e⟩:=oA.to (l:=P) (i:=n) aa;have:=(X.2 k Q).1;exact⟨_,V.add (k:=k) (by have:=X.1;omega) (by rw[this,e])⟩
def avp(l:ar)(r:RV)(N:Sl r)(M:oA l):∃o,TB.Ev 155 [.r (aI l),.r r] o/\∃v b,o=.ret [.r (aI v),.b b]/\(b=J<->nz l r):=by
 by_cases Q:l=[];subst Q;refine⟨_,att r N,_,_,rfl, ?_⟩;simp only[du];exact⟨λh=>⟨h.symm,λk W=>aG W aw⟩,λh=>h.1.symm⟩;have Q:=T2.2 Q;have c:=M.n;refine dR ?_;simp[SD,N.len];refine ax (λP=> ?_) (λP=> ?_)
 case refine_2=>
  first
   |exact λp=>P (by have:=p.1;omega)
   |exact⟨⟨_,rfl⟩,λp=>P (by have:=p.1;omega)⟩
 have P:Y l=Y r.ae:=aa;rw[Fc];refine⟨.inl rfl,λ_=> ?_,λh=> ?_,λ_ h=> ?_⟩;simp;refine⟨aa, ?_⟩
 first|rw[Bj]|rw[Bk]
 refine⟨_,ZN dh (by simpa using M.k), ?_⟩;simp;have A:(bX (bq.lex [0] E).lt l).length=Y l:=lZ;refine cP (Y l) (λi H=>∃v,H=[.r (aI v)]/\Y v<=i/\∀k<i,∃q<Y l,bu (jQ l) q 0=bu l k 0/\vk (bu l k) r q) ⟨0,rfl,aa,[],rfl,aw,aa⟩ ?_;rintro i _ X ⟨v,rfl,ac,z⟩;simp;refine ax (λX=> ?_) (λX=> ?_);refine⟨X, ?_⟩;refine cP (Y l) (λj H=>H=[.r (aI v)]/\∀q<j,¬(bu (jQ l) q 0=bu l i 0/\vk (bu l i) r q)) ⟨0,rfl,aa,rfl,aa⟩ ?_;rintro j _ V ⟨rfl,s⟩;have G:∀q<j,bu (jQ l) q 0=bu l i 0->¬vk (bu l i) r q:=λq F a b=>s q F ⟨a,b⟩
 simp[N.len];refine ax (λV=>⟨V,ax (λg=>⟨aa, ?_⟩) (λg=> ?_)⟩) (λV=> ?_);obtain⟨o,y,b,rfl,x⟩:=avk (bu l i) (ci r j 0) (ci r j 1) (ci r j 2) (cb r j 3);simp only[bG,bu,ci,cb,da,di] at y;rw[aT y];simp[cu V (show Y l<=140737488355328 from aa),cu X (show Y l<=140737488355328 from aa)];refine ax (λD=> ?_) (λD=> ?_);exact⟨by rw[N.len];omega,aa,_,rfl,dh,jc z ⟨j,V,g,x.1 D⟩⟩;exact jc G λ_ q=>D (x.2 q)
 rw[cu V aa];exact⟨rfl,jc G λe=>aG e g⟩;have w:¬nz l r:=λp=>by
  obtain⟨k,W,e⟩:=oA.to X;exact G k aa (e 0) ((iq.congr e).1 (p.2 k W))
 first
  |exact w
  |exact⟨⟨_,rfl⟩,w⟩
 have m:i=Y l:=aa;subst m;have B:nz l r:=⟨P,λk W=>by
  obtain⟨i,X,u⟩:=oA.from W;obtain⟨q,F,f,d⟩:=z i X;have:q=k:=M.by.inj (by rw[A];exact F) (by rw[A];exact W) (by rw[f,u]);subst this;exact(iq.congr u).2 d⟩
 first
  |exact B
  |exact⟨⟨_,rfl⟩,B⟩
  |exact⟨_,rfl,B⟩
 simp at h;simp[h] at Q;simp at h;simp[h] at Q
end
section
variable{R:bv->Prop}{d:aY}{t:T}{O:ai}{L:dE}
variable[Inhabited dB]
def Od(e:Int):bn:=[.i 0,.i 0,.i 0,.i 0,.i 0,.i 0,.i 0,.i 0,.i 0,.i 0,.i 0,.i 0,.i 0,.i e]
def Oe(s:Nat->Int):bn:=[.i (s 0),.i (s 1),.i (s 2),.i (s 3),.i (s 4),.i (s 5),.i (s 6),.i (s 7),.i (s 8),.i (s 9),.i (s 10),.i (s 11),.i (s 12),.i 0]
structure Kw(av ah:Int)(x:Nat->Int)(r:RV)(ys:bn):Prop where
 c:gf av ah≠0->ys=Od (gf av ah)
 p:gf av ah=0->¬rS x->ys=Od 260
 m:gf av ah=0->rS x->¬nz (ck av ah) r->ys=Od 270
 w:gf av ah=0->rS x->nz (ck av ah) r->∀v,qD (ck av ah) r (ck av ah).length v->(¬rD x v (ck av ah).length->ys=Od 2)/\(rD x v (ck av ah).length->ys=Oe (cm x v (ck av ah).length))
def Kw.eq{D:bn}(h:Kw W V X H x)(M:Kw W V X H D):x=D:=by
 by_cases Q:gf W V=0;by_cases P:rS X;by_cases N:nz (ck W V) H;obtain⟨v,G⟩:=Kv N;by_cases F:rD X v (ck W V).length;rw[(h.w Q P N v G).2 F,(M.w Q P N v G).2 F];rw[(h.w Q P N v G).1 F,(M.w Q P N v G).1 F];rw[h.m Q P N,M.m Q P N];rw[h.p Q P,M.p Q P];rw[h.c Q,M.c Q]
def Of{W:ar}(M:oA P)(X:nz P H)(h:qD P H (Y P) F)(V:qD P H (Y P) W):F=W:=by
 apply kK;intro i;by_cases Q:i<Y P;obtain⟨k,z,G,D⟩:=h.2 i Q;obtain⟨N,y,B,A⟩:=V.2 i Q;have a:=X.2 k (by have:=X.1;omega);have b:=X.2 N (by have:=X.1;omega);have x:(jQ P).length=Y P:=lZ;have:k=N:=M.by.inj (by have:=X.1;omega) (by have:=X.1;omega) (by rw[<-a.1,<-b.1,D,A]);subst this;rw[G,B];rw[ke (by rw[h.1];omega),ke (by rw[V.1];omega)]
def Tx(x:Nat->Int)(h:¬rS x):vc (x 0) (x 1) (x 2) (x 3) (x 4) (x 5) (x 6) (x 7) (x 8) (x 9) (x 10) (x 11) (x 12)=260:=(avl _ _ _ _ _ _ _ _ _ _ _ _ _).2 λp=>h ((o7 _ _ _ _ _ _ _ _ _ _ _ _ _).2 p)
def aaC(av ah:Int)(h:gc):∀i<(ck av ah).length,kh (Y az.ae) eu (bu (ck av ah) i):=λi W=>by
 obtain⟨k,Q,e,-,-,V⟩:=atp (yf sy h).2 (pl W);have:∀j<14,bu (ck av ah) i j=ci bE k j:=λj X=>by rw[BA W,e,wG _ _ X]
 have c:=λj(X:j<14)=>this j X
 obtain⟨P,N,M,H,G,F,D,B,A,z,y⟩:=V;constructor<;>(simp only[c 1 aa,c 2 aa,c 3 aa,c 4 aa,c 5 aa,c 6 aa,c 7 aa,c 8 aa,c 9 aa,c 10 aa,c 11 aa,c 12 aa,c 13 aa];assumption)
def aEA(h:gc)(av ah:Int)(x:Nat->Int)(r:RV)(H:Sl r):∃o,TB.Ev 171 (wk++[.i av,.i ah,.i (x 0),.i (x 1),.i (x 2),.i (x 3),.i (x 4),.i (x 5),.i (x 6),.i (x 7),.i (x 8),.i (x 9),.i (x 10),.i (x 11),.i (x 12),.r r]) o/\∃G,o=.ret G/\Kw av ah x r G:=by
 refine dR ?_;have V:=Oc av ah h;have A:=aaC av ah h;have F:=aiO h av ah;obtain⟨o,z,b,rfl,D⟩:=aiP _ V r H;simp only[wk,da,di] at F;simp[ahw,wk,aT F];refine ax (λX=> ?_) (λX=>⟨λ_=>rfl,λq=>aG q X,λq=>aG q X,λq=>aG q X⟩);refine ax (λa2=> ?_) (λa2=> ?_)
 case refine_2=>
  have e:=Tx x a2;rw[e];exact⟨λq=>aG X q,λ_ _=>rfl,λ_ q=>aG q a2,λ_ q=>aG q a2⟩
 simp[aT z];refine ax (λQ=> ?_) (λQ=>⟨λq=>aG X q,λ_ q=>aG a2 q,λ_ _ _=>rfl,λ_ _ q=>aG (D.2 q) Q⟩);have W:=D.1 Q;obtain⟨v,P⟩:=Kv W;obtain⟨o,B,y,w,rfl,u,s⟩:=avo V A H W P x a2;simp only[da,di] at B;rw[aT B];simp;refine ax (λN=> ?_) (λN=> ?_);obtain⟨rfl,p⟩:=u N;have m:=aiS x v (ck av ah).length;have f:=V.n;simp[m];rw[show ay .sub I ((ck av ah).length+1:Int) 1=((ck av ah).length:Int) by simp only[ay];rw[bO aa aa];omega];have c:∀j<13,bp (aZ (yo x v (ck av ah).length) ((ck av ah).length:Int) j).val=cm x v (ck av ah).length j:=λj l=>aiT x v (cg _) j l
 rw[c 0 aa,c 1 aa,c 2 aa,c 3 aa,c 4 aa,c 5 aa,c 6 aa,c 7 aa,c 8 aa,c 9 aa,c 10 aa,c 11 aa,c 12 aa];refine⟨aa,λq=>aG X q,λ_ q=>aG a2 q,λ_ _ q=>aG W q,λ_ _ _ k M=> ?_⟩;rw[Of V W M P];exact⟨λq=>aG p q,λ_=>rfl⟩;have g:y=false:=by simpa using N
 refine⟨λq=>aG X q,λ_ q=>aG a2 q,λ_ _ q=>aG W q,λ_ _ _ k M=> ?_⟩;rw[Of V W M P];exact⟨λ_=>rfl,λq=>aG q (s g)⟩
def x89(h:gc)(av ah:Int)(x:Nat->Int)(r:RV)(D:Sl r):∃o,TB.Ev 89 (wk++[.i av,.i ah,.i (x 0),.i (x 1),.i (x 2),.i (x 3),.i (x 4),.i (x 5),.i (x 6),.i (x 7),.i (x 8),.i (x 9),.i (x 10),.i (x 11),.i (x 12),.r r]) o/\∃B,o=.ret B/\Kw av ah x r B:=by
 refine dR ?_;have V:=Oc av ah h;have m:=aaC av ah h;have Q:=V.n;have A:=SU sy h av ah;obtain⟨o,z,v,b,rfl,h3,l⟩:=atu _ r D Q V.k;obtain⟨o',j,y,b',rfl,w⟩:=avp _ r D V;have X:=Aw z j;injection X with X;injection X with af X;injection X with X _;injection X with X;subst X;simp only[wk,da,di] at A;simp[T89,wk,aT A,aT z];refine ax (λW=> ?_) (λW=>⟨λ_=>rfl,λq=>aG q W,λq=>aG q W,λq=>aG q W⟩);refine ax (λa2=> ?_) (λa2=> ?_)
 case refine_2=>
  have e:=Tx x a2;rw[e];exact⟨λq=>aG W q,λ_ _=>rfl,λ_ q=>aG q a2,λ_ q=>aG q a2⟩
 refine ax (λN=> ?_) (λN=>⟨λq=>aG W q,λ_ q=>aG a2 q,λ_ _ _=>rfl,λ_ _ q=>aG (w.2 q) N⟩);have P:=w.1 N;have M:=l N;have g:=M.1;have f:Y v<=140737488355328:=aa;refine cP (Y v) (λi d=>d=[.i (cm x v i 0),.i (cm x v i 1),.i (cm x v i 2),.i (cm x v i 3),.i (cm x v i 4),.i (cm x v i 5),.i (cm x v i 6),.i (cm x v i 7),.i (cm x v i 8),.i (cm x v i 9),.i (cm x v i 10),.i (cm x v i 11),.i (cm x v i 12),.i (cm x v i 0),.i (cm x v i 1),.i (cm x v i 2),.i (cm x v i 3),.i (cm x v i 4),.i (cm x v i 5),.i (cm x v i 6),.i (cm x v i 7),.i (cm x v i 8),.i (cm x v i 9),.i (cm x v i 10),.i (cm x v i 11),.i (cm x v i 12)]/\rS (cm x v i)/\rD x v i) ⟨0,rfl,FJ _,rfl,a2,λi h=>aa⟩ ?_;rintro i _ H ⟨rfl,c,u⟩;have s:=ahQ (cm x v i) v i;simp only[bG,bu,da,di] at s;simp;refine ax (λH=>⟨H, ?_⟩) (λa=> ?_);obtain⟨k,hk,e1,p,e3,e4,e5,e6,e7,e8⟩:=aaA V P M (show i<(ck av ah).length from aa);obtain⟨-,g2⟩:=aiR (m i aa) c e3 e4 e5 e6 e7 e8;rw[aT s];simp[cu H f];refine ax (λG=>ax (λ_=>⟨⟨rfl,rfl,rfl,rfl,rfl,rfl,rfl,rfl,rfl,rfl,rfl,rfl,rfl,rfl,rfl,rfl,rfl,rfl,rfl,rfl,rfl,rfl,rfl,rfl,rfl,rfl⟩,(SY (cm x v i) v i G).1,jc u G⟩) (λQ=>aG G Q)) (λQ=> ?_);have p:j9 (cm x v i) v i 13=2:=g2.resolve_left Q;rw[p];refine⟨λq=>aG W q,λ_ q=>aG a2 q,λ_ _ q=>aG P q,λ_ _ _ y F=> ?_⟩;rw[Of V P F M];exact⟨λ_=>rfl,λq=>aG (q i aa) Q⟩;have ac:i=Y v:=aa9 H (T6 a);refine⟨λq=>aG W q,λ_ q=>aG a2 q,λ_ _ q=>aG P q,λ_ _ _ y F=> ?_⟩;rw[Of V P F M,<-g,<-ac];exact⟨λq=>aG u q,λ_=>rfl⟩
def u89(h:gc)(av ah:Int)(x:Nat->Int)(r:RV)(M:Sl r):∃o,TB.Ev 89 (wk++[.i av,.i ah,.i (x 0),.i (x 1),.i (x 2),.i (x 3),.i (x 4),.i (x 5),.i (x 6),.i (x 7),.i (x 8),.i (x 9),.i (x 10),.i (x 11),.i (x 12),.r r]) o/\∃Q,o=.ret Q/\jX (kI 14) Q=true:=by
 obtain⟨o,X,Q,rfl,k⟩:=x89 h av ah x r M;refine⟨_,X,_,rfl, ?_⟩;by_cases X:gf av ah=0;by_cases W:rS x;by_cases V:nz (ck av ah) r;obtain⟨v,P⟩:=Kv V;by_cases N:rD x v (ck av ah).length;rw[(k.w X W V v P).2 N];rfl;rw[(k.w X W V v P).1 N];rfl;rw[k.m X W V];rfl;rw[k.p X W];rfl;rw[k.c X];rfl
def aEB(h:gc)(av ah:Int)(x:Nat->Int)(r:RV)(W:Sl r):∃X,TB.Ev 89 (wk++[.i av,.i ah,.i (x 0),.i (x 1),.i (x 2),.i (x 3),.i (x 4),.i (x 5),.i (x 6),.i (x 7),.i (x 8),.i (x 9),.i (x 10),.i (x 11),.i (x 12),.r r]) (.ret X)/\TB.Ev 171 (wk++[.i av,.i ah,.i (x 0),.i (x 1),.i (x 2),.i (x 3),.i (x 4),.i (x 5),.i (x 6),.i (x 7),.i (x 8),.i (x 9),.i (x 10),.i (x 11),.i (x 12),.r r]) (.ret X)/\Kw av ah x r X:=by
 obtain⟨o,P,X,rfl,V⟩:=x89 h av ah x r W;obtain⟨M,Q,H,rfl,N⟩:=aEA h av ah x r W;rw[<-V.eq N] at Q;exact⟨_,P,Q,V⟩
end
section
variable{R:bv->Prop}{a:aY}{t:T}{O:ai}{L:dE}
def HS(n:Int):Prop:=(97<=n/\n<=122)\/(65<=n/\n<=90)
def aEC(n:Int):∃o,TB.Ev 207 [.i n] o/\∃e,o=.ret [.i e]/\(e=2<->HS n)/\(e=3<->48<=n/\n<=57)/\(e=5<->n=95):=by
 refine dR ?_;simp[Zw,HS]
 repeat'(refine ax (λ_=> ?_) (λ_=> ?_))
 all_goals first|omega|(simp;omega)
def Kx(n:Int):Prop:=HS n\/(48<=n/\n<=57)\/n=95
structure Og(s:RV):Prop where
 l:1<=lenOf s.val/\lenOf s.val<=32
 f:HS (kY s.val 0)
 c:∀i:Nat,(i:Int)<lenOf s.val->Kx (kY s.val i)
def aED(n:Int):(oi 207 [.i n] 0=2<->HS n)/\(oi 207 [.i n] 0=3<->48<=n/\n<=57)/\(oi 207 [.i n] 0=5<->n=95):=(tV (aEC n)).2
def avr(V:nT H):∃n:Nat,lenOf H.val=n/\(uq H.val (.string {data:= #[]})=J<->n=0):=by
 obtain⟨u,X⟩:=V;refine⟨u.size,by rw[X];rfl, ?_⟩;rw[X];simp only[uq];constructor;intro h;have W:u.toList=(ByteArray.mk #[]).toList:=by simpa using h
 rw[ByteArray.toList_eq,ByteArray.toList_eq] at W;have:Y u.data.toList=0:=by rw[W];rfl
 simpa using this;intro h;have Q:u=ByteArray.empty:=by simpa using h
 rw[Q];simp only[du];rfl
def aEE(s:RV)(M:nT s):∃o,TB.Ev 135 [.r s] o/\∃b,o=.ret [.b b]/\(b=J<->Og s):=by
 obtain⟨n,V,Q⟩:=avr M;have X:=λi=>aED (kY s.val i)
 refine dR ?_;simp[Zu,V];refine ax (λe p=>by have:=p.l;have:=Q.1 e;omega) (λe=>ax (λH p=>by have:=p.l;omega) (λH=> ?_));have B:n≠0:=λq=>e (Q.2 q)
 refine⟨aa,ax (λf=> ?_) (λf p=>f ((X 0).1.2 p.f))⟩;have f:=(X 0).1.1 f;refine cP n (λi G=>G=[]/\∀k<i,Kx (kY s.val k)) ⟨0,rfl,aa,rfl,aa⟩ ?_;rintro i _ W ⟨rfl,P⟩;simp[V];refine ax (λW=> ?_) (λW=> ?_)
 ·have N:Kx (kY s.val i)<->oi 207 [.i (kY s.val i)] 0=2\/oi 207 [.i (kY s.val i)] 0=3\/oi 207 [.i (kY s.val i)] 0=5:=by
   rw[(X i).1,(X i).2.1,(X i).2.2];rfl
  have F:¬Kx (kY s.val i)->¬Og s:=λq p=>q (p.c i aa)
  simp[cu W (show n<=140737488355328 from aa),W]
  repeat'(refine ax (λ_=> ?_) (λ_=> ?_))
  all_goals first|(exact jc P (N.2 (by grind)))|(apply F;rw[N];grind)
 have D:i=n:=aa;subst D;exact⟨aa,f,λk A=>P k aa⟩
def aEF(s:RV)(P:nT s):∃o,TB.Ev 233 [.r s] o/\∃b,o=.ret [.b b]/\(b=J<->Og s):=by
 obtain⟨n,W,F⟩:=avr P;refine dR ?_;simp[ahh,W];refine ax (λe p=>by have:=p.l;omega) (λe=>ax (λN p=>by have:=p.l;omega) (λN=>⟨aa, ?_⟩));have D:∀t:T,True:=λ_=>trivial
 repeat'(refine ax (λ_=> ?_) (λ_=> ?_))
 any_goals(intro p;have:=p.f;simp only[HS] at this;omega)
 all_goals
  have f:HS (kY s.val 0):=by simp only[HS];omega
  refine cP n (λi M=>M=[]/\∀k<i,Kx (kY s.val k)) ⟨0,rfl,aa,rfl,aa⟩ ?_;rintro i _ X ⟨rfl,V⟩;simp[W];refine ax (λX=> ?_) (λX=> ?_)
  ·have Q:Kx (kY s.val i)<->((97<=kY s.val i/\kY s.val i<=122)\/(65<=kY s.val i/\kY s.val i<=90))\/(48<=kY s.val i/\kY s.val i<=57)\/kY s.val i=95:=Iff.rfl;have H:¬Kx (kY s.val i)->¬Og s:=λq p=>q (p.c i aa)
   simp[cu X (show n<=140737488355328 from aa),X]
   repeat'(refine ax (λ_=> ?_) (λ_=> ?_))
   all_goals first|(exact jc V (Q.2 aa))|(apply H;rw[Q];omega)
  have G:i=n:=aa;subst G;exact⟨aa,f,λk B=>V k aa⟩
def aiU(s:RV)(X:nT s):TB.Ev 135 [.r s] (.ret [.b (ob 135 [.r s] 0)])/\(ob 135 [.r s] 0=J<->Og s):=ZM (aEE s X)
def aEG(s:RV)(X:nT s):TB.Ev 233 [.r s] (.ret [.b (ob 135 [.r s] 0)]):=by
 obtain⟨o,h,b,rfl,W⟩:=aEF s X;have:b=ob 135 [.r s] 0:=vx.2 (W.trans (aiU s X).2.symm);rw[<-this];exact h
structure Ky(s:RV)(a0 a1 a2 a3 a4 a5 a6 a7 a8 a9 a10 eD eF a13 a14 a15:Int):Prop where
 n:Og s
 w:1<=a0/\a0<=500
 l:0<=a1/\a1<=500
 g:1<=a2/\a2<=4
 s:1<=a3/\a3<=16
 j:0<=a4/\a4<=16
 r:(1<=a5/\a5<=8)/\(1<=a6/\a6<=8)/\1<=a7/\a7<=8
 p:(1<=a8/\a8<=1048576)/\(1<=a9/\a9<=1048576)/\1<=a10/\a10<=1048576
 t:(1<=eD/\eD<=3)/\(1<=eF/\eF<=3)/\1<=a13/\a13<=3
 e:0<=a14/\a14<=1048576
 v:0<=a15/\a15<=1048576
def aEH(s:RV)(F:nT s)(X W a2 V Q a5 a6 a7 a8 P N eD eF M H G:Int):∃o,TB.Ev 167 [.r s,.i X,.i W,.i a2,.i V,.i Q,.i a5,.i a6,.i a7,.i a8,.i P,.i N,.i eD,.i eF,.i M,.i H,.i G] o/\∃e,o=.ret [.i e]/\Er (Ky s X W a2 V Q a5 a6 a7 a8 P N eD eF M H G) 250 e:=by
 refine dR ?_;have A:=aEG s F;have D:=(aiU s F).2;simp[ahi,aT A];have B:¬Ky s X W a2 V Q a5 a6 a7 a8 P N eD eF M H G->Er (Ky s X W a2 V Q a5 a6 a7 a8 P N eD eF M H G) 250 250:=Er.no
 repeat'(refine ax (λ_=> ?_) (λ_=> ?_))
 all_goals first
  |exact B λp=>aG (D.2 p.n) eS
  |(refine B λp=> ?_;obtain⟨z,y,x,w,v,u,q,m,l,k,j⟩:=p;omega)
  |(refine Er.ok ⟨D.1 eS, ?_, ?_, ?_, ?_, ?_, ?_, ?_, ?_, ?_, ?_⟩<;>omega)
def x75(s:RV)(F:nT s)(X W a2 V Q a5 a6 a7 a8 P N eD eF M H G:Int):∃o,TB.Ev 75 [.r s,.i X,.i W,.i a2,.i V,.i Q,.i a5,.i a6,.i a7,.i a8,.i P,.i N,.i eD,.i eF,.i M,.i H,.i G] o/\∃e,o=.ret [.i e]/\Er (Ky s X W a2 V Q a5 a6 a7 a8 P N eD eF M H G) 250 e:=by
 refine dR ?_;have D:=(aiU s F).2;simp[SF,ahP s F];have B:¬Ky s X W a2 V Q a5 a6 a7 a8 P N eD eF M H G->Er (Ky s X W a2 V Q a5 a6 a7 a8 P N eD eF M H G) 250 250:=Er.no
 repeat'(refine ax (λ_=> ?_) (λ_=> ?_))
 all_goals first
  |exact B λp=>aG (D.2 p.n) eS
  |(refine B λp=> ?_;obtain⟨A,z,y,x,w,v,u,q,m,l,k⟩:=p;omega)
  |(refine Er.ok ⟨D.1 eS, ?_, ?_, ?_, ?_, ?_, ?_, ?_, ?_, ?_, ?_⟩<;>omega)
def aEJ(s:RV)(F:nT s)(X W a2 V Q a5 a6 a7 a8 P N eD eF M H G:Int):Er (Ky s X W a2 V Q a5 a6 a7 a8 P N eD eF M H G) 250 (wH s X W a2 V Q a5 a6 a7 a8 P N eD eF M H G):=(tV (x75 s F X W a2 V Q a5 a6 a7 a8 P N eD eF M H G)).2
def aiV(s:RV)(F:nT s)(X W a2 V Q a5 a6 a7 a8 P N eD eF M H G:Int):TB.Ev 167 [.r s,.i X,.i W,.i a2,.i V,.i Q,.i a5,.i a6,.i a7,.i a8,.i P,.i N,.i eD,.i eF,.i M,.i H,.i G] (.ret [.i (wH s X W a2 V Q a5 a6 a7 a8 P N eD eF M H G)]):=by
 obtain⟨o,h,e,rfl,D⟩:=aEH s F X W a2 V Q a5 a6 a7 a8 P N eD eF M H G;rw[(aEJ s F X W a2 V Q a5 a6 a7 a8 P N eD eF M H G).eq D];exact h
end
section
variable{R:bv->Prop}{f:aY}{t:T}{O:ai}{L:dE}
def aEK(a b c d X W V Q:Int):TB.Ev 195 [.i a,.i b,.i c,.i d,.i X,.i W,.i V,.i Q] (.ret [.i (jn (bc a b c d&&bc X W V Q) (min a X)),.i (jn (bc a b c d&&bc X W V Q) (max b W)),.i (jn (bc a b c d&&bc X W V Q) (min c V)),.i (jn (bc a b c d&&bc X W V Q) (max d Q)),.i (if bc a b c d&&bc X W V Q then 0 else 150)]):=by
 refine ce ?_;simp[ahr,bc,jn]
 repeat'(refine ax (λ_=> ?_) (λ_=> ?_))
 all_goals grind
def aEL(a b c d x y:Int):TB.Ev 239 [.i a,.i b,.i c,.i d,.i x,.i y] (.ret [.i (jn (gv a b c d x y==0) (IntKind.i64.wrap (a+x))),.i (jn (gv a b c d x y==0) (IntKind.i64.wrap (b+x))),.i (jn (gv a b c d x y==0) (IntKind.i64.wrap (c+y))),.i (jn (gv a b c d x y==0) (IntKind.i64.wrap (d+y))),.i (gv a b c d x y)]):=by
 have V:∀p q r s:Int,(bc p q r s=J)=((-1099511627776<=p/\p<=q/\q<=1099511627776)∧-1099511627776<=r/\r<=s/\s<=1099511627776):=λp q r s=>by
  simp only[bc,aA,cz,eq_iff_iff];omega
 refine ce ?_;by_cases X:bc a b c d=J;by_cases Q:(-2199023255552<=x/\x<=2199023255552)∧-2199023255552<=y/\y<=2199023255552;by_cases W:bc (IntKind.i64.wrap (a+x)) (IntKind.i64.wrap (b+x)) (IntKind.i64.wrap (c+y)) (IntKind.i64.wrap (d+y))=J
 ·have e:gv a b c d x y=0:=by simp[gv,X,Q,W]
  rw[V] at X W;rw[e];simp[NR,jn,ay,X,Q,W]
  repeat'(refine ax (λ_=> ?_) (λ_=> ?_))
  all_goals first|omega|rfl|(exfalso;omega)
 ·have e:gv a b c d x y=2:=by simp[gv,X,Q,W]
  rw[V] at X W;rw[e];simp[NR,jn,ay,X,Q]
  repeat'(refine ax (λ_=> ?_) (λ_=> ?_))
  all_goals first|omega|rfl|(exfalso;omega)
 ·have e:gv a b c d x y=2:=by
   have:¬((((-2199023255552<=x/\x<=2199023255552)∧-2199023255552<=y)/\y<=2199023255552)):=aa;simp only[gv,X,OK,jR,gD];rw[aL];simp only[iK,<-ajQ,aA,cz];omega
  rw[V] at X;rw[e];simp[NR,jn,ay,X]
  repeat'(refine ax (λ_=> ?_) (λ_=> ?_))
  all_goals first|omega|rfl|(exfalso;omega)
 ·have e:gv a b c d x y=150:=by simp[gv,X]
  rw[V] at X;rw[e];simp[NR,jn,ay]
  repeat'(refine ax (λ_=> ?_) (λ_=> ?_))
  all_goals first|omega|rfl|(exfalso;omega)
@[simp] def avs (a b c d X W V Q:Int):fZ TB.Ev R 195 [.i a,.i b,.i c,.i d,.i X,.i W,.i V,.i Q] f t O L=f8 TB.Ev R (.ret [.i (jn (bc a b c d&&bc X W V Q) (min a X)),.i (jn (bc a b c d&&bc X W V Q) (max b W)),.i (jn (bc a b c d&&bc X W V Q) (min c V)),.i (jn (bc a b c d&&bc X W V Q) (max d Q)),.i (if bc a b c d&&bc X W V Q then 0 else 150)]) f t O L:=aT (aEK a b c d X W V Q)
@[simp] def aLF (a b c d x y:Int):fZ TB.Ev R 239 [.i a,.i b,.i c,.i d,.i x,.i y] f t O L=f8 TB.Ev R (.ret [.i (jn (gv a b c d x y==0) (IntKind.i64.wrap (a+x))),.i (jn (gv a b c d x y==0) (IntKind.i64.wrap (b+x))),.i (jn (gv a b c d x y==0) (IntKind.i64.wrap (c+y))),.i (jn (gv a b c d x y==0) (IntKind.i64.wrap (d+y))),.i (gv a b c d x y)]) f t O L:=aT (aEL a b c d x y)
end
section
variable{R:bv->Prop}{c:aY}{t:T}{O:ai}{L:dE}
def Kz(a b:Int):Int:=if 1<=a/\a<=8/\0<=b/\b<=7 then(a-1+b)%8+1 else 0
def KC(a b:Int):Int:=if 0<=a/\a<=8/\0<=b/\b<=7 then 0 else 150
def aEM(a b:Int):TB.Ev 138 [.i a,.i b] (.ret [.i (Kz a b),.i (KC a b)]):=by
 refine ce ?_;by_cases h:0<=a/\a<=8/\0<=b/\b<=7;have X:ay .add I a b=a+b:=by simp only[ay];rw[bO aa aa]
 have W:ay .sub I (a+b) 8=a+b-8:=by simp only[ay];rw[bO aa aa]
 simp[NO,X,W,Kz,KC]
 grind
 simp[NO,Kz,KC]
 grind
def aEN(a b:Int):TB.Ev 269 [.i a,.i b] (.ret [.i (Kz a b),.i (KC a b)]):=by
 refine ce ?_;by_cases h:0<=a/\a<=8/\0<=b/\b<=7;have X:ay .add I (ay .rem I (ay .add I (ay .sub I a 1) b) 8) 1=(a-1+b).tmod 8+1:=by
  simp only[ay];rw[bO (n:=a-1) aa aa,bO (n:=a-1+b) aa aa];have:=Int.tmod_lt_of_pos (a-1+b) (show(0:Int)<8 from aa);have W:=Int.lt_tmod_of_pos (a-1+b) (show(0:Int)<8 from aa);rw[bO aa aa]
 have V:1<=a->(a-1+b).tmod 8=(a-1+b)%8:=λq=>Oy aa
 simp[ZG,X,Kz,KC]
 grind
 simp[ZG,Kz,KC]
 grind
def vI(n b:Int):Int:=if b=2 then 29*n else 20*n
def KD(a b:Int):Int:=if 1<=a/\a<=8/\1<=b/\b<=3 then vI (Ke a) b else 0
def KE(a b:Int):Int:=if 1<=a/\a<=8/\1<=b/\b<=3 then vI (Kf a) b else 0
def KF(a b:Int):Int:=if 0<=a/\a<=8/\1<=b/\b<=3 then(if a=0 then 841*(b-2) else 609*(b-2)) else 0
def KG(a b:Int):Int:=if 0<=a/\a<=8/\1<=b/\b<=3 then 0 else 150
def aEO(a b:Int):TB.Ev 139 [.i a,.i b] (.ret [.i (KD a b),.i (KE a b),.i (KF a b),.i (KG a b)]):=by
 refine ce ?_;by_cases h:0<=a/\a<=8/\1<=b/\b<=3
 ·have X:a=0\/a=1\/a=2\/a=3\/a=4\/a=5\/a=6\/a=7\/a=8:=aa;have W:b=1\/b=2\/b=3:=aa;clear h;rcases X with rfl|rfl|rfl|rfl|rfl|rfl|rfl|rfl|rfl<;>rcases W with rfl|rfl|rfl
  all_goals
   simp[NP,ay,KD,KE,KF,KG,vI,Ke,Kf,j7,lu,iV,aZ,bp]
   try decide
 simp[NP,KD,KE,KF,KG]
 grind
def aEP(a b:Int):TB.Ev 261 [.i a,.i b] (.ret [.i (KD a b),.i (KE a b),.i (KF a b),.i (KG a b)]):=by
 refine ce ?_;by_cases h:0<=a/\a<=8/\1<=b/\b<=3
 ·have X:a=0\/a=1\/a=2\/a=3\/a=4\/a=5\/a=6\/a=7\/a=8:=aa;have W:b=1\/b=2\/b=3:=aa;clear h;rcases X with rfl|rfl|rfl|rfl|rfl|rfl|rfl|rfl|rfl<;>rcases W with rfl|rfl|rfl
  all_goals
   simp[ZH,ay,KD,KE,KF,KG,vI,Ke,Kf]
   try decide
 simp[ZH,KD,KE,KF,KG]
 grind
end
section
variable{R:bv->Prop}{e:aY}{t:T}{O:ai}{L:dE}
def avt(a b:Int):oi 138 [.i a,.i b] 0=Kz a b/\oi 138 [.i a,.i b] 1=KC a b:=by
 simp only[oi,De (aEM a b)];exact⟨rfl,rfl⟩
def aEQ(a b:Int):oi 139 [.i a,.i b] 0=KD a b/\oi 139 [.i a,.i b] 1=KE a b/\oi 139 [.i a,.i b] 2=KF a b/\oi 139 [.i a,.i b] 3=KG a b:=by
 simp only[oi,De (aEO a b)];exact⟨rfl,rfl,rfl,rfl⟩
@[simp] def aLG (a b:Int):fZ TB.Ev R 269 [.i a,.i b] e t O L=f8 TB.Ev R (.ret [.i (oi 138 [.i a,.i b] 0),.i (oi 138 [.i a,.i b] 1)]) e t O L:=by
 rw[(avt a b).1,(avt a b).2];exact aT (aEN a b)
@[simp] def aLH (a b:Int):fZ TB.Ev R 261 [.i a,.i b] e t O L=f8 TB.Ev R (.ret [.i (oi 139 [.i a,.i b] 0),.i (oi 139 [.i a,.i b] 1),.i (oi 139 [.i a,.i b] 2),.i (oi 139 [.i a,.i b] 3)]) e t O L:=by
 obtain⟨X,W,V,Q⟩:=aEQ a b;rw[X,W,V,Q];exact aT (aEP a b)
def avu(n:Int):IntKind.i64.wrap (IntKind.i64.wrap n)=IntKind.i64.wrap n:=by
 have:IntKind.i64.wrap n=(n+9223372036854775808)%18446744073709551616-9223372036854775808:=IntKind.wrap_i64 n;exact bO aa aa
def aER(u v:Int):ay .sub I (ay .add I u v) 0=ay .add I u v:=by simp only[ay,Int.sub_zero,avu]
def aES(u v:Int):ay .add I (ay .add I u v) 0=ay .add I u v:=by simp only[ay,Int.add_zero,avu]
def aaE:bc W V z y=J<->(-1099511627776<=W/\W<=V/\V<=1099511627776)∧-1099511627776<=z/\z<=y/\y<=1099511627776:=by
 simp only[bc,aA,cz];omega
def aiW{X Q P N:Int}(M:bc W V z y=J)(H:bc X Q P N=J):bc (min W X) (max V Q) (min z P) (max y N)=true:=by
 rw[aaE] at*;omega
def aET{p q:Int}(X:bc W V z y=J)(Q:bc p p q q=J):fZ TB.Ev R 195 [.i W,.i V,.i z,.i y,.i p,.i p,.i q,.i q] e t O L=f8 TB.Ev R (.ret [.i (min W p),.i (max V p),.i (min z q),.i (max y q),.i 0]) e t O L:=by
 rw[avs,X,Q];rfl
end
section
variable[Inhabited dB]
def aEU(x:Nat->Int)(s:RV)(X:nT s)(a:Nat->Int):∃o,TB.Ev 27 [.i (x 0),.i (x 1),.i (x 2),.i (x 3),.i (x 4),.i (x 5),.i (x 6),.i (x 7),.i (x 8),.i (x 9),.i (x 10),.i (x 11),.i (x 12),.r s,.i (a 1),.i (a 2),.i (a 3),.i (a 4),.i (a 5),.i (a 6),.i (a 7),.i (a 8),.i (a 9),.i (a 10),.i (a 11),.i (a 12),.i (a 13),.i (a 14),.i (a 15),.i (a 16)] o/\∃P,o=.ret P/\TB.Ev 122 [.i (x 0),.i (x 1),.i (x 2),.i (x 3),.i (x 4),.i (x 5),.i (x 6),.i (x 7),.i (x 8),.i (x 9),.i (x 10),.i (x 11),.i (x 12),.r s,.i (a 1),.i (a 2),.i (a 3),.i (a 4),.i (a 5),.i (a 6),.i (a 7),.i (a 8),.i (a 9),.i (a 10),.i (a 11),.i (a 12),.i (a 13),.i (a 14),.i (a 15),.i (a 16)] (.ret P):=by
 have V:=aiV s X (a 1) (a 2) (a 3) (a 4) (a 5) (a 6) (a 7) (a 8) (a 9) (a 10) (a 11) (a 12) (a 13) (a 14) (a 15) (a 16);by_cases k:vc (x 0) (x 1) (x 2) (x 3) (x 4) (x 5) (x 6) (x 7) (x 8) (x 9) (x 10) (x 11) (x 12)=0
 case neg=>
  have e:=Tx x k;refine⟨.ret [.i 0,.i 0,.i 0,.i 0,.i 260],ce ?_,_,rfl,ce ?_⟩;simp[Fb,e];simp[SK,e]
 by_cases m:wH s (a 1) (a 2) (a 3) (a 4) (a 5) (a 6) (a 7) (a 8) (a 9) (a 10) (a 11) (a 12) (a 13) (a 14) (a 15) (a 16)=0
 case neg=>
  refine⟨.ret [.i 0,.i 0,.i 0,.i 0,.i (wH s (a 1) (a 2) (a 3) (a 4) (a 5) (a 6) (a 7) (a 8) (a 9) (a 10) (a 11) (a 12) (a 13) (a 14) (a 15) (a 16))],ce ?_,_,rfl,ce ?_⟩;simp[Fb,k,HG s X,m];simp[SK,k,aT V,m]
 rw[m] at V;have p:=(o7 _ _ _ _ _ _ _ _ _ _ _ _ _).1 k;obtain⟨v,O,N,M⟩:=ZO s X _ _ _ _ _ _ _ _ _ _ _ _ _ _ _ _ m;have L:=p.x;have H:=p.y;have t:bc (ay .sub I (ay .mul I 29 (x 0)) (ay .mul I 841 (a 3))) (ay .add I (ay .mul I 29 (x 0)) (ay .mul I 841 (a 3))) (ay .sub I (ay .mul I 29 (x 1)) (ay .mul I 841 (a 3))) (ay .add I (ay .mul I 29 (x 1)) (ay .mul I 841 (a 3)))=true:=by
  rw[aaE];simp only[ay];rw[bO (n:=29*x 0) aa aa,bO (n:=29*x 1) aa aa,bO (n:=841*a 3) aa aa,bO (n:=29*x 0-841*a 3) aa aa,bO (n:=29*x 0+841*a 3) aa aa,bO (n:=29*x 1-841*a 3) aa aa,bO (n:=29*x 1+841*a 3) aa aa];omega
 have W:∀r u w,1<=r/\r<=8->bc (ay .add I (ay .mul I 29 (x 0)) (ay .mul I r (oi 139 [.i u,.i w] 0))) (ay .add I (ay .mul I 29 (x 0)) (ay .mul I r (oi 139 [.i u,.i w] 0))) (ay .add I (ay .mul I 29 (x 1)) (ay .mul I r (oi 139 [.i u,.i w] 1))) (ay .add I (ay .mul I 29 (x 1)) (ay .mul I r (oi 139 [.i u,.i w] 1)))=true:=λr u w G=>by
  have R:=ZY L G (NX u w).1;have Q:=ZY H G (NX u w).2;simp only[Bd] at R Q;rw[aaE];exact⟨⟨R.1,Int.le_refl _,R.2⟩,Q.1,Int.le_refl _,Q.2⟩
 have q:=λu w=>W (a 6) u w O
 have l:=λu w=>W (a 7) u w N
 have t3:=λu w=>W (a 8) u w M
 have j:¬x 4=0->0<x 4:=λe=>by have:=p.m0;simp only[Lm] at this;omega
 have h:¬x 6=0->0<x 6:=λe=>by have:=p.m1;simp only[Lm] at this;omega
 have g:¬x 8=0->0<x 8:=λe=>by have:=p.m2;simp only[Lm] at this;omega
 have f:¬x 10=0->0<x 10:=λe=>by have:=p.m3;simp only[Lm] at this;omega
 have d:¬x 12=0->0<x 12:=λe=>by have:=p.m4;simp only[Lm] at this;omega
 clear W L H v O N M p;refine dR ?_;simp(maxSteps:=9999999) [Fb,HG s X,k,m]
 repeat'(refine ax (λ_=> ?_) (λ_=> ?_))
 all_goals
  rename_i F D B A z
  try simp only[F,D,B,A,z] at k
  refine ce ?_;simp(config:={maxSteps:=10000000,maxDischargeDepth:=12}) [-avs,SK,k,aT V,aET,aiW,t,q,l,t3,aER,aES,j,h,g,f,d,F,D,B,A,z]
  try omega
end
section
variable{R:bv->Prop}{a:aY}{t:T}{O:ai}{L:dE}
variable[Inhabited dB]
def bm(X:RV)(k:Nat):Int:=wH (db .str (aZ X.ae (k:Int) 0)) (ci X k 1) (ci X k 2) (ci X k 3) (ci X k 4) (ci X k 5) (ci X k 6) (ci X k 7) (ci X k 8) (ci X k 9) (ci X k 10) (ci X k 11) (ci X k 12) (ci X k 13) (ci X k 14) (ci X k 15) (ci X k 16)
def r93(h:gc)(X:RV)(cT:Sl X):∃o,TB.Ev 93 (wk++[.r X]) o/\∃b,o=.ret [.b b]/\(b=J<->Y X.ae=Y az.ae/\∀k<Y X.ae,bm X k=0):=by
 refine dR ?_;simp[T93,wk,h.rl.len,cT.len];refine ax (λW=> ?_) (λW=> ?_)
 case refine_2=>first|exact λq=>aG aa W|exact λq _=>aG aa W
 have W:Y X.ae=Y az.ae:=aa;refine cP (Y X.ae) (λi N=>N=[]/\∀k<i,bm X k=0) ⟨0,rfl,aa,rfl,aa⟩ ?_;rintro i _ V ⟨rfl,Q⟩;simp[cT.len];refine ax (λV=>⟨V, ?_⟩) (λV=> ?_);have P:=aiV (db .str (aZ X.ae (i:Int) 0)) (yg _) (ci X i 1) (ci X i 2) (ci X i 3) (ci X i 4) (ci X i 5) (ci X i 6) (ci X i 7) (ci X i 8) (ci X i 9) (ci X i 10) (ci X i 11) (ci X i 12) (ci X i 13) (ci X i 14) (ci X i 15) (ci X i 16);simp only[ci] at P;rw[aT P];simp[cu V cT.sm];exact ax (λe=>jc Q e) (λe _=>⟨i,V,e⟩);have M:i=Y X.ae:=aa;subst M
 first|exact⟨W,Q⟩
structure t8(ah:Int)(bd mv bf re:RV):Prop where
 b:Y bd.ae=Y az.ae/\∀k<Y bd.ae,bm bd k=0
 m:Y mv.ae=Y az.ae
 f:Y bf.ae=Y az.ae
 r:Y re.ae=Y az.ae
 k:∀k<Y az.ae,rS (ci bf k)/\(cb mv k 0=E->(cr 96 re k).ae.length=0)/\(cb mv k 0=J->Dn k ah (cr 96 re k)=0)
def r41(h:gc)(ah:Int)(N W P X:RV)(cT:Sl N)(B:Sl W)(qG:Sl P)(A:Sl X)(n:∀i<Y X.ae,Sl (cr 96 X i)):∃o,TB.Ev 41 (wk++[.r N,.i ah,.r W,.r P,.r X]) o/\∃b,o=.ret [.b b]/\(b=J<->t8 ah N W P X):=by
 refine dR ?_;obtain⟨o,z,b,rfl,y⟩:=r93 h N cT;simp only[wk,da,di] at z;simp[T41,wk,h.rl.len,B.len,qG.len,A.len,aT z];refine ax (λG=> ?_) (λG p=>G (y.2 p.b));refine ax (λa2=> ?_) (λa2 p=>a2 (by have:=p.m;omega));refine ax (λx=> ?_) (λx p=>x (by have:=p.f;omega));refine ax (λw=> ?_) (λw p=>w (by have:=p.r;omega));refine cP (Y az.ae) (λi l=>l=[]/\∀k<i,rS (ci P k)/\(cb W k 0=E->(cr 96 X k).ae.length=0)/\(cb W k 0=J->Dn k ah (cr 96 X k)=0)) ⟨0,rfl,aa,rfl,aa⟩ ?_;rintro i _ Q ⟨rfl,M⟩;simp[h.rl.len,B.len,qG.len,A.len];refine ax (λQ=> ?_) (λQ=> ?_);have v:=n i aa;have F:=f95 h i ah (cr 96 X i) v;have u:=v.len;simp only[wk,da,di] at F;simp only[cr] at F u;have s:∀k<i,rS (ci P k)/\(cb W k 0=E->(cr 96 X k).ae=[])/\(cb W k 0=J->Dn k ah (cr 96 X k)=0):=λk D=>⟨(M k D).1,λq=>wS.1 ((M k D).2.1 q),(M k D).2.2⟩
 simp[aT F,u,cu Q h.rl.sm];refine⟨aa,ax (λH=>⟨aa, ?_⟩) (λH p=>H (p.k i Q).1)⟩;by_cases V:fW (aZ W.ae (i:Int) 0).val=J;rw[aL V];refine⟨aa, ?_⟩;rw[aL V];refine⟨aa,ax (λe=>jc s ⟨H,λq=>aG V (by simp only[cb] at q;simp[q]),λ_=>e⟩) (λe p=>e ((p.k i Q).2.2 V))⟩;rw[aP V];refine⟨aa,ax (λe p=> ?_) (λe=>⟨aa, ?_⟩)⟩;have:=(p.k i Q).2.1 (by simpa[cb] using V);simp only[cr] at this;omega;rw[aP V];exact jc s ⟨H,λ_=>wS.1 (by simp only[cr];omega),λq=>aG q V⟩;have j:i=Y az.ae:=aa;subst j;exact⟨y.1 G,aa,aa,aa,M⟩
end
section
variable[Inhabited dB]
def pf(c:Nat->Int)(j:Int):Bool:=decide ((c 4=1/\j=c 5-1)\/(c 4=2/\(j=0\/j=1))\/(c 4=3/\j=c 5-1)\/(c 4=4/\j=c 5+1)\/(c 4=5/\j=4)\/(c 4=7/\(j=2\/j=3))\/(c 4=8/\(j=0\/j=1))\/(c 4=9/\j=c 5+1))
def aEX(c:Nat->Int)(j:Int):pf c j=J<->Tc (c 4) (c 5) j:=by simp only[pf,cz,Tc]
def aEY(c:Nat->Int)(X:kh W V c):TB.Ev 294 (bG c) (.ret [.b (pf c 0),.b (pf c 1),.b (pf c 2),.b (pf c 3),.b (pf c 4)]):=by
 refine ce ?_;have R:=X.side;have Q:c 4=1\/c 4=2\/c 4=3\/c 4=4\/c 4=5\/c 4=6\/c 4=7\/c 4=8\/c 4=9:=by have:=X.kind;omega
 have P:c 5=0\/c 5=1\/c 5=2:=by split at R<;>omega
 rcases Q with h|h|h|h|h|h|h|h|h<;>rcases P with d|d|d
 all_goals simp[h,d] at R
 all_goals simp[ahs,bG,h,d,pf,Tt,Tu,Tv,Tw]

def sD(n d f l:Int)(j:Nat):Int:=ay .mul I n (oi 139 [.i (oi 138 [.i d,.i f] 0),.i l] j)
def aEZ(x:Nat->Int)(s:RV)(a:Nat->Int)(k:Nat)(W:k<5):TB.Ev 296 [.i (x 0),.i (x 1),.i (x 2),.i (x 3),.i (x 4),.i (x 5),.i (x 6),.i (x 7),.i (x 8),.i (x 9),.i (x 10),.i (x 11),.i (x 12),.r s,.i (a 1),.i (a 2),.i (a 3),.i (a 4),.i (a 5),.i (a 6),.i (a 7),.i (a 8),.i (a 9),.i (a 10),.i (a 11),.i (a 12),.i (a 13),.i (a 14),.i (a 15),.i (a 16),.i k] (.ret [.i (sD (a (6+k/2)) (x (3+2*k)) (x 2) (x (4+2*k)) 0),.i (sD (a (6+k/2)) (x (3+2*k)) (x 2) (x (4+2*k)) 0),.i (sD (a (6+k/2)) (x (3+2*k)) (x 2) (x (4+2*k)) 1),.i (sD (a (6+k/2)) (x (3+2*k)) (x 2) (x (4+2*k)) 1)]):=by
 refine ce ?_;have X:k=0\/k=1\/k=2\/k=3\/k=4:=aa;rcases X with rfl|rfl|rfl|rfl|rfl
 all_goals
  simp[aht,sD,show ay .quo I 0 2=0 from rfl,show ay .quo I 1 2=0 from rfl,show ay .quo I 2 2=1 from rfl,show ay .quo I 3 2=1 from rfl,show ay .quo I 4 2=2 from rfl]

def eR(av ah:Int)(x:Nat->Int)(r:RV):bn:=wk++[.i av,.i ah,.i (x 0),.i (x 1),.i (x 2),.i (x 3),.i (x 4),.i (x 5),.i (x 6),.i (x 7),.i (x 8),.i (x 9),.i (x 10),.i (x 11),.i (x 12),.r r]
def avv(h:gc)(av ah:Int)(x:Nat->Int)(r:RV)(X:Sl r):TB.Ev 89 (eR av ah x r) (.ret [.i (oi 89 (eR av ah x r) 0),.i (oi 89 (eR av ah x r) 1),.i (oi 89 (eR av ah x r) 2),.i (oi 89 (eR av ah x r) 3),.i (oi 89 (eR av ah x r) 4),.i (oi 89 (eR av ah x r) 5),.i (oi 89 (eR av ah x r) 6),.i (oi 89 (eR av ah x r) 7),.i (oi 89 (eR av ah x r) 8),.i (oi 89 (eR av ah x r) 9),.i (oi 89 (eR av ah x r) 10),.i (oi 89 (eR av ah x r) 11),.i (oi 89 (eR av ah x r) 12),.i (oi 89 (eR av ah x r) 13)])/\TB.Ev 171 (eR av ah x r) (.ret [.i (oi 89 (eR av ah x r) 0),.i (oi 89 (eR av ah x r) 1),.i (oi 89 (eR av ah x r) 2),.i (oi 89 (eR av ah x r) 3),.i (oi 89 (eR av ah x r) 4),.i (oi 89 (eR av ah x r) 5),.i (oi 89 (eR av ah x r) 6),.i (oi 89 (eR av ah x r) 7),.i (oi 89 (eR av ah x r) 8),.i (oi 89 (eR av ah x r) 9),.i (oi 89 (eR av ah x r) 10),.i (oi 89 (eR av ah x r) 11),.i (oi 89 (eR av ah x r) 12),.i (oi 89 (eR av ah x r) 13)])/\Kw av ah x r [.i (oi 89 (eR av ah x r) 0),.i (oi 89 (eR av ah x r) 1),.i (oi 89 (eR av ah x r) 2),.i (oi 89 (eR av ah x r) 3),.i (oi 89 (eR av ah x r) 4),.i (oi 89 (eR av ah x r) 5),.i (oi 89 (eR av ah x r) 6),.i (oi 89 (eR av ah x r) 7),.i (oi 89 (eR av ah x r) 8),.i (oi 89 (eR av ah x r) 9),.i (oi 89 (eR av ah x r) 10),.i (oi 89 (eR av ah x r) 11),.i (oi 89 (eR av ah x r) 12),.i (oi 89 (eR av ah x r) 13)]:=by
 have e:=nx _ (u89 h av ah x r X);simp only[Bn,Bm,qC] at e;obtain⟨Q,W,V,R⟩:=aEB h av ah x r X;have d:=Aw W e;injection d with d;subst d;exact⟨W,V,R⟩
def r96(h:gc)(av ah:Int)(x:Nat->Int)(r:RV)(W:Sl r)(b:Bool):TB.Ev 96 (wk++[.i ah,.i av,.b b,.i (x 0),.i (x 1),.i (x 2),.i (x 3),.i (x 4),.i (x 5),.i (x 6),.i (x 7),.i (x 8),.i (x 9),.i (x 10),.i (x 11),.i (x 12),.r r]) (.ret (if b=J then[.i (oi 89 (eR av ah x r) 0),.i (oi 89 (eR av ah x r) 1),.i (oi 89 (eR av ah x r) 2),.i (oi 89 (eR av ah x r) 3),.i (oi 89 (eR av ah x r) 4),.i (oi 89 (eR av ah x r) 5),.i (oi 89 (eR av ah x r) 6),.i (oi 89 (eR av ah x r) 7),.i (oi 89 (eR av ah x r) 8),.i (oi 89 (eR av ah x r) 9),.i (oi 89 (eR av ah x r) 10),.i (oi 89 (eR av ah x r) 11),.i (oi 89 (eR av ah x r) 12),.i (oi 89 (eR av ah x r) 13)] else Oe x)):=by
 refine ce ?_;have X:=(avv h av ah x r W).2.1;simp only[eR,wk,da,di] at X;cases b with
 |false=>simp[ZI,wk,Oe]
 |true=>simp[ZI,wk,aT X,eR]
end
section
variable{R:bv->Prop}{c:aY}{t:T}{O:ai}{L:dE}
variable[Inhabited dB]
def vl(v:ar):Nat->Nat->Bool
 |0,_=>E
 |i+1,0=>vl v i 0||(!fW (aZ v i 17).val&&decide (bu v i 4=6))
 |i+1,j+1=>vl v i (j+1)||(!fW (aZ v i 17).val&&pf (bu v i) j)
def sF(F:Nat->Bool)(X:Nat->Int)(g:Int)(x:Nat->Int):Nat->Nat->Int
 |0,j=>if j%2=0 then ay .sub I 0 (ay .mul I 841 g) else ay .mul I 841 g
 |n+1,j=>if F (1+n)=E/\x (4+2*n)=0 then sF F X g x n j
  else if F (1+n)=J\/F 0=J then(if j%2=0 then min (sF F X g x n j) (ay .sub I 0 (ay .mul I 841 (X n))) else max (sF F X g x n j) (ay .mul I 841 (X n)))
  else if j%2=0 then min (sF F X g x n j) (sD (X n) (x (3+2*n)) (x 2) (x (4+2*n)) (j/2)) else max (sF F X g x n j) (sD (X n) (x (3+2*n)) (x 2) (x (4+2*n)) (j/2))
def aE1{V:Nat->Bool}(h:∀k<6,M k=V k):∀n≤5,∀j,sF M X W N n j=sF V X W N n j:=by
 intro n;induction n with
 |zero=>intro _ j;rfl
 |succ n Q=>
  intro P j;simp only[sF,Q aa,h (1+n) aa,h 0 aa]
structure rE(f0 f1 f2 f3 g:Int)(rc:Nat->Int)(F:Nat->Bool)(x:Nat->Int)(n:Nat):Prop where
 fg:Fg f0 f1 f2 f3
 e0:f0=sF F rc g x n 0
 e1:f1=sF F rc g x n 1
 e2:f2=sF F rc g x n 2
 e3:f3=sF F rc g x n 3
def rE.box{g p P q H:Int}(h:rE W V z y g X M N Q)(a:S6 p P)(b:S6 q H):(bc W V z y&&bc p P q H)=true:=by
 have G:=h.fg;simp only[Fg,S6] at G a b;simp[bc];omega
def rE.any{g r d l:Int}(h:rE W V z y g X M N Q)(A:1<=r/\r<=8)(e:X Q=r)(hd:N (3+2*Q)=d)(hl:N (4+2*Q)=l){b q:Bool}(hb:M (1+Q)=b)(hq:M 0=q){s t u v w:Int}(h1:ay .sub I 0 (ay .mul I 841 r)=s)(h2:ay .mul I 841 r=t)(h3:N 2=u)(h4:ay .mul I r (oi 139 [.i (oi 138 [.i d,.i u] 0),.i l] 0)=v)(h5:ay .mul I r (oi 139 [.i (oi 138 [.i d,.i u] 0),.i l] 1)=w){m:Nat}(hm:Q+1=m):
  (¬b=J->l=0->rE W V z y g X M N m)/\(b=J->rE (jn (bc W V z y&&bc s t s t) (min W s)) (jn (bc W V z y&&bc s t s t) (max V t)) (jn (bc W V z y&&bc s t s t) (min z s)) (jn (bc W V z y&&bc s t s t) (max y t)) g X M N m)/\
  (q=J->¬l=0->rE (jn (bc W V z y&&bc s t s t) (min W s)) (jn (bc W V z y&&bc s t s t) (max V t)) (jn (bc W V z y&&bc s t s t) (min z s)) (jn (bc W V z y&&bc s t s t) (max y t)) g X M N m)/\
  (¬b=J->¬q=J->¬l=0->rE (jn (bc W V z y&&bc v v w w) (min W v)) (jn (bc W V z y&&bc v v w w) (max V v)) (jn (bc W V z y&&bc v v w w) (min z w)) (jn (bc W V z y&&bc v v w w) (max y w)) g X M N m):=by
 subst hd hl hb hq h1 h2 h3 h4 h5 hm e;have G:=ahX A;have c:=ZQ A (ZR (N (3+2*Q)) (N 2) (N (4+2*Q)));have a:=ZQ A (ZS (N (3+2*Q)) (N 2) (N (4+2*Q)));have D:=h.fg.jn1 G G;have B:=h.fg.jn1 c a;have b1:=h.box G G;have p:=h.box c a;rw[b1] at D;rw[p] at B;simp only[vX,vY] at B p;rw[b1,p];simp only[jn,cN] at D B⊢;have o:=h.e0;have k:=h.e1;have j:=h.e2;have f:=h.e3;refine⟨λm P=> ?_,λm=> ?_,λm P=> ?_,λm m' P=> ?_⟩;refine⟨h.fg, ?_, ?_, ?_, ?_⟩<;>simp only[sF]<;>rw[aL ⟨H7.2 m,P⟩]<;>assumption;have H:¬(M (1+Q)=E/\N (4+2*Q)=0):=λq=>by rw[m] at q;cases q.1
 refine⟨D, ?_, ?_, ?_, ?_⟩<;>simp only[sF]<;>rw[aP H,aL (.inl m)]<;>simp[o,k,j,f];have H:¬(M (1+Q)=E/\N (4+2*Q)=0):=λq=>P q.2
 refine⟨D, ?_, ?_, ?_, ?_⟩<;>simp only[sF]<;>rw[aP H,aL (.inr m)]<;>simp[o,k,j,f];have H:¬(M (1+Q)=E/\N (4+2*Q)=0):=λq=>P q.2
 have c2:¬(M (1+Q)=J\/M 0=J):=λq=>q.elim m m'
 refine⟨B, ?_, ?_, ?_, ?_⟩<;>simp only[sF]<;>rw[aP H,aP c2]<;>simp[o,k,j,f,sD]
def rE.zero(V:1<=W/\W<=8)(X:Nat->Int)(F:Nat->Bool)(x:Nat->Int):rE (ay .sub I 0 (ay .mul I 841 W)) (ay .mul I 841 W) (ay .sub I 0 (ay .mul I 841 W)) (ay .mul I 841 W) W X F x 0:=by
 refine⟨?_,rfl,rfl,rfl,rfl⟩;simp only[ay,Fg];rw[bO (n:=841*W) aa aa,bO aa aa];omega
def rE.vn{g:Int}{Q:Nat->Bool}(h:rE W V z y g X M N 5)(e:∀k<6,M k=Q k):rE W V z y g X Q N 5:=by
 refine⟨h.fg, ?_, ?_, ?_, ?_⟩<;>rw[<-aE1 e 5 aa];exact h.e0;exact h.e1;exact h.e2;exact h.e3
def aE2(N:1<=W/\W<=9)(Q:if W=1\/W=3\/W=4\/W=9 then 1<=V/\V<=2 else V=0){j:Nat}(h:(∃a<(iX W 0).ae.length,(j:Int)=bp (aZ (iX W 0).ae (a:Int) 0).val+V-1)\/∃a<(iX W 1).ae.length,(j:Int)=bp (aZ (iX W 1).ae (a:Int) 0).val):Tc W V j:=by
 have:W=1\/W=2\/W=3\/W=4\/W=5\/W=6\/W=7\/W=8\/W=9:=aa;have P:∀a:Nat,a<2->a=0\/a=1:=λa h=>aa
 rcases this with rfl|rfl|rfl|rfl|rfl|rfl|rfl|rfl|rfl
 all_goals
  simp at Q;rcases h with⟨a,X,e⟩|⟨a,X,e⟩
  all_goals
   simp[iX,o8,j7,lu,sV,iV,aZ,db,-tW] at X
   try
    first
     |(subst X
       simp[iX,o8,j7,lu,sV,iV,aZ,db,bp,-tW] at e;simp[Tc];omega)
     |(rcases P a X with rfl|rfl
       all_goals
        simp[iX,o8,j7,lu,sV,iV,aZ,db,bp,-tW] at e;simp[Tc];omega)

def avw{G:Nat->Bool}{tu:Bool}(W:∀k<6,M k=vl P Q k)(V:fW (aZ P (Q:Int) 17).val=E)(N:tu=(M 0||decide (bu P Q 4=6)))(H:∀j<5,G j=(M (1+j)||pf (bu P Q) j)):∃X:Nat->Bool,(tu=X 0/\G 0=X 1/\G 1=X 2/\G 2=X 3/\G 3=X 4/\G 4=X 5)/\∀k<6,X k=vl P (Q+1) k:=by
 refine⟨λj=>match j with|0=>tu|j+1=>G j,⟨rfl,rfl,rfl,rfl,rfl,rfl⟩,λk D=> ?_⟩
 match k,D with
 |0,_=>simp only[vl,V,ajU,Du];rw[<-W 0 aa];exact N
 |j+1,B=>simp only[vl,V,ajU,Du];rw[<-W (j+1) B,Nat.add_comm j 1];exact H j aa
def avx(X:∀k<6,M k=vl P Q k)(W:fW (aZ P (Q:Int) 17).val=J):∀k<6,M k=vl P (Q+1) k:=λk V=>by
 match k,V with
 |0,h=>simp only[vl,W,OK,axl,Bool.or_false];exact X 0 h
 |j+1,N=>simp only[vl,W,OK,axl,Bool.or_false];exact X (j+1) N
def Tz(x:Nat->Int)(s:RV)(a:Nat->Int)(k:Nat)(X:k<5){m:Int}(W:m=(k:Int)):fZ TB.Ev R 296 [.i (x 0),.i (x 1),.i (x 2),.i (x 3),.i (x 4),.i (x 5),.i (x 6),.i (x 7),.i (x 8),.i (x 9),.i (x 10),.i (x 11),.i (x 12),.r s,.i (a 1),.i (a 2),.i (a 3),.i (a 4),.i (a 5),.i (a 6),.i (a 7),.i (a 8),.i (a 9),.i (a 10),.i (a 11),.i (a 12),.i (a 13),.i (a 14),.i (a 15),.i (a 16),.i m] c t O L=f8 TB.Ev R (.ret [.i (sD (a (6+k/2)) (x (3+2*k)) (x 2) (x (4+2*k)) 0),.i (sD (a (6+k/2)) (x (3+2*k)) (x 2) (x (4+2*k)) 0),.i (sD (a (6+k/2)) (x (3+2*k)) (x 2) (x (4+2*k)) 1),.i (sD (a (6+k/2)) (x (3+2*k)) (x 2) (x (4+2*k)) 1)]) c t O L:=by
 rw[W];exact aT (aEZ x s a k X)
def TA{n:Nat}{X:Nat->bn->Prop}{i:Nat}{m:Int}(W:i<n)(V:n<=140737488355328)(P:m=((i:Int)+1)):Kd (U ⟨Q,Bl n X,zC n,n-i⟩) (.i m::x)=X (i+1) x:=by
 rw[P];exact avd W V
def aE3(h:oA P)(hs:∀i<Y P,kh W V (bu P i))(hr:Sl H)(hm:nz P H)(hv:qD P H (Y P) F)(x:Nat->Int)(g:RV)(y:Nat->Int)(g1:1<=y 3/\y 3<=4)(g2:1<=y 6/\y 6<=8)(g3:1<=y 7/\y 7<=8)(g4:1<=y 8/\y 8<=8):∃o,TB.Ev 238 ([.r (aI P)]++[.i (x 0),.i (x 1),.i (x 2),.i (x 3),.i (x 4),.i (x 5),.i (x 6),.i (x 7),.i (x 8),.i (x 9),.i (x 10),.i (x 11),.i (x 12)]++[.r g,.i (y 1),.i (y 2),.i (y 3),.i (y 4),.i (y 5),.i (y 6),.i (y 7),.i (y 8),.i (y 9),.i (y 10),.i (y 11),.i (y 12),.i (y 13),.i (y 14),.i (y 15),.i (y 16)]++[.r H]) o/\∃f D Q e,o=.ret [.i f,.i D,.i Q,.i e]/\rE f D Q e (y 3) (ZT (y 6) (y 7) (y 8)) (vl F (Y P)) x 5:=by
 refine dR ?_;simp[ahx];have hn:=h.n;refine cP (Y P) (λi c=>∃X:Nat->Bool,c=[.b (X 0),.b (X 1),.b (X 2),.b (X 3),.b (X 4),.b (X 5)]/\∀k<6,X k=vl F i k) ⟨0,rfl,aa,λ_=>E,rfl,λk hk=>rfl⟩ ?_;rintro i _ hi ⟨X,rfl,u⟩;simp;refine ax (λhi=> ?_) (λa9=> ?_)
 ·obtain⟨k,hk,s,e2,e3,e4,e5,e6,e7,e8⟩:=aaA h hm hv hi;have D:=avn H hr (bu P i 0) hk e2 s;have Q:=aEY (bu P i) (hs i hi);have d4:bu F i 4=bu P i 4:=e4 4 aa;have d5:∀j,pf (bu F i) j=pf (bu P i) j:=λj=>by simp only[pf,d4,e4 5 aa]
  have ac:∀{G:Nat->Bool}{tu:Bool},fW (aZ F (i:Int) 17).val=E->tu=(X 0||decide (bu P i 4=6))->(∀j<5,G j=(X (1+j)||pf (bu P i) j))->_:=λ{G tu} q1 q2 q3=>avw (G:=G) (tu:=tu) u q1 (by rw[d4];exact q2) (λj q=>by rw[d5];exact q3 j q)
  generalize hM:pf (bu P i)=M at Q ac;simp only[bG,bu,ci,cb] at D Q e8;simp[aT D,aT Q,hi,cu hi (show Y P<=140737488355328 from aa)];rw[<-e8];refine ax (λhd=>⟨X,⟨rfl,rfl,rfl,rfl,rfl,rfl⟩,avx u hd⟩) (λhd=>ax (λaf=> ?_) (λaf=> ?_))
  all_goals
   refine cP 5 (λa c=>∃G:Nat->Bool,c=[.b (G 0),.b (G 1),.b (G 2),.b (G 3),.b (G 4)]/\∀j<5,G j=(X (1+j)||(decide (j<a)&&M j))) ⟨0,rfl,aa,λj=>X (1+j),rfl,λj q=>aw⟩ ?_;rintro a _ ha ⟨G,rfl,p⟩;simp;refine ax (λha=> ?_) (λag=> ?_)
   ·have ag:a<5:=aa;simp only[cu ag (show 5<=140737488355328 from aa)];have q0:=p 0 aa;have q1:=p 1 aa;have q2:=p 2 aa;have q3:=p 3 aa;have q4:=p 4 aa;have hc:a=0\/a=1\/a=2\/a=3\/a=4:=aa;clear p ac D Q;rcases hc with rfl|rfl|rfl|rfl|rfl
    all_goals
     simp at q0 q1 q2 q3 q4;simp;refine ax (λh=>⟨_, ?_,λj q=>rfl⟩) (λh=>⟨_, ?_,λj q=>rfl⟩)
     all_goals
      simp[q0,q1,q2,q3,q4] at h⊢
      try simp[h]
   ·have an:a=5:=aa;subst an;simp only[cu hi (show Y P<=140737488355328 from aa)];have a0:fW (aZ F (i:Int) 17).val=false:=by simpa using hd
    have a1:∀j<5,G j=(X (1+j)||M j):=λj q=>by rw[p j q];simp[q]
    obtain⟨F',⟨e0,s⟩,hm⟩:=ac (G:=G) a0 rfl a1;refine⟨F', ?_,hm⟩;simp[<-e0,<-s.1,<-s.2.1,<-s.2.2.1,<-s.2.2.2.1,<-s.2.2.2.2,af,bu]
    try rfl
 have a3:i=Y P:=aa;subst a3;refine cP 5 (λk c=>∃f D Q e,c=[.i f,.i D,.i Q,.i e]/\rE f D Q e (y 3) (ZT (y 6) (y 7) (y 8)) X x k) ⟨0,aw,aa, ?_⟩ ?_;refine⟨_,_,_,_,rfl, ?_⟩;simp;exact rE.zero aa _ _ _;rintro k c al ⟨f,D,Q,e,rfl,N⟩;simp;refine ax (λhk=> ?_) (λa4=> ?_);have a4:k<5:=aa;have hk:k=0\/k=1\/k=2\/k=3\/k=4:=aa;rcases hk with rfl|rfl|rfl|rfl|rfl
 ·obtain⟨B,A,z,w⟩:=N.any (b:=X 1) (d:=x 3) (l:=x 4) g2 rfl rfl rfl rfl rfl rfl rfl rfl rfl rfl (m:=1) rfl;simp[TA (i:=0) (m:=1) (n:=5) aa aa rfl,Tz x g y 0 aa (m:=0) rfl,sD];clear N u
  repeat'(refine ax (λ_=> ?_) (λ_=> ?_))
  all_goals first|exact⟨_,_,_,_,⟨rfl,rfl,rfl,rfl⟩,A eS⟩|exact⟨_,_,_,_,⟨rfl,rfl,rfl,rfl⟩,B eS eS⟩|exact⟨_,_,_,_,⟨rfl,rfl,rfl,rfl⟩,z eS eS⟩|exact⟨_,_,_,_,⟨rfl,rfl,rfl,rfl⟩,w eS eS eS⟩|contradiction
 ·obtain⟨B,A,z,w⟩:=N.any (b:=X 2) (d:=x 5) (l:=x 6) g2 rfl rfl rfl rfl rfl rfl rfl rfl rfl rfl (m:=2) rfl;simp[TA (i:=1) (m:=2) (n:=5) aa aa rfl,Tz x g y 1 aa (m:=1) rfl,sD];clear N u
  repeat'(refine ax (λ_=> ?_) (λ_=> ?_))
  all_goals first|exact⟨_,_,_,_,⟨rfl,rfl,rfl,rfl⟩,A eS⟩|exact⟨_,_,_,_,⟨rfl,rfl,rfl,rfl⟩,B eS eS⟩|exact⟨_,_,_,_,⟨rfl,rfl,rfl,rfl⟩,z eS eS⟩|exact⟨_,_,_,_,⟨rfl,rfl,rfl,rfl⟩,w eS eS eS⟩|contradiction
 ·obtain⟨B,A,z,w⟩:=N.any (b:=X 3) (d:=x 7) (l:=x 8) g3 rfl rfl rfl rfl rfl rfl rfl rfl rfl rfl (m:=3) rfl;simp[TA (i:=2) (m:=3) (n:=5) aa aa rfl,Tz x g y 2 aa (m:=2) rfl,sD];clear N u
  repeat'(refine ax (λ_=> ?_) (λ_=> ?_))
  all_goals first|exact⟨_,_,_,_,⟨rfl,rfl,rfl,rfl⟩,A eS⟩|exact⟨_,_,_,_,⟨rfl,rfl,rfl,rfl⟩,B eS eS⟩|exact⟨_,_,_,_,⟨rfl,rfl,rfl,rfl⟩,z eS eS⟩|exact⟨_,_,_,_,⟨rfl,rfl,rfl,rfl⟩,w eS eS eS⟩|contradiction
 ·obtain⟨B,A,z,w⟩:=N.any (b:=X 4) (d:=x 9) (l:=x 10) g3 rfl rfl rfl rfl rfl rfl rfl rfl rfl rfl (m:=4) rfl;simp[TA (i:=3) (m:=4) (n:=5) aa aa rfl,Tz x g y 3 aa (m:=3) rfl,sD];clear N u
  repeat'(refine ax (λ_=> ?_) (λ_=> ?_))
  all_goals first|exact⟨_,_,_,_,⟨rfl,rfl,rfl,rfl⟩,A eS⟩|exact⟨_,_,_,_,⟨rfl,rfl,rfl,rfl⟩,B eS eS⟩|exact⟨_,_,_,_,⟨rfl,rfl,rfl,rfl⟩,z eS eS⟩|exact⟨_,_,_,_,⟨rfl,rfl,rfl,rfl⟩,w eS eS eS⟩|contradiction
 ·obtain⟨B,A,z,w⟩:=N.any (b:=X 5) (d:=x 11) (l:=x 12) g4 rfl rfl rfl rfl rfl rfl rfl rfl rfl rfl (m:=5) rfl;simp[TA (i:=4) (m:=5) (n:=5) aa aa rfl,Tz x g y 4 aa (m:=4) rfl,sD];clear N u
  repeat'(refine ax (λ_=> ?_) (λ_=> ?_))
  all_goals first|exact⟨_,_,_,_,⟨rfl,rfl,rfl,rfl⟩,A eS⟩|exact⟨_,_,_,_,⟨rfl,rfl,rfl,rfl⟩,B eS eS⟩|exact⟨_,_,_,_,⟨rfl,rfl,rfl,rfl⟩,z eS eS⟩|exact⟨_,_,_,_,⟨rfl,rfl,rfl,rfl⟩,w eS eS eS⟩|contradiction
 have al:k=5:=aa;subst al;exact⟨_,_,_,_,⟨rfl,rfl,rfl,rfl⟩,N.vn u⟩
end
section
variable{R:bv->Prop}{g:aY}{t:T}{O:ai}{L:dE}
variable[Inhabited dB]
def Oi(X:RV)(y:Nat->Int):Int:=wH X (y 1) (y 2) (y 3) (y 4) (y 5) (y 6) (y 7) (y 8) (y 9) (y 10) (y 11) (y 12) (y 13) (y 14) (y 15) (y 16)
def kG(f:Nat->Int)(x:Nat->Int)(v:ar):Nat->Nat->Int
 |0,j=>f j+29*x (j/2)
 |n+1,j=>if j%2=0 then min (kG f x v n j) (f j+29*cm x v (n+1) (j/2)) else max (kG f x v n j) (f j+29*cm x v (n+1) (j/2))
def KH(e:Int):bn:=[.i 0,.i 0,.i 0,.i 0,.i e]
def kU(y:Nat->Int)(x:Nat->Int)(v:ar):Nat->Int:=sF (vl v (Y v)) (ZT (y 6) (y 7) (y 8)) (y 3) x 5
structure HT(av ah:Int)(x:Nat->Int)(nm:RV)(y:Nat->Int)(r:RV)(ys:bn):Prop where
 c:gf av ah≠0->ys=KH (gf av ah)
 p:gf av ah=0->¬rS x->ys=KH 260
 b:gf av ah=0->rS x->Oi nm y≠0->ys=KH (Oi nm y)
 m:gf av ah=0->rS x->Oi nm y=0->¬nz (ck av ah) r->ys=KH 270
 w:gf av ah=0->rS x->Oi nm y=0->nz (ck av ah) r->∀v,qD (ck av ah) r (ck av ah).length v->(¬rD x v (ck av ah).length->ys=KH 2)/\(rD x v (ck av ah).length->ys=[.i (kG (kU y x v) x v (Y v) 0),.i (kG (kU y x v) x v (Y v) 1),.i (kG (kU y x v) x v (Y v) 2),.i (kG (kU y x v) x v (Y v) 3),.i 0])
def HT.eq{A:bn}(h:HT W V X H N w x)(F:HT W V X H N w A):x=A:=by
 by_cases Q:gf W V=0;by_cases P:rS X;by_cases M:Oi H N=0;by_cases G:nz (ck W V) w;obtain⟨v,D⟩:=Kv G;by_cases B:rD X v (ck W V).length;rw[(h.w Q P M G v D).2 B,(F.w Q P M G v D).2 B];rw[(h.w Q P M G v D).1 B,(F.w Q P M G v D).1 B];rw[h.m Q P M G,F.m Q P M G];rw[h.b Q P M,F.b Q P M];rw[h.p Q P,F.p Q P];rw[h.c Q,F.c Q]
def TC(h:Fg W V z y)(Q:rS X):gv W V z y (29*X 0) (29*X 1)=0:=by
 have p:=(o7 _ _ _ _ _ _ _ _ _ _ _ _ _).1 Q;have P:=p.x;have N:=p.y;simp only[Fg] at h;unfold gv;rw[bO aa aa,bO aa aa,bO aa aa,bO aa aa];simp only[bc];simp;omega
def aaF(W:rS X):ay .mul I 29 (X 0)=29*X 0/\ay .mul I 29 (X 1)=29*X 1:=by
 have p:=(o7 _ _ _ _ _ _ _ _ _ _ _ _ _).1 W;have V:=p.x;have Q:=p.y;simp only[ay];exact⟨bO aa aa,bO aa aa⟩
def shB(h:Fg W V z y)(Q:rS X):bc (W+29*X 0) (V+29*X 0) (z+29*X 1) (y+29*X 1)=true:=by
 have e:=TC h Q;obtain⟨N,M,H,G⟩:=h.S3 e;have P:=(h.sh e).1;rw[N,M,H,G] at P;exact P
def x90(h:gc)(av ah:Int)(x:Nat->Int)(p:RV)(br:nT p)(y:Nat->Int)(r:RV)(hr:Sl r):∃o,TB.Ev 90 (wk++[.i av,.i ah,.i (x 0),.i (x 1),.i (x 2),.i (x 3),.i (x 4),.i (x 5),.i (x 6),.i (x 7),.i (x 8),.i (x 9),.i (x 10),.i (x 11),.i (x 12),.r p,.i (y 1),.i (y 2),.i (y 3),.i (y 4),.i (y 5),.i (y 6),.i (y 7),.i (y 8),.i (y 9),.i (y 10),.i (y 11),.i (y 12),.i (y 13),.i (y 14),.i (y 15),.i (y 16),.r r]) o/\∃w,o=.ret w/\HT av ah x p y r w:=by
 refine dR ?_;have hg:=Oc av ah h;have hs:=aaC av ah h;have g:=hg.n;have h1:=SU sy h av ah;obtain⟨o,h2,v,b,rfl,h3,h4⟩:=atu _ r hr g hg.k;obtain⟨o',bs,v',b',rfl,h5⟩:=avp _ r hr hg;have V:=Aw h2 bs;injection V with V;injection V with cc V;injection V with V _;injection V with V;subst V;simp only[wk,da,di] at h1;simp[T90,wk,aCv,aT h1,aT h2,HG p br];refine ax (λB=> ?_) (λB=>⟨λ_=>rfl,λq=>aG q B,λq=>aG q B,λq=>aG q B,λq=>aG q B⟩);refine ax (λa2=> ?_) (λa2=> ?_)
 case refine_2=>
  have e:=Tx x a2;rw[e];exact⟨λq=>aG B q,λ_ _=>rfl,λ_ q=>aG q a2,λ_ q=>aG q a2,λ_ q=>aG q a2⟩
 refine ax (λf=> ?_) (λf=>⟨λq=>aG B q,λ_ q=>aG a2 q,λ_ _ _=>rfl,λ_ _ q=>aG q f,λ_ _ q=>aG q f⟩);refine ax (λa4=> ?_) (λa4=>⟨λq=>aG B q,λ_ q=>aG a2 q,λ_ _ q=>aG f q,λ_ _ _ _=>rfl,λ_ _ _ q=>aG (h5.2 q) a4⟩);have u:=h5.1 a4;have hv:=h4 a4;have cf:=hv.1;have ag:Y v<=140737488355328:=aa;have hE:∀w,(∀v',qD (ck av ah) r (ck av ah).length v'->v'=v->(¬rD x v (ck av ah).length->w=KH 2)/\(rD x v (ck av ah).length->w=[.i (kG (kU y x v) x v (Y v) 0),.i (kG (kU y x v) x v (Y v) 1),.i (kG (kU y x v) x v (Y v) 2),.i (kG (kU y x v) x v (Y v) 3),.i 0]))->HT av ah x p y r w:=λw k=>⟨λq=>aG B q,λ_ q=>aG a2 q,λ_ _ q=>aG f q,λ_ _ _ q=>aG u q,λ_ _ _ _ v' ag=>by
  have e:=Of hg u ag hv;subst e;exact k _ hv rfl⟩
 obtain⟨g1,g2,g3,g4⟩:=ZO p br _ _ _ _ _ _ _ _ _ _ _ _ _ _ _ _ f;have hW:∀i<Y v,∃k<Y r.ae,(∀j<k,ci r j 0≠bu (ck av ah) i 0)/\ci r k 0=bu (ck av ah) i 0/\vk (bu (ck av ah) i) r k/\(∀j<14,bu v i j=bu (ck av ah) i j)/\bu v i 14=ci r k 0/\bu v i 15=ci r k 1/\bu v i 16=ci r k 2/\fW (aZ v i 17).val=cb r k 3:=λi X=>aaA hg u hv aa
 have hS:∀i<Y v,kh (Y az.ae) eu (bu (ck av ah) i):=λi X=>hs i aa
 rw[<-cf] at hE;clear h1 h2 bs h3 h4 h5 cc;generalize ck av ah=l at*;refine cP (Y v) (λi W=>∃F:Nat->Bool,W=[.b (F 0),.b (F 1),.b (F 2),.b (F 3),.b (F 4),.b (F 5)]/\∀k<6,F k=vl v i k) ⟨0,rfl,aa,λ_=>E,rfl,λk hk=>rfl⟩ ?_;rintro i W X ⟨F,rfl,hF⟩;simp;refine ax (λX=> ?_) (λan=> ?_)
 ·obtain⟨_,_,_,_,_,bt,_,_,_,_⟩:=hW i X;have ac:=hS i X;have af:=bt 4 aa;have a0:=bt 5 aa;have d5:∀j,pf (bu v i) j=pf (bu l i) j:=λj=>by simp only[pf,af,a0]
  have bx:∀{G:Nat->Bool}{tu:Bool},fW (aZ v (i:Int) 17).val=E->tu=(F 0||decide (bu l i 4=6))->(∀j<5,G j=(F (1+j)||pf (bu l i) j))->∃N:Nat->Bool,(tu=N 0/\G 0=N 1/\G 1=N 2/\G 2=N 3/\G 3=N 4/\G 4=N 5)/\∀k<6,N k=vl v (i+1) k:=λ{G tu} q1 Q q3=>avw (G:=G) (tu:=tu) hF q1 (by rw[af];exact Q) (λj H=>by rw[d5];exact q3 j H)
  generalize bu l i=c at*;obtain⟨a9,bb⟩:=aCw ac.kind ac.side;have hT:∀{j:Nat},pf c j=J<->_:=λ{j}=>(aEX c j).trans ⟨λq=>aCx (j:=j) ac.kind q,λq=>aE2 (j:=j) ac.kind ac.side q⟩
  have cx:=ac.kind;have b0:db (.sl 3) (aZ o8.ae (c 4) 0)=iX (c 4) 0:=rfl;have b1:db (.sl 3) (aZ o8.ae (c 4) 1)=iX (c 4) 1:=rfl;generalize iX (c 4) 0=la at a9 b0 hT;generalize iX (c 4) 1=lb at bb b1 hT;simp only[bu] at af a0;simp[cu X ag,X,af,atB];refine ax (λV=>⟨F,⟨rfl,rfl,rfl,rfl,rfl,rfl⟩,avx hF V⟩) (λV=>ax (λbd=> ?_) (λbd=> ?_))
  all_goals
   have b2:fW (aZ v (i:Int) 17).val=false:=by simpa using V
   refine⟨aa, ?_⟩;refine cP (Y la.ae) (λa W=>∃G:Nat->Bool,W=[.b (G 0),.b (G 1),.b (G 2),.b (G 3),.b (G 4)]/\∀j:Nat,j<5->(G j=J<->F (1+j)=J\/∃P<a,(j:Int)=bp (aZ la.ae (P:Int) 0).val+c 5-1)) ⟨0,rfl,aa,λj=>F (1+j),rfl,λj H=>aw⟩ ?_;rintro a W A ⟨G,rfl,hG⟩;simp[af,a0,b0,a9.1,atB];refine ax (λA=> ?_) (λch=> ?_);have hx:=a9.2.2 a A;obtain⟨z,s⟩:∃z,bp (aZ la.ae (a:Int) 0).val=z:=⟨_,rfl⟩;rw[s] at hx⊢;rw[show ay .sub I (ay .add I z (c 5)) 1=z+c 5-1 by simp only[ay];rw[bO (n:=z+c 5) aa aa,bO aa aa]];simp[cu A (show Y la.ae<=140737488355328 from aa),A];refine⟨aa,aa,λj=>decide (z+c 5-1=(j:Int))||G j,⟨rfl,rfl,rfl,rfl,rfl⟩,λj H=> ?_⟩;simp only[jy,cz,hG j H];constructor;rintro(q|q|⟨P,q1,Q⟩);exact .inr ⟨a,aa,by rw[s];exact q.symm⟩;exact .inl q;exact .inr ⟨P,aa,Q⟩;rintro(q|⟨P,q1,Q⟩);exact .inr (.inl q);by_cases e:P=a;subst e;rw[s] at Q;exact .inl Q.symm;exact .inr (.inr ⟨P,aa,Q⟩);refine⟨aa, ?_⟩;have bf:a=Y la.ae:=aa;subst bf;refine cP (Y lb.ae) (λa W=>∃M:Nat->Bool,W=[.b (M 0),.b (M 1),.b (M 2),.b (M 3),.b (M 4)]/\∀j:Nat,j<5->(M j=J<->G j=J\/∃P<a,(j:Int)=bp (aZ lb.ae (P:Int) 0).val)) ⟨0,rfl,aa,G,rfl,λj H=>aw⟩ ?_;rintro a W A ⟨M,rfl,hH⟩;simp[af,b1,bb.1];refine ax (λA=> ?_) (λch=> ?_);have hx:=bb.2.2 a A;obtain⟨z,s⟩:∃z,bp (aZ lb.ae (a:Int) 0).val=z:=⟨_,rfl⟩;rw[s] at hx⊢;simp[cu A (show Y lb.ae<=140737488355328 from aa),A];refine⟨aa,aa,λj=>decide (z=(j:Int))||M j,⟨rfl,rfl,rfl,rfl,rfl⟩,λj H=> ?_⟩;simp only[jy,cz,hH j H];constructor;rintro(q|q|⟨P,q1,Q⟩);exact .inr ⟨a,aa,by rw[s];exact q.symm⟩;exact .inl q;exact .inr ⟨P,aa,Q⟩;rintro(q|⟨P,q1,Q⟩);exact .inr (.inl q);by_cases e:P=a;subst e;rw[s] at Q;exact .inl Q.symm;exact .inr (.inr ⟨P,aa,Q⟩);have bf:a=Y lb.ae:=aa;subst bf;simp[cu X ag];have b3:∀j<5,M j=(F (1+j)||pf c j):=λj H=>by
    rw[vx,hH j H,hG j H,jy,hT,or_assoc]
   first
    |(obtain⟨N,⟨e0,e1⟩,u⟩:=bx (G:=M) (tu:=J) b2 (by simp[bd]) b3
      exact⟨N,⟨e0.symm,e1⟩,u⟩)
    |(obtain⟨N,⟨e0,e1⟩,u⟩:=bx (G:=M) (tu:=decide (c 4=6)) b2 (by simp[bd]) b3
      exact⟨N,⟨e0,e1⟩,u⟩)
 have bg:i=Y v:=aa9 X (T6 an);subst bg;refine cP 5 (λk W=>∃f0 f1 f2 f3,W=[.i f0,.i f1,.i f2,.i f3]/\rE f0 f1 f2 f3 (y 3) (ZT (y 6) (y 7) (y 8)) F x k) ⟨0,aw,aa, ?_⟩ ?_;refine⟨_,_,_,_,rfl, ?_⟩;simp;exact rE.zero aa _ _ _;rintro k W b4 ⟨f0,f1,f2,f3,rfl,D⟩;simp;refine ax (λhk=> ?_) (λb5=> ?_)
 ·have b5:k<5:=aa;have hk:k=0\/k=1\/k=2\/k=3\/k=4:=aa;simp only[cu b5 (show 5<=140737488355328 from aa)];rcases hk with rfl|rfl|rfl|rfl|rfl;obtain⟨s1,s0,s2,s3⟩:=D.any (b:=F 1) (d:=x 3) (l:=x 4) g2 rfl rfl rfl rfl rfl rfl rfl rfl rfl rfl (m:=1) rfl
  rotate_left
  obtain⟨s1,s0,s2,s3⟩:=D.any (b:=F 2) (d:=x 5) (l:=x 6) g2 rfl rfl rfl rfl rfl rfl rfl rfl rfl rfl (m:=2) rfl
  rotate_left
  obtain⟨s1,s0,s2,s3⟩:=D.any (b:=F 3) (d:=x 7) (l:=x 8) g3 rfl rfl rfl rfl rfl rfl rfl rfl rfl rfl (m:=3) rfl
  rotate_left
  obtain⟨s1,s0,s2,s3⟩:=D.any (b:=F 4) (d:=x 9) (l:=x 10) g3 rfl rfl rfl rfl rfl rfl rfl rfl rfl rfl (m:=4) rfl
  rotate_left
  obtain⟨s1,s0,s2,s3⟩:=D.any (b:=F 5) (d:=x 11) (l:=x 12) g4 rfl rfl rfl rfl rfl rfl rfl rfl rfl rfl (m:=5) rfl
  rotate_left
  all_goals
   simp[show ay .quo I 0 2=0 from rfl,show ay .quo I 1 2=0 from rfl,show ay .quo I 2 2=1 from rfl,show ay .quo I 3 2=1 from rfl,show ay .quo I 4 2=2 from rfl];clear hF hE hW D
   repeat'(refine ax (λ_=> ?_) (λ_=> ?_))
   all_goals with_reducible first|exact⟨_,_,_,_,⟨rfl,rfl,rfl,rfl⟩,s0 eS⟩|exact⟨_,_,_,_,⟨rfl,rfl,rfl,rfl⟩,s1 eS eS⟩|exact⟨_,_,_,_,⟨rfl,rfl,rfl,rfl⟩,s2 eS eS⟩|exact⟨_,_,_,_,⟨rfl,rfl,rfl,rfl⟩,s3 eS eS eS⟩|contradiction
 have b4:k=5:=aa;subst b4;have D:=D.vn hF;have hf:=D.fg;have bk:=TC hf a2;obtain⟨ex,ey⟩:=aaF a2;obtain⟨v0,v1,v2,v3⟩:=hf.S3 bk;have hp:=shB hf a2;rw[ex,ey];refine ax (λhe=> ?_) (λg=>aG bk g);rw[v0,v1,v2,v3,hp];clear he ex ey bk v0 v1 v2 v3 hF;obtain⟨-,rfl,rfl,rfl,rfl⟩:=D;refine cP (Y v) (λi W=>W=[.i (kG (kU y x v) x v i 0),.i (kG (kU y x v) x v i 1),.i (kG (kU y x v) x v i 2),.i (kG (kU y x v) x v i 3),.i (cm x v i 0),.i (cm x v i 1),.i (cm x v i 2),.i (cm x v i 3),.i (cm x v i 4),.i (cm x v i 5),.i (cm x v i 6),.i (cm x v i 7),.i (cm x v i 8),.i (cm x v i 9),.i (cm x v i 10),.i (cm x v i 11),.i (cm x v i 12),.b E]/\bc (kG (kU y x v) x v i 0) (kG (kU y x v) x v i 1) (kG (kU y x v) x v i 2) (kG (kU y x v) x v i 3)=J/\rS (cm x v i)/\rD x v i) ⟨0,rfl,FJ _,rfl,hp,a2,λi h=>aa⟩ ?_;rintro i W X ⟨rfl,b6,hR,b7⟩;have g1:=ahQ (cm x v i) v i;simp only[bG,bu,da,di] at g1;simp;refine ax (λX=>⟨X, ?_⟩) (λan=> ?_);obtain⟨k,hk,e1,e2,e3,e4,e5,e6,e7,e8⟩:=hW i X;obtain⟨-,g2⟩:=aiR (hS i X) hR e3 e4 e5 e6 e7 e8;rw[aT g1];simp[cu X ag];refine ax (λbl=> ?_) (λg=> ?_);have al:=(SY (cm x v i) v i bl).1;obtain⟨cl,cn⟩:=aaF al;have b8:=TC hf al;obtain⟨cp,cs,ct,cv⟩:=hf.S3 b8;have ca:=shB hf al;rw[cl,cn];refine ax (λ_=>ax (λ_=> ?_) (λq=>aG bl q)) (λq=>aG b8 q);rw[cp,cs,ct,cv,b6,ca];exact⟨⟨rfl,rfl,rfl,rfl,rfl,rfl,rfl,rfl,rfl,rfl,rfl,rfl,rfl,rfl,rfl,rfl,rfl⟩,aiW b6 ca,al,jc b7 bl⟩;have e2:j9 (cm x v i) v i 13=2:=g2.resolve_left g;rw[e2];exact hE _ λ_ _ _=>⟨λ_=>rfl,λq=>aG (q i X) g⟩
 have bg:i=Y v:=aa9 X (T6 an);subst bg;exact hE _ λ_ _ _=>⟨λq=>aG b7 q,λ_=>rfl⟩
end
section
variable{R:bv->Prop}{a:aY}{t:T}{O:ai}{L:dE}
variable[Inhabited dB]
def aE4(h:gc)(av ah:Int)(x:Nat->Int)(V:RV)(p:nT V)(y:Nat->Int)(r:RV)(B:Sl r):∃o,TB.Ev 172 (wk++[.i av,.i ah,.i (x 0),.i (x 1),.i (x 2),.i (x 3),.i (x 4),.i (x 5),.i (x 6),.i (x 7),.i (x 8),.i (x 9),.i (x 10),.i (x 11),.i (x 12),.r V,.i (y 1),.i (y 2),.i (y 3),.i (y 4),.i (y 5),.i (y 6),.i (y 7),.i (y 8),.i (y 9),.i (y 10),.i (y 11),.i (y 12),.i (y 13),.i (y 14),.i (y 15),.i (y 16),.r r]) o/\∃Q,o=.ret Q/\HT av ah x V y r Q:=by
 refine dR ?_;have H:=Oc av ah h;have m:=aaC av ah h;have hn:=H.n;have l:=aiO h av ah;obtain⟨o,h2,b,rfl,g⟩:=aiP _ H r B;have f:=aiV V p (y 1) (y 2) (y 3) (y 4) (y 5) (y 6) (y 7) (y 8) (y 9) (y 10) (y 11) (y 12) (y 13) (y 14) (y 15) (y 16);simp only[wk,da,di] at l;simp[ahy,wk,aT l];refine ax (λW=> ?_) (λW=>⟨λ_=>rfl,λq=>aG q W,λq=>aG q W,λq=>aG q W,λq=>aG q W⟩);refine ax (λa2=> ?_) (λa2=> ?_)
 case refine_2=>
  have e:=Tx x a2;rw[e];exact⟨λq=>aG W q,λ_ _=>rfl,λ_ q=>aG q a2,λ_ q=>aG q a2,λ_ q=>aG q a2⟩
 simp[aT f];refine ax (λP=> ?_) (λP=>⟨λq=>aG W q,λ_ q=>aG a2 q,λ_ _ _=>rfl,λ_ _ q=>aG q P,λ_ _ q=>aG q P⟩);simp[aT h2];refine ax (λA=> ?_) (λA=>⟨λq=>aG W q,λ_ q=>aG a2 q,λ_ _ q=>aG P q,λ_ _ _ _=>rfl,λ_ _ _ q=>aG (g.2 q) A⟩);have G:=g.1 A;obtain⟨v,F⟩:=Kv G;have D:=F.1;have d:∀Q,((¬rD x v (ck av ah).length->Q=KH 2)/\(rD x v (ck av ah).length->Q=[.i (kG (kU y x v) x v (Y v) 0),.i (kG (kU y x v) x v (Y v) 1),.i (kG (kU y x v) x v (Y v) 2),.i (kG (kU y x v) x v (Y v) 3),.i 0]))->HT av ah x V y r Q:=λQ k=>⟨λq=>aG W q,λ_ q=>aG a2 q,λ_ _ q=>aG P q,λ_ _ _ q=>aG G q,λ_ _ _ _ v' ag=>by
  have e:=Of H G ag F;subst e;exact k⟩
 obtain⟨o,a,b',w,rfl,g2,g3⟩:=avo H m B G F x a2;obtain⟨k1,k2,k3,k4⟩:=ZO V p _ _ _ _ _ _ _ _ _ _ _ _ _ _ _ _ P;obtain⟨o,j1,f0,f,f2,f3,rfl,hQ⟩:=aE3 H m B G F x V y k1 k2 k3 k4;simp only[da,di] at a j1;rw[aT a];simp;refine ax (λa5=> ?_) (λa5=>d _ ⟨λ_=>rfl,λq=>aG q (g3 (by simpa using a5))⟩);obtain⟨rfl,hW⟩:=g2 a5;rw[aT j1];have N:=hQ.fg;have ac:=TC N a2;obtain⟨ex,ey⟩:=aaF a2;obtain⟨v0,v1,v2,v3⟩:=N.S3 ac;have hp:=shB N a2;have hl:=aiS x v (ck av ah).length;simp[ex,ey];rw[v0,v1,v2,v3];clear ex ey ac v0 v1 v2 v3;obtain⟨-,rfl,rfl,rfl,rfl⟩:=hQ;refine cP ((ck av ah).length+1) (λi M=>1<=i/\M=[.i (kG (kU y x v) x v (i-1) 0),.i (kG (kU y x v) x v (i-1) 1),.i (kG (kU y x v) x v (i-1) 2),.i (kG (kU y x v) x v (i-1) 3)]/\bc (kG (kU y x v) x v (i-1) 0) (kG (kU y x v) x v (i-1) 1) (kG (kU y x v) x v (i-1) 2) (kG (kU y x v) x v (i-1) 3)=true) ⟨1,rfl,aa,aa, ?_⟩ ?_;simp only[kU,D];exact⟨rfl,hp⟩;rintro i _ hi ⟨bg,rfl,z⟩;obtain⟨i,rfl⟩:∃i',i=i'+1:=⟨i-1,aa⟩;simp only[ajM] at z⊢;simp[hl];refine ax (λhi=> ?_) (λbk=> ?_);have u:i<(ck av ah).length:=aa;have s:rS (cm x v (i+1)):=(SY (cm x v i) v i (hW i u)).1;have c:∀j<13,bp (aZ (yo x v (ck av ah).length) ((i+1:Nat):Int) j).val=cm x v (i+1) j:=λj hj=>aiT x v aa j hj
 have c0:=c 0 aa;have c1:=c 1 aa;rw[show((i+1:Nat):Int)=(i:Int)+1 from aa] at c0 c1;have fb:∀{X:Nat->bn->Prop}{M:bn},Kd (U ⟨0,Bl ((ck av ah).length+1) X,zC ((ck av ah).length+1),(ck av ah).length-i⟩) (.i (ay .add I ((i:Int)+1) 1)::M)=X (i+1+1) M:=λ{X M}=>by
  have q:=cu (aC:=0) (J:=X) (rest:=M) (show i+1<(ck av ah).length+1 from aa) aa;rw[show((i+1:Nat):Int)=(i:Int)+1 from aa,Nat.add_sub_add_right] at q;exact q
 have al:=TC N s;obtain⟨an,a0⟩:=aaF s;obtain⟨a9,bb,bd,bf⟩:=N.S3 al;have af:=shB N s;rw[c0,c1,an,a0,a9,bb,bd,bf,z,af,fb];refine⟨aa,aa, ?_, ?_⟩;simp only[ajM];rw[<-D];rfl;have:=aiW z af;simp only[ajM];rw[<-D] at this;exact this;have u:i=(ck av ah).length:=aa;subst u;rw[<-D];exact d _ ⟨λq=>aG hW q,λ_=>rfl⟩
def TE(h:gc)(av ah:Int)(x:Nat->Int)(V:RV)(G:nT V)(y:Nat->Int)(r:RV)(F:Sl r):∃o,TB.Ev 90 (wk++[.i av,.i ah,.i (x 0),.i (x 1),.i (x 2),.i (x 3),.i (x 4),.i (x 5),.i (x 6),.i (x 7),.i (x 8),.i (x 9),.i (x 10),.i (x 11),.i (x 12),.r V,.i (y 1),.i (y 2),.i (y 3),.i (y 4),.i (y 5),.i (y 6),.i (y 7),.i (y 8),.i (y 9),.i (y 10),.i (y 11),.i (y 12),.i (y 13),.i (y 14),.i (y 15),.i (y 16),.r r]) o/\∃N,o=.ret N/\jX (kI 5) N=true:=by
 obtain⟨o,X,N,rfl,k⟩:=x90 h av ah x V G y r F;refine⟨_,X,_,rfl, ?_⟩;by_cases X:gf av ah=0;by_cases W:rS x;by_cases Q:Oi V y=0;by_cases P:nz (ck av ah) r;obtain⟨v,M⟩:=Kv P;by_cases H:rD x v (ck av ah).length;rw[(k.w X W Q P v M).2 H];rfl;rw[(k.w X W Q P v M).1 H];rfl;rw[k.m X W Q P];rfl;rw[k.b X W Q];rfl;rw[k.p X W];rfl;rw[k.c X];rfl
def avz(h:gc)(av ah:Int)(x:Nat->Int)(X:RV)(V:nT X)(y:Nat->Int)(r:RV)(Q:Sl r):∃W,TB.Ev 90 (wk++[.i av,.i ah,.i (x 0),.i (x 1),.i (x 2),.i (x 3),.i (x 4),.i (x 5),.i (x 6),.i (x 7),.i (x 8),.i (x 9),.i (x 10),.i (x 11),.i (x 12),.r X,.i (y 1),.i (y 2),.i (y 3),.i (y 4),.i (y 5),.i (y 6),.i (y 7),.i (y 8),.i (y 9),.i (y 10),.i (y 11),.i (y 12),.i (y 13),.i (y 14),.i (y 15),.i (y 16),.r r]) (.ret W)/\TB.Ev 172 (wk++[.i av,.i ah,.i (x 0),.i (x 1),.i (x 2),.i (x 3),.i (x 4),.i (x 5),.i (x 6),.i (x 7),.i (x 8),.i (x 9),.i (x 10),.i (x 11),.i (x 12),.r X,.i (y 1),.i (y 2),.i (y 3),.i (y 4),.i (y 5),.i (y 6),.i (y 7),.i (y 8),.i (y 9),.i (y 10),.i (y 11),.i (y 12),.i (y 13),.i (y 14),.i (y 15),.i (y 16),.r r]) (.ret W)/\HT av ah x X y r W:=by
 obtain⟨o,M,W,rfl,P⟩:=x90 h av ah x X V y r Q;obtain⟨G,N,F,rfl,H⟩:=aE4 h av ah x X V y r Q;rw[<-P.eq H] at N;exact⟨_,M,N,P⟩
end
section
variable{R:bv->Prop}{D:aY}{t:T}{O:ai}{L:dE}
variable[Inhabited dB]
def vo(f:Nat->Int):Nat->Int
 |0=>0
 |n+1=>if vo f n=0 then f n else vo f n
def TF(h:∀k<Q,X k=0):vo X Q=0:=by
 induction Q with
 |zero=>rfl
 |succ Q W=>rw[vo,aL (W λk V=>h k aa)];exact h Q aa
def aiX{f:Nat->Int}(h:∀k<Q,f k=0)(V:Q<B)(X:f Q≠0):vo f B=f Q:=by
 induction B with
 |zero=>omega
 |succ B W=>
  by_cases e:Q=B;subst e;rw[vo,aL (TF h)];have:=W aa;rw[vo,aP (by rw[this];exact X),this]
def kV(ah:Int)(u l g:RV)(k:Nat):Int:=if cb u k 0=J then Di ah l g k 13 else 0
def vp(e:Int):bv:=.ret [.i 0,.r (aI []),.r (aI []),.r (aI []),.r (aI []),.r (aI []),.i e]
structure Do(ah:Int)(A u l g M F S V B:RV):Prop where
 m:Sl M/\Y M.ae=Y az.ae/\∀i<Y az.ae,cb M i 0=cb u i 0
 f:Sl F/\Y F.ae=Y az.ae/\∀i<Y az.ae,∀j<13,ci F i j=ci l i j
 s:Sl S/\Y S.ae=Y az.ae/\∀i<Y az.ae,∀j<13,ci S i j=gS ah u l g i j
 v:Sl V/\Y V.ae=Y az.ae/\∀i<Y az.ae,Sl (cr 96 V i)/\(cr 96 V i).ae=(cr 96 g i).ae
 b:Sl B/\Y B.ae=Y az.ae/\∀i<Y az.ae,∀j<4,ci B i j=gB ah u l A g i j
structure HV(ah:Int)(A u l g:RV)(o:bv):Prop where
 c:iD≠0->o=vp iD
 a:iD=0->(ah<0\/eu<=ah)->o=vp 1
 r:iD=0->(0<=ah/\ah<eu)->¬t8 ah A u l g->o=vp 310
 e:iD=0->(0<=ah/\ah<eu)->t8 ah A u l g->vo (kV ah u l g) (Y az.ae)≠0->o=vp (vo (kV ah u l g) (Y az.ae))
 k:iD=0->(0<=ah/\ah<eu)->t8 ah A u l g->vo (kV ah u l g) (Y az.ae)=0->∃M F S V B,o=.ret [.i ah,.r M,.r F,.r S,.r V,.r B,.i 0]/\Do ah A u l g M F S V B
section
variable{ah:Int}{A u l g:RV}
def aE5(h:iD≠0):HV ah A u l g (vp iD):=⟨λ_=>rfl,λq=>aG q h,λq=>aG q h,λq=>aG q h,λq=>aG q h⟩
def avA(h:iD=0)(X:ah<0\/eu<=ah):HV ah A u l g (vp 1):=⟨λq=>aG h q,λ_ _=>rfl,λ_ q=>aa,λ_ q=>aa,λ_ q=>aa⟩
def aE6(h:iD=0)(W:0<=ah/\ah<eu)(X:¬t8 ah A u l g):HV ah A u l g (vp 310):=⟨λq=>aG h q,λ_ q=>aa,λ_ _ _=>rfl,λ_ _ q=>aG q X,λ_ _ q=>aG q X⟩
def avB(h:iD=0)(M:0<=ah/\ah<eu)(W:t8 ah A u l g)(V:Q<Y az.ae)(P:∀k<Q,kV ah u l g k=0)(N:cb u Q 0=J)(X:Di ah l g Q 13≠0):HV ah A u l g (vp (Di ah l g Q 13)):=by
 have e:kV ah u l g Q=Di ah l g Q 13:=by rw[kV,aL N]
 have:=aiX P V (by rw[e];exact X);rw[e] at this;exact⟨λq=>aG h q,λ_ q=>aa,λ_ _ q=>aG W q,λ_ _ _ _=>by rw[this],λ_ _ _ q=>aG (this.symm.trans q) X⟩
def avC(h:iD=0)(P:0<=ah/\ah<eu)(X:t8 ah A u l g)(W:∀k<Y az.ae,kV ah u l g k=0){S V B:RV}(Q:Do ah A u l g H w S V B):HV ah A u l g (.ret [.i ah,.r H,.r w,.r S,.r V,.r B,.i 0]):=
 ⟨λq=>aG h q,λ_ q=>aa,λ_ _ q=>aG X q,λ_ _ _ q=>aG (TF W) q,λ_ _ _ _=>⟨_,_,_,_,_,rfl,Q⟩⟩
end
def aiY(h:gc)(ah:Int)(l A g:RV)(i:Nat)(N:Sl (cr 96 g i))(D:bm A i=0)(B:Di ah l g i 13=0):ZV ah l A g i 4=0:=by
 obtain⟨-,-,V⟩:=avv h i ah (ci l i) (cr 96 g i) N;obtain⟨j,y,-,x⟩:=avz h i ah (ci l i) _ (yg (aZ A.ae (i:Int) 0)) (ci A i) (cr 96 g i) N;have M:=nx _ (TE h i ah (ci l i) _ (yg (aZ A.ae (i:Int) 0)) (ci A i) (cr 96 g i) N);simp only[Bn,Bm,qC] at M;have d:=Aw y M;injection d with d;subst d;have z:oi 89 (eR i ah (ci l i) (cr 96 g i)) 13=0:=B;have u:∀{a b c d e H:Int}{p q r s:Int},([.i a,.i b,.i c,.i d,.i e]:bn)=[.i p,.i q,.i r,.i s,.i H]->e=H:=λq=>by simp at q;exact q.2.2.2.2
 have Q:∀{o X a2 W P a5 a6 a7 a8 n k eD eF G e:Int},([.i o,.i X,.i a2,.i W,.i P,.i a5,.i a6,.i a7,.i a8,.i n,.i k,.i eD,.i eF,.i G]:bn)=Od e->G=e:=λq=>by simp[Od] at q;exact q.2.2.2.2.2.2.2.2.2.2.2.2.2
 by_cases X:gf i ah=0;by_cases a2:rS (ci l i);by_cases W:nz (ck i ah) (cr 96 g i);obtain⟨v,F⟩:=Kv W;by_cases P:rD (ci l i) v (ck i ah).length;exact u ((x.w X a2 D W v F).2 P);have:=Q ((V.w X a2 W v F).1 P);omega;have:=Q (V.m X a2 W);omega;have:=Q (V.p X a2);omega;have:=Q (V.c X);omega
def avD{X:aM}(h:Y P=Q):ci (aI (P++[X])) Q B=bp (X.getD B default).val:=by
 show bp (aZ (P++[X]) Q B).val=_;rw[ah3 h]
def avE(h:Q<Y P):ci (aI (P++F)) Q B=ci (aI P) Q B:=by
 show bp (aZ (P++F) Q B).val=bp (aZ P Q B).val;rw[ah4 h]
structure Oj(ah:Int)(A u l g:RV)(n:Nat)(vs vb:ar):Prop where
 s:Y vs=n/\∀i<n,∀j<13,ci (aI vs) i j=gS ah u l g i j
 b:Y vb=n/\∀i<n,∀j<4,ci (aI vb) i j=gB ah u l A g i j
def Oj.add{l g:RV}(h:Oj W H w l g Q P F){V N:aM}(M:∀j<13,bp (V.getD j default).val=gS W w l g Q j)(G:∀j<4,bp (N.getD j default).val=gB W w l H g Q j):Oj W H w l g (Q+1) (P++[V]) (F++[N]):=by
 refine⟨⟨by simp[h.s.1],λi D j X=> ?_⟩,by simp[h.b.1],λi D j X=> ?_⟩;by_cases e:i=Q;subst e;rw[avD h.s.1];exact M j X;rw[avE (by rw[h.s.1];omega)];exact h.s.2 i aa j X;by_cases e:i=Q;subst e;rw[avD h.b.1];exact G j X;rw[avE (by rw[h.b.1];omega)];exact h.b.2 i aa j X
def pV(h:Y P<=140737488355328):Sl (aI P):=⟨⟨_,_,_,rfl⟩,by simp[aI,lenOf],by simpa[aI] using h⟩
def Ol(h:gc)(ah:Int)(wg A u l g:RV)(cT:Sl A)(a:Sl u)(qG:Sl l)(an:Sl g)(b3:∀i<Y g.ae,Sl (cr 96 g i)/\(cr 96 g i).ae.length<=100):∃o,TB.Ev 13 (wk++[.r wg,.r A,.i ah,.r u,.r l,.r g]) o/\HV ah A u l g o:=by
 obtain⟨P,M⟩:∃P:bv->Prop,∀o,P o<->(HV ah A u l g o/\∀v,o≠ .bD v):=⟨_,λ_=>Iff.rfl⟩
 suffices b4:∃o,TB.Ev 13 (wk++[.r wg,.r A,.i ah,.r u,.r l,.r g]) o/\P o by
  obtain⟨o,g1,g2⟩:=b4;exact⟨o,g1,((M o).1 g2).1⟩
 refine SN rfl rfl (.inr λv n=>((M _).1 n).2 v rfl) ?_;obtain⟨h1,h2⟩:=yf sy h;simp only[wk] at h1;have w:∀{e:Int},∀v,vp e≠ .bD v:=λv q=>by cases q
 simp[T13,wk,aT h1];simp only[h.rl.len,cT.len,a.len,qG.len,an.len];refine ax (λy=> ?_) (λX=>(M _).2 ⟨aE5 X,w⟩);have hw:=h2 y;have hn:=hw.nr;refine ax (λX=>(M _).2 ⟨avA y (.inl X),w⟩) (λb8=> ?_);refine ax (λX=>(M _).2 ⟨avA y (.inr X),w⟩) (λca=> ?_);have ac:0<=ah/\ah<eu:=aa;have H:¬t8 ah A u l g->P (.ret [.i 0,.r (aI []),.r (aI []),.r (aI []),.r (aI []),.r (aI []),.i 310]):=λX=>(M _).2 ⟨aE6 y ac X,w⟩
 refine ax (λFh=> ?_) (λX=>H λp=>X (by have:=p.b.1;omega));refine ax (λrA=> ?_) (λX=>H λp=>X (by have:=p.m;omega));refine ax (λBq=> ?_) (λX=>H λp=>X (by have:=p.f;omega));refine ax (λrB=> ?_) (λX=>H λp=>X (by have:=p.r;omega));have b5:Y A.ae=Y az.ae:=aa;have a0:Y u.ae=Y az.ae:=aa;have a9:Y l.ae=Y az.ae:=aa;have b6:Y g.ae=Y az.ae:=aa;have bb:lenOf A.val=(Y az.ae:Int):=by rw[cT.len];exact Fh
 have bg:lenOf u.val=(Y az.ae:Int):=by rw[a.len];exact rA
 have bk:lenOf l.val=(Y az.ae:Int):=by rw[qG.len];exact Bq
 have bl:lenOf g.val=(Y az.ae:Int):=by rw[an.len];exact rB
 have af:Y az.ae<=140737488355328:=aa;have G:∀i<Y az.ae,Sl (cr 96 g i)/\(cr 96 g i).ae.length<=100:=λi W=>b3 i aa
 refine cP (Y az.ae) (λi ag=>ag=[]/\∀k<i,bm A k=0/\rS (ci l k)/\(cb u k 0=E->(cr 96 g k).ae.length=0)/\(cb u k 0=J->Dn k ah (cr 96 g k)=0)) ⟨0,rfl,aa,rfl,aa⟩ ?_;rintro i _ W ⟨rfl,Q⟩;simp[bb,bg,bk,bl];refine ax (λW=> ?_) (λb7=> ?_);have br:=(tV (t85 sy h i ah (cr 96 g i) (G i W).1)).1;simp only[wk,cr,da,di] at br;have bs:=(G i W).1.len;simp only[cr] at bs;have bt:∀k<i,bm A k=0/\rS (ci l k)/\(cb u k 0=E->(cr 96 g k).ae=[])/\(cb u k 0=J->Dn k ah (cr 96 g k)=0):=λk V=>⟨(Q k V).1,(Q k V).2.1,λq=>wS.1 ((Q k V).2.2.1 q),(Q k V).2.2.2⟩
 simp[cu W af,W,aT br,bs];refine ax (λa1=> ?_) (λX=>H λp=>X (p.b.2 i aa));refine ax (λa2=> ?_) (λX=>H λp=>X (p.k i W).1);refine ax (λN=> ?_) (λN=> ?_);refine ax (λD=> ?_) (λX=>H λp=>X ((p.k i W).2.2 N));exact jc bt ⟨a1,a2,λq=>aG N (by simp only[cb] at q;simp[q]),λ_=>D⟩;refine ax (λD=> ?_) (λX=>H λp=>X ?_);exact jc bt ⟨a1,a2,λ_=>D,λq=>aG q N⟩;have:=(p.k i W).2.1 (by simpa[cb] using N);exact wS.1 this;have al:i=Y az.ae:=aa;subst al;have hR:t8 ah A u l g:=⟨⟨b5,λk V=>(Q k aa).1⟩,a0,a9,b6,λk V=>(Q k V).2⟩;rw[aT (e86 u a aa)];simp;rw[aT (e87 l qG aa)];simp;refine cP (Y az.ae) (λi ag=>∃vs B vb,ag=[.r (aI vs),.r (aI B),.r (aI vb)]/\Oj ah A u l g i vs vb/\Y B=i/\(∀k<i,aZ B (k:Int) 0=aI (cr 96 g k).ae)/\∀k<i,kV ah u l g k=0) ⟨0,rfl,aa,[],[],[],rfl,⟨⟨rfl,aa⟩,rfl,aa⟩,rfl,aa,aa⟩ ?_;rintro i _ W ⟨vs,B,vb,rfl,x,d,n,c⟩;have cc:=x.s.1;have cf:=x.b.1;simp[bb,bg,bk,bl];refine ax (λW=> ?_) (λb7=> ?_);have bx:=e88 (cr 96 g i) (G i W).1 (by have:=(G i W).2;omega);simp only[cr] at bx;simp[cu W af,W,aT bx];have b0:∀k<i+1,aZ (B++[[aI (cr 96 g i).ae]]) (k:Int) 0=aI (cr 96 g k).ae:=λk V=>by
  by_cases e:k=i;subst e;rw[ah3 d];rfl;rw[ah4 aa];exact n k aa
 refine⟨aa,ax (λN=> ?_) (λN=> ?_)⟩;have F:cb u i 0=true:=N;have b1:=nx _ (u89 h i ah (ci l i) (cr 96 g i) (G i W).1);simp only[wk,ci,cr,da,di,Bn,Bm,qC] at b1;rw[aT b1];simp;refine ax (λD=> ?_) (λX=>(M _).2 ⟨avB y ac hR W c F X,w⟩);have b2:=nx _ (TE h i ah (ci l i) _ (yg (aZ A.ae (i:Int) 0)) (ci A i) (cr 96 g i) (G i W).1);simp only[wk,ci,cr,da,di,Bn,Bm,qC] at b2;rw[aT b2];simp[cu W af];refine ax (λa5=> ?_) (λX=>aG (aiY h ah l A g i (G i W).1 (Q i W).1 D) X);refine⟨aa,aa,_,_,_,⟨rfl,rfl,rfl⟩,x.add (λj z=> ?_) (λj z=> ?_),by simp[d],b0, ?_⟩;rw[gS,aL F]
 match j,z with
 |0,_|1,_|2,_|3,_|4,_|5,_|6,_|7,_|8,_|9,_|10,_|11,_|12,_=>rfl
 rw[gB,aL F]
 match j,z with
 |0,_|1,_|2,_|3,_=>rfl
 exact jc c (by rw[kV,aL F];exact D);have F:¬cb u i 0=true:=N;refine ax (λD=> ?_) (λX=>aG ((ah5 l A i).2 ⟨(Q i W).2.1,(Q i W).1⟩) X);refine⟨aa,aa,_,_,_,⟨rfl,rfl,rfl⟩,x.add (λj z=> ?_) (λj z=> ?_),by simp[d],b0, ?_⟩;rw[gS,aP F]
 match j,z with
 |0,_|1,_|2,_|3,_|4,_|5,_|6,_|7,_|8,_|9,_|10,_|11,_|12,_=>rfl
 rw[gB,aP F]
 match j,z with
 |0,_|1,_|2,_|3,_=>rfl
 exact jc c (by rw[kV,aP F]);have al:i=Y az.ae:=aa;subst al;refine(M _).2 ⟨avC y ac hR c ⟨⟨pV aa,a0,λi _=>rfl⟩,⟨pV aa,a9,λi _ j _=>rfl⟩,⟨pV aa,x.s⟩,⟨pV aa,d,λk V=> ?_⟩,⟨pV aa,x.b⟩⟩,λv q=>by cases q⟩;have e:cr 96 (aI B) k=aI (cr 96 g k).ae:=by
  have e:=n k V;show db (.sl 96) (aZ B k 0)=_;rw[e];rfl
 rw[e];exact⟨pV (by have:=(G k V).2;omega),rfl⟩
end
section
variable{R:bv->Prop}{ks:aY}{t:T}{O:ai}{L:dE}
variable[Inhabited dB]
def aE7(x:Nat->Int)(v:RV)(a:Nat->Int):fZ TB.Ev R 122 [.i (x 0),.i (x 1),.i (x 2),.i (x 3),.i (x 4),.i (x 5),.i (x 6),.i (x 7),.i (x 8),.i (x 9),.i (x 10),.i (x 11),.i (x 12),.r (db .str v),.i (a 1),.i (a 2),.i (a 3),.i (a 4),.i (a 5),.i (a 6),.i (a 7),.i (a 8),.i (a 9),.i (a 10),.i (a 11),.i (a 12),.i (a 13),.i (a 14),.i (a 15),.i (a 16)] ks t O L=f8 TB.Ev R (.ret [.i (zE (x 0) (x 1) (x 2) (x 3) (x 4) (x 5) (x 6) (x 7) (x 8) (x 9) (x 10) (x 11) (x 12) (db .str v) (a 1) (a 2) (a 3) (a 4) (a 5) (a 6) (a 7) (a 8) (a 9) (a 10) (a 11) (a 12) (a 13) (a 14) (a 15) (a 16) 0),.i (zE (x 0) (x 1) (x 2) (x 3) (x 4) (x 5) (x 6) (x 7) (x 8) (x 9) (x 10) (x 11) (x 12) (db .str v) (a 1) (a 2) (a 3) (a 4) (a 5) (a 6) (a 7) (a 8) (a 9) (a 10) (a 11) (a 12) (a 13) (a 14) (a 15) (a 16) 1),.i (zE (x 0) (x 1) (x 2) (x 3) (x 4) (x 5) (x 6) (x 7) (x 8) (x 9) (x 10) (x 11) (x 12) (db .str v) (a 1) (a 2) (a 3) (a 4) (a 5) (a 6) (a 7) (a 8) (a 9) (a 10) (a 11) (a 12) (a 13) (a 14) (a 15) (a 16) 2),.i (zE (x 0) (x 1) (x 2) (x 3) (x 4) (x 5) (x 6) (x 7) (x 8) (x 9) (x 10) (x 11) (x 12) (db .str v) (a 1) (a 2) (a 3) (a 4) (a 5) (a 6) (a 7) (a 8) (a 9) (a 10) (a 11) (a 12) (a 13) (a 14) (a 15) (a 16) 3),.i (zE (x 0) (x 1) (x 2) (x 3) (x 4) (x 5) (x 6) (x 7) (x 8) (x 9) (x 10) (x 11) (x 12) (db .str v) (a 1) (a 2) (a 3) (a 4) (a 5) (a 6) (a 7) (a 8) (a 9) (a 10) (a 11) (a 12) (a 13) (a 14) (a 15) (a 16) 4)]) ks t O L:=by
 obtain⟨o,W,Q,rfl,V⟩:=aEU x (db .str v) (yg v) a;have X:=nx _ (t27 (x 0) (x 1) (x 2) (x 3) (x 4) (x 5) (x 6) (x 7) (x 8) (x 9) (x 10) (x 11) (x 12) (db .str v) (yg v) (a 1) (a 2) (a 3) (a 4) (a 5) (a 6) (a 7) (a 8) (a 9) (a 10) (a 11) (a 12) (a 13) (a 14) (a 15) (a 16));simp only[Bn,Bm,qC] at X;have d:=Aw W X;injection d with d;subst d;exact aT V
def r42(h:gc)(q:iD=0)(ah:Int)(a:0<=ah/\ah<eu)(X N Q W:RV)(cT:Sl X)(ac:Sl N)(qG:Sl Q)(af:Sl W)(ag:∀i<Y W.ae,Sl (cr 96 W i))(G:t8 ah X N Q W):∃o,TB.Ev 42 (wk++[.r X,.i ah,.r N,.r Q,.r W]) o/\HV ah X N Q W o/\∃b M F S V B e,o=.ret [.i b,.r M,.r F,.r S,.r V,.r B,.i e]:=by
 have Fh:=G.b.1;have rA:=G.m;have Bq:=G.f;have rB:=G.r;have hw:=(yf sy h).2 q;have hn:=hw.nr;have al:Y az.ae<=140737488355328:=aa;have p:lenOf X.val=(Y az.ae:Int):=by rw[cT.len,Fh]
 have x:lenOf N.val=(Y az.ae:Int):=by rw[ac.len,rA]
 have w:lenOf Q.val=(Y az.ae:Int):=by rw[qG.len,Bq]
 have v:lenOf W.val=(Y az.ae:Int):=by rw[af.len,rB]
 refine dR ?_;simp[T42,wk,x,w,v];refine⟨aa, ?_⟩;refine cP (Y az.ae) (λi a1=>∃n l,a1=[.r (aI n),.r (aI l)]/\Oj ah X N Q W i n l/\∀k<i,kV ah N Q W k=0) ⟨0,rfl,aa,[],[],rfl,⟨⟨rfl,aa⟩,rfl,aa⟩,aa⟩ ?_;rintro i _ D ⟨n,l,rfl,A,u⟩;have bb:=A.s.1;have bg:=A.b.1;simp[p,x,w,v];refine ax (λD=> ?_) (λbk=> ?_);have g:=ag i aa;have z:=r96 h i ah (ci Q i) (cr 96 W i) g (cb N i 0);have a4:=(avz h i ah (ci Q i) _ (yg (aZ X.ae (i:Int) 0)) (ci X i) (cr 96 W i) g);have an:=nx _ (TE h i ah (ci Q i) _ (yg (aZ X.ae (i:Int) 0)) (ci X i) (cr 96 W i) g);simp only[Bn,Bm,qC] at an;obtain⟨ys,g1,g2,-⟩:=a4;have d:=Aw g1 an;injection d with d;subst d;simp only[wk,ci,cb,cr,Oe,da,di] at g2;have a0:=λ{R:bv->Prop}{ks t O L}=>aE7 (R:=R) (ks:=ks) (t:=t) (O:=O) (L:=L) (ci Q i) (aZ X.ae (i:Int) 0) (ci X i)
 simp only[ci] at a0;by_cases P:cb N i 0=J;have y:=P;simp only[cb] at y;rw[aL P] at z;simp only[wk,ci,cb,cr,Oe,da,di] at z;rw[aT z];simp[D,cu D al,y,aT g2,p,x,w,v];refine ax (λc=> ?_) (λc=> ?_);refine⟨aa,aa,_,_,⟨rfl,rfl⟩,A.add (λj H=> ?_) (λj H=> ?_),jc u (by rw[kV,aL P];exact c)⟩;rw[gS,aL P]
 match j,H with
 |0,_|1,_|2,_|3,_|4,_|5,_|6,_|7,_|8,_|9,_|10,_|11,_|12,_=>rfl
 rw[gB,aL P]
 match j,H with
 |0,_|1,_|2,_|3,_=>rfl
 exact avB q a G D u P c;have y:=P;simp only[cb] at y;rw[aP P] at z;simp only[wk,ci,cb,cr,Oe,da,di] at z;rw[aT z];simp[D,cu D al,y,a0,p,x,w,v];refine⟨aa,aa,_,_,⟨rfl,rfl⟩,A.add (λj H=> ?_) (λj H=> ?_),jc u (by rw[kV,aP P])⟩;rw[gS,aP P]
 match j,H with
 |0,_|1,_|2,_|3,_|4,_|5,_|6,_|7,_|8,_|9,_|10,_|11,_|12,_=>rfl
 rw[gB,aP P]
 match j,H with
 |0,_|1,_|2,_|3,_=>rfl
 have a9:i=Y az.ae:=aa;subst a9;exact(avC q a G u ⟨⟨pV ac.sm,rA,λi _=>rfl⟩,⟨pV qG.sm,Bq,λi _ j _=>rfl⟩,⟨pV aa,A.s⟩,⟨pV af.sm,rB,λk hk=>⟨ag k aa,rfl⟩⟩,⟨pV aa,A.b⟩⟩)
end
section
variable{R:bv->Prop}{c:aY}{t:T}{O:ai}{L:dE}
variable[Inhabited dB]
section
variable{a b:RV}{n:Nat}
def aE8(W:Sl a)(Q:Sl b)(V:Y a.ae=n)(P:Y b.ae=n)(M:∀i<n,cb b i 0=cb a i 0):TB.Ev 43 [.r a,.r b] (.ret [.b J]):=by
 refine ce ?_;have N:=W.sm;rw[V] at N;simp[ZB,W.len,Q.len,V,P];refine cP n (λ_ H=>H=[]) ⟨0,rfl,aa,rfl⟩ ?_;rintro i _ X rfl;simp[W.len,Q.len,V,P];intro X;have e:=M i X;simp only[cb] at e;simp[e,cu X N,X]
def avG(W:Sl a)(Q:Sl b)(V:Y a.ae=n)(P:Y b.ae=n)(M:∀i<n,∀j<13,ci b i j=ci a i j):TB.Ev 44 [.r a,.r b] (.ret [.b J]):=by
 refine ce ?_;have N:=W.sm;rw[V] at N;simp[ZC,W.len,Q.len,V,P];refine cP n (λ_ H=>H=[]) ⟨0,rfl,aa,rfl⟩ ?_;rintro i _ X rfl;simp[W.len,Q.len,V,P];intro X;have e:=M i X;simp only[ci] at e;simp[e 0,e 1,e 2,e 3,e 4,e 5,e 6,e 7,e 8,e 9,e 10,e 11,e 12,cu X N,X]
def aE9(X:Sl a)(V:Sl b)(e:b.ae=a.ae):TB.Ev 98 [.r a,.r b] (.ret [.b J]):=by
 refine ce ?_;simp[T98,X.len,V.len,e];refine cP (Y a.ae) (λ_ Q=>Q=[]) ⟨0,rfl,aa,rfl⟩ ?_;rintro i _ W rfl;simp[X.len,V.len,e];intro W;simp[cu W X.sm,W]
def aFa(W:Sl a)(Q:Sl b)(V:Y a.ae=n)(P:Y b.ae=n)(M:∀i<n,Sl (cr 96 a i)/\Sl (cr 96 b i)/\(cr 96 b i).ae=(cr 96 a i).ae):TB.Ev 45 [.r a,.r b] (.ret [.b J]):=by
 refine ce ?_;have N:=W.sm;rw[V] at N;simp[ZD,W.len,Q.len,V,P];refine cP n (λ_ H=>H=[]) ⟨0,rfl,aa,rfl⟩ ?_;rintro i _ X rfl;simp[W.len,Q.len,V,P];intro X;obtain⟨G,F,D⟩:=M i X;have g:=aE9 G F D;simp only[cr] at g;simp[X,aT g,cu X N]
end
def aFb{G D M F S V B A z y x u:RV}(h:Do W H w G D M F S V B)(k:Do W H w G D A z y x u):TB.Ev 15 [.i W,.r M,.r F,.r S,.r V,.r B,.i W,.r A,.r z,.r y,.r x,.r u] (.ret [.b J]):=by
 refine ce ?_;obtain⟨d,c,m3⟩:=h.m;obtain⟨ac,af,ag⟩:=k.m;obtain⟨f1,f2,f3⟩:=h.f;obtain⟨al,an,a0⟩:=k.f;obtain⟨s1,s2,s3⟩:=h.s;obtain⟨a1,a3,a4⟩:=k.s;obtain⟨v1,v2,q⟩:=h.v;obtain⟨a9,bb,p⟩:=k.v;obtain⟨P,N,b3⟩:=h.b;obtain⟨o,l,bg⟩:=k.b;have c1:=aE8 d ac c af λi X=>(ag i X).trans (m3 i X).symm
 have c2:=avG f1 al f2 an λi X j Q=>(a0 i X j Q).trans (f3 i X j Q).symm
 have c3:=avG s1 a1 s2 a3 λi X j Q=>(a4 i X j Q).trans (s3 i X j Q).symm
 have c4:=aFa v1 a9 v2 bb λi X=>⟨(q i X).1,(p i X).1,(p i X).2.trans (q i X).2.symm⟩
 have g:=P.sm;rw[N] at g;simp[ZA,aT c1,aT c2,aT c3,aT c4,P.len,o.len,N,l];refine cP (Y az.ae) (λ_ bk=>bk=[]) ⟨0,rfl,aa,rfl⟩ ?_;rintro i _ X rfl;simp[P.len,o.len,N,l];intro X;have e:=λj Q=>(bg i X j Q).trans (b3 i X j Q).symm
 simp only[ci] at e;simp[e 0,e 1,e 2,e 3,cu X g,X]
end
