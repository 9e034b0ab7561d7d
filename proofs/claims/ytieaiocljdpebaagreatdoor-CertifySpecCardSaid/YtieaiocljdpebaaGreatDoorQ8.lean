/- Part 8 of the proof. -/
import Derived.Test.YtieaiocljdpebaaGreatDoorQ5
import Derived.Test.YtieaiocljdpebaaGreatDoorQ7
set_option linter.all false
open Bool renaming and_eq_true->aIy,not_eq_true'->aIR,false_eq_true->aIU,or_eq_true->aIZ,eq_iff_iff->aJv,true_and->aJ3,not_true->aKx,eq_false_iff->aKK,not_eq_true->aK9,not_false->aLp,false_and->aLY,true->J,false->E
open List renaming getElem?_eq_getElem->aIA,cons_append->aIF,nil_append->aIJ,getElem?_eq_none->aIT,ext_getElem?->aI0,range->aI5,length_eq_zero_iff->aJe,getElem_mem->aJl,length_pos_iff->aKl,map_append->aKD,length->Y
open Option.some renaming inj->aJb
open Nat renaming le_refl->aIG,zero_le->aKG,add_sub_cancel->aK3,le_of_not_lt->aLF,le_antisymm->aLJ
open Option renaming some->U
open Int renaming tmod_eq_emod_of_nonneg->aJK
open Go.IntKind renaming i64->I
namespace Go.Proofs.YtieaiocljdpebaaGreatDoor.Y
open Go.RowKit
noncomputable section
variable{W V B z:Int}{Q D:Nat}{P F:am}{H x:RV}{X N:Nat→Int}{y:aV}{M:Nat→Bool}
section
variable[Inhabited dJ]
def aO(X W V R Q P O N M L H G F:Int):bD:=if sw X W V R Q P O N M L H G F=0 then .ret [.i X,.i W,.i V,.i R,.i Q,.i P,.i O,.i N,.i M,.i L,.i H,.i G,.i F,.i 0] else .ret [.i 0,.i 0,.i 0,.i 0,.i 0,.i 0,.i 0,.i 0,.i 0,.i 0,.i 0,.i 0,.i 0,.i 2]
def Rc:au .sub I 1 1=0:=rfl
def Re:au .sub I 2 1=1:=rfl
def Rf:au .add I 1 1=2:=rfl
def Rg:au .add I 2 1=3:=rfl
set_option maxHeartbeats 4000000 in
def dp (R Q X C B P O N M L H G F:Int) (c:Nat->Int) (p q r:Int) (x:iZ W V c) (w:lR R Q X C B P O N M L H G F) (A:fU c p q r E) (D:c 4=1) (z:c 5=1):TB.Ev 227 ([.i R,.i Q,.i X,.i C,.i B,.i P,.i O,.i N,.i M,.i L,.i H,.i G,.i F]++bv c++[.i p,.i q,.i r,.b E]) (aO (mP R X (c 6) (c 8)) (mQ Q X (c 6) (c 8)) X 0 0 P O N M L H G F)/\TB.Ev 200 ([.i R,.i Q,.i X,.i C,.i B,.i P,.i O,.i N,.i M,.i L,.i H,.i G,.i F]++bv c++[.i p,.i q,.i r,.b E]) (aO (mP R X (c 6) (c 8)) (mQ Q X (c 6) (c 8)) X 0 0 P O N M L H G F):=by
 have v:=(mN R Q X C B P O N M L H G F).2 w;have u:=ui c x;have t:=uj c p q r E A;simp only[bv,aIF,aIJ,D,z] at u t;obtain⟨-,-,-,m,s,y,o,n,-,-,-⟩:=x;simp[D] at s y o n;simp[fU,D] at A;constructor;refine bW rfl rfl (.inl rfl) ?_;simp(config:={maxSteps:=10000000}) [oS,bv,D,z,Rc,v,m,s,y,o,n,A,aO,mP,mQ];refine az (λh=> ?_) (λh=> ?_);exact(if_pos h).symm;exact(if_neg h).symm;refine bW rfl rfl (.inl rfl) ?_;simp(config:={maxSteps:=10000000}) [qL,bv,D,z,Rc,v,aN u,aN t,aO,aN (aib _ _ _ _ _ _ _ _ _ _ _ _ _ (c 6) (c 8) w.f y)]
set_option maxHeartbeats 4000000 in
def dq (R Q X P O C B N M L H G F:Int) (c:Nat->Int) (p q r:Int) (x:iZ W V c) (w:lR R Q X P O C B N M L H G F) (A:fU c p q r E) (D:c 4=1) (z:c 5=2):TB.Ev 227 ([.i R,.i Q,.i X,.i P,.i O,.i C,.i B,.i N,.i M,.i L,.i H,.i G,.i F]++bv c++[.i p,.i q,.i r,.b E]) (aO (mP R X (c 6) (c 8)) (mQ Q X (c 6) (c 8)) X P O 0 0 N M L H G F)/\TB.Ev 200 ([.i R,.i Q,.i X,.i P,.i O,.i C,.i B,.i N,.i M,.i L,.i H,.i G,.i F]++bv c++[.i p,.i q,.i r,.b E]) (aO (mP R X (c 6) (c 8)) (mQ Q X (c 6) (c 8)) X P O 0 0 N M L H G F):=by
 have v:=(mN R Q X P O C B N M L H G F).2 w;have u:=ui c x;have t:=uj c p q r E A;simp only[bv,aIF,aIJ,D,z] at u t;obtain⟨-,-,-,m,s,y,o,n,-,-,-⟩:=x;simp[D] at s y o n;simp[fU,D] at A;constructor;refine bW rfl rfl (.inl rfl) ?_;simp(config:={maxSteps:=10000000}) [oS,bv,D,z,Re,v,m,s,y,o,n,A,aO,mP,mQ];refine az (λh=> ?_) (λh=> ?_);exact(if_pos h).symm;exact(if_neg h).symm;refine bW rfl rfl (.inl rfl) ?_;simp(config:={maxSteps:=10000000}) [qL,bv,D,z,Re,v,aN u,aN t,aO,aN (aib _ _ _ _ _ _ _ _ _ _ _ _ _ (c 6) (c 8) w.f y)]
set_option maxHeartbeats 4000000 in
def a2 (R Q X F D C B P O N M L H:Int) (c:Nat->Int) (p q r:Int) (y:iZ W V c) (x:lR R Q X F D C B P O N M L H) (A:fU c p q r E) (G:c 4=2):TB.Ev 227 ([.i R,.i Q,.i X,.i F,.i D,.i C,.i B,.i P,.i O,.i N,.i M,.i L,.i H]++bv c++[.i p,.i q,.i r,.b E]) (aO (mP R X (c 6) (c 8)) (mQ Q X (c 6) (c 8)) X 0 0 0 0 P O N M L H)/\TB.Ev 200 ([.i R,.i Q,.i X,.i F,.i D,.i C,.i B,.i P,.i O,.i N,.i M,.i L,.i H]++bv c++[.i p,.i q,.i r,.b E]) (aO (mP R X (c 6) (c 8)) (mQ Q X (c 6) (c 8)) X 0 0 0 0 P O N M L H):=by
 have w:=(mN R Q X F D C B P O N M L H).2 x;have v:=ui c y;have u:=uj c p q r E A;simp only[bv,aIF,aIJ,G] at v u;obtain⟨-,-,-,n,t,z,s,o,-,-,-⟩:=y;simp[G] at t z s o;simp[fU,G] at A;constructor;refine bW rfl rfl (.inl rfl) ?_;simp(config:={maxSteps:=10000000}) [oS,bv,G,w,n,t,z,s,o,A,aO,mP,mQ];refine az (λh=> ?_) (λh=> ?_);exact(if_pos h).symm;exact(if_neg h).symm;refine bW rfl rfl (.inl rfl) ?_;simp(config:={maxSteps:=10000000}) [qL,bv,G,w,aN v,aN u,aO,aN (aib _ _ _ _ _ _ _ _ _ _ _ _ _ (c 6) (c 8) x.f z)]
set_option maxHeartbeats 4000000 in
def a31 (X R Q C B P O N M L H G F:Int) (c:Nat->Int) (p q r:Int) (y:iZ W V c) (n:lR X R Q C B P O N M L H G F) (A:fU c p q r E) (D:c 4=3) (z:c 5=1):TB.Ev 227 ([.i X,.i R,.i Q,.i C,.i B,.i P,.i O,.i N,.i M,.i L,.i H,.i G,.i F]++bv c++[.i p,.i q,.i r,.b E]) (aO X R Q q r P O N M L H G F)/\TB.Ev 200 ([.i X,.i R,.i Q,.i C,.i B,.i P,.i O,.i N,.i M,.i L,.i H,.i G,.i F]++bv c++[.i p,.i q,.i r,.b E]) (aO X R Q q r P O N M L H G F):=by
 have x:=(mN X R Q C B P O N M L H G F).2 n;have w:=ui c y;have v:=uj c p q r E A;simp only[bv,aIF,aIJ,D,z] at w v;obtain⟨-,-,-,m,u,t,s,o,-,-,-⟩:=y;simp[D] at u t s o;simp[fU,D] at A;constructor;refine bW rfl rfl (.inl rfl) ?_;simp(config:={maxSteps:=10000000}) [oS,bv,D,z,Rc,x,m,u,t,s,o,A,aO,mP,mQ];refine bW rfl rfl (.inl rfl) ?_;simp(config:={maxSteps:=10000000}) [qL,bv,D,z,Rc,x,aN w,aN v,aO]
set_option maxHeartbeats 4000000 in
def a32 (X R Q P O C B N M L H G F:Int) (c:Nat->Int) (p q r:Int) (y:iZ W V c) (n:lR X R Q P O C B N M L H G F) (A:fU c p q r E) (D:c 4=3) (z:c 5=2):TB.Ev 227 ([.i X,.i R,.i Q,.i P,.i O,.i C,.i B,.i N,.i M,.i L,.i H,.i G,.i F]++bv c++[.i p,.i q,.i r,.b E]) (aO X R Q P O q r N M L H G F)/\TB.Ev 200 ([.i X,.i R,.i Q,.i P,.i O,.i C,.i B,.i N,.i M,.i L,.i H,.i G,.i F]++bv c++[.i p,.i q,.i r,.b E]) (aO X R Q P O q r N M L H G F):=by
 have x:=(mN X R Q P O C B N M L H G F).2 n;have w:=ui c y;have v:=uj c p q r E A;simp only[bv,aIF,aIJ,D,z] at w v;obtain⟨-,-,-,m,u,t,s,o,-,-,-⟩:=y;simp[D] at u t s o;simp[fU,D] at A;constructor;refine bW rfl rfl (.inl rfl) ?_;simp(config:={maxSteps:=10000000}) [oS,bv,D,z,Re,x,m,u,t,s,o,A,aO,mP,mQ];refine bW rfl rfl (.inl rfl) ?_;simp(config:={maxSteps:=10000000}) [qL,bv,D,z,Re,x,aN w,aN v,aO]
set_option maxHeartbeats 4000000 in
def a41 (X R Q P O N M C B L H G F:Int) (c:Nat->Int) (p q r:Int) (y:iZ W V c) (n:lR X R Q P O N M C B L H G F) (A:fU c p q r E) (D:c 4=4) (z:c 5=1):TB.Ev 227 ([.i X,.i R,.i Q,.i P,.i O,.i N,.i M,.i C,.i B,.i L,.i H,.i G,.i F]++bv c++[.i p,.i q,.i r,.b E]) (aO X R Q P O N M q r L H G F)/\TB.Ev 200 ([.i X,.i R,.i Q,.i P,.i O,.i N,.i M,.i C,.i B,.i L,.i H,.i G,.i F]++bv c++[.i p,.i q,.i r,.b E]) (aO X R Q P O N M q r L H G F):=by
 have x:=(mN X R Q P O N M C B L H G F).2 n;have w:=ui c y;have v:=uj c p q r E A;simp only[bv,aIF,aIJ,D,z] at w v;obtain⟨-,-,-,m,u,t,s,o,-,-,-⟩:=y;simp[D] at u t s o;simp[fU,D] at A;constructor;refine bW rfl rfl (.inl rfl) ?_;simp(config:={maxSteps:=10000000}) [oS,bv,D,z,Rf,x,m,u,t,s,o,A,aO,mP,mQ];refine bW rfl rfl (.inl rfl) ?_;simp(config:={maxSteps:=10000000}) [qL,bv,D,z,Rf,x,aN w,aN v,aO]
set_option maxHeartbeats 4000000 in
def a42 (X R Q P O N M L H C B G F:Int) (c:Nat->Int) (p q r:Int) (y:iZ W V c) (n:lR X R Q P O N M L H C B G F) (A:fU c p q r E) (D:c 4=4) (z:c 5=2):TB.Ev 227 ([.i X,.i R,.i Q,.i P,.i O,.i N,.i M,.i L,.i H,.i C,.i B,.i G,.i F]++bv c++[.i p,.i q,.i r,.b E]) (aO X R Q P O N M L H q r G F)/\TB.Ev 200 ([.i X,.i R,.i Q,.i P,.i O,.i N,.i M,.i L,.i H,.i C,.i B,.i G,.i F]++bv c++[.i p,.i q,.i r,.b E]) (aO X R Q P O N M L H q r G F):=by
 have x:=(mN X R Q P O N M L H C B G F).2 n;have w:=ui c y;have v:=uj c p q r E A;simp only[bv,aIF,aIJ,D,z] at w v;obtain⟨-,-,-,m,u,t,s,o,-,-,-⟩:=y;simp[D] at u t s o;simp[fU,D] at A;constructor;refine bW rfl rfl (.inl rfl) ?_;simp(config:={maxSteps:=10000000}) [oS,bv,D,z,Rg,x,m,u,t,s,o,A,aO,mP,mQ];refine bW rfl rfl (.inl rfl) ?_;simp(config:={maxSteps:=10000000}) [qL,bv,D,z,Rg,x,aN w,aN v,aO]
set_option maxHeartbeats 4000000 in
def a5 (X R Q P O N M L H G F C B:Int) (c:Nat->Int) (p q r:Int) (z:iZ W V c) (o:lR X R Q P O N M L H G F C B) (A:fU c p q r E) (D:c 4=5):TB.Ev 227 ([.i X,.i R,.i Q,.i P,.i O,.i N,.i M,.i L,.i H,.i G,.i F,.i C,.i B]++bv c++[.i p,.i q,.i r,.b E]) (aO X R Q P O N M L H G F q r)/\TB.Ev 200 ([.i X,.i R,.i Q,.i P,.i O,.i N,.i M,.i L,.i H,.i G,.i F,.i C,.i B]++bv c++[.i p,.i q,.i r,.b E]) (aO X R Q P O N M L H G F q r):=by
 have y:=(mN X R Q P O N M L H G F C B).2 o;have x:=ui c z;have w:=uj c p q r E A;simp only[bv,aIF,aIJ,D] at x w;obtain⟨-,-,-,n,v,u,t,s,-,-,-⟩:=z;simp[D] at v u t s;simp[fU,D] at A;constructor;refine bW rfl rfl (.inl rfl) ?_;simp(config:={maxSteps:=10000000}) [oS,bv,D,y,n,v,u,t,s,A,aO,mP,mQ];refine bW rfl rfl (.inl rfl) ?_;simp(config:={maxSteps:=10000000}) [qL,bv,D,y,aN x,aN w,aO]
set_option maxHeartbeats 4000000 in
def a6 (X R Q P O N M L H G F D C:Int) (c:Nat->Int) (p q r:Int) (z:iZ W V c) (o:lR X R Q P O N M L H G F D C) (A:fU c p q r E) (B:c 4=6):TB.Ev 227 ([.i X,.i R,.i Q,.i P,.i O,.i N,.i M,.i L,.i H,.i G,.i F,.i D,.i C]++bv c++[.i p,.i q,.i r,.b E]) (aO X R (au .rem I (au .add I Q (c 8)) 8) P O N M L H G F D C)/\TB.Ev 200 ([.i X,.i R,.i Q,.i P,.i O,.i N,.i M,.i L,.i H,.i G,.i F,.i D,.i C]++bv c++[.i p,.i q,.i r,.b E]) (aO X R (au .rem I (au .add I Q (c 8)) 8) P O N M L H G F D C):=by
 have y:=(mN X R Q P O N M L H G F D C).2 o;have x:=ui c z;have w:=uj c p q r E A;simp only[bv,aIF,aIJ,B] at x w;obtain⟨-,-,-,n,v,u,t,s,-,-,-⟩:=z;simp[B] at v u t s;simp[fU,B] at A;constructor;refine bW rfl rfl (.inl rfl) ?_;simp(config:={maxSteps:=10000000}) [oS,bv,B,y,n,v,u,t,s,A,aO,mP,mQ];refine bW rfl rfl (.inl rfl) ?_;simp(config:={maxSteps:=10000000}) [qL,bv,B,y,aN x,aN w,aO]
set_option maxHeartbeats 4000000 in
def a7 (X R Q P O N M F D C B L H:Int) (c:Nat->Int) (p q r:Int) (z:iZ W V c) (o:lR X R Q P O N M F D C B L H) (A:fU c p q r E) (G:c 4=7):TB.Ev 227 ([.i X,.i R,.i Q,.i P,.i O,.i N,.i M,.i F,.i D,.i C,.i B,.i L,.i H]++bv c++[.i p,.i q,.i r,.b E]) (aO X R Q P O N M 0 0 0 0 L H)/\TB.Ev 200 ([.i X,.i R,.i Q,.i P,.i O,.i N,.i M,.i F,.i D,.i C,.i B,.i L,.i H]++bv c++[.i p,.i q,.i r,.b E]) (aO X R Q P O N M 0 0 0 0 L H):=by
 have y:=(mN X R Q P O N M F D C B L H).2 o;have x:=ui c z;have w:=uj c p q r E A;simp only[bv,aIF,aIJ,G] at x w;obtain⟨-,-,-,n,v,u,t,s,-,-,-⟩:=z;simp[G] at v u t s;simp[fU,G] at A;constructor;refine bW rfl rfl (.inl rfl) ?_;simp(config:={maxSteps:=10000000}) [oS,bv,G,y,n,v,u,t,s,A,aO,mP,mQ];refine bW rfl rfl (.inl rfl) ?_;simp(config:={maxSteps:=10000000}) [qL,bv,G,y,aN x,aN w,aO]
set_option maxHeartbeats 4000000 in
def a8 (X R Q F D C B P O N M L H:Int) (c:Nat->Int) (p q r:Int) (z:iZ W V c) (o:lR X R Q F D C B P O N M L H) (A:fU c p q r E) (G:c 4=8):TB.Ev 227 ([.i X,.i R,.i Q,.i F,.i D,.i C,.i B,.i P,.i O,.i N,.i M,.i L,.i H]++bv c++[.i p,.i q,.i r,.b E]) (aO X R Q 0 0 0 0 P O N M L H)/\TB.Ev 200 ([.i X,.i R,.i Q,.i F,.i D,.i C,.i B,.i P,.i O,.i N,.i M,.i L,.i H]++bv c++[.i p,.i q,.i r,.b E]) (aO X R Q 0 0 0 0 P O N M L H):=by
 have y:=(mN X R Q F D C B P O N M L H).2 o;have x:=ui c z;have w:=uj c p q r E A;simp only[bv,aIF,aIJ,G] at x w;obtain⟨-,-,-,n,v,u,t,s,-,-,-⟩:=z;simp[G] at v u t s;simp[fU,G] at A;constructor;refine bW rfl rfl (.inl rfl) ?_;simp(config:={maxSteps:=10000000}) [oS,bv,G,y,n,v,u,t,s,A,aO,mP,mQ];refine bW rfl rfl (.inl rfl) ?_;simp(config:={maxSteps:=10000000}) [qL,bv,G,y,aN x,aN w,aO]
set_option maxHeartbeats 4000000 in
def a91 (X R Q P O N M C B L H G F:Int) (c:Nat->Int) (p q r:Int) (y:iZ W V c) (n:lR X R Q P O N M C B L H G F) (A:fU c p q r E) (D:c 4=9) (z:c 5=1):TB.Ev 227 ([.i X,.i R,.i Q,.i P,.i O,.i N,.i M,.i C,.i B,.i L,.i H,.i G,.i F]++bv c++[.i p,.i q,.i r,.b E]) (aO X R Q P O N M 0 0 L H G F)/\TB.Ev 200 ([.i X,.i R,.i Q,.i P,.i O,.i N,.i M,.i C,.i B,.i L,.i H,.i G,.i F]++bv c++[.i p,.i q,.i r,.b E]) (aO X R Q P O N M 0 0 L H G F):=by
 have x:=(mN X R Q P O N M C B L H G F).2 n;have w:=ui c y;have v:=uj c p q r E A;simp only[bv,aIF,aIJ,D,z] at w v;obtain⟨-,-,-,m,u,t,s,o,-,-,-⟩:=y;simp[D] at u t s o;simp[fU,D] at A;constructor;refine bW rfl rfl (.inl rfl) ?_;simp(config:={maxSteps:=10000000}) [oS,bv,D,z,Rf,x,m,u,t,s,o,A,aO,mP,mQ];refine bW rfl rfl (.inl rfl) ?_;simp(config:={maxSteps:=10000000}) [qL,bv,D,z,Rf,x,aN w,aN v,aO]
set_option maxHeartbeats 4000000 in
def a92 (X R Q P O N M L H C B G F:Int) (c:Nat->Int) (p q r:Int) (y:iZ W V c) (n:lR X R Q P O N M L H C B G F) (A:fU c p q r E) (D:c 4=9) (z:c 5=2):TB.Ev 227 ([.i X,.i R,.i Q,.i P,.i O,.i N,.i M,.i L,.i H,.i C,.i B,.i G,.i F]++bv c++[.i p,.i q,.i r,.b E]) (aO X R Q P O N M L H 0 0 G F)/\TB.Ev 200 ([.i X,.i R,.i Q,.i P,.i O,.i N,.i M,.i L,.i H,.i C,.i B,.i G,.i F]++bv c++[.i p,.i q,.i r,.b E]) (aO X R Q P O N M L H 0 0 G F):=by
 have x:=(mN X R Q P O N M L H C B G F).2 n;have w:=ui c y;have v:=uj c p q r E A;simp only[bv,aIF,aIJ,D,z] at w v;obtain⟨-,-,-,m,u,t,s,o,-,-,-⟩:=y;simp[D] at u t s o;simp[fU,D] at A;constructor;refine bW rfl rfl (.inl rfl) ?_;simp(config:={maxSteps:=10000000}) [oS,bv,D,z,Rg,x,m,u,t,s,o,A,aO,mP,mQ];refine bW rfl rfl (.inl rfl) ?_;simp(config:={maxSteps:=10000000}) [qL,bv,D,z,Rg,x,aN w,aN v,aO]
def aD(X R Q P O N M L H G F D C:Int)(c:Nat->Int)(p q r:Int)(A:iZ W V c)(t:lR X R Q P O N M L H G F D C)(B:fU c p q r J):TB.Ev 227 ([.i X,.i R,.i Q,.i P,.i O,.i N,.i M,.i L,.i H,.i G,.i F,.i D,.i C]++bv c++[.i p,.i q,.i r,.b J]) (.ret [.i X,.i R,.i Q,.i P,.i O,.i N,.i M,.i L,.i H,.i G,.i F,.i D,.i C,.i 0])/\TB.Ev 200 ([.i X,.i R,.i Q,.i P,.i O,.i N,.i M,.i L,.i H,.i G,.i F,.i D,.i C]++bv c++[.i p,.i q,.i r,.b J]) (.ret [.i X,.i R,.i Q,.i P,.i O,.i N,.i M,.i L,.i H,.i G,.i F,.i D,.i C,.i 0]):=by
 have z:=(mN X R Q P O N M L H G F D C).2 t;have s:=ui c A;have y:=uj c p q r J B;simp only[bv,aIF,aIJ] at y;obtain⟨m,-,-,o,x,w,v,u,-,-,-⟩:=A;simp[fU] at B;constructor
 ·refine bW rfl rfl (.inl rfl) ?_;have n:c 4=1\/c 4=2\/c 4=3\/c 4=4\/c 4=5\/c 4=6\/c 4=7\/c 4=8\/c 4=9:=by omega
  rcases n with h|h|h|h|h|h|h|h|h
  all_goals
   simp[h] at x w v u;simp(config:={maxSteps:=10000000}) [oS,bv,h,z,o,x,w,v,u,B]
 refine bW rfl rfl (.inl rfl) ?_;simp[qL,bv,z,aN s,aN y]
def aCY(X R Q P O N M L H G F D C:Int)(c:Nat->Int)(p q r:Int)(b:Bool)(B:iZ W V c)(A:lR X R Q P O N M L H G F D C)(z:fU c p q r b):∃x,TB.Ev 227 ([.i X,.i R,.i Q,.i P,.i O,.i N,.i M,.i L,.i H,.i G,.i F,.i D,.i C]++bv c++[.i p,.i q,.i r,.b b]) (.ret x)/\TB.Ev 200 ([.i X,.i R,.i Q,.i P,.i O,.i N,.i M,.i L,.i H,.i G,.i F,.i D,.i C]++bv c++[.i p,.i q,.i r,.b b]) (.ret x)/\(xi x 13=0\/xi x 13=2):=by
 have y:∀{w:aV}{v u a2 t s a5 a6 a7 a8 o n dp dq:Int},TB.Ev 227 w (aO v u a2 t s a5 a6 a7 a8 o n dp dq)/\TB.Ev 200 w (aO v u a2 t s a5 a6 a7 a8 o n dp dq)->∃x,TB.Ev 227 w (.ret x)/\TB.Ev 200 w (.ret x)/\(xi x 13=0\/xi x 13=2):=λ{w v u a2 t s a5 a6 a7 a8 o n dp dq} h=>by
  simp only[aO] at h;by_cases k:sw v u a2 t s a5 a6 a7 a8 o n dp dq=0;rw[if_pos k] at h;exact⟨_,h.1,h.2,.inl rfl⟩;rw[if_neg k] at h;exact⟨_,h.1,h.2,.inr rfl⟩
 cases b with
 |true=>have k:=aD X R Q P O N M L H G F D C c p q r B A z;exact⟨_,k.1,k.2,.inl rfl⟩
 |false=>
  have m:=B.side;have l:c 4=1\/c 4=2\/c 4=3\/c 4=4\/c 4=5\/c 4=6\/c 4=7\/c 4=8\/c 4=9:=by have:=B.kind;omega
  rcases l with h|h|h|h|h|h|h|h|h
  all_goals simp[h] at m
  rcases(show c 5=1\/c 5=2 by omega) with d|d;exact y (dp X R Q P O N M L H G F D C c p q r B A z h d);exact y (dq X R Q P O N M L H G F D C c p q r B A z h d);exact y (a2 X R Q P O N M L H G F D C c p q r B A z h);rcases(show c 5=1\/c 5=2 by omega) with d|d;exact y (a31 X R Q P O N M L H G F D C c p q r B A z h d);exact y (a32 X R Q P O N M L H G F D C c p q r B A z h d);rcases(show c 5=1\/c 5=2 by omega) with d|d;exact y (a41 X R Q P O N M L H G F D C c p q r B A z h d);exact y (a42 X R Q P O N M L H G F D C c p q r B A z h d);exact y (a5 X R Q P O N M L H G F D C c p q r B A z h);exact y (a6 X R Q P O N M L H G F D C c p q r B A z h);exact y (a7 X R Q P O N M L H G F D C c p q r B A z h);exact y (a8 X R Q P O N M L H G F D C c p q r B A z h);rcases(show c 5=1\/c 5=2 by omega) with d|d;exact y (a91 X R Q P O N M L H G F D C c p q r B A z h d);exact y (a92 X R Q P O N M L H G F D C c p q r B A z h d)
end
section
variable{R:bD->Prop}{f:aP}{t:T}{O:aa}{L:dN}
variable[Inhabited dJ]
def auG(r:RV)(X:Sl r)(id:Int)(M:Q<Y r.rows)(W:ci r Q 0=id)(P:∀j<Q,ci r j 0≠id):TB.Ev 115 [.r r,.i id] (.ret [.i (ci r Q 0),.i (ci r Q 1),.i (ci r Q 2),.b (cb r Q 3)]):=by
 refine bW rfl rfl (.inl rfl) ?_;simp[agW];refine cZ (Y r.rows) (λi N=>N=[]/\i<=Q) ⟨0,rfl,by omega,rfl,by omega⟩ ?_;rintro i _ H ⟨rfl,G⟩;have V:i<Y r.rows:=by omega
 simp[X.len,V,cQ V X.sm];by_cases e:i=Q;subst e;simp only[ci] at W;simp[W,ci,cb];have:=P i (by omega);simp only[ci] at this;simp[this];omega
def Zh(N:mq P)(W:lq P H)(M:oh P H (Y P) F)(V:Q<Y P):∃k<Y H.rows,(∀j<k,ci H j 0≠ba P Q 0)/\ci H k 0=ba P Q 0/\sI (ba P Q) H k/\(∀j<14,ba F Q j=ba P Q j)/\ba F Q 14=ci H k 0/\ba F Q 15=ci H k 1/\ba F Q 16=ci H k 2/\fG (cellAt F Q 17).val=cb H k 3:=by
 obtain⟨k,x,w,G⟩:=M.2 Q V;have D:k<Y P:=by have:=W.1;omega
 have o:(ik P).length=Y P:=j9;obtain⟨q,u,C⟩:=mq.from D;have B:=W.2 k D;have A:ba (ik P) k 0=ba P Q 0:=by rw[<-G];exact B.1.symm
 have s:Q=q:=(N.inj u V (by rw[<-C,A])).symm;subst s;have z:Q<Y F:=by rw[M.1];exact V
 have X:∀j,cellAt F Q j=(C2 (ba P Q) H k).getD j default:=λj=>by
  have:F[Q]=C2 (ba P Q) H k:=by
   have:=w;rw[aIA z] at this;exact aJb this
  simp[cellAt,aIA z,this]
 refine⟨k,x,λj y e=> ?_,G,(fU.congr C).1 B,λj y=> ?_, ?_, ?_, ?_, ?_⟩;have p:=W.2 j (by omega);have:ba (ik P) j 0=ba (ik P) k 0:=by rw[A,<-e];exact p.1.symm
 have:=N.by.inj (a:=j) (b:=k) (by omega) (by omega) this;omega;simp only[ba,X,C2,ln]
 match j,y with
 |0,_|1,_|2,_|3,_|4,_|5,_|6,_|7,_|8,_|9,_|10,_|11,_|12,_|13,_=>rfl
 simp only[ba,X,C2,ln];rfl;simp only[ba,X,C2,ln];rfl;simp only[ba,X,C2,ln];rfl;simp only[X,C2,ln];rfl
def aic(M:iZ W V (ba P Q))(G:rS (bK X F Q))(C:sI (ba P Q) H D)(N:∀j<14,ba F Q j=ba P Q j)(B:ba F Q 14=ci H D 0)(A:ba F Q 15=ci H D 1)(z:ba F Q 16=ci H D 2)(y:fG (cellAt F Q 17).val=cb H D 3):TB.Ev 200 ([.i (bK X F Q 0),.i (bK X F Q 1),.i (bK X F Q 2),.i (bK X F Q 3),.i (bK X F Q 4),.i (bK X F Q 5),.i (bK X F Q 6),.i (bK X F Q 7),.i (bK X F Q 8),.i (bK X F Q 9),.i (bK X F Q 10),.i (bK X F Q 11),.i (bK X F Q 12)]++bv (ba P Q)++[.i (ci H D 0),.i (ci H D 1),.i (ci H D 2),.b (cb H D 3)]) (.ret [.i (bK X F (Q+1) 0),.i (bK X F (Q+1) 1),.i (bK X F (Q+1) 2),.i (bK X F (Q+1) 3),.i (bK X F (Q+1) 4),.i (bK X F (Q+1) 5),.i (bK X F (Q+1) 6),.i (bK X F (Q+1) 7),.i (bK X F (Q+1) 8),.i (bK X F (Q+1) 9),.i (bK X F (Q+1) 10),.i (bK X F (Q+1) 11),.i (bK X F (Q+1) 12),.i (bK X F (Q+1) 13)])/\(bK X F (Q+1) 13=0\/bK X F (Q+1) 13=2):=by
 have w:=(mN _ _ _ _ _ _ _ _ _ _ _ _ _).1 G;obtain⟨o,u,s,q⟩:=aCY _ _ _ _ _ _ _ _ _ _ _ _ _ (ba P Q) (ci H D 0) (ci H D 1) (ci H D 2) (cb H D 3) M w C;have e:=ahg (bK X F Q) F Q;have p:bv (ba F Q)=bv (ba P Q):=by
  simp only[bv];rw[N 0 (by omega),N 1 (by omega),N 2 (by omega),N 3 (by omega),N 4 (by omega),N 5 (by omega),N 6 (by omega),N 7 (by omega),N 8 (by omega),N 9 (by omega),N 10 (by omega),N 11 (by omega),N 12 (by omega),N 13 (by omega)]
 rw[p,B,A,z,y] at e;have d:=Cb u e;injection d with d;subst d;exact⟨s,q⟩
def Zi(s:Nat->Int):aH:=[.mk (.int I (s 0)) [],.mk (.int I (s 1)) [],.mk (.int I (s 2)) [],.mk (.int I (s 3)) [],.mk (.int I (s 4)) [],.mk (.int I (s 5)) [],.mk (.int I (s 6)) [],.mk (.int I (s 7)) [],.mk (.int I (s 8)) [],.mk (.int I (s 9)) [],.mk (.int I (s 10)) [],.mk (.int I (s 11)) [],.mk (.int I (s 12)) []]
def aCZ(s:Nat->Int)(j:Nat)(h:j<13):aT j (Zi s)=s j:=by
 match j,h with
 |0,_|1,_|2,_|3,_|4,_|5,_|6,_|7,_|8,_|9,_|10,_|11,_|12,_=>rfl
def vH(x:Nat->Int)(v:am)(n:Nat):am:=(aI5 (n+1)).map λj=>Zi (bK x v j)
def aid(x:Nat->Int)(v:am)(n:Nat):(vH x v n).length=n+1:=by simp[vH]
def aie(x:Nat->Int)(v:am)(h:D<=Q)(j:Nat)(X:j<13):bB (cellAt (vH x v Q) D j).val=bK x v D j:=by
 have:bB (cellAt (vH x v Q) D j).val=aT j (Zi (bK x v D)):=by simp[cellAt,aT,vH,show D<Q+1 by omega]
 rw[this,aCZ _ _ X]
def aC0(x:Nat->Int)(v:am)(n:Nat):vH x v (n+1)=vH x v n++[Zi (bK x v (n+1))]:=by
 simp only[vH];rw[List.range_succ,aKD];rfl
def oW(x:Nat->Int)(v:am)(n:Nat):Prop:=∀i<n,bK x v (i+1) 13=0
def auH(Q:mq P)(D:∀i<Y P,iZ W V (ba P i))(C:Sl H)(B:lq P H)(A:oh P H (Y P) F)(x:Nat->Int)(z:rS x):∃o,TB.Ev 237 ([.r (bT P)]++[.i (x 0),.i (x 1),.i (x 2),.i (x 3),.i (x 4),.i (x 5),.i (x 6),.i (x 7),.i (x 8),.i (x 9),.i (x 10),.i (x 11),.i (x 12)]++[.r H]) o/\∃b w,o=.ret [.r (bT w),.b b]/\(b=J->w=vH x F (Y P)/\oW x F (Y P))/\(b=E->¬oW x F (Y P)):=by
 refine dm rfl rfl (.inl rfl) ?_;simp[ag3];have hn:=Q.n;refine cZ (Y P) (λi y=>y=[.r (bT (vH x F i))]/\rS (bK x F i)/\oW x F i) ⟨0,rfl,by omega,rfl,z,λi h=>by omega⟩ ?_;rintro i _ X ⟨rfl,u,N⟩;have s:=aid x F i;simp[s];refine az (λX=>⟨by omega,X, ?_⟩) (λX=> ?_);obtain⟨k,m,g,f,e,d,a,e6,e7,e8⟩:=Zh Q B A X;obtain⟨M,g2⟩:=aic (D i X) u e d a e6 e7 e8;have G:=auG H C (ba P i 0) m f g;have c:∀j<13,bB (cellAt (vH x F i) i j).val=bK x F i j:=λj hj=>aie x F (aIG i) j hj
 have ag:rS (bK x F (i+1))\/bK x F (i+1) 13≠0:=by
  by_cases q:bK x F (i+1) 13=0;exact .inl (QL (bK x F i) F i q).1;exact .inr q
 simp only[bv,ba,ci,cb,aIF,aIJ] at G M;rw[aN G];simp[c 0 (by omega),c 1 (by omega),c 2 (by omega),c 3 (by omega),c 4 (by omega),c 5 (by omega),c 6 (by omega),c 7 (by omega),c 8 (by omega),c 9 (by omega),c 10 (by omega),c 11 (by omega),c 12 (by omega),aN M,cQ X (show Y P<=140737488355328 by omega)];refine az (λq=>⟨by omega, ?_,(QL (bK x F i) F i q).1,iM N q⟩) (λq=>⟨⟨[],rfl⟩,λp=>q (p i X)⟩);rw[aC0];rfl;have af:i=Y P:=by omega
 subst af;exact⟨_,rfl,rfl,N⟩
def Ij(X:lq P H):∃v,oh P H (Y P) v:=by
 suffices h:∀n≤Y P,∃v,oh P H n v from h _ (aIG _)
 intro n;induction n with
 |zero=>exact λ_=>⟨[],rfl,λi N=>by omega⟩
 |succ n W=>
  intro M;obtain⟨v,V⟩:=W (by omega);obtain⟨k,Q,e⟩:=mq.to (l:=P) (i:=n) (by omega);have:=(X.2 k Q).1;exact⟨_,V.add (k:=k) (by have:=X.1;omega) (by rw[this,e])⟩
def auI(l:am)(r:RV)(N:Sl r)(M:mq l):∃o,TB.Ev 155 [.r (bT l),.r r] o/\∃v b,o=.ret [.r (bT v),.b b]/\(b=J<->lq l r):=by
 by_cases Q:l=[];subst Q;refine⟨_,asK r N,_,_,rfl, ?_⟩;simp only[beq_iff_eq];exact⟨λh=>⟨h.symm,λk W=>absurd W (by simp)⟩,λh=>h.1.symm⟩;have Q:=aKl.2 Q;have d:=M.n;refine dm rfl rfl (.inl rfl) ?_;simp[Qz,N.len];refine az (λP=> ?_) (λP=> ?_)
 case refine_2=>
  first
   |exact λp=>P (by have:=p.1;omega)
   |exact⟨⟨_,rfl⟩,λp=>P (by have:=p.1;omega)⟩
 have P:Y l=Y r.rows:=by omega
 rw[HV];refine⟨.inl rfl,λ_=> ?_,λh=> ?_,λ_ h=> ?_⟩;simp;refine⟨by omega, ?_⟩
 first|rw[yV]|rw[yW]
 refine⟨_,Yw (by simp;omega) (by simpa using M.k), ?_⟩;simp;have B:(bE (aW.lex [0] E).lt l).length=Y l:=j9;refine cZ (Y l) (λi H=>∃v,H=[.r (bT v)]/\Y v<=i/\∀k<i,∃q<Y l,ba (ik l) q 0=ba l k 0/\sI (ba l k) r q) ⟨0,rfl,by omega,[],rfl,by simp,by omega⟩ ?_;rintro i _ X ⟨v,rfl,c,A⟩;simp;refine az (λX=> ?_) (λX=> ?_);refine⟨X, ?_⟩;refine cZ (Y l) (λj H=>H=[.r (bT v)]/\∀q<j,¬(ba (ik l) q 0=ba l i 0/\sI (ba l i) r q)) ⟨0,rfl,by omega,rfl,by omega⟩ ?_;rintro j _ V ⟨rfl,u⟩;have G:∀q<j,ba (ik l) q 0=ba l i 0->¬sI (ba l i) r q:=λq F a b=>u q F ⟨a,b⟩
 simp[N.len];refine az (λV=>⟨V,az (λg=>⟨by omega, ?_⟩) (λg=> ?_)⟩) (λV=> ?_);obtain⟨o,z,b,rfl,y⟩:=auD (ba l i) (ci r j 0) (ci r j 1) (ci r j 2) (cb r j 3);simp only[bv,ba,ci,cb,aIF,aIJ] at z;rw[aN z];simp[cQ V (show Y l<=140737488355328 by omega),cQ X (show Y l<=140737488355328 by omega)];refine az (λD=> ?_) (λD=> ?_);exact⟨by rw[N.len];omega,by omega,_,rfl,by simp;omega,iM A ⟨j,V,g,y.1 D⟩⟩;exact iM G λ_ q=>D (y.2 q)
 rw[cQ V (by omega)];exact⟨rfl,iM G λe=>absurd e g⟩;have x:¬lq l r:=λp=>by
  obtain⟨k,W,e⟩:=mq.to X;exact G k (by omega) (e 0) ((fU.congr e).1 (p.2 k W))
 first
  |exact x
  |exact⟨⟨_,rfl⟩,x⟩
 have s:i=Y l:=by omega
 subst s;have C:lq l r:=⟨P,λk W=>by
  obtain⟨i,X,w⟩:=mq.from W;obtain⟨q,F,m,f⟩:=A i X;have:q=k:=M.by.inj (by rw[B];exact F) (by rw[B];exact W) (by rw[m,w]);subst this;exact(fU.congr w).2 f⟩
 first
  |exact C
  |exact⟨⟨_,rfl⟩,C⟩
  |exact⟨_,rfl,C⟩
 simp at h;simp[h] at Q;simp at h;simp[h] at Q
end
section
variable{R:bD->Prop}{d:aP}{t:T}{O:aa}{L:dN}
variable[Inhabited dJ]
def MF(e:Int):aV:=[.i 0,.i 0,.i 0,.i 0,.i 0,.i 0,.i 0,.i 0,.i 0,.i 0,.i 0,.i 0,.i 0,.i e]
def MG(s:Nat->Int):aV:=[.i (s 0),.i (s 1),.i (s 2),.i (s 3),.i (s 4),.i (s 5),.i (s 6),.i (s 7),.i (s 8),.i (s 9),.i (s 10),.i (s 11),.i (s 12),.i 0]
structure Ik(ao ab:Int)(x:Nat->Int)(r:RV)(ys:aV):Prop where
 c:eE ao ab≠0->ys=MF (eE ao ab)
 p:eE ao ab=0->¬rS x->ys=MF 260
 m:eE ao ab=0->rS x->¬lq (bL ao ab) r->ys=MF 270
 w:eE ao ab=0->rS x->lq (bL ao ab) r->∀v,oh (bL ao ab) r (bL ao ab).length v->(¬oW x v (bL ao ab).length->ys=MF 2)/\(oW x v (bL ao ab).length->ys=MG (bK x v (bL ao ab).length))
def Ik.eq{D:aV}(h:Ik W V X H y)(M:Ik W V X H D):y=D:=by
 by_cases Q:eE W V=0;by_cases P:rS X;by_cases N:lq (bL W V) H;obtain⟨v,G⟩:=Ij N;by_cases F:oW X v (bL W V).length;rw[(h.w Q P N v G).2 F,(M.w Q P N v G).2 F];rw[(h.w Q P N v G).1 F,(M.w Q P N v G).1 F];rw[h.m Q P N,M.m Q P N];rw[h.p Q P,M.p Q P];rw[h.c Q,M.c Q]
def MH{W:am}(M:mq P)(X:lq P H)(h:oh P H (Y P) F)(V:oh P H (Y P) W):F=W:=by
 apply aI0;intro i;by_cases Q:i<Y P;obtain⟨k,A,G,D⟩:=h.2 i Q;obtain⟨N,z,C,B⟩:=V.2 i Q;have a:=X.2 k (by have:=X.1;omega);have b:=X.2 N (by have:=X.1;omega);have y:(ik P).length=Y P:=j9;have:k=N:=M.by.inj (by have:=X.1;omega) (by have:=X.1;omega) (by rw[<-a.1,<-b.1,D,B]);subst this;rw[G,C];rw[aIT (by rw[h.1];omega),aIT (by rw[V.1];omega)]
def Rh(x:Nat->Int)(h:¬rS x):sw (x 0) (x 1) (x 2) (x 3) (x 4) (x 5) (x 6) (x 7) (x 8) (x 9) (x 10) (x 11) (x 12)=260:=(auE _ _ _ _ _ _ _ _ _ _ _ _ _).2 λp=>h ((mN _ _ _ _ _ _ _ _ _ _ _ _ _).2 p)
def Zj(ao ab:Int)(h:gH):∀i<(bL ao ab).length,iZ (Y be.rows) eD (ba (bL ao ab) i):=λi W=>by
 obtain⟨k,Q,e,-,-,V⟩:=asG (C1 xl h).2 (aJl W);have:∀j<14,ba (bL ao ab) i j=ci bX k j:=λj X=>by rw[zh W,e,uc _ _ X]
 have c:=λj(X:j<14)=>this j X
 obtain⟨P,N,M,H,G,F,D,C,B,A,z⟩:=V;constructor<;>(simp only[c 1 (by omega),c 2 (by omega),c 3 (by omega),c 4 (by omega),c 5 (by omega),c 6 (by omega),c 7 (by omega),c 8 (by omega),c 9 (by omega),c 10 (by omega),c 11 (by omega),c 12 (by omega),c 13 (by omega)];assumption)
def aC1(h:gH)(ao ab:Int)(x:Nat->Int)(r:RV)(H:Sl r):∃o,TB.Ev 171 (wk++[.i ao,.i ab,.i (x 0),.i (x 1),.i (x 2),.i (x 3),.i (x 4),.i (x 5),.i (x 6),.i (x 7),.i (x 8),.i (x 9),.i (x 10),.i (x 11),.i (x 12),.r r]) o/\∃G,o=.ret G/\Ik ao ab x r G:=by
 refine dm rfl rfl (.inl rfl) ?_;have V:=ME ao ab h;have B:=Zj ao ab h;have F:=ah9 h ao ab;obtain⟨o,A,b,rfl,D⟩:=aia _ V r H;simp only[wk,aIF,aIJ] at F;simp[ag4,wk,aN F];refine az (λX=> ?_) (λX=>⟨λ_=>rfl,λq=>absurd q X,λq=>absurd q X,λq=>absurd q X⟩);refine az (λa2=> ?_) (λa2=> ?_)
 case refine_2=>
  have e:=Rh x a2;rw[e];exact⟨λq=>absurd X q,λ_ _=>rfl,λ_ q=>absurd q a2,λ_ q=>absurd q a2⟩
 simp[aN A];refine az (λQ=> ?_) (λQ=>⟨λq=>absurd X q,λ_ q=>absurd a2 q,λ_ _ _=>rfl,λ_ _ q=>absurd (D.2 q) Q⟩);have W:=D.1 Q;obtain⟨v,P⟩:=Ij W;obtain⟨o,C,z,w,rfl,y,u⟩:=auH V B H W P x a2;simp only[aIF,aIJ] at C;rw[aN C];simp;refine az (λN=> ?_) (λN=> ?_);obtain⟨rfl,s⟩:=y N;have p:=aid x v (bL ao ab).length;have g:=V.n;simp[p];rw[show au .sub I ((bL ao ab).length+1:Int) 1=((bL ao ab).length:Int) by simp only[au];rw[bJ (by omega) (by omega)];omega];have c:∀j<13,bB (cellAt (vH x v (bL ao ab).length) ((bL ao ab).length:Int) j).val=bK x v (bL ao ab).length j:=λj m=>aie x v (aIG _) j m
 rw[c 0 (by omega),c 1 (by omega),c 2 (by omega),c 3 (by omega),c 4 (by omega),c 5 (by omega),c 6 (by omega),c 7 (by omega),c 8 (by omega),c 9 (by omega),c 10 (by omega),c 11 (by omega),c 12 (by omega)];refine⟨by omega,λq=>absurd X q,λ_ q=>absurd a2 q,λ_ _ q=>absurd W q,λ_ _ _ l M=> ?_⟩;rw[MH V W M P];exact⟨λq=>absurd s q,λ_=>rfl⟩;have k:z=false:=by simpa using N
 refine⟨λq=>absurd X q,λ_ q=>absurd a2 q,λ_ _ q=>absurd W q,λ_ _ _ l M=> ?_⟩;rw[MH V W M P];exact⟨λ_=>rfl,λq=>absurd q (u k)⟩
set_option maxHeartbeats 4000000 in
def x89 (h:gH) (ao ab:Int) (x:Nat->Int) (r:RV) (D:Sl r):∃o,TB.Ev 89 (wk++[.i ao,.i ab,.i (x 0),.i (x 1),.i (x 2),.i (x 3),.i (x 4),.i (x 5),.i (x 6),.i (x 7),.i (x 8),.i (x 9),.i (x 10),.i (x 11),.i (x 12),.r r]) o/\∃C,o=.ret C/\Ik ao ab x r C:=by
 refine dm rfl rfl (.inl rfl) ?_;have V:=ME ao ab h;have p:=Zj ao ab h;have Q:=V.n;have B:=QJ xl h ao ab;obtain⟨o,A,v,b,rfl,h3,m⟩:=asL _ r D Q V.k;obtain⟨o',l,z,b',rfl,y⟩:=auI _ r D V;have X:=Cb A l;injection X with X;injection X with ag X;injection X with X _;injection X with X;subst X;simp only[wk,aIF,aIJ] at B;simp[T89,wk,aN B,aN A];refine az (λW=> ?_) (λW=>⟨λ_=>rfl,λq=>absurd q W,λq=>absurd q W,λq=>absurd q W⟩);refine az (λa2=> ?_) (λa2=> ?_)
 case refine_2=>
  have e:=Rh x a2;rw[e];exact⟨λq=>absurd W q,λ_ _=>rfl,λ_ q=>absurd q a2,λ_ q=>absurd q a2⟩
 refine az (λN=> ?_) (λN=>⟨λq=>absurd W q,λ_ q=>absurd a2 q,λ_ _ _=>rfl,λ_ _ q=>absurd (y.2 q) N⟩);have P:=y.1 N;have M:=m N;have j:=M.1;have g:Y v<=140737488355328:=by omega
 refine cZ (Y v) (λi f=>f=[.i (bK x v i 0),.i (bK x v i 1),.i (bK x v i 2),.i (bK x v i 3),.i (bK x v i 4),.i (bK x v i 5),.i (bK x v i 6),.i (bK x v i 7),.i (bK x v i 8),.i (bK x v i 9),.i (bK x v i 10),.i (bK x v i 11),.i (bK x v i 12),.i (bK x v i 0),.i (bK x v i 1),.i (bK x v i 2),.i (bK x v i 3),.i (bK x v i 4),.i (bK x v i 5),.i (bK x v i 6),.i (bK x v i 7),.i (bK x v i 8),.i (bK x v i 9),.i (bK x v i 10),.i (bK x v i 11),.i (bK x v i 12)]/\rS (bK x v i)/\oW x v i) ⟨0,rfl,aKG _,rfl,a2,λi h=>by omega⟩ ?_;rintro i _ H ⟨rfl,d,w⟩;have u:=ahg (bK x v i) v i;simp only[bv,ba,aIF,aIJ] at u;simp;refine az (λH=>⟨H, ?_⟩) (λc=> ?_);obtain⟨k,hk,e1,s,a,e4,e5,e6,e7,e8⟩:=Zh V P M (show i<(bL ao ab).length by omega);obtain⟨-,g2⟩:=aic (p i (by omega)) d a e4 e5 e6 e7 e8;rw[aN u];simp[cQ H g];refine az (λG=>az (λ_=>⟨⟨rfl,rfl,rfl,rfl,rfl,rfl,rfl,rfl,rfl,rfl,rfl,rfl,rfl,rfl,rfl,rfl,rfl,rfl,rfl,rfl,rfl,rfl,rfl,rfl,rfl,rfl⟩,(QL (bK x v i) v i G).1,iM w G⟩) (λQ=>absurd G Q)) (λQ=> ?_);have s:iD (bK x v i) v i 13=2:=g2.resolve_left Q;rw[s];refine⟨λq=>absurd W q,λ_ q=>absurd a2 q,λ_ _ q=>absurd P q,λ_ _ _ z F=> ?_⟩;rw[MH V P F M];exact⟨λ_=>rfl,λq=>absurd (q i (by omega)) Q⟩;have af:i=Y v:=aLJ H (aLF c);refine⟨λq=>absurd W q,λ_ q=>absurd a2 q,λ_ _ q=>absurd P q,λ_ _ _ z F=> ?_⟩;rw[MH V P F M,<-j,<-af];exact⟨λq=>absurd w q,λ_=>rfl⟩
def u89(h:gH)(ao ab:Int)(x:Nat->Int)(r:RV)(M:Sl r):∃o,TB.Ev 89 (wk++[.i ao,.i ab,.i (x 0),.i (x 1),.i (x 2),.i (x 3),.i (x 4),.i (x 5),.i (x 6),.i (x 7),.i (x 8),.i (x 9),.i (x 10),.i (x 11),.i (x 12),.r r]) o/\∃Q,o=.ret Q/\iP (kI 14) Q=true:=by
 obtain⟨o,X,Q,rfl,k⟩:=x89 h ao ab x r M;refine⟨_,X,_,rfl, ?_⟩;by_cases X:eE ao ab=0;by_cases W:rS x;by_cases V:lq (bL ao ab) r;obtain⟨v,P⟩:=Ij V;by_cases N:oW x v (bL ao ab).length;rw[(k.w X W V v P).2 N];rfl;rw[(k.w X W V v P).1 N];rfl;rw[k.m X W V];rfl;rw[k.p X W];rfl;rw[k.c X];rfl
def aC2(h:gH)(ao ab:Int)(x:Nat->Int)(r:RV)(W:Sl r):∃X,TB.Ev 89 (wk++[.i ao,.i ab,.i (x 0),.i (x 1),.i (x 2),.i (x 3),.i (x 4),.i (x 5),.i (x 6),.i (x 7),.i (x 8),.i (x 9),.i (x 10),.i (x 11),.i (x 12),.r r]) (.ret X)/\TB.Ev 171 (wk++[.i ao,.i ab,.i (x 0),.i (x 1),.i (x 2),.i (x 3),.i (x 4),.i (x 5),.i (x 6),.i (x 7),.i (x 8),.i (x 9),.i (x 10),.i (x 11),.i (x 12),.r r]) (.ret X)/\Ik ao ab x r X:=by
 obtain⟨o,P,X,rfl,V⟩:=x89 h ao ab x r W;obtain⟨M,Q,H,rfl,N⟩:=aC1 h ao ab x r W;rw[<-V.eq N] at Q;exact⟨_,P,Q,V⟩
end
section
variable{R:bD->Prop}{a:aP}{t:T}{O:aa}{L:dN}
def Fu(n:Int):Prop:=(97<=n/\n<=122)\/(65<=n/\n<=90)
def aC3(n:Int):∃o,TB.Ev 207 [.i n] o/\∃e,o=.ret [.i e]/\(e=2<->Fu n)/\(e=3<->48<=n/\n<=57)/\(e=5<->n=95):=by
 refine dm rfl rfl (.inl rfl) ?_;simp[Ye,Fu]
 repeat'(refine az (λ_=> ?_) (λ_=> ?_))
 all_goals first|omega|(simp;omega)
def Il(n:Int):Prop:=Fu n\/(48<=n/\n<=57)\/n=95
structure MI(s:RV):Prop where
 l:1<=lenOf s.val/\lenOf s.val<=32
 f:Fu (jz s.val 0)
 c:∀i:Nat,(i:Int)<lenOf s.val->Il (jz s.val i)
def aC4(n:Int):(oi 207 [.i n] 0=2<->Fu n)/\(oi 207 [.i n] 0=3<->48<=n/\n<=57)/\(oi 207 [.i n] 0=5<->n=95):=(su (aC3 n)).2
def auL(V:lQ H):∃n:Nat,lenOf H.val=n/\(rj H.val (.string {data:= #[]})=J<->n=0):=by
 obtain⟨u,X⟩:=V;refine⟨u.size,by rw[X];rfl, ?_⟩;rw[X];simp only[rj];constructor;intro h;have W:u.toList=(ByteArray.mk #[]).toList:=by simpa using h
 rw[ByteArray.toList_eq,ByteArray.toList_eq] at W;have:Y u.data.toList=0:=by rw[W];rfl
 simpa using this;intro h;have Q:u=ByteArray.empty:=by simpa using h
 rw[Q];simp only[beq_iff_eq];rfl
def aC5(s:RV)(M:lQ s):∃o,TB.Ev 135 [.r s] o/\∃b,o=.ret [.b b]/\(b=J<->MI s):=by
 obtain⟨n,V,Q⟩:=auL M;have X:=λi=>aC4 (jz s.val i)
 refine dm rfl rfl (.inl rfl) ?_;simp[Yc,V];refine az (λe p=>by have:=p.l;have:=Q.1 e;omega) (λe=>az (λH p=>by have:=p.l;omega) (λH=> ?_));have C:n≠0:=λq=>e (Q.2 q)
 refine⟨by omega,az (λf=> ?_) (λf p=>f ((X 0).1.2 p.f))⟩;have f:=(X 0).1.1 f;refine cZ n (λi G=>G=[]/\∀k<i,Il (jz s.val k)) ⟨0,rfl,by omega,rfl,by omega⟩ ?_;rintro i _ W ⟨rfl,P⟩;simp[V];refine az (λW=> ?_) (λW=> ?_)
 ·have N:Il (jz s.val i)<->oi 207 [.i (jz s.val i)] 0=2\/oi 207 [.i (jz s.val i)] 0=3\/oi 207 [.i (jz s.val i)] 0=5:=by
   rw[(X i).1,(X i).2.1,(X i).2.2];rfl
  have F:¬Il (jz s.val i)->¬MI s:=λq p=>q (p.c i (by omega))
  simp[cQ W (show n<=140737488355328 by omega),W]
  repeat'(refine az (λ_=> ?_) (λ_=> ?_))
  all_goals first|(exact iM P (N.2 (by grind)))|(apply F;rw[N];grind)
 have D:i=n:=by omega
 subst D;exact⟨by omega,f,λk B=>P k (by omega)⟩
def aC6(s:RV)(P:lQ s):∃o,TB.Ev 233 [.r s] o/\∃b,o=.ret [.b b]/\(b=J<->MI s):=by
 obtain⟨n,W,F⟩:=auL P;refine dm rfl rfl (.inl rfl) ?_;simp[agP,W];refine az (λe p=>by have:=p.l;omega) (λe=>az (λN p=>by have:=p.l;omega) (λN=>⟨by omega, ?_⟩));have D:∀t:T,True:=λ_=>trivial
 repeat'(refine az (λ_=> ?_) (λ_=> ?_))
 any_goals(intro p;have:=p.f;simp only[Fu] at this;omega)
 all_goals
  have f:Fu (jz s.val 0):=by simp only[Fu];omega
  refine cZ n (λi M=>M=[]/\∀k<i,Il (jz s.val k)) ⟨0,rfl,by omega,rfl,by omega⟩ ?_;rintro i _ X ⟨rfl,V⟩;simp[W];refine az (λX=> ?_) (λX=> ?_)
  ·have Q:Il (jz s.val i)<->((97<=jz s.val i/\jz s.val i<=122)\/(65<=jz s.val i/\jz s.val i<=90))\/(48<=jz s.val i/\jz s.val i<=57)\/jz s.val i=95:=Iff.rfl;have H:¬Il (jz s.val i)->¬MI s:=λq p=>q (p.c i (by omega))
   simp[cQ X (show n<=140737488355328 by omega),X]
   repeat'(refine az (λ_=> ?_) (λ_=> ?_))
   all_goals first|(exact iM V (Q.2 (by omega)))|(apply H;rw[Q];omega)
  have G:i=n:=by omega
  subst G;exact⟨by omega,f,λk C=>V k (by omega)⟩
def aif(s:RV)(X:lQ s):TB.Ev 135 [.r s] (.ret [.b (ob 135 [.r s] 0)])/\(ob 135 [.r s] 0=J<->MI s):=Yv (aC5 s X)
def aC7(s:RV)(X:lQ s):TB.Ev 233 [.r s] (.ret [.b (ob 135 [.r s] 0)]):=by
 obtain⟨o,h,b,rfl,W⟩:=aC6 s X;have:b=ob 135 [.r s] 0:=aJv.2 (W.trans (aif s X).2.symm);rw[<-this];exact h
structure Im(s:RV)(a0 a1 a2 a3 a4 a5 a6 a7 a8 a9 a10 dp dq a13 a14 a15:Int):Prop where
 n:MI s
 w:1<=a0/\a0<=500
 l:0<=a1/\a1<=500
 g:1<=a2/\a2<=4
 s:1<=a3/\a3<=16
 j:0<=a4/\a4<=16
 r:(1<=a5/\a5<=8)/\(1<=a6/\a6<=8)/\1<=a7/\a7<=8
 p:(1<=a8/\a8<=1048576)/\(1<=a9/\a9<=1048576)/\1<=a10/\a10<=1048576
 t:(1<=dp/\dp<=3)/\(1<=dq/\dq<=3)/\1<=a13/\a13<=3
 e:0<=a14/\a14<=1048576
 v:0<=a15/\a15<=1048576
set_option maxHeartbeats 2000000 in
def aC8 (s:RV) (F:lQ s) (X W a2 V Q a5 a6 a7 a8 P N dp dq M H G:Int):∃o,TB.Ev 167 [.r s,.i X,.i W,.i a2,.i V,.i Q,.i a5,.i a6,.i a7,.i a8,.i P,.i N,.i dp,.i dq,.i M,.i H,.i G] o/\∃e,o=.ret [.i e]/\Er (Im s X W a2 V Q a5 a6 a7 a8 P N dp dq M H G) 250 e:=by
 refine dm rfl rfl (.inl rfl) ?_;have B:=aC7 s F;have D:=(aif s F).2;simp[agQ,aN B];have C:¬Im s X W a2 V Q a5 a6 a7 a8 P N dp dq M H G->Er (Im s X W a2 V Q a5 a6 a7 a8 P N dp dq M H G) 250 250:=Er.no
 repeat'(refine az (λ_=> ?_) (λ_=> ?_))
 all_goals first
  |exact C λp=>absurd (D.2 p.n) (by assumption)
  |(refine C λp=> ?_;obtain⟨A,z,y,q3,x,w,v,u,q,m,l⟩:=p;omega)
  |(refine Er.ok ⟨D.1 (by assumption), ?_, ?_, ?_, ?_, ?_, ?_, ?_, ?_, ?_, ?_⟩<;>omega)
set_option maxHeartbeats 2000000 in
def x75 (s:RV) (F:lQ s) (X W a2 V Q a5 a6 a7 a8 P N dp dq M H G:Int):∃o,TB.Ev 75 [.r s,.i X,.i W,.i a2,.i V,.i Q,.i a5,.i a6,.i a7,.i a8,.i P,.i N,.i dp,.i dq,.i M,.i H,.i G] o/\∃e,o=.ret [.i e]/\Er (Im s X W a2 V Q a5 a6 a7 a8 P N dp dq M H G) 250 e:=by
 refine dm rfl rfl (.inl rfl) ?_;have D:=(aif s F).2;simp[QB,ahf s F];have C:¬Im s X W a2 V Q a5 a6 a7 a8 P N dp dq M H G->Er (Im s X W a2 V Q a5 a6 a7 a8 P N dp dq M H G) 250 250:=Er.no
 repeat'(refine az (λ_=> ?_) (λ_=> ?_))
 all_goals first
  |exact C λp=>absurd (D.2 p.n) (by assumption)
  |(refine C λp=> ?_;obtain⟨B,A,z,q3,y,x,w,v,u,q,m⟩:=p;omega)
  |(refine Er.ok ⟨D.1 (by assumption), ?_, ?_, ?_, ?_, ?_, ?_, ?_, ?_, ?_, ?_⟩<;>omega)
def aDa(s:RV)(F:lQ s)(X W a2 V Q a5 a6 a7 a8 P N dp dq M H G:Int):Er (Im s X W a2 V Q a5 a6 a7 a8 P N dp dq M H G) 250 (ud s X W a2 V Q a5 a6 a7 a8 P N dp dq M H G):=(su (x75 s F X W a2 V Q a5 a6 a7 a8 P N dp dq M H G)).2
def aig(s:RV)(F:lQ s)(X W a2 V Q a5 a6 a7 a8 P N dp dq M H G:Int):TB.Ev 167 [.r s,.i X,.i W,.i a2,.i V,.i Q,.i a5,.i a6,.i a7,.i a8,.i P,.i N,.i dp,.i dq,.i M,.i H,.i G] (.ret [.i (ud s X W a2 V Q a5 a6 a7 a8 P N dp dq M H G)]):=by
 obtain⟨o,h,e,rfl,D⟩:=aC8 s F X W a2 V Q a5 a6 a7 a8 P N dp dq M H G;rw[(aDa s F X W a2 V Q a5 a6 a7 a8 P N dp dq M H G).eq D];exact h
end
section
variable{R:bD->Prop}{f:aP}{t:T}{O:aa}{L:dN}
def aDb(a b c d X W V Q:Int):TB.Ev 195 [.i a,.i b,.i c,.i d,.i X,.i W,.i V,.i Q] (.ret [.i (jn (aM a b c d&&aM X W V Q) (min a X)),.i (jn (aM a b c d&&aM X W V Q) (max b W)),.i (jn (aM a b c d&&aM X W V Q) (min c V)),.i (jn (aM a b c d&&aM X W V Q) (max d Q)),.i (if aM a b c d&&aM X W V Q then 0 else 150)]):=by
 refine bW rfl rfl (.inl rfl) ?_;simp[agZ,aM,jn]
 repeat'(refine az (λ_=> ?_) (λ_=> ?_))
 all_goals grind
def aDc(a b c d x y:Int):TB.Ev 239 [.i a,.i b,.i c,.i d,.i x,.i y] (.ret [.i (jn (f8 a b c d x y==0) (IntKind.i64.wrap (a+x))),.i (jn (f8 a b c d x y==0) (IntKind.i64.wrap (b+x))),.i (jn (f8 a b c d x y==0) (IntKind.i64.wrap (c+y))),.i (jn (f8 a b c d x y==0) (IntKind.i64.wrap (d+y))),.i (f8 a b c d x y)]):=by
 have V:∀p q r s:Int,(aM p q r s=J)=((-1099511627776<=p/\p<=q/\q<=1099511627776)∧-1099511627776<=r/\r<=s/\s<=1099511627776):=λp q r s=>by
  simp only[aM,aIy,decide_eq_true_eq,eq_iff_iff];omega
 refine bW rfl rfl (.inl rfl) ?_;by_cases X:aM a b c d=J;by_cases Q:(-2199023255552<=x/\x<=2199023255552)∧-2199023255552<=y/\y<=2199023255552;by_cases W:aM (IntKind.i64.wrap (a+x)) (IntKind.i64.wrap (b+x)) (IntKind.i64.wrap (c+y)) (IntKind.i64.wrap (d+y))=J
 ·have e:f8 a b c d x y=0:=by simp[f8,X,Q,W]
  rw[V] at X W;rw[e];simp[Mi,jn,au,X,Q,W]
  repeat'(refine az (λ_=> ?_) (λ_=> ?_))
  all_goals first|omega|rfl|(exfalso;omega)
 ·have e:f8 a b c d x y=2:=by simp[f8,X,Q,W]
  rw[V] at X W;rw[e];simp[Mi,jn,au,X,Q]
  repeat'(refine az (λ_=> ?_) (λ_=> ?_))
  all_goals first|omega|rfl|(exfalso;omega)
 ·have e:f8 a b c d x y=2:=by
   have:¬((((-2199023255552<=x/\x<=2199023255552)∧-2199023255552<=y)/\y<=2199023255552)):=by omega
   simp only[f8,X,aKx,aIU,if_false];rw[if_pos];simp only[aIR,<-aK9,aIy,decide_eq_true_eq];omega
  rw[V] at X;rw[e];simp[Mi,jn,au,X]
  repeat'(refine az (λ_=> ?_) (λ_=> ?_))
  all_goals first|omega|rfl|(exfalso;omega)
 ·have e:f8 a b c d x y=150:=by simp[f8,X]
  rw[V] at X;rw[e];simp[Mi,jn,au]
  repeat'(refine az (λ_=> ?_) (λ_=> ?_))
  all_goals first|omega|rfl|(exfalso;omega)
@[simp] def auM (a b c d X W V Q:Int):eK TB.Ev R 195 [.i a,.i b,.i c,.i d,.i X,.i W,.i V,.i Q] f t O L=eL TB.Ev R (.ret [.i (jn (aM a b c d&&aM X W V Q) (min a X)),.i (jn (aM a b c d&&aM X W V Q) (max b W)),.i (jn (aM a b c d&&aM X W V Q) (min c V)),.i (jn (aM a b c d&&aM X W V Q) (max d Q)),.i (if aM a b c d&&aM X W V Q then 0 else 150)]) f t O L:=aN (aDb a b c d X W V Q)
@[simp] def aIt (a b c d x y:Int):eK TB.Ev R 239 [.i a,.i b,.i c,.i d,.i x,.i y] f t O L=eL TB.Ev R (.ret [.i (jn (f8 a b c d x y==0) (IntKind.i64.wrap (a+x))),.i (jn (f8 a b c d x y==0) (IntKind.i64.wrap (b+x))),.i (jn (f8 a b c d x y==0) (IntKind.i64.wrap (c+y))),.i (jn (f8 a b c d x y==0) (IntKind.i64.wrap (d+y))),.i (f8 a b c d x y)]) f t O L:=aN (aDc a b c d x y)
end
section
variable{R:bD->Prop}{c:aP}{t:T}{O:aa}{L:dN}
def In(a b:Int):Int:=if 1<=a/\a<=8/\0<=b/\b<=7 then(a-1+b)%8+1 else 0
def Io(a b:Int):Int:=if 0<=a/\a<=8/\0<=b/\b<=7 then 0 else 150
def aDd(a b:Int):TB.Ev 138 [.i a,.i b] (.ret [.i (In a b),.i (Io a b)]):=by
 refine bW rfl rfl (.inl rfl) ?_;by_cases h:0<=a/\a<=8/\0<=b/\b<=7;have X:au .add I a b=a+b:=by simp only[au];rw[bJ (by omega) (by omega)]
 have W:au .sub I (a+b) 8=a+b-8:=by simp only[au];rw[bJ (by omega) (by omega)]
 simp[Mg,X,W,In,Io]
 grind
 simp[Mg,In,Io]
 grind
def aDe(a b:Int):TB.Ev 269 [.i a,.i b] (.ret [.i (In a b),.i (Io a b)]):=by
 refine bW rfl rfl (.inl rfl) ?_;by_cases h:0<=a/\a<=8/\0<=b/\b<=7;have X:au .add I (au .rem I (au .add I (au .sub I a 1) b) 8) 1=(a-1+b).tmod 8+1:=by
  simp only[au];rw[bJ (n:=a-1) (by omega) (by omega),bJ (n:=a-1+b) (by omega) (by omega)];have:=Int.tmod_lt_of_pos (a-1+b) (show(0:Int)<8 by omega);have W:=Int.lt_tmod_of_pos (a-1+b) (show(0:Int)<8 by omega);rw[bJ (by omega) (by omega)]
 have V:1<=a->(a-1+b).tmod 8=(a-1+b)%8:=λq=>aJK (by omega)
 simp[Yo,X,In,Io]
 grind
 simp[Yo,In,Io]
 grind
def vI(n b:Int):Int:=if b=2 then 29*n else 20*n
def Ip(a b:Int):Int:=if 1<=a/\a<=8/\1<=b/\b<=3 then vI (HW a) b else 0
def Iq(a b:Int):Int:=if 1<=a/\a<=8/\1<=b/\b<=3 then vI (HX a) b else 0
def Ir(a b:Int):Int:=if 0<=a/\a<=8/\1<=b/\b<=3 then(if a=0 then 841*(b-2) else 609*(b-2)) else 0
def Is(a b:Int):Int:=if 0<=a/\a<=8/\1<=b/\b<=3 then 0 else 150
set_option maxHeartbeats 4000000 in
def aDf (a b:Int):TB.Ev 139 [.i a,.i b] (.ret [.i (Ip a b),.i (Iq a b),.i (Ir a b),.i (Is a b)]):=by
 refine bW rfl rfl (.inl rfl) ?_;by_cases h:0<=a/\a<=8/\1<=b/\b<=3
 ·have X:a=0\/a=1\/a=2\/a=3\/a=4\/a=5\/a=6\/a=7\/a=8:=by omega
  have W:b=1\/b=2\/b=3:=by omega
  clear h;rcases X with rfl|rfl|rfl|rfl|rfl|rfl|rfl|rfl|rfl<;>rcases W with rfl|rfl|rfl
  all_goals
   simp[Mh,au,Ip,Iq,Ir,Is,vI,HW,HX,iG,jJ,iV,cellAt,bB]
   try decide
 simp[Mh,Ip,Iq,Ir,Is]
 grind
set_option maxHeartbeats 4000000 in
def aDg (a b:Int):TB.Ev 261 [.i a,.i b] (.ret [.i (Ip a b),.i (Iq a b),.i (Ir a b),.i (Is a b)]):=by
 refine bW rfl rfl (.inl rfl) ?_;by_cases h:0<=a/\a<=8/\1<=b/\b<=3
 ·have X:a=0\/a=1\/a=2\/a=3\/a=4\/a=5\/a=6\/a=7\/a=8:=by omega
  have W:b=1\/b=2\/b=3:=by omega
  clear h;rcases X with rfl|rfl|rfl|rfl|rfl|rfl|rfl|rfl|rfl<;>rcases W with rfl|rfl|rfl
  all_goals
   simp[Yq,au,Ip,Iq,Ir,Is,vI,HW,HX]
   try decide
 simp[Yq,Ip,Iq,Ir,Is]
 grind
end
section
variable{R:bD->Prop}{e:aP}{t:T}{O:aa}{L:dN}
def auN(a b:Int):oi 138 [.i a,.i b] 0=In a b/\oi 138 [.i a,.i b] 1=Io a b:=by
 simp only[oi,A6 (aDd a b)];exact⟨rfl,rfl⟩
def aDh(a b:Int):oi 139 [.i a,.i b] 0=Ip a b/\oi 139 [.i a,.i b] 1=Iq a b/\oi 139 [.i a,.i b] 2=Ir a b/\oi 139 [.i a,.i b] 3=Is a b:=by
 simp only[oi,A6 (aDf a b)];exact⟨rfl,rfl,rfl,rfl⟩
@[simp] def aIu (a b:Int):eK TB.Ev R 269 [.i a,.i b] e t O L=eL TB.Ev R (.ret [.i (oi 138 [.i a,.i b] 0),.i (oi 138 [.i a,.i b] 1)]) e t O L:=by
 rw[(auN a b).1,(auN a b).2];exact aN (aDe a b)
@[simp] def aIv (a b:Int):eK TB.Ev R 261 [.i a,.i b] e t O L=eL TB.Ev R (.ret [.i (oi 139 [.i a,.i b] 0),.i (oi 139 [.i a,.i b] 1),.i (oi 139 [.i a,.i b] 2),.i (oi 139 [.i a,.i b] 3)]) e t O L:=by
 obtain⟨X,W,V,Q⟩:=aDh a b;rw[X,W,V,Q];exact aN (aDg a b)
def auO(n:Int):IntKind.i64.wrap (IntKind.i64.wrap n)=IntKind.i64.wrap n:=by
 have:IntKind.i64.wrap n=(n+9223372036854775808)%18446744073709551616-9223372036854775808:=IntKind.wrap_i64 n;exact bJ (by omega) (by omega)
def aDi(u v:Int):au .sub I (au .add I u v) 0=au .add I u v:=by simp only[au,Int.sub_zero,auO]
def aDj(u v:Int):au .add I (au .add I u v) 0=au .add I u v:=by simp only[au,Int.add_zero,auO]
def aih:aM W V B z=J<->(-1099511627776<=W/\W<=V/\V<=1099511627776)∧-1099511627776<=B/\B<=z/\z<=1099511627776:=by
 simp only[aM,aIy,decide_eq_true_eq];omega
def aii{X Q P N:Int}(M:aM W V B z=J)(H:aM X Q P N=J):aM (min W X) (max V Q) (min B P) (max z N)=true:=by
 rw[aih] at*;omega
def aDk{p q:Int}(X:aM W V B z=J)(Q:aM p p q q=J):eK TB.Ev R 195 [.i W,.i V,.i B,.i z,.i p,.i p,.i q,.i q] e t O L=eL TB.Ev R (.ret [.i (min W p),.i (max V p),.i (min B q),.i (max z q),.i 0]) e t O L:=by
 rw[auM,X,Q];rfl
end
section
variable[Inhabited dJ]
set_option maxHeartbeats 16000000 in
def aDl (x:Nat->Int) (s:RV) (X:lQ s) (a:Nat->Int):∃o,TB.Ev 27 [.i (x 0),.i (x 1),.i (x 2),.i (x 3),.i (x 4),.i (x 5),.i (x 6),.i (x 7),.i (x 8),.i (x 9),.i (x 10),.i (x 11),.i (x 12),.r s,.i (a 1),.i (a 2),.i (a 3),.i (a 4),.i (a 5),.i (a 6),.i (a 7),.i (a 8),.i (a 9),.i (a 10),.i (a 11),.i (a 12),.i (a 13),.i (a 14),.i (a 15),.i (a 16)] o/\∃P,o=.ret P/\TB.Ev 122 [.i (x 0),.i (x 1),.i (x 2),.i (x 3),.i (x 4),.i (x 5),.i (x 6),.i (x 7),.i (x 8),.i (x 9),.i (x 10),.i (x 11),.i (x 12),.r s,.i (a 1),.i (a 2),.i (a 3),.i (a 4),.i (a 5),.i (a 6),.i (a 7),.i (a 8),.i (a 9),.i (a 10),.i (a 11),.i (a 12),.i (a 13),.i (a 14),.i (a 15),.i (a 16)] (.ret P):=by
 have V:=aig s X (a 1) (a 2) (a 3) (a 4) (a 5) (a 6) (a 7) (a 8) (a 9) (a 10) (a 11) (a 12) (a 13) (a 14) (a 15) (a 16);by_cases k:sw (x 0) (x 1) (x 2) (x 3) (x 4) (x 5) (x 6) (x 7) (x 8) (x 9) (x 10) (x 11) (x 12)=0
 case neg=>
  have e:=Rh x k;refine⟨.ret [.i 0,.i 0,.i 0,.i 0,.i 260],bW rfl rfl (.inl rfl) ?_,_,rfl,bW rfl rfl (.inl rfl) ?_⟩;simp[CY,e];simp[QE,e]
 by_cases m:ud s (a 1) (a 2) (a 3) (a 4) (a 5) (a 6) (a 7) (a 8) (a 9) (a 10) (a 11) (a 12) (a 13) (a 14) (a 15) (a 16)=0
 case neg=>
  refine⟨.ret [.i 0,.i 0,.i 0,.i 0,.i (ud s (a 1) (a 2) (a 3) (a 4) (a 5) (a 6) (a 7) (a 8) (a 9) (a 10) (a 11) (a 12) (a 13) (a 14) (a 15) (a 16))],bW rfl rfl (.inl rfl) ?_,_,rfl,bW rfl rfl (.inl rfl) ?_⟩;simp[CY,k,Fj s X,m];simp[QE,k,aN V,m]
 rw[m] at V;have p:=(mN _ _ _ _ _ _ _ _ _ _ _ _ _).1 k;obtain⟨z,O,N,M⟩:=Yy s X _ _ _ _ _ _ _ _ _ _ _ _ _ _ _ _ m;have L:=p.x;have H:=p.y;have v:aM (au .sub I (au .mul I 29 (x 0)) (au .mul I 841 (a 3))) (au .add I (au .mul I 29 (x 0)) (au .mul I 841 (a 3))) (au .sub I (au .mul I 29 (x 1)) (au .mul I 841 (a 3))) (au .add I (au .mul I 29 (x 1)) (au .mul I 841 (a 3)))=true:=by
  rw[aih];simp only[au];rw[bJ (n:=29*x 0) (by omega) (by omega),bJ (n:=29*x 1) (by omega) (by omega),bJ (n:=841*a 3) (by omega) (by omega),bJ (n:=29*x 0-841*a 3) (by omega) (by omega),bJ (n:=29*x 0+841*a 3) (by omega) (by omega),bJ (n:=29*x 1-841*a 3) (by omega) (by omega),bJ (n:=29*x 1+841*a 3) (by omega) (by omega)];omega
 have W:∀r u w,1<=r/\r<=8->aM (au .add I (au .mul I 29 (x 0)) (au .mul I r (oi 139 [.i u,.i w] 0))) (au .add I (au .mul I 29 (x 0)) (au .mul I r (oi 139 [.i u,.i w] 0))) (au .add I (au .mul I 29 (x 1)) (au .mul I r (oi 139 [.i u,.i w] 1))) (au .add I (au .mul I 29 (x 1)) (au .mul I r (oi 139 [.i u,.i w] 1)))=true:=λr u w G=>by
  have R:=YG L G (Mp u w).1;have Q:=YG H G (Mp u w).2;simp only[Bd] at R Q;rw[aih];exact⟨⟨R.1,Int.le_refl _,R.2⟩,Q.1,Int.le_refl _,Q.2⟩
 have t:=λu w=>W (a 6) u w O
 have q:=λu w=>W (a 7) u w N
 have t3:=λu w=>W (a 8) u w M
 have l:¬x 4=0->0<x 4:=λe=>by have:=p.m0;simp only[Lm] at this;omega
 have j:¬x 6=0->0<x 6:=λe=>by have:=p.m1;simp only[Lm] at this;omega
 have h:¬x 8=0->0<x 8:=λe=>by have:=p.m2;simp only[Lm] at this;omega
 have q3:¬x 10=0->0<x 10:=λe=>by have:=p.m3;simp only[Lm] at this;omega
 have g:¬x 12=0->0<x 12:=λe=>by have:=p.m4;simp only[Lm] at this;omega
 clear W L H z O N M p;refine dm rfl rfl (.inl rfl) ?_;simp(config:={maxSteps:=10000000}) [CY,Fj s X,k,m]
 repeat'(refine az (λ_=> ?_) (λ_=> ?_))
 all_goals
  rename_i F D C B A
  try simp only[F,D,C,B,A] at k
  refine bW rfl rfl (.inl rfl) ?_;simp(config:={maxSteps:=10000000,maxDischargeDepth:=12}) [-auM,QE,k,aN V,aDk,aii,v,t,q,t3,aDi,aDj,l,j,h,q3,g,F,D,C,B,A]
  try omega
end
section
variable{R:bD->Prop}{a:aP}{t:T}{O:aa}{L:dN}
variable[Inhabited dJ]
def aS(X:RV)(k:Nat):Int:=ud (cz .str (cellAt X.rows (k:Int) 0)) (ci X k 1) (ci X k 2) (ci X k 3) (ci X k 4) (ci X k 5) (ci X k 6) (ci X k 7) (ci X k 8) (ci X k 9) (ci X k 10) (ci X k 11) (ci X k 12) (ci X k 13) (ci X k 14) (ci X k 15) (ci X k 16)
def r93(h:gH)(X:RV)(Q:Sl X):∃o,TB.Ev 93 (wk++[.r X]) o/\∃b,o=.ret [.b b]/\(b=J<->Y X.rows=Y be.rows/\∀k<Y X.rows,aS X k=0):=by
 refine dm rfl rfl (.inl rfl) ?_;simp[T93,wk,h.rl.len,Q.len];refine az (λW=> ?_) (λW=> ?_)
 case refine_2=>first|exact λq=>absurd (by omega) W|exact λq _=>absurd (by omega) W
 have W:Y X.rows=Y be.rows:=by omega
 refine cZ (Y X.rows) (λi M=>M=[]/\∀k<i,aS X k=0) ⟨0,rfl,by omega,rfl,by omega⟩ ?_;rintro i _ V ⟨rfl,P⟩;simp[Q.len];refine az (λV=>⟨V, ?_⟩) (λV=> ?_);have N:=aig (cz .str (cellAt X.rows (i:Int) 0)) (yX _) (ci X i 1) (ci X i 2) (ci X i 3) (ci X i 4) (ci X i 5) (ci X i 6) (ci X i 7) (ci X i 8) (ci X i 9) (ci X i 10) (ci X i 11) (ci X i 12) (ci X i 13) (ci X i 14) (ci X i 15) (ci X i 16);simp only[ci] at N;rw[aN N];simp[cQ V Q.sm];exact az (λe=>iM P e) (λe _=>⟨i,V,e⟩);have H:i=Y X.rows:=by omega
 subst H
 first|exact⟨W,P⟩
structure zi(ab:Int)(bd mv bf re:RV):Prop where
 b:Y bd.rows=Y be.rows/\∀k<Y bd.rows,aS bd k=0
 m:Y mv.rows=Y be.rows
 f:Y bf.rows=Y be.rows
 r:Y re.rows=Y be.rows
 k:∀k<Y be.rows,rS (ci bf k)/\(cb mv k 0=E->(cr 96 re k).rows.length=0)/\(cb mv k 0=J->Ft k ab (cr 96 re k)=0)
def r41(h:gH)(ab:Int)(N W P X:RV)(n:Sl N)(C:Sl W)(B:Sl P)(A:Sl X)(l:∀i<Y X.rows,Sl (cr 96 X i)):∃o,TB.Ev 41 (wk++[.r N,.i ab,.r W,.r P,.r X]) o/\∃b,o=.ret [.b b]/\(b=J<->zi ab N W P X):=by
 refine dm rfl rfl (.inl rfl) ?_;obtain⟨o,z,b,rfl,y⟩:=r93 h N n;simp only[wk,aIF,aIJ] at z;simp[T41,wk,h.rl.len,C.len,B.len,A.len,aN z];refine az (λG=> ?_) (λG p=>G (y.2 p.b));refine az (λa2=> ?_) (λa2 p=>a2 (by have:=p.m;omega));refine az (λx=> ?_) (λx p=>x (by have:=p.f;omega));refine az (λw=> ?_) (λw p=>w (by have:=p.r;omega));refine cZ (Y be.rows) (λi j=>j=[]/\∀k<i,rS (ci P k)/\(cb W k 0=E->(cr 96 X k).rows.length=0)/\(cb W k 0=J->Ft k ab (cr 96 X k)=0)) ⟨0,rfl,by omega,rfl,by omega⟩ ?_;rintro i _ Q ⟨rfl,M⟩;simp[h.rl.len,C.len,B.len,A.len];refine az (λQ=> ?_) (λQ=> ?_);have v:=l i (by omega);have F:=f95 h i ab (cr 96 X i) v;have u:=v.len;simp only[wk,aIF,aIJ] at F;simp only[cr] at F u;have s:∀k<i,rS (ci P k)/\(cb W k 0=E->(cr 96 X k).rows=[])/\(cb W k 0=J->Ft k ab (cr 96 X k)=0):=λk D=>⟨(M k D).1,λq=>aJe.1 ((M k D).2.1 q),(M k D).2.2⟩
 simp[aN F,u,cQ Q h.rl.sm];refine⟨by omega,az (λH=>⟨by omega, ?_⟩) (λH p=>H (p.k i Q).1)⟩;by_cases V:fG (cellAt W.rows (i:Int) 0).val=J;rw[if_pos V];refine⟨by omega, ?_⟩;rw[if_pos V];refine⟨by omega,az (λe=>iM s ⟨H,λq=>absurd V (by simp only[cb] at q;simp[q]),λ_=>e⟩) (λe p=>e ((p.k i Q).2.2 V))⟩;rw[if_neg V];refine⟨by omega,az (λe p=> ?_) (λe=>⟨by omega, ?_⟩)⟩;have:=(p.k i Q).2.1 (by simpa[cb] using V);simp only[cr] at this;omega;rw[if_neg V];exact iM s ⟨H,λ_=>aJe.1 (by simp only[cr];omega),λq=>absurd q V⟩;have g:i=Y be.rows:=by omega
 subst g;exact⟨y.1 G,by omega,by omega,by omega,M⟩
end
section
variable[Inhabited dJ]
def mR(c:Nat->Int)(j:Int):Bool:=decide ((c 4=1/\j=c 5-1)\/(c 4=2/\(j=0\/j=1))\/(c 4=3/\j=c 5-1)\/(c 4=4/\j=c 5+1)\/(c 4=5/\j=4)\/(c 4=7/\(j=2\/j=3))\/(c 4=8/\(j=0\/j=1))\/(c 4=9/\j=c 5+1))
def aDo(c:Nat->Int)(j:Int):mR c j=J<->Tc (c 4) (c 5) j:=by simp only[mR,decide_eq_true_eq,Tc]
def aDp(c:Nat->Int)(X:iZ W V c):TB.Ev 294 (bv c) (.ret [.b (mR c 0),.b (mR c 1),.b (mR c 2),.b (mR c 3),.b (mR c 4)]):=by
 refine bW rfl rfl (.inl rfl) ?_;have R:=X.side;have Q:c 4=1\/c 4=2\/c 4=3\/c 4=4\/c 4=5\/c 4=6\/c 4=7\/c 4=8\/c 4=9:=by have:=X.kind;omega
 have P:c 5=0\/c 5=1\/c 5=2:=by split at R<;>omega
 rcases Q with h|h|h|h|h|h|h|h|h<;>rcases P with d|d|d
 all_goals simp[h,d] at R
 all_goals simp[ag0,bv,h,d,mR,Rc,Re,Rf,Rg]

def pK(n d f l:Int)(j:Nat):Int:=au .mul I n (oi 139 [.i (oi 138 [.i d,.i f] 0),.i l] j)
def aDq(x:Nat->Int)(s:RV)(a:Nat->Int)(k:Nat)(W:k<5):TB.Ev 296 [.i (x 0),.i (x 1),.i (x 2),.i (x 3),.i (x 4),.i (x 5),.i (x 6),.i (x 7),.i (x 8),.i (x 9),.i (x 10),.i (x 11),.i (x 12),.r s,.i (a 1),.i (a 2),.i (a 3),.i (a 4),.i (a 5),.i (a 6),.i (a 7),.i (a 8),.i (a 9),.i (a 10),.i (a 11),.i (a 12),.i (a 13),.i (a 14),.i (a 15),.i (a 16),.i k] (.ret [.i (pK (a (6+k/2)) (x (3+2*k)) (x 2) (x (4+2*k)) 0),.i (pK (a (6+k/2)) (x (3+2*k)) (x 2) (x (4+2*k)) 0),.i (pK (a (6+k/2)) (x (3+2*k)) (x 2) (x (4+2*k)) 1),.i (pK (a (6+k/2)) (x (3+2*k)) (x 2) (x (4+2*k)) 1)]):=by
 refine bW rfl rfl (.inl rfl) ?_;have X:k=0\/k=1\/k=2\/k=3\/k=4:=by omega
 rcases X with rfl|rfl|rfl|rfl|rfl
 all_goals
  simp[ag1,pK,show au .quo I 0 2=0 from rfl,show au .quo I 1 2=0 from rfl,show au .quo I 2 2=1 from rfl,show au .quo I 3 2=1 from rfl,show au .quo I 4 2=2 from rfl]

def dF(ao ab:Int)(x:Nat->Int)(r:RV):aV:=wk++[.i ao,.i ab,.i (x 0),.i (x 1),.i (x 2),.i (x 3),.i (x 4),.i (x 5),.i (x 6),.i (x 7),.i (x 8),.i (x 9),.i (x 10),.i (x 11),.i (x 12),.r r]
def auP(h:gH)(ao ab:Int)(x:Nat->Int)(r:RV)(X:Sl r):TB.Ev 89 (dF ao ab x r) (.ret [.i (oi 89 (dF ao ab x r) 0),.i (oi 89 (dF ao ab x r) 1),.i (oi 89 (dF ao ab x r) 2),.i (oi 89 (dF ao ab x r) 3),.i (oi 89 (dF ao ab x r) 4),.i (oi 89 (dF ao ab x r) 5),.i (oi 89 (dF ao ab x r) 6),.i (oi 89 (dF ao ab x r) 7),.i (oi 89 (dF ao ab x r) 8),.i (oi 89 (dF ao ab x r) 9),.i (oi 89 (dF ao ab x r) 10),.i (oi 89 (dF ao ab x r) 11),.i (oi 89 (dF ao ab x r) 12),.i (oi 89 (dF ao ab x r) 13)])/\TB.Ev 171 (dF ao ab x r) (.ret [.i (oi 89 (dF ao ab x r) 0),.i (oi 89 (dF ao ab x r) 1),.i (oi 89 (dF ao ab x r) 2),.i (oi 89 (dF ao ab x r) 3),.i (oi 89 (dF ao ab x r) 4),.i (oi 89 (dF ao ab x r) 5),.i (oi 89 (dF ao ab x r) 6),.i (oi 89 (dF ao ab x r) 7),.i (oi 89 (dF ao ab x r) 8),.i (oi 89 (dF ao ab x r) 9),.i (oi 89 (dF ao ab x r) 10),.i (oi 89 (dF ao ab x r) 11),.i (oi 89 (dF ao ab x r) 12),.i (oi 89 (dF ao ab x r) 13)])/\Ik ao ab x r [.i (oi 89 (dF ao ab x r) 0),.i (oi 89 (dF ao ab x r) 1),.i (oi 89 (dF ao ab x r) 2),.i (oi 89 (dF ao ab x r) 3),.i (oi 89 (dF ao ab x r) 4),.i (oi 89 (dF ao ab x r) 5),.i (oi 89 (dF ao ab x r) 6),.i (oi 89 (dF ao ab x r) 7),.i (oi 89 (dF ao ab x r) 8),.i (oi 89 (dF ao ab x r) 9),.i (oi 89 (dF ao ab x r) 10),.i (oi 89 (dF ao ab x r) 11),.i (oi 89 (dF ao ab x r) 12),.i (oi 89 (dF ao ab x r) 13)]:=by
 have e:=oU _ (u89 h ao ab x r X);simp only[H3,H0,ss] at e;obtain⟨Q,W,V,R⟩:=aC2 h ao ab x r X;have d:=Cb W e;injection d with d;subst d;exact⟨W,V,R⟩
def r96(h:gH)(ao ab:Int)(x:Nat->Int)(r:RV)(W:Sl r)(b:Bool):TB.Ev 96 (wk++[.i ab,.i ao,.b b,.i (x 0),.i (x 1),.i (x 2),.i (x 3),.i (x 4),.i (x 5),.i (x 6),.i (x 7),.i (x 8),.i (x 9),.i (x 10),.i (x 11),.i (x 12),.r r]) (.ret (if b=J then[.i (oi 89 (dF ao ab x r) 0),.i (oi 89 (dF ao ab x r) 1),.i (oi 89 (dF ao ab x r) 2),.i (oi 89 (dF ao ab x r) 3),.i (oi 89 (dF ao ab x r) 4),.i (oi 89 (dF ao ab x r) 5),.i (oi 89 (dF ao ab x r) 6),.i (oi 89 (dF ao ab x r) 7),.i (oi 89 (dF ao ab x r) 8),.i (oi 89 (dF ao ab x r) 9),.i (oi 89 (dF ao ab x r) 10),.i (oi 89 (dF ao ab x r) 11),.i (oi 89 (dF ao ab x r) 12),.i (oi 89 (dF ao ab x r) 13)] else MG x)):=by
 refine bW rfl rfl (.inl rfl) ?_;have X:=(auP h ao ab x r W).2.1;simp only[dF,wk,aIF,aIJ] at X;cases b with
 |false=>simp[Yr,wk,MG]
 |true=>simp[Yr,wk,aN X,dF]
end
section
variable{R:bD->Prop}{c:aP}{t:T}{O:aa}{L:dN}
variable[Inhabited dJ]
def sJ(v:am):Nat->Nat->Bool
 |0,_=>E
 |i+1,0=>sJ v i 0||(!fG (cellAt v i 17).val&&decide (ba v i 4=6))
 |i+1,j+1=>sJ v i (j+1)||(!fG (cellAt v i 17).val&&mR (ba v i) j)
def pL(F:Nat->Bool)(X:Nat->Int)(g:Int)(x:Nat->Int):Nat->Nat->Int
 |0,j=>if j%2=0 then au .sub I 0 (au .mul I 841 g) else au .mul I 841 g
 |n+1,j=>if F (1+n)=E/\x (4+2*n)=0 then pL F X g x n j
  else if F (1+n)=J\/F 0=J then(if j%2=0 then min (pL F X g x n j) (au .sub I 0 (au .mul I 841 (X n))) else max (pL F X g x n j) (au .mul I 841 (X n)))
  else if j%2=0 then min (pL F X g x n j) (pK (X n) (x (3+2*n)) (x 2) (x (4+2*n)) (j/2)) else max (pL F X g x n j) (pK (X n) (x (3+2*n)) (x 2) (x (4+2*n)) (j/2))
def aDs{V:Nat->Bool}(h:∀k<6,M k=V k):∀n≤5,∀j,pL M X W N n j=pL V X W N n j:=by
 intro n;induction n with
 |zero=>intro _ j;rfl
 |succ n Q=>
  intro P j;simp only[pL,Q (by omega),h (1+n) (by omega),h 0 (by omega)]
structure oX(f0 f1 f2 f3 g:Int)(rc:Nat->Int)(F:Nat->Bool)(x:Nat->Int)(n:Nat):Prop where
 fg:Fg f0 f1 f2 f3
 e0:f0=pL F rc g x n 0
 e1:f1=pL F rc g x n 1
 e2:f2=pL F rc g x n 2
 e3:f3=pL F rc g x n 3
def oX.box{g p P q H:Int}(h:oX W V B z g X M N Q)(a:S6 p P)(b:S6 q H):(aM W V B z&&aM p P q H)=true:=by
 have G:=h.fg;simp only[Fg,S6] at G a b;simp[aM];omega
def oX.any{g r d l:Int}(h:oX W V B z g X M N Q)(A:1<=r/\r<=8)(e:X Q=r)(hd:N (3+2*Q)=d)(hl:N (4+2*Q)=l){b q:Bool}(hb:M (1+Q)=b)(hq:M 0=q){s t u v w:Int}(h1:au .sub I 0 (au .mul I 841 r)=s)(h2:au .mul I 841 r=t)(h3:N 2=u)(h4:au .mul I r (oi 139 [.i (oi 138 [.i d,.i u] 0),.i l] 0)=v)(h5:au .mul I r (oi 139 [.i (oi 138 [.i d,.i u] 0),.i l] 1)=w){m:Nat}(hm:Q+1=m):
  (¬b=J->l=0->oX W V B z g X M N m)/\(b=J->oX (jn (aM W V B z&&aM s t s t) (min W s)) (jn (aM W V B z&&aM s t s t) (max V t)) (jn (aM W V B z&&aM s t s t) (min B s)) (jn (aM W V B z&&aM s t s t) (max z t)) g X M N m)/\
  (q=J->¬l=0->oX (jn (aM W V B z&&aM s t s t) (min W s)) (jn (aM W V B z&&aM s t s t) (max V t)) (jn (aM W V B z&&aM s t s t) (min B s)) (jn (aM W V B z&&aM s t s t) (max z t)) g X M N m)/\
  (¬b=J->¬q=J->¬l=0->oX (jn (aM W V B z&&aM v v w w) (min W v)) (jn (aM W V B z&&aM v v w w) (max V v)) (jn (aM W V B z&&aM v v w w) (min B w)) (jn (aM W V B z&&aM v v w w) (max z w)) g X M N m):=by
 subst hd hl hb hq h1 h2 h3 h4 h5 hm e;have G:=ahj A;have f:=YA A (YB (N (3+2*Q)) (N 2) (N (4+2*Q)));have c:=YA A (YC (N (3+2*Q)) (N 2) (N (4+2*Q)));have D:=h.fg.jn1 G G;have C:=h.fg.jn1 f c;have a:=h.box G G;have y:=h.box f c;rw[a] at D;rw[y] at C;simp only[vX,vY] at C y;rw[a,y];simp only[jn,if_true] at D C⊢;have p:=h.e0;have o:=h.e1;have k:=h.e2;have j:=h.e3;refine⟨λm P=> ?_,λm=> ?_,λm P=> ?_,λm m' P=> ?_⟩;refine⟨h.fg, ?_, ?_, ?_, ?_⟩<;>simp only[pL]<;>rw[if_pos ⟨aKK.2 m,P⟩]<;>assumption;have H:¬(M (1+Q)=E/\N (4+2*Q)=0):=λq=>by rw[m] at q;cases q.1
 refine⟨D, ?_, ?_, ?_, ?_⟩<;>simp only[pL]<;>rw[if_neg H,if_pos (.inl m)]<;>simp[p,o,k,j];have H:¬(M (1+Q)=E/\N (4+2*Q)=0):=λq=>P q.2
 refine⟨D, ?_, ?_, ?_, ?_⟩<;>simp only[pL]<;>rw[if_neg H,if_pos (.inr m)]<;>simp[p,o,k,j];have H:¬(M (1+Q)=E/\N (4+2*Q)=0):=λq=>P q.2
 have c2:¬(M (1+Q)=J\/M 0=J):=λq=>q.elim m m'
 refine⟨C, ?_, ?_, ?_, ?_⟩<;>simp only[pL]<;>rw[if_neg H,if_neg c2]<;>simp[p,o,k,j,pK]
def oX.zero(V:1<=W/\W<=8)(X:Nat->Int)(F:Nat->Bool)(x:Nat->Int):oX (au .sub I 0 (au .mul I 841 W)) (au .mul I 841 W) (au .sub I 0 (au .mul I 841 W)) (au .mul I 841 W) W X F x 0:=by
 refine⟨?_,rfl,rfl,rfl,rfl⟩;simp only[au,Fg];rw[bJ (n:=841*W) (by omega) (by omega),bJ (by omega) (by omega)];omega
def oX.auQ{g:Int}{Q:Nat->Bool}(h:oX W V B z g X M N 5)(e:∀k<6,M k=Q k):oX W V B z g X Q N 5:=by
 refine⟨h.fg, ?_, ?_, ?_, ?_⟩<;>rw[<-aDs e 5 (by omega)];exact h.e0;exact h.e1;exact h.e2;exact h.e3
def aDt(N:1<=W/\W<=9)(Q:if W=1\/W=3\/W=4\/W=9 then 1<=V/\V<=2 else V=0){j:Nat}(h:(∃a<(gw W 0).rows.length,(j:Int)=bB (cellAt (gw W 0).rows (a:Int) 0).val+V-1)\/∃a<(gw W 1).rows.length,(j:Int)=bB (cellAt (gw W 1).rows (a:Int) 0).val):Tc W V j:=by
 have:W=1\/W=2\/W=3\/W=4\/W=5\/W=6\/W=7\/W=8\/W=9:=by omega
 have P:∀a:Nat,a<2->a=0\/a=1:=λa h=>by omega
 rcases this with rfl|rfl|rfl|rfl|rfl|rfl|rfl|rfl|rfl
 all_goals
  simp at Q;rcases h with⟨a,X,e⟩|⟨a,X,e⟩
  all_goals
   simp[gw,mO,iG,jJ,sV,iV,cellAt,cz,-qO] at X
   try
    first
     |(subst X
       simp[gw,mO,iG,jJ,sV,iV,cellAt,cz,bB,-qO] at e;simp[Tc];omega)
     |(rcases P a X with rfl|rfl
       all_goals
        simp[gw,mO,iG,jJ,sV,iV,cellAt,cz,bB,-qO] at e;simp[Tc];omega)

def auR{G:Nat->Bool}{tu:Bool}(W:∀k<6,M k=sJ P Q k)(V:fG (cellAt P (Q:Int) 17).val=E)(N:tu=(M 0||decide (ba P Q 4=6)))(H:∀j<5,G j=(M (1+j)||mR (ba P Q) j)):∃X:Nat->Bool,(tu=X 0/\G 0=X 1/\G 1=X 2/\G 2=X 3/\G 3=X 4/\G 4=X 5)/\∀k<6,X k=sJ P (Q+1) k:=by
 refine⟨λj=>match j with|0=>tu|j+1=>G j,⟨rfl,rfl,rfl,rfl,rfl,rfl⟩,λk D=> ?_⟩
 match k,D with
 |0,_=>simp only[sJ,V,aLp,aJ3];rw[<-W 0 (by omega)];exact N
 |j+1,C=>simp only[sJ,V,aLp,aJ3];rw[<-W (j+1) C,Nat.add_comm j 1];exact H j (by omega)
def auS(X:∀k<6,M k=sJ P Q k)(W:fG (cellAt P (Q:Int) 17).val=J):∀k<6,M k=sJ P (Q+1) k:=λk V=>by
 match k,V with
 |0,h=>simp only[sJ,W,aKx,aLY,Bool.or_false];exact X 0 h
 |j+1,N=>simp only[sJ,W,aKx,aLY,Bool.or_false];exact X (j+1) N
def Ri(x:Nat->Int)(s:RV)(a:Nat->Int)(k:Nat)(X:k<5){m:Int}(W:m=(k:Int)):eK TB.Ev R 296 [.i (x 0),.i (x 1),.i (x 2),.i (x 3),.i (x 4),.i (x 5),.i (x 6),.i (x 7),.i (x 8),.i (x 9),.i (x 10),.i (x 11),.i (x 12),.r s,.i (a 1),.i (a 2),.i (a 3),.i (a 4),.i (a 5),.i (a 6),.i (a 7),.i (a 8),.i (a 9),.i (a 10),.i (a 11),.i (a 12),.i (a 13),.i (a 14),.i (a 15),.i (a 16),.i m] c t O L=eL TB.Ev R (.ret [.i (pK (a (6+k/2)) (x (3+2*k)) (x 2) (x (4+2*k)) 0),.i (pK (a (6+k/2)) (x (3+2*k)) (x 2) (x (4+2*k)) 0),.i (pK (a (6+k/2)) (x (3+2*k)) (x 2) (x (4+2*k)) 1),.i (pK (a (6+k/2)) (x (3+2*k)) (x 2) (x (4+2*k)) 1)]) c t O L:=by
 rw[W];exact aN (aDq x s a k X)
def Rj{n:Nat}{X:Nat->aV->Prop}{i:Nat}{m:Int}(W:i<n)(V:n<=140737488355328)(P:m=((i:Int)+1)):HT (U ⟨Q,Fi n X,C0 n,n-i⟩) (.i m::y)=X (i+1) y:=by
 rw[P];exact auw W V
def aDu(p:mq P)(hs:∀i<Y P,iZ W V (ba P i))(hr:Sl H)(hm:lq P H)(hv:oh P H (Y P) F)(x:Nat->Int)(h:RV)(y:Nat->Int)(g1:1<=y 3/\y 3<=4)(g2:1<=y 6/\y 6<=8)(g3:1<=y 7/\y 7<=8)(g4:1<=y 8/\y 8<=8):∃o,TB.Ev 238 ([.r (bT P)]++[.i (x 0),.i (x 1),.i (x 2),.i (x 3),.i (x 4),.i (x 5),.i (x 6),.i (x 7),.i (x 8),.i (x 9),.i (x 10),.i (x 11),.i (x 12)]++[.r h,.i (y 1),.i (y 2),.i (y 3),.i (y 4),.i (y 5),.i (y 6),.i (y 7),.i (y 8),.i (y 9),.i (y 10),.i (y 11),.i (y 12),.i (y 13),.i (y 14),.i (y 15),.i (y 16)]++[.r H]) o/\∃g D Q f,o=.ret [.i g,.i D,.i Q,.i f]/\oX g D Q f (y 3) (YD (y 6) (y 7) (y 8)) (sJ F (Y P)) x 5:=by
 refine dm rfl rfl (.inl rfl) ?_;simp[ag5];have hn:=p.n;refine cZ (Y P) (λi e=>∃X:Nat->Bool,e=[.b (X 0),.b (X 1),.b (X 2),.b (X 3),.b (X 4),.b (X 5)]/\∀k<6,X k=sJ F i k) ⟨0,rfl,by omega,λ_=>E,rfl,λk hk=>rfl⟩ ?_;rintro i _ c ⟨X,rfl,w⟩;simp;refine az (λc=> ?_) (λbb=> ?_)
 ·obtain⟨k,hk,u,e2,e3,e4,e5,e6,e7,e8⟩:=Zh p hm hv c;have D:=auG H hr (ba P i 0) hk e2 u;have Q:=aDp (ba P i) (hs i c);have d4:ba F i 4=ba P i 4:=e4 4 (by omega);have d5:∀j,mR (ba F i) j=mR (ba P i) j:=λj=>by simp only[mR,d4,e4 5 (by omega)]
  have af:∀{G:Nat->Bool}{tu:Bool},fG (cellAt F (i:Int) 17).val=E->tu=(X 0||decide (ba P i 4=6))->(∀j<5,G j=(X (1+j)||mR (ba P i) j))->_:=λ{G tu} q1 q2 q3=>auR (G:=G) (tu:=tu) w q1 (by rw[d4];exact q2) (λj s=>by rw[d5];exact q3 j s)
  generalize hM:mR (ba P i)=M at Q af;simp only[bv,ba,ci,cb] at D Q e8;simp[aN D,aN Q,c,cQ c (show Y P<=140737488355328 by omega)];rw[<-e8];refine az (λhd=>⟨X,⟨rfl,rfl,rfl,rfl,rfl,rfl⟩,auS w hd⟩) (λhd=>az (λag=> ?_) (λag=> ?_))
  all_goals
   refine cZ 5 (λa e=>∃G:Nat->Bool,e=[.b (G 0),.b (G 1),.b (G 2),.b (G 3),.b (G 4)]/\∀j<5,G j=(X (1+j)||(decide (j<a)&&M j))) ⟨0,rfl,by omega,λj=>X (1+j),rfl,λj s=>by simp⟩ ?_;rintro a _ ha ⟨G,rfl,q⟩;simp;refine az (λha=> ?_) (λal=> ?_)
   ·have al:a<5:=by omega
    simp only[cQ al (show 5<=140737488355328 by omega)];have q0:=q 0 (by omega);have q1:=q 1 (by omega);have q2:=q 2 (by omega);have q3:=q 3 (by omega);have q4:=q 4 (by omega);have hc:a=0\/a=1\/a=2\/a=3\/a=4:=by omega
    clear q af D Q;rcases hc with rfl|rfl|rfl|rfl|rfl
    all_goals
     simp at q0 q1 q2 q3 q4;simp;refine az (λp=>⟨_, ?_,λj s=>rfl⟩) (λp=>⟨_, ?_,λj s=>rfl⟩)
     all_goals
      simp[q0,q1,q2,q3,q4] at p⊢
      try simp[p]
   ·have a0:a=5:=by omega
    subst a0;simp only[cQ c (show Y P<=140737488355328 by omega)];have a1:fG (cellAt F (i:Int) 17).val=false:=by simpa using hd
    have a3:∀j<5,G j=(X (1+j)||M j):=λj s=>by rw[q j s];simp[s]
    obtain⟨F',⟨e0,u⟩,hm⟩:=af (G:=G) a1 rfl a3;refine⟨F', ?_,hm⟩;simp[<-e0,<-u.1,<-u.2.1,<-u.2.2.1,<-u.2.2.2.1,<-u.2.2.2.2,ag,ba]
    try rfl
 have a4:i=Y P:=by omega
 subst a4;refine cZ 5 (λk e=>∃g D Q f,e=[.i g,.i D,.i Q,.i f]/\oX g D Q f (y 3) (YD (y 6) (y 7) (y 8)) X x k) ⟨0,by simp,by omega, ?_⟩ ?_;refine⟨_,_,_,_,rfl, ?_⟩;simp;exact oX.zero (by omega) _ _ _;rintro k e an ⟨g,D,Q,f,rfl,N⟩;simp;refine az (λhk=> ?_) (λa9=> ?_);have a9:k<5:=by omega
 have hk:k=0\/k=1\/k=2\/k=3\/k=4:=by omega
 rcases hk with rfl|rfl|rfl|rfl|rfl
 ·obtain⟨C,B,A,z⟩:=N.any (b:=X 1) (d:=x 3) (l:=x 4) g2 rfl rfl rfl rfl rfl rfl rfl rfl rfl rfl (m:=1) rfl;simp[Rj (i:=0) (m:=1) (n:=5) (by omega) (by omega) rfl,Ri x h y 0 (by omega) (m:=0) rfl,pK];clear N w
  repeat'(refine az (λ_=> ?_) (λ_=> ?_))
  all_goals first|exact⟨_,_,_,_,⟨rfl,rfl,rfl,rfl⟩,B (by assumption)⟩|exact⟨_,_,_,_,⟨rfl,rfl,rfl,rfl⟩,C (by assumption) (by assumption)⟩|exact⟨_,_,_,_,⟨rfl,rfl,rfl,rfl⟩,A (by assumption) (by assumption)⟩|exact⟨_,_,_,_,⟨rfl,rfl,rfl,rfl⟩,z (by assumption) (by assumption) (by assumption)⟩|contradiction
 ·obtain⟨C,B,A,z⟩:=N.any (b:=X 2) (d:=x 5) (l:=x 6) g2 rfl rfl rfl rfl rfl rfl rfl rfl rfl rfl (m:=2) rfl;simp[Rj (i:=1) (m:=2) (n:=5) (by omega) (by omega) rfl,Ri x h y 1 (by omega) (m:=1) rfl,pK];clear N w
  repeat'(refine az (λ_=> ?_) (λ_=> ?_))
  all_goals first|exact⟨_,_,_,_,⟨rfl,rfl,rfl,rfl⟩,B (by assumption)⟩|exact⟨_,_,_,_,⟨rfl,rfl,rfl,rfl⟩,C (by assumption) (by assumption)⟩|exact⟨_,_,_,_,⟨rfl,rfl,rfl,rfl⟩,A (by assumption) (by assumption)⟩|exact⟨_,_,_,_,⟨rfl,rfl,rfl,rfl⟩,z (by assumption) (by assumption) (by assumption)⟩|contradiction
 ·obtain⟨C,B,A,z⟩:=N.any (b:=X 3) (d:=x 7) (l:=x 8) g3 rfl rfl rfl rfl rfl rfl rfl rfl rfl rfl (m:=3) rfl;simp[Rj (i:=2) (m:=3) (n:=5) (by omega) (by omega) rfl,Ri x h y 2 (by omega) (m:=2) rfl,pK];clear N w
  repeat'(refine az (λ_=> ?_) (λ_=> ?_))
  all_goals first|exact⟨_,_,_,_,⟨rfl,rfl,rfl,rfl⟩,B (by assumption)⟩|exact⟨_,_,_,_,⟨rfl,rfl,rfl,rfl⟩,C (by assumption) (by assumption)⟩|exact⟨_,_,_,_,⟨rfl,rfl,rfl,rfl⟩,A (by assumption) (by assumption)⟩|exact⟨_,_,_,_,⟨rfl,rfl,rfl,rfl⟩,z (by assumption) (by assumption) (by assumption)⟩|contradiction
 ·obtain⟨C,B,A,z⟩:=N.any (b:=X 4) (d:=x 9) (l:=x 10) g3 rfl rfl rfl rfl rfl rfl rfl rfl rfl rfl (m:=4) rfl;simp[Rj (i:=3) (m:=4) (n:=5) (by omega) (by omega) rfl,Ri x h y 3 (by omega) (m:=3) rfl,pK];clear N w
  repeat'(refine az (λ_=> ?_) (λ_=> ?_))
  all_goals first|exact⟨_,_,_,_,⟨rfl,rfl,rfl,rfl⟩,B (by assumption)⟩|exact⟨_,_,_,_,⟨rfl,rfl,rfl,rfl⟩,C (by assumption) (by assumption)⟩|exact⟨_,_,_,_,⟨rfl,rfl,rfl,rfl⟩,A (by assumption) (by assumption)⟩|exact⟨_,_,_,_,⟨rfl,rfl,rfl,rfl⟩,z (by assumption) (by assumption) (by assumption)⟩|contradiction
 ·obtain⟨C,B,A,z⟩:=N.any (b:=X 5) (d:=x 11) (l:=x 12) g4 rfl rfl rfl rfl rfl rfl rfl rfl rfl rfl (m:=5) rfl;simp[Rj (i:=4) (m:=5) (n:=5) (by omega) (by omega) rfl,Ri x h y 4 (by omega) (m:=4) rfl,pK];clear N w
  repeat'(refine az (λ_=> ?_) (λ_=> ?_))
  all_goals first|exact⟨_,_,_,_,⟨rfl,rfl,rfl,rfl⟩,B (by assumption)⟩|exact⟨_,_,_,_,⟨rfl,rfl,rfl,rfl⟩,C (by assumption) (by assumption)⟩|exact⟨_,_,_,_,⟨rfl,rfl,rfl,rfl⟩,A (by assumption) (by assumption)⟩|exact⟨_,_,_,_,⟨rfl,rfl,rfl,rfl⟩,z (by assumption) (by assumption) (by assumption)⟩|contradiction
 have an:k=5:=by omega
 subst an;exact⟨_,_,_,_,⟨rfl,rfl,rfl,rfl⟩,N.auQ w⟩
end
section
variable{R:bD->Prop}{g:aP}{t:T}{O:aa}{L:dN}
variable[Inhabited dJ]
def MJ(X:RV)(y:Nat->Int):Int:=ud X (y 1) (y 2) (y 3) (y 4) (y 5) (y 6) (y 7) (y 8) (y 9) (y 10) (y 11) (y 12) (y 13) (y 14) (y 15) (y 16)
def jk(f:Nat->Int)(x:Nat->Int)(v:am):Nat->Nat->Int
 |0,j=>f j+29*x (j/2)
 |n+1,j=>if j%2=0 then min (jk f x v n j) (f j+29*bK x v (n+1) (j/2)) else max (jk f x v n j) (f j+29*bK x v (n+1) (j/2))
def It(e:Int):aV:=[.i 0,.i 0,.i 0,.i 0,.i e]
def ju(y:Nat->Int)(x:Nat->Int)(v:am):Nat->Int:=pL (sJ v (Y v)) (YD (y 6) (y 7) (y 8)) (y 3) x 5
structure Fv(ao ab:Int)(x:Nat->Int)(nm:RV)(y:Nat->Int)(r:RV)(ys:aV):Prop where
 c:eE ao ab≠0->ys=It (eE ao ab)
 p:eE ao ab=0->¬rS x->ys=It 260
 b:eE ao ab=0->rS x->MJ nm y≠0->ys=It (MJ nm y)
 m:eE ao ab=0->rS x->MJ nm y=0->¬lq (bL ao ab) r->ys=It 270
 w:eE ao ab=0->rS x->MJ nm y=0->lq (bL ao ab) r->∀v,oh (bL ao ab) r (bL ao ab).length v->(¬oW x v (bL ao ab).length->ys=It 2)/\(oW x v (bL ao ab).length->ys=[.i (jk (ju y x v) x v (Y v) 0),.i (jk (ju y x v) x v (Y v) 1),.i (jk (ju y x v) x v (Y v) 2),.i (jk (ju y x v) x v (Y v) 3),.i 0])
def Fv.eq{B:aV}(h:Fv W V X H N x y)(F:Fv W V X H N x B):y=B:=by
 by_cases Q:eE W V=0;by_cases P:rS X;by_cases M:MJ H N=0;by_cases G:lq (bL W V) x;obtain⟨v,D⟩:=Ij G;by_cases C:oW X v (bL W V).length;rw[(h.w Q P M G v D).2 C,(F.w Q P M G v D).2 C];rw[(h.w Q P M G v D).1 C,(F.w Q P M G v D).1 C];rw[h.m Q P M G,F.m Q P M G];rw[h.b Q P M,F.b Q P M];rw[h.p Q P,F.p Q P];rw[h.c Q,F.c Q]
def Rk(h:Fg W V B z)(Q:rS X):f8 W V B z (29*X 0) (29*X 1)=0:=by
 have p:=(mN _ _ _ _ _ _ _ _ _ _ _ _ _).1 Q;have P:=p.x;have N:=p.y;simp only[Fg] at h;unfold f8;rw[bJ (by omega) (by omega),bJ (by omega) (by omega),bJ (by omega) (by omega),bJ (by omega) (by omega)];simp only[aM];simp;omega
def Zk(W:rS X):au .mul I 29 (X 0)=29*X 0/\au .mul I 29 (X 1)=29*X 1:=by
 have p:=(mN _ _ _ _ _ _ _ _ _ _ _ _ _).1 W;have V:=p.x;have Q:=p.y;simp only[au];exact⟨bJ (by omega) (by omega),bJ (by omega) (by omega)⟩
def Zl(h:Fg W V B z)(Q:rS X):aM (W+29*X 0) (V+29*X 0) (B+29*X 1) (z+29*X 1)=true:=by
 have e:=Rk h Q;obtain⟨N,M,H,G⟩:=h.QN e;have P:=(h.sh e).1;rw[N,M,H,G] at P;exact P
set_option maxHeartbeats 2000000 in
def x90 (h:gH) (ao ab:Int) (x:Nat->Int) (s:RV) (br:lQ s) (y:Nat->Int) (r:RV) (hr:Sl r):∃o,TB.Ev 90 (wk++[.i ao,.i ab,.i (x 0),.i (x 1),.i (x 2),.i (x 3),.i (x 4),.i (x 5),.i (x 6),.i (x 7),.i (x 8),.i (x 9),.i (x 10),.i (x 11),.i (x 12),.r s,.i (y 1),.i (y 2),.i (y 3),.i (y 4),.i (y 5),.i (y 6),.i (y 7),.i (y 8),.i (y 9),.i (y 10),.i (y 11),.i (y 12),.i (y 13),.i (y 14),.i (y 15),.i (y 16),.r r]) o/\∃A,o=.ret A/\Fv ao ab x s y r A:=by
 refine dm rfl rfl (.inl rfl) ?_;have hg:=ME ao ab h;have hs:=Zj ao ab h;have p:=hg.n;have h1:=QJ xl h ao ab;obtain⟨o,h2,v,b,rfl,h3,h4⟩:=asL _ r hr p hg.k;obtain⟨o',bs,v',b',rfl,h5⟩:=auI _ r hr hg;have V:=Cb h2 bs;injection V with V;injection V with cc V;injection V with V _;injection V with V;subst V;simp only[wk,aIF,aIJ] at h1;simp[T90,wk,aAV,aN h1,aN h2,Fj s br];refine az (λC=> ?_) (λC=>⟨λ_=>rfl,λq=>absurd q C,λq=>absurd q C,λq=>absurd q C,λq=>absurd q C⟩);refine az (λa2=> ?_) (λa2=> ?_)
 case refine_2=>
  have e:=Rh x a2;rw[e];exact⟨λq=>absurd C q,λ_ _=>rfl,λ_ q=>absurd q a2,λ_ q=>absurd q a2,λ_ q=>absurd q a2⟩
 refine az (λg=> ?_) (λg=>⟨λq=>absurd C q,λ_ q=>absurd a2 q,λ_ _ _=>rfl,λ_ _ q=>absurd q g,λ_ _ q=>absurd q g⟩);refine az (λa4=> ?_) (λa4=>⟨λq=>absurd C q,λ_ q=>absurd a2 q,λ_ _ q=>absurd g q,λ_ _ _ _=>rfl,λ_ _ _ q=>absurd (h5.2 q) a4⟩);have w:=h5.1 a4;have hv:=h4 a4;have cf:=hv.1;have ag:Y v<=140737488355328:=by omega
 have hE:∀A,(∀v',oh (bL ao ab) r (bL ao ab).length v'->v'=v->(¬oW x v (bL ao ab).length->A=It 2)/\(oW x v (bL ao ab).length->A=[.i (jk (ju y x v) x v (Y v) 0),.i (jk (ju y x v) x v (Y v) 1),.i (jk (ju y x v) x v (Y v) 2),.i (jk (ju y x v) x v (Y v) 3),.i 0]))->Fv ao ab x s y r A:=λA k=>⟨λq=>absurd C q,λ_ q=>absurd a2 q,λ_ _ q=>absurd g q,λ_ _ _ q=>absurd w q,λ_ _ _ _ v' ag=>by
  have e:=MH hg w ag hv;subst e;exact k _ hv rfl⟩
 obtain⟨g1,g2,g3,g4⟩:=Yy s br _ _ _ _ _ _ _ _ _ _ _ _ _ _ _ _ g;have hW:∀i<Y v,∃k<Y r.rows,(∀j<k,ci r j 0≠ba (bL ao ab) i 0)/\ci r k 0=ba (bL ao ab) i 0/\sI (ba (bL ao ab) i) r k/\(∀j<14,ba v i j=ba (bL ao ab) i j)/\ba v i 14=ci r k 0/\ba v i 15=ci r k 1/\ba v i 16=ci r k 2/\fG (cellAt v i 17).val=cb r k 3:=λi X=>Zh hg w hv (by omega)
 have hS:∀i<Y v,iZ (Y be.rows) eD (ba (bL ao ab) i):=λi X=>hs i (by omega)
 rw[<-cf] at hE;clear h1 h2 bs h3 h4 h5 cc;generalize bL ao ab=l at*;refine cZ (Y v) (λi W=>∃F:Nat->Bool,W=[.b (F 0),.b (F 1),.b (F 2),.b (F 3),.b (F 4),.b (F 5)]/\∀k<6,F k=sJ v i k) ⟨0,rfl,by omega,λ_=>E,rfl,λk hk=>rfl⟩ ?_;rintro i W X ⟨F,rfl,hF⟩;simp;refine az (λX=> ?_) (λan=> ?_)
 ·obtain⟨_,_,_,_,_,bt,_,_,_,_⟩:=hW i X;have f:=hS i X;have af:=bt 4 (by omega);have a0:=bt 5 (by omega);have d5:∀j,mR (ba v i) j=mR (ba l i) j:=λj=>by simp only[mR,af,a0]
  have bx:∀{G:Nat->Bool}{tu:Bool},fG (cellAt v (i:Int) 17).val=E->tu=(F 0||decide (ba l i 4=6))->(∀j<5,G j=(F (1+j)||mR (ba l i) j))->∃N:Nat->Bool,(tu=N 0/\G 0=N 1/\G 1=N 2/\G 2=N 3/\G 3=N 4/\G 4=N 5)/\∀k<6,N k=sJ v (i+1) k:=λ{G tu} q1 Q q3=>auR (G:=G) (tu:=tu) hF q1 (by rw[af];exact Q) (λj H=>by rw[d5];exact q3 j H)
  generalize ba l i=c at*;obtain⟨a9,bb⟩:=aAW f.kind f.side;have hT:∀{j:Nat},mR c j=J<->_:=λ{j}=>(aDo c j).trans ⟨λq=>aAX (j:=j) f.kind q,λq=>aDt (j:=j) f.kind f.side q⟩
  have cy:=f.kind;have b0:cz (.sl 3) (cellAt mO.rows (c 4) 0)=gw (c 4) 0:=rfl;have b1:cz (.sl 3) (cellAt mO.rows (c 4) 1)=gw (c 4) 1:=rfl;generalize gw (c 4) 0=la at a9 b0 hT;generalize gw (c 4) 1=lb at bb b1 hT;simp only[ba] at af a0;simp[cQ X ag,X,af,asR];refine az (λV=>⟨F,⟨rfl,rfl,rfl,rfl,rfl,rfl⟩,auS hF V⟩) (λV=>az (λbd=> ?_) (λbd=> ?_))
  all_goals
   have b2:fG (cellAt v (i:Int) 17).val=false:=by simpa using V
   refine⟨by omega, ?_⟩;refine cZ (Y la.rows) (λa W=>∃G:Nat->Bool,W=[.b (G 0),.b (G 1),.b (G 2),.b (G 3),.b (G 4)]/\∀j:Nat,j<5->(G j=J<->F (1+j)=J\/∃P<a,(j:Int)=bB (cellAt la.rows (P:Int) 0).val+c 5-1)) ⟨0,rfl,by omega,λj=>F (1+j),rfl,λj H=>by simp⟩ ?_;rintro a W B ⟨G,rfl,hG⟩;simp[af,a0,b0,a9.1,asR];refine az (λB=> ?_) (λch=> ?_);have hx:=a9.2.2 a B;obtain⟨z,u⟩:∃z,bB (cellAt la.rows (a:Int) 0).val=z:=⟨_,rfl⟩;rw[u] at hx⊢;rw[show au .sub I (au .add I z (c 5)) 1=z+c 5-1 by simp only[au];rw[bJ (n:=z+c 5) (by omega) (by omega),bJ (by omega) (by omega)]];simp[cQ B (show Y la.rows<=140737488355328 by omega),B];refine⟨by omega,by omega,λj=>decide (z+c 5-1=(j:Int))||G j,⟨rfl,rfl,rfl,rfl,rfl⟩,λj H=> ?_⟩;simp only[aIZ,decide_eq_true_eq,hG j H];constructor;rintro(q|q|⟨P,q1,Q⟩);exact .inr ⟨a,by omega,by rw[u];exact q.symm⟩;exact .inl q;exact .inr ⟨P,by omega,Q⟩;rintro(q|⟨P,q1,Q⟩);exact .inr (.inl q);by_cases e:P=a;subst e;rw[u] at Q;exact .inl Q.symm;exact .inr (.inr ⟨P,by omega,Q⟩);refine⟨by omega, ?_⟩;have bf:a=Y la.rows:=by omega
   subst bf;refine cZ (Y lb.rows) (λa W=>∃M:Nat->Bool,W=[.b (M 0),.b (M 1),.b (M 2),.b (M 3),.b (M 4)]/\∀j:Nat,j<5->(M j=J<->G j=J\/∃P<a,(j:Int)=bB (cellAt lb.rows (P:Int) 0).val)) ⟨0,rfl,by omega,G,rfl,λj H=>by simp⟩ ?_;rintro a W B ⟨M,rfl,hH⟩;simp[af,b1,bb.1];refine az (λB=> ?_) (λch=> ?_);have hx:=bb.2.2 a B;obtain⟨z,u⟩:∃z,bB (cellAt lb.rows (a:Int) 0).val=z:=⟨_,rfl⟩;rw[u] at hx⊢;simp[cQ B (show Y lb.rows<=140737488355328 by omega),B];refine⟨by omega,by omega,λj=>decide (z=(j:Int))||M j,⟨rfl,rfl,rfl,rfl,rfl⟩,λj H=> ?_⟩;simp only[aIZ,decide_eq_true_eq,hH j H];constructor;rintro(q|q|⟨P,q1,Q⟩);exact .inr ⟨a,by omega,by rw[u];exact q.symm⟩;exact .inl q;exact .inr ⟨P,by omega,Q⟩;rintro(q|⟨P,q1,Q⟩);exact .inr (.inl q);by_cases e:P=a;subst e;rw[u] at Q;exact .inl Q.symm;exact .inr (.inr ⟨P,by omega,Q⟩);have bf:a=Y lb.rows:=by omega
   subst bf;simp[cQ X ag];have b3:∀j<5,M j=(F (1+j)||mR c j):=λj H=>by
    rw[aJv,hH j H,hG j H,aIZ,hT,or_assoc]
   first
    |(obtain⟨N,⟨e0,e1⟩,w⟩:=bx (G:=M) (tu:=J) b2 (by simp[bd]) b3
      exact⟨N,⟨e0.symm,e1⟩,w⟩)
    |(obtain⟨N,⟨e0,e1⟩,w⟩:=bx (G:=M) (tu:=decide (c 4=6)) b2 (by simp[bd]) b3
      exact⟨N,⟨e0,e1⟩,w⟩)
 have bg:i=Y v:=aLJ X (aLF an);subst bg;refine cZ 5 (λk W=>∃f0 f1 f2 f3,W=[.i f0,.i f1,.i f2,.i f3]/\oX f0 f1 f2 f3 (y 3) (YD (y 6) (y 7) (y 8)) F x k) ⟨0,by simp,by omega, ?_⟩ ?_;refine⟨_,_,_,_,rfl, ?_⟩;simp;exact oX.zero (by omega) _ _ _;rintro k W b4 ⟨f0,f1,f2,f3,rfl,D⟩;simp;refine az (λhk=> ?_) (λb5=> ?_)
 ·have b5:k<5:=by omega
  have hk:k=0\/k=1\/k=2\/k=3\/k=4:=by omega
  simp only[cQ b5 (show 5<=140737488355328 by omega)];rcases hk with rfl|rfl|rfl|rfl|rfl;obtain⟨s1,s0,s2,s3⟩:=D.any (b:=F 1) (d:=x 3) (l:=x 4) g2 rfl rfl rfl rfl rfl rfl rfl rfl rfl rfl (m:=1) rfl
  rotate_left
  obtain⟨s1,s0,s2,s3⟩:=D.any (b:=F 2) (d:=x 5) (l:=x 6) g2 rfl rfl rfl rfl rfl rfl rfl rfl rfl rfl (m:=2) rfl
  rotate_left
  obtain⟨s1,s0,s2,s3⟩:=D.any (b:=F 3) (d:=x 7) (l:=x 8) g3 rfl rfl rfl rfl rfl rfl rfl rfl rfl rfl (m:=3) rfl
  rotate_left
  obtain⟨s1,s0,s2,s3⟩:=D.any (b:=F 4) (d:=x 9) (l:=x 10) g3 rfl rfl rfl rfl rfl rfl rfl rfl rfl rfl (m:=4) rfl
  rotate_left
  obtain⟨s1,s0,s2,s3⟩:=D.any (b:=F 5) (d:=x 11) (l:=x 12) g4 rfl rfl rfl rfl rfl rfl rfl rfl rfl rfl (m:=5) rfl
  rotate_left
  all_goals
   simp[show au .quo I 0 2=0 from rfl,show au .quo I 1 2=0 from rfl,show au .quo I 2 2=1 from rfl,show au .quo I 3 2=1 from rfl,show au .quo I 4 2=2 from rfl];clear hF hE hW D
   repeat'(refine az (λ_=> ?_) (λ_=> ?_))
   all_goals with_reducible first|exact⟨_,_,_,_,⟨rfl,rfl,rfl,rfl⟩,s0 (by assumption)⟩|exact⟨_,_,_,_,⟨rfl,rfl,rfl,rfl⟩,s1 (by assumption) (by assumption)⟩|exact⟨_,_,_,_,⟨rfl,rfl,rfl,rfl⟩,s2 (by assumption) (by assumption)⟩|exact⟨_,_,_,_,⟨rfl,rfl,rfl,rfl⟩,s3 (by assumption) (by assumption) (by assumption)⟩|contradiction
 have b4:k=5:=by omega
 subst b4;have D:=D.auQ hF;have hf:=D.fg;have bk:=Rk hf a2;obtain⟨ex,ey⟩:=Zk a2;obtain⟨v0,v1,v2,v3⟩:=hf.QN bk;have hp:=Zl hf a2;rw[ex,ey];refine az (λhe=> ?_) (λp=>absurd bk p);rw[v0,v1,v2,v3,hp];clear he ex ey bk v0 v1 v2 v3 hF;obtain⟨-,rfl,rfl,rfl,rfl⟩:=D;refine cZ (Y v) (λi W=>W=[.i (jk (ju y x v) x v i 0),.i (jk (ju y x v) x v i 1),.i (jk (ju y x v) x v i 2),.i (jk (ju y x v) x v i 3),.i (bK x v i 0),.i (bK x v i 1),.i (bK x v i 2),.i (bK x v i 3),.i (bK x v i 4),.i (bK x v i 5),.i (bK x v i 6),.i (bK x v i 7),.i (bK x v i 8),.i (bK x v i 9),.i (bK x v i 10),.i (bK x v i 11),.i (bK x v i 12),.b E]/\aM (jk (ju y x v) x v i 0) (jk (ju y x v) x v i 1) (jk (ju y x v) x v i 2) (jk (ju y x v) x v i 3)=J/\rS (bK x v i)/\oW x v i) ⟨0,rfl,aKG _,rfl,hp,a2,λi h=>by omega⟩ ?_;rintro i W X ⟨rfl,b6,hR,b7⟩;have g1:=ahg (bK x v i) v i;simp only[bv,ba,aIF,aIJ] at g1;simp;refine az (λX=>⟨X, ?_⟩) (λan=> ?_);obtain⟨k,hk,e1,e2,e3,e4,e5,e6,e7,e8⟩:=hW i X;obtain⟨-,g2⟩:=aic (hS i X) hR e3 e4 e5 e6 e7 e8;rw[aN g1];simp[cQ X ag];refine az (λbl=> ?_) (λp=> ?_);have al:=(QL (bK x v i) v i bl).1;obtain⟨cl,cp⟩:=Zk al;have b8:=Rk hf al;obtain⟨cs,ct,cv,cx⟩:=hf.QN b8;have ca:=Zl hf al;rw[cl,cp];refine az (λ_=>az (λ_=> ?_) (λq=>absurd bl q)) (λq=>absurd b8 q);rw[cs,ct,cv,cx,b6,ca];exact⟨⟨rfl,rfl,rfl,rfl,rfl,rfl,rfl,rfl,rfl,rfl,rfl,rfl,rfl,rfl,rfl,rfl,rfl⟩,aii b6 ca,al,iM b7 bl⟩;have e2:iD (bK x v i) v i 13=2:=g2.resolve_left p;rw[e2];exact hE _ λ_ _ _=>⟨λ_=>rfl,λq=>absurd (q i X) p⟩
 have bg:i=Y v:=aLJ X (aLF an);subst bg;exact hE _ λ_ _ _=>⟨λq=>absurd b7 q,λ_=>rfl⟩
end
section
variable{R:bD->Prop}{a:aP}{t:T}{O:aa}{L:dN}
variable[Inhabited dJ]
def aDv(h:gH)(ao ab:Int)(x:Nat->Int)(V:RV)(s:lQ V)(y:Nat->Int)(r:RV)(C:Sl r):∃o,TB.Ev 172 (wk++[.i ao,.i ab,.i (x 0),.i (x 1),.i (x 2),.i (x 3),.i (x 4),.i (x 5),.i (x 6),.i (x 7),.i (x 8),.i (x 9),.i (x 10),.i (x 11),.i (x 12),.r V,.i (y 1),.i (y 2),.i (y 3),.i (y 4),.i (y 5),.i (y 6),.i (y 7),.i (y 8),.i (y 9),.i (y 10),.i (y 11),.i (y 12),.i (y 13),.i (y 14),.i (y 15),.i (y 16),.r r]) o/\∃Q,o=.ret Q/\Fv ao ab x V y r Q:=by
 refine dm rfl rfl (.inl rfl) ?_;have H:=ME ao ab h;have p:=Zj ao ab h;have hn:=H.n;have m:=ah9 h ao ab;obtain⟨o,h2,b,rfl,l⟩:=aia _ H r C;have g:=aig V s (y 1) (y 2) (y 3) (y 4) (y 5) (y 6) (y 7) (y 8) (y 9) (y 10) (y 11) (y 12) (y 13) (y 14) (y 15) (y 16);simp only[wk,aIF,aIJ] at m;simp[ag6,wk,aN m];refine az (λW=> ?_) (λW=>⟨λ_=>rfl,λq=>absurd q W,λq=>absurd q W,λq=>absurd q W,λq=>absurd q W⟩);refine az (λa2=> ?_) (λa2=> ?_)
 case refine_2=>
  have e:=Rh x a2;rw[e];exact⟨λq=>absurd W q,λ_ _=>rfl,λ_ q=>absurd q a2,λ_ q=>absurd q a2,λ_ q=>absurd q a2⟩
 simp[aN g];refine az (λP=> ?_) (λP=>⟨λq=>absurd W q,λ_ q=>absurd a2 q,λ_ _ _=>rfl,λ_ _ q=>absurd q P,λ_ _ q=>absurd q P⟩);simp[aN h2];refine az (λB=> ?_) (λB=>⟨λq=>absurd W q,λ_ q=>absurd a2 q,λ_ _ q=>absurd P q,λ_ _ _ _=>rfl,λ_ _ _ q=>absurd (l.2 q) B⟩);have G:=l.1 B;obtain⟨v,F⟩:=Ij G;have D:=F.1;have f:∀Q,((¬oW x v (bL ao ab).length->Q=It 2)/\(oW x v (bL ao ab).length->Q=[.i (jk (ju y x v) x v (Y v) 0),.i (jk (ju y x v) x v (Y v) 1),.i (jk (ju y x v) x v (Y v) 2),.i (jk (ju y x v) x v (Y v) 3),.i 0]))->Fv ao ab x V y r Q:=λQ k=>⟨λq=>absurd W q,λ_ q=>absurd a2 q,λ_ _ q=>absurd P q,λ_ _ _ q=>absurd G q,λ_ _ _ _ v' al=>by
  have e:=MH H G al F;subst e;exact k⟩
 obtain⟨o,d,b',w,rfl,g2,g3⟩:=auH H p C G F x a2;obtain⟨k1,k2,k3,k4⟩:=Yy V s _ _ _ _ _ _ _ _ _ _ _ _ _ _ _ _ P;obtain⟨o,a,f0,g,f2,f3,rfl,hQ⟩:=aDu H p C G F x V y k1 k2 k3 k4;simp only[aIF,aIJ] at d a;rw[aN d];simp;refine az (λa5=> ?_) (λa5=>f _ ⟨λ_=>rfl,λq=>absurd q (g3 (by simpa using a5))⟩);obtain⟨rfl,hW⟩:=g2 a5;rw[aN a];have N:=hQ.fg;have af:=Rk N a2;obtain⟨ex,ey⟩:=Zk a2;obtain⟨v0,v1,v2,v3⟩:=N.QN af;have hp:=Zl N a2;have hl:=aid x v (bL ao ab).length;simp[ex,ey];rw[v0,v1,v2,v3];clear ex ey af v0 v1 v2 v3;obtain⟨-,rfl,rfl,rfl,rfl⟩:=hQ;refine cZ ((bL ao ab).length+1) (λi M=>1<=i/\M=[.i (jk (ju y x v) x v (i-1) 0),.i (jk (ju y x v) x v (i-1) 1),.i (jk (ju y x v) x v (i-1) 2),.i (jk (ju y x v) x v (i-1) 3)]/\aM (jk (ju y x v) x v (i-1) 0) (jk (ju y x v) x v (i-1) 1) (jk (ju y x v) x v (i-1) 2) (jk (ju y x v) x v (i-1) 3)=true) ⟨1,rfl,by omega,by omega, ?_⟩ ?_;simp only[ju,D];exact⟨rfl,hp⟩;rintro i _ hi ⟨bk,rfl,A⟩;obtain⟨i,rfl⟩:∃i',i=i'+1:=⟨i-1,by omega⟩;simp only[aK3] at A⊢;simp[hl];refine az (λhi=> ?_) (λbl=> ?_);have z:i<(bL ao ab).length:=by omega
 have u:rS (bK x v (i+1)):=(QL (bK x v i) v i (hW i z)).1;have c:∀j<13,bB (cellAt (vH x v (bL ao ab).length) ((i+1:Nat):Int) j).val=bK x v (i+1) j:=λj hj=>aie x v (by omega) j hj
 have c0:=c 0 (by omega);have c1:=c 1 (by omega);rw[show((i+1:Nat):Int)=(i:Int)+1 by omega] at c0 c1;have fb:∀{X:Nat->aV->Prop}{M:aV},HT (U ⟨0,Fi ((bL ao ab).length+1) X,C0 ((bL ao ab).length+1),(bL ao ab).length-i⟩) (.i (au .add I ((i:Int)+1) 1)::M)=X (i+1+1) M:=λ{X M}=>by
  have q:=cQ (aq:=0) (J:=X) (rest:=M) (show i+1<(bL ao ab).length+1 by omega) (by omega);rw[show((i+1:Nat):Int)=(i:Int)+1 by omega,Nat.add_sub_add_right] at q;exact q
 have an:=Rk N u;obtain⟨a0,a9⟩:=Zk u;obtain⟨bb,bd,bf,bg⟩:=N.QN an;have ag:=Zl N u;rw[c0,c1,a0,a9,bb,bd,bf,bg,A,ag,fb];refine⟨by omega,by omega, ?_, ?_⟩;simp only[aK3];rw[<-D];rfl;have:=aii A ag;simp only[aK3];rw[<-D] at this;exact this;have z:i=(bL ao ab).length:=by omega
 subst z;rw[<-D];exact f _ ⟨λq=>absurd hW q,λ_=>rfl⟩
def u90(h:gH)(ao ab:Int)(x:Nat->Int)(V:RV)(G:lQ V)(y:Nat->Int)(r:RV)(F:Sl r):∃o,TB.Ev 90 (wk++[.i ao,.i ab,.i (x 0),.i (x 1),.i (x 2),.i (x 3),.i (x 4),.i (x 5),.i (x 6),.i (x 7),.i (x 8),.i (x 9),.i (x 10),.i (x 11),.i (x 12),.r V,.i (y 1),.i (y 2),.i (y 3),.i (y 4),.i (y 5),.i (y 6),.i (y 7),.i (y 8),.i (y 9),.i (y 10),.i (y 11),.i (y 12),.i (y 13),.i (y 14),.i (y 15),.i (y 16),.r r]) o/\∃N,o=.ret N/\iP (kI 5) N=true:=by
 obtain⟨o,X,N,rfl,k⟩:=x90 h ao ab x V G y r F;refine⟨_,X,_,rfl, ?_⟩;by_cases X:eE ao ab=0;by_cases W:rS x;by_cases Q:MJ V y=0;by_cases P:lq (bL ao ab) r;obtain⟨v,M⟩:=Ij P;by_cases H:oW x v (bL ao ab).length;rw[(k.w X W Q P v M).2 H];rfl;rw[(k.w X W Q P v M).1 H];rfl;rw[k.m X W Q P];rfl;rw[k.b X W Q];rfl;rw[k.p X W];rfl;rw[k.c X];rfl
def auU(h:gH)(ao ab:Int)(x:Nat->Int)(X:RV)(V:lQ X)(y:Nat->Int)(r:RV)(Q:Sl r):∃W,TB.Ev 90 (wk++[.i ao,.i ab,.i (x 0),.i (x 1),.i (x 2),.i (x 3),.i (x 4),.i (x 5),.i (x 6),.i (x 7),.i (x 8),.i (x 9),.i (x 10),.i (x 11),.i (x 12),.r X,.i (y 1),.i (y 2),.i (y 3),.i (y 4),.i (y 5),.i (y 6),.i (y 7),.i (y 8),.i (y 9),.i (y 10),.i (y 11),.i (y 12),.i (y 13),.i (y 14),.i (y 15),.i (y 16),.r r]) (.ret W)/\TB.Ev 172 (wk++[.i ao,.i ab,.i (x 0),.i (x 1),.i (x 2),.i (x 3),.i (x 4),.i (x 5),.i (x 6),.i (x 7),.i (x 8),.i (x 9),.i (x 10),.i (x 11),.i (x 12),.r X,.i (y 1),.i (y 2),.i (y 3),.i (y 4),.i (y 5),.i (y 6),.i (y 7),.i (y 8),.i (y 9),.i (y 10),.i (y 11),.i (y 12),.i (y 13),.i (y 14),.i (y 15),.i (y 16),.r r]) (.ret W)/\Fv ao ab x X y r W:=by
 obtain⟨o,M,W,rfl,P⟩:=x90 h ao ab x X V y r Q;obtain⟨G,N,F,rfl,H⟩:=aDv h ao ab x X V y r Q;rw[<-P.eq H] at N;exact⟨_,M,N,P⟩
end
section
variable{R:bD->Prop}{C:aP}{t:T}{O:aa}{L:dN}
variable[Inhabited dJ]
def zj(f:Nat->Int):Nat->Int
 |0=>0
 |n+1=>if zj f n=0 then f n else zj f n
def auV(h:∀k<Q,X k=0):zj X Q=0:=by
 induction Q with
 |zero=>rfl
 |succ Q W=>rw[zj,if_pos (W λk V=>h k (by omega))];exact h Q (by omega)
def aDw(h:∀k<Q,X k=0)(P:Q<D)(W:X Q≠0):zj X D=X Q:=by
 induction D with
 |zero=>omega
 |succ D V=>
  by_cases e:Q=D;subst e;rw[zj,if_pos (auV h)];have:=V (by omega);rw[zj,if_neg (by rw[this];exact W),this]
def uk(ab:Int)(u l g:RV)(k:Nat):Int:=if cb u k 0=J then H4 ab l g k 13 else 0
def vJ(e:Int):bD:=.ret [.i 0,.r (bT []),.r (bT []),.r (bT []),.r (bT []),.r (bT []),.i e]
structure MK(ab:Int)(A u l g M F S V B:RV):Prop where
 m:Sl M/\Y M.rows=Y be.rows/\∀i<Y be.rows,cb M i 0=cb u i 0
 f:Sl F/\Y F.rows=Y be.rows/\∀i<Y be.rows,∀j<13,ci F i j=ci l i j
 s:Sl S/\Y S.rows=Y be.rows/\∀i<Y be.rows,∀j<13,ci S i j=gS ab u l g i j
 v:Sl V/\Y V.rows=Y be.rows/\∀i<Y be.rows,Sl (cr 96 V i)/\(cr 96 V i).rows=(cr 96 g i).rows
 b:Sl B/\Y B.rows=Y be.rows/\∀i<Y be.rows,∀j<4,ci B i j=gB ab u l A g i j
structure xz(ab:Int)(A u l g:RV)(o:bD):Prop where
 c:ji≠0->o=vJ ji
 a:ji=0->(ab<0\/eD<=ab)->o=vJ 1
 r:ji=0->(0<=ab/\ab<eD)->¬zi ab A u l g->o=vJ 310
 e:ji=0->(0<=ab/\ab<eD)->zi ab A u l g->zj (uk ab u l g) (Y be.rows)≠0->o=vJ (zj (uk ab u l g) (Y be.rows))
 k:ji=0->(0<=ab/\ab<eD)->zi ab A u l g->zj (uk ab u l g) (Y be.rows)=0->∃M F S V B,o=.ret [.i ab,.r M,.r F,.r S,.r V,.r B,.i 0]/\MK ab A u l g M F S V B
section
variable{ab:Int}{A u l g:RV}
def auW(h:ji≠0):xz ab A u l g (vJ ji):=⟨λ_=>rfl,λq=>absurd q h,λq=>absurd q h,λq=>absurd q h,λq=>absurd q h⟩
def Zm(h:ji=0)(X:ab<0\/eD<=ab):xz ab A u l g (vJ 1):=⟨λq=>absurd h q,λ_ _=>rfl,λ_ q=>by omega,λ_ q=>by omega,λ_ q=>by omega⟩
def auX(h:ji=0)(W:0<=ab/\ab<eD)(X:¬zi ab A u l g):xz ab A u l g (vJ 310):=⟨λq=>absurd h q,λ_ q=>by omega,λ_ _ _=>rfl,λ_ _ q=>absurd q X,λ_ _ q=>absurd q X⟩
def auY(h:ji=0)(M:0<=ab/\ab<eD)(W:zi ab A u l g)(V:Q<Y be.rows)(P:∀k<Q,uk ab u l g k=0)(N:cb u Q 0=J)(X:H4 ab l g Q 13≠0):xz ab A u l g (vJ (H4 ab l g Q 13)):=by
 have e:uk ab u l g Q=H4 ab l g Q 13:=by rw[uk,if_pos N]
 have:=aDw P V (by rw[e];exact X);rw[e] at this;exact⟨λq=>absurd h q,λ_ q=>by omega,λ_ _ q=>absurd W q,λ_ _ _ _=>by rw[this],λ_ _ _ q=>absurd (this.symm.trans q) X⟩
def auZ(h:ji=0)(P:0<=ab/\ab<eD)(X:zi ab A u l g)(W:∀k<Y be.rows,uk ab u l g k=0){S V B:RV}(Q:MK ab A u l g H x S V B):xz ab A u l g (.ret [.i ab,.r H,.r x,.r S,.r V,.r B,.i 0]):=
 ⟨λq=>absurd h q,λ_ q=>by omega,λ_ _ q=>absurd X q,λ_ _ _ q=>absurd (auV W) q,λ_ _ _ _=>⟨_,_,_,_,_,rfl,Q⟩⟩
end
def aDx(h:gH)(ab:Int)(l A g:RV)(i:Nat)(N:Sl (cr 96 g i))(D:aS A i=0)(C:H4 ab l g i 13=0):m90 ab l A g i 4=0:=by
 obtain⟨-,-,V⟩:=auP h i ab (ci l i) (cr 96 g i) N;obtain⟨k,B,-,y⟩:=auU h i ab (ci l i) _ (yX (cellAt A.rows (i:Int) 0)) (ci A i) (cr 96 g i) N;have M:=oU _ (u90 h i ab (ci l i) _ (yX (cellAt A.rows (i:Int) 0)) (ci A i) (cr 96 g i) N);simp only[H3,H0,ss] at M;have d:=Cb B M;injection d with d;subst d;have z:oi 89 (dF i ab (ci l i) (cr 96 g i)) 13=0:=C;have x:∀{a b c d e H:Int}{p q r s:Int},([.i a,.i b,.i c,.i d,.i e]:aV)=[.i p,.i q,.i r,.i s,.i H]->e=H:=λq=>by simp at q;exact q.2.2.2.2
 have Q:∀{u X a2 W P a5 a6 a7 a8 o n dp dq G e:Int},([.i u,.i X,.i a2,.i W,.i P,.i a5,.i a6,.i a7,.i a8,.i o,.i n,.i dp,.i dq,.i G]:aV)=MF e->G=e:=λq=>by simp[MF] at q;exact q.2.2.2.2.2.2.2.2.2.2.2.2.2
 by_cases X:eE i ab=0;by_cases a2:rS (ci l i);by_cases W:lq (bL i ab) (cr 96 g i);obtain⟨v,F⟩:=Ij W;by_cases P:oW (ci l i) v (bL i ab).length;exact x ((y.w X a2 D W v F).2 P);have:=Q ((V.w X a2 W v F).1 P);omega;have:=Q (V.m X a2 W);omega;have:=Q (V.p X a2);omega;have:=Q (V.c X);omega
def au0{X:aH}(h:Y P=Q):ci (bT (P++[X])) Q D=bB (X.getD D default).val:=by
 show bB (cellAt (P++[X]) Q D).val=_;rw[as8 h]
def au1(h:Q<Y P):ci (bT (P++F)) Q D=ci (bT P) Q D:=by
 show bB (cellAt (P++F) Q D).val=bB (cellAt P Q D).val;rw[as9 h]
structure Rl(ab:Int)(A u l g:RV)(n:Nat)(vs vb:am):Prop where
 s:Y vs=n/\∀i<n,∀j<13,ci (bT vs) i j=gS ab u l g i j
 b:Y vb=n/\∀i<n,∀j<4,ci (bT vb) i j=gB ab u l A g i j
def Rl.add{u l g:RV}(h:Rl W H u l g Q P F){V N:aH}(M:∀j<13,bB (V.getD j default).val=gS W u l g Q j)(G:∀j<4,bB (N.getD j default).val=gB W u l H g Q j):Rl W H u l g (Q+1) (P++[V]) (F++[N]):=by
 refine⟨⟨by simp[h.s.1],λi D j X=> ?_⟩,by simp[h.b.1],λi D j X=> ?_⟩;by_cases e:i=Q;subst e;rw[au0 h.s.1];exact M j X;rw[au1 (by rw[h.s.1];omega)];exact h.s.2 i (by omega) j X;by_cases e:i=Q;subst e;rw[au0 h.b.1];exact G j X;rw[au1 (by rw[h.b.1];omega)];exact h.b.2 i (by omega) j X
def zk(h:Y P<=140737488355328):Sl (bT P):=⟨⟨_,_,_,rfl⟩,by simp[bT,lenOf],by simpa[bT] using h⟩
set_option maxHeartbeats 8000000 in
def Zn (h:gH) (ab:Int) (wg A u l g:RV) (a0:Sl A) (c:Sl u) (a:Sl l) (a9:Sl g) (b5:∀i<Y g.rows,Sl (cr 96 g i)/\(cr 96 g i).rows.length<=100):∃o,TB.Ev 13 (wk++[.r wg,.r A,.i ab,.r u,.r l,.r g]) o/\xz ab A u l g o:=by
 obtain⟨P,M⟩:∃P:bD->Prop,∀o,P o<->(xz ab A u l g o/\∀v,o≠ .bn v):=⟨_,λ_=>Iff.rfl⟩
 suffices b6:∃o,TB.Ev 13 (wk++[.r wg,.r A,.i ab,.r u,.r l,.r g]) o/\P o by
  obtain⟨o,g1,g2⟩:=b6;exact⟨o,g1,((M o).1 g2).1⟩
 refine dm rfl rfl (.inr λv w=>((M _).1 w).2 v rfl) ?_;obtain⟨h1,h2⟩:=C1 xl h;simp only[wk] at h1;have x:∀{e:Int},∀v,vJ e≠ .bn v:=λv q=>by cases q
 simp[T13,wk,aN h1];simp only[h.rl.len,a0.len,c.len,a.len,a9.len];refine az (λz=> ?_) (λX=>(M _).2 ⟨auW X,x⟩);have hw:=h2 z;have hn:=hw.nr;refine az (λX=>(M _).2 ⟨Zm z (.inl X),x⟩) (λcc=> ?_);refine az (λX=>(M _).2 ⟨Zm z (.inr X),x⟩) (λcf=> ?_);have af:0<=ab/\ab<eD:=by omega
 have H:¬zi ab A u l g->P (.ret [.i 0,.r (bT []),.r (bT []),.r (bT []),.r (bT []),.r (bT []),.i 310]):=λX=>(M _).2 ⟨auX z af X,x⟩
 refine az (λQQ=> ?_) (λX=>H λp=>X (by have:=p.b.1;omega));refine az (λMr=> ?_) (λX=>H λp=>X (by have:=p.m;omega));refine az (λMs=> ?_) (λX=>H λp=>X (by have:=p.f;omega));refine az (λMt=> ?_) (λX=>H λp=>X (by have:=p.r;omega));have b7:Y A.rows=Y be.rows:=by omega
 have bb:Y u.rows=Y be.rows:=by omega
 have bg:Y l.rows=Y be.rows:=by omega
 have b8:Y g.rows=Y be.rows:=by omega
 have bk:lenOf A.val=(Y be.rows:Int):=by rw[a0.len];exact QQ
 have bl:lenOf u.val=(Y be.rows:Int):=by rw[c.len];exact Mr
 have br:lenOf l.val=(Y be.rows:Int):=by rw[a.len];exact Ms
 have bs:lenOf g.val=(Y be.rows:Int):=by rw[a9.len];exact Mt
 have ag:Y be.rows<=140737488355328:=by omega
 have G:∀i<Y be.rows,Sl (cr 96 g i)/\(cr 96 g i).rows.length<=100:=λi W=>b5 i (by omega)
 refine cZ (Y be.rows) (λi al=>al=[]/\∀k<i,aS A k=0/\rS (ci l k)/\(cb u k 0=E->(cr 96 g k).rows.length=0)/\(cb u k 0=J->Ft k ab (cr 96 g k)=0)) ⟨0,rfl,by omega,rfl,by omega⟩ ?_;rintro i _ W ⟨rfl,Q⟩;simp[bk,bl,br,bs];refine az (λW=> ?_) (λca=> ?_);have bt:=(su (t85 xl h i ab (cr 96 g i) (G i W).1)).1;simp only[wk,cr,aIF,aIJ] at bt;have bx:=(G i W).1.len;simp only[cr] at bx;have b0:∀k<i,aS A k=0/\rS (ci l k)/\(cb u k 0=E->(cr 96 g k).rows=[])/\(cb u k 0=J->Ft k ab (cr 96 g k)=0):=λk V=>⟨(Q k V).1,(Q k V).2.1,λq=>aJe.1 ((Q k V).2.2.1 q),(Q k V).2.2.2⟩
 simp[cQ W ag,W,aN bt,bx];refine az (λa1=> ?_) (λX=>H λp=>X (p.b.2 i (by omega)));refine az (λa2=> ?_) (λX=>H λp=>X (p.k i W).1);refine az (λN=> ?_) (λN=> ?_);refine az (λD=> ?_) (λX=>H λp=>X ((p.k i W).2.2 N));exact iM b0 ⟨a1,a2,λq=>absurd N (by simp only[cb] at q;simp[q]),λ_=>D⟩;refine az (λD=> ?_) (λX=>H λp=>X ?_);exact iM b0 ⟨a1,a2,λ_=>D,λq=>absurd q N⟩;have:=(p.k i W).2.1 (by simpa[cb] using N);exact aJe.1 this;have an:i=Y be.rows:=by omega
 subst an;have hR:zi ab A u l g:=⟨⟨b7,λk V=>(Q k (by omega)).1⟩,bb,bg,b8,λk V=>(Q k V).2⟩;rw[aN (e86 u c (by omega))];simp;rw[aN (e87 l a (by omega))];simp;refine cZ (Y be.rows) (λi al=>∃vs C vb,al=[.r (bT vs),.r (bT C),.r (bT vb)]/\Rl ab A u l g i vs vb/\Y C=i/\(∀k<i,cellAt C (k:Int) 0=bT (cr 96 g k).rows)/\∀k<i,uk ab u l g k=0) ⟨0,rfl,by omega,[],[],[],rfl,⟨⟨rfl,by omega⟩,rfl,by omega⟩,rfl,by omega,by omega⟩ ?_;rintro i _ W ⟨vs,C,vb,rfl,y,n,w,d⟩;have ch:=y.s.1;have cl:=y.b.1;simp[bk,bl,br,bs];refine az (λW=> ?_) (λca=> ?_);have b1:=e88 (cr 96 g i) (G i W).1 (by have:=(G i W).2;omega);simp only[cr] at b1;simp[cQ W ag,W,aN b1];have b2:∀k<i+1,cellAt (C++[[bT (cr 96 g i).rows]]) (k:Int) 0=bT (cr 96 g k).rows:=λk V=>by
  by_cases e:k=i;subst e;rw[as8 n];rfl;rw[as9 (by omega)];exact w k (by omega)
 refine⟨by omega,az (λN=> ?_) (λN=> ?_)⟩;have F:cb u i 0=true:=N;have b3:=oU _ (u89 h i ab (ci l i) (cr 96 g i) (G i W).1);simp only[wk,ci,cr,aIF,aIJ,H3,H0,ss] at b3;rw[aN b3];simp;refine az (λD=> ?_) (λX=>(M _).2 ⟨auY z af hR W d F X,x⟩);have b4:=oU _ (u90 h i ab (ci l i) _ (yX (cellAt A.rows (i:Int) 0)) (ci A i) (cr 96 g i) (G i W).1);simp only[wk,ci,cr,aIF,aIJ,H3,H0,ss] at b4;rw[aN b4];simp[cQ W ag];refine az (λa5=> ?_) (λX=>absurd (aDx h ab l A g i (G i W).1 (Q i W).1 D) X);refine⟨by omega,by omega,_,_,_,⟨rfl,rfl,rfl⟩,y.add (λj B=> ?_) (λj B=> ?_),by simp[n],b2, ?_⟩;rw[gS,if_pos F]
 match j,B with
 |0,_|1,_|2,_|3,_|4,_|5,_|6,_|7,_|8,_|9,_|10,_|11,_|12,_=>rfl
 rw[gB,if_pos F]
 match j,B with
 |0,_|1,_|2,_|3,_=>rfl
 exact iM d (by rw[uk,if_pos F];exact D);have F:¬cb u i 0=true:=N;refine az (λD=> ?_) (λX=>absurd ((aBd l A i).2 ⟨(Q i W).2.1,(Q i W).1⟩) X);refine⟨by omega,by omega,_,_,_,⟨rfl,rfl,rfl⟩,y.add (λj B=> ?_) (λj B=> ?_),by simp[n],b2, ?_⟩;rw[gS,if_neg F]
 match j,B with
 |0,_|1,_|2,_|3,_|4,_|5,_|6,_|7,_|8,_|9,_|10,_|11,_|12,_=>rfl
 rw[gB,if_neg F]
 match j,B with
 |0,_|1,_|2,_|3,_=>rfl
 exact iM d (by rw[uk,if_neg F]);have an:i=Y be.rows:=by omega
 subst an;refine(M _).2 ⟨auZ z af hR d ⟨⟨zk (by omega),bb,λi _=>rfl⟩,⟨zk (by omega),bg,λi _ j _=>rfl⟩,⟨zk (by omega),y.s⟩,⟨zk (by omega),n,λk V=> ?_⟩,⟨zk (by omega),y.b⟩⟩,λv q=>by cases q⟩;have e:cr 96 (bT C) k=bT (cr 96 g k).rows:=by
  have e:=w k V;show cz (.sl 96) (cellAt C k 0)=_;rw[e];rfl
 rw[e];exact⟨zk (by have:=(G k V).2;omega),rfl⟩
end
section
variable{R:bD->Prop}{ks:aP}{t:T}{O:aa}{L:dN}
variable[Inhabited dJ]
def aDy(x:Nat->Int)(v:RV)(a:Nat->Int):eK TB.Ev R 122 [.i (x 0),.i (x 1),.i (x 2),.i (x 3),.i (x 4),.i (x 5),.i (x 6),.i (x 7),.i (x 8),.i (x 9),.i (x 10),.i (x 11),.i (x 12),.r (cz .str v),.i (a 1),.i (a 2),.i (a 3),.i (a 4),.i (a 5),.i (a 6),.i (a 7),.i (a 8),.i (a 9),.i (a 10),.i (a 11),.i (a 12),.i (a 13),.i (a 14),.i (a 15),.i (a 16)] ks t O L=eL TB.Ev R (.ret [.i (xo (x 0) (x 1) (x 2) (x 3) (x 4) (x 5) (x 6) (x 7) (x 8) (x 9) (x 10) (x 11) (x 12) (cz .str v) (a 1) (a 2) (a 3) (a 4) (a 5) (a 6) (a 7) (a 8) (a 9) (a 10) (a 11) (a 12) (a 13) (a 14) (a 15) (a 16) 0),.i (xo (x 0) (x 1) (x 2) (x 3) (x 4) (x 5) (x 6) (x 7) (x 8) (x 9) (x 10) (x 11) (x 12) (cz .str v) (a 1) (a 2) (a 3) (a 4) (a 5) (a 6) (a 7) (a 8) (a 9) (a 10) (a 11) (a 12) (a 13) (a 14) (a 15) (a 16) 1),.i (xo (x 0) (x 1) (x 2) (x 3) (x 4) (x 5) (x 6) (x 7) (x 8) (x 9) (x 10) (x 11) (x 12) (cz .str v) (a 1) (a 2) (a 3) (a 4) (a 5) (a 6) (a 7) (a 8) (a 9) (a 10) (a 11) (a 12) (a 13) (a 14) (a 15) (a 16) 2),.i (xo (x 0) (x 1) (x 2) (x 3) (x 4) (x 5) (x 6) (x 7) (x 8) (x 9) (x 10) (x 11) (x 12) (cz .str v) (a 1) (a 2) (a 3) (a 4) (a 5) (a 6) (a 7) (a 8) (a 9) (a 10) (a 11) (a 12) (a 13) (a 14) (a 15) (a 16) 3),.i (xo (x 0) (x 1) (x 2) (x 3) (x 4) (x 5) (x 6) (x 7) (x 8) (x 9) (x 10) (x 11) (x 12) (cz .str v) (a 1) (a 2) (a 3) (a 4) (a 5) (a 6) (a 7) (a 8) (a 9) (a 10) (a 11) (a 12) (a 13) (a 14) (a 15) (a 16) 4)]) ks t O L:=by
 obtain⟨o,W,Q,rfl,V⟩:=aDl x (cz .str v) (yX v) a;have X:=oU _ (t27 (x 0) (x 1) (x 2) (x 3) (x 4) (x 5) (x 6) (x 7) (x 8) (x 9) (x 10) (x 11) (x 12) (cz .str v) (yX v) (a 1) (a 2) (a 3) (a 4) (a 5) (a 6) (a 7) (a 8) (a 9) (a 10) (a 11) (a 12) (a 13) (a 14) (a 15) (a 16));simp only[H3,H0,ss] at X;have d:=Cb W X;injection d with d;subst d;exact aN V
def r42(h:gH)(u:ji=0)(ab:Int)(c:0<=ab/\ab<eD)(X N Q W:RV)(a4:Sl X)(a:Sl N)(af:Sl Q)(ag:Sl W)(al:∀i<Y W.rows,Sl (cr 96 W i))(G:zi ab X N Q W):∃o,TB.Ev 42 (wk++[.r X,.i ab,.r N,.r Q,.r W]) o/\xz ab X N Q W o/\∃b M F S V B e,o=.ret [.i b,.r M,.r F,.r S,.r V,.r B,.i e]:=by
 have QQ:=G.b.1;have Mr:=G.m;have Ms:=G.f;have Mt:=G.r;have hw:=(C1 xl h).2 u;have hn:=hw.nr;have an:Y be.rows<=140737488355328:=by omega
 have q:lenOf X.val=(Y be.rows:Int):=by rw[a4.len,QQ]
 have y:lenOf N.val=(Y be.rows:Int):=by rw[a.len,Mr]
 have x:lenOf Q.val=(Y be.rows:Int):=by rw[af.len,Ms]
 have w:lenOf W.val=(Y be.rows:Int):=by rw[ag.len,Mt]
 refine dm rfl rfl (.inl rfl) ?_;simp[T42,wk,y,x,w];refine⟨by omega, ?_⟩;refine cZ (Y be.rows) (λi a9=>∃p n,a9=[.r (bT p),.r (bT n)]/\Rl ab X N Q W i p n/\∀k<i,uk ab N Q W k=0) ⟨0,rfl,by omega,[],[],rfl,⟨⟨rfl,by omega⟩,rfl,by omega⟩,by omega⟩ ?_;rintro i _ D ⟨p,n,rfl,C,v⟩;have bk:=C.s.1;have bl:=C.b.1;simp[q,y,x,w];refine az (λD=> ?_) (λbr=> ?_);have l:=al i (by omega);have A:=r96 h i ab (ci Q i) (cr 96 W i) l (cb N i 0);have bb:=(auU h i ab (ci Q i) _ (yX (cellAt X.rows (i:Int) 0)) (ci X i) (cr 96 W i) l);have a0:=oU _ (u90 h i ab (ci Q i) _ (yX (cellAt X.rows (i:Int) 0)) (ci X i) (cr 96 W i) l);simp only[H3,H0,ss] at a0;obtain⟨ys,g1,g2,-⟩:=bb;have d:=Cb g1 a0;injection d with d;subst d;simp only[wk,ci,cb,cr,MG,aIF,aIJ] at g2;have a1:=λ{R:bD->Prop}{ks t O L}=>aDy (R:=R) (ks:=ks) (t:=t) (O:=O) (L:=L) (ci Q i) (cellAt X.rows (i:Int) 0) (ci X i)
 simp only[ci] at a1;by_cases P:cb N i 0=J;have z:=P;simp only[cb] at z;rw[if_pos P] at A;simp only[wk,ci,cb,cr,MG,aIF,aIJ] at A;rw[aN A];simp[D,cQ D an,z,aN g2,q,y,x,w];refine az (λg=> ?_) (λg=> ?_);refine⟨by omega,by omega,_,_,⟨rfl,rfl⟩,C.add (λj H=> ?_) (λj H=> ?_),iM v (by rw[uk,if_pos P];exact g)⟩;rw[gS,if_pos P]
 match j,H with
 |0,_|1,_|2,_|3,_|4,_|5,_|6,_|7,_|8,_|9,_|10,_|11,_|12,_=>rfl
 rw[gB,if_pos P]
 match j,H with
 |0,_|1,_|2,_|3,_=>rfl
 exact auY u c G D v P g;have z:=P;simp only[cb] at z;rw[if_neg P] at A;simp only[wk,ci,cb,cr,MG,aIF,aIJ] at A;rw[aN A];simp[D,cQ D an,z,a1,q,y,x,w];refine⟨by omega,by omega,_,_,⟨rfl,rfl⟩,C.add (λj H=> ?_) (λj H=> ?_),iM v (by rw[uk,if_neg P])⟩;rw[gS,if_neg P]
 match j,H with
 |0,_|1,_|2,_|3,_|4,_|5,_|6,_|7,_|8,_|9,_|10,_|11,_|12,_=>rfl
 rw[gB,if_neg P]
 match j,H with
 |0,_|1,_|2,_|3,_=>rfl
 have bg:i=Y be.rows:=by omega
 subst bg;exact(auZ u c G v ⟨⟨zk a.sm,Mr,λi _=>rfl⟩,⟨zk af.sm,Ms,λi _ j _=>rfl⟩,⟨zk (by omega),C.s⟩,⟨zk ag.sm,Mt,λk hk=>⟨al k (by omega),rfl⟩⟩,⟨zk (by omega),C.b⟩⟩)
def r14(h:gH)(ab:Int)(s Q P N W:RV)(G:Sl Q)(D:Sl P)(C:Sl N)(A:Sl W)(z:∀i<Y W.rows,Sl (cr 96 W i)):∃o,TB.Ev 14 (wk++[.r s,.r Q,.i ab,.r P,.r N,.r W]) o/\xz ab Q P N W o:=by
 refine dm rfl rfl (.inl rfl) ?_;have y:=r40 h;obtain⟨o,x,b,rfl,w⟩:=r41 h ab Q P N W G D C A z;simp only[wk,aIF,aIJ] at y x;simp[T14,wk,aN y];refine az (λH=> ?_) (λX=>auW X);refine az (λX=>Zm H (.inl X)) (λn=> ?_);refine az (λX=>Zm H (.inr X)) (λm=> ?_);have v:0<=ab/\ab<eD:=by omega
 rw[aN x];simp;refine az (λX=> ?_) (λX=>auX H v λp=>X (w.2 p));obtain⟨o,u,q,l,M,F,S,V,B,e,rfl⟩:=r42 h H ab v Q P N W G D C A z (w.1 X);simp only[wk,aIF,aIJ] at u;rw[aN u];simpa using q
end
section
variable{R:bD->Prop}{d:aP}{t:T}{O:aa}{L:dN}
variable[Inhabited dJ]
section
variable{a b:RV}{n:Nat}
def aDB(W:Sl a)(Q:Sl b)(V:Y a.rows=n)(P:Y b.rows=n)(M:∀i<n,cb b i 0=cb a i 0):TB.Ev 43 [.r a,.r b] (.ret [.b J]):=by
 refine bW rfl rfl (.inl rfl) ?_;have N:=W.sm;rw[V] at N;simp[Yj,W.len,Q.len,V,P];refine cZ n (λ_ H=>H=[]) ⟨0,rfl,by omega,rfl⟩ ?_;rintro i _ X rfl;simp[W.len,Q.len,V,P];intro X;have e:=M i X;simp only[cb] at e;simp[e,cQ X N,X]
def au2(W:Sl a)(Q:Sl b)(V:Y a.rows=n)(P:Y b.rows=n)(M:∀i<n,∀j<13,ci b i j=ci a i j):TB.Ev 44 [.r a,.r b] (.ret [.b J]):=by
 refine bW rfl rfl (.inl rfl) ?_;have N:=W.sm;rw[V] at N;simp[Yk,W.len,Q.len,V,P];refine cZ n (λ_ H=>H=[]) ⟨0,rfl,by omega,rfl⟩ ?_;rintro i _ X rfl;simp[W.len,Q.len,V,P];intro X;have e:=M i X;simp only[ci] at e;simp[e 0,e 1,e 2,e 3,e 4,e 5,e 6,e 7,e 8,e 9,e 10,e 11,e 12,cQ X N,X]
def aDC(X:Sl a)(V:Sl b)(e:b.rows=a.rows):TB.Ev 98 [.r a,.r b] (.ret [.b J]):=by
 refine bW rfl rfl (.inl rfl) ?_;simp[T98,X.len,V.len,e];refine cZ (Y a.rows) (λ_ Q=>Q=[]) ⟨0,rfl,by omega,rfl⟩ ?_;rintro i _ W rfl;simp[X.len,V.len,e];intro W;simp[cQ W X.sm,W]
def aDD(W:Sl a)(Q:Sl b)(V:Y a.rows=n)(P:Y b.rows=n)(M:∀i<n,Sl (cr 96 a i)/\Sl (cr 96 b i)/\(cr 96 b i).rows=(cr 96 a i).rows):TB.Ev 45 [.r a,.r b] (.ret [.b J]):=by
 refine bW rfl rfl (.inl rfl) ?_;have N:=W.sm;rw[V] at N;simp[Yl,W.len,Q.len,V,P];refine cZ n (λ_ H=>H=[]) ⟨0,rfl,by omega,rfl⟩ ?_;rintro i _ X rfl;simp[W.len,Q.len,V,P];intro X;obtain⟨G,F,q3⟩:=M i X;have g:=aDC G F q3;simp only[cr] at g;simp[X,aN g,cQ X N]
end
def aDE{G D M F S V B C A z y w:RV}(h:MK W H x G D M F S V B)(k:MK W H x G D C A z y w):TB.Ev 15 [.i W,.r M,.r F,.r S,.r V,.r B,.i W,.r C,.r A,.r z,.r y,.r w] (.ret [.b J]):=by
 refine bW rfl rfl (.inl rfl) ?_;obtain⟨g,d,c⟩:=h.m;obtain⟨af,ag,al⟩:=k.m;obtain⟨f1,f2,f3⟩:=h.f;obtain⟨an,a0,a1⟩:=k.f;obtain⟨s1,s2,s3⟩:=h.s;obtain⟨a3,a4,a9⟩:=k.s;obtain⟨v1,v2,u⟩:=h.v;obtain⟨bb,bg,q⟩:=k.v;obtain⟨P,N,b3⟩:=h.b;obtain⟨p,o,bk⟩:=k.b;have c1:=aDB g af d ag λi X=>(al i X).trans (c i X).symm
 have c2:=au2 f1 an f2 a0 λi X j Q=>(a1 i X j Q).trans (f3 i X j Q).symm
 have c3:=au2 s1 a3 s2 a4 λi X j Q=>(a9 i X j Q).trans (s3 i X j Q).symm
 have c4:=aDD v1 bb v2 bg λi X=>⟨(u i X).1,(q i X).1,(q i X).2.trans (u i X).2.symm⟩
 have l:=P.sm;rw[N] at l;simp[Yi,aN c1,aN c2,aN c3,aN c4,P.len,p.len,N,o];refine cZ (Y be.rows) (λ_ bl=>bl=[]) ⟨0,rfl,by omega,rfl⟩ ?_;rintro i _ X rfl;simp[P.len,p.len,N,o];intro X;have e:=λj Q=>(bk i X j Q).trans (b3 i X j Q).symm
 simp only[ci] at e;simp[e 0,e 1,e 2,e 3,cQ X l,X]
def xz.both{Q P:RV}{o C:bD}(h:xz W H x Q P o)(k:xz W H x Q P C):(∃e,o=vJ e/\C=vJ e)\/∃M F S V B A z y w v,o=.ret [.i W,.r M,.r F,.r S,.r V,.r B,.i 0]/\C=.ret [.i W,.r A,.r z,.r y,.r w,.r v,.i 0]/\MK W H x Q P M F S V B/\MK W H x Q P A z y w v:=by
 by_cases X:ji=0;by_cases u:W<0\/eD<=W;exact .inl ⟨_,h.a X u,k.a X u⟩;have N:0<=W/\W<eD:=by omega
 by_cases G:zi W H x Q P;by_cases D:zj (uk W x Q P) (Y be.rows)=0;obtain⟨M,F,S,V,B,s,q⟩:=h.k X N G D;obtain⟨A,z,y,w,v,p,a2⟩:=k.k X N G D;exact .inr ⟨_,_,_,_,_,_,_,_,_,_,s,p,q,a2⟩;exact .inl ⟨_,h.e X N G D,k.e X N G D⟩;exact .inl ⟨_,h.r X N G,k.r X N G⟩;exact .inl ⟨_,h.c X,k.c X⟩
def t3(u:TB.Ev 11 [] (.ret [.b J]))(h:gH)(ab:Int)(W Q N P X:RV)(k:Sl W)(A:Sl Q)(z:Sl N)(y:Sl P)(H:Sl X)(G:∀i<Y X.rows,Sl (cr 96 X i)):TB.Ev 3 (wk++[.r W,.r Q,.i ab,.r N,.r P,.r X]) (.ret [.b J]):=by
 refine bW rfl rfl (.inl rfl) ?_;obtain⟨j,x,g,rfl,D⟩:=t12 W Q P X (by rw[H.len];omega);simp only[wk,aIF,aIJ] at x;simp[T3,wk,aN u,aN x];intro s;have D:=D s;have q:∀i<Y X.rows,Sl (cr 96 X i)/\(cr 96 X i).rows.length<=100:=λi w=>⟨G i w,by
  have:=D.im i (by rw[H.len];omega);rw[(G i w).len] at this;omega⟩
 obtain⟨o,v,p⟩:=Zn h ab W Q N P X A z y H q;obtain⟨f,C,m⟩:=r14 h ab W Q N P X A z y H G;simp only[wk,aIF,aIJ] at v C;rw[aN v];rcases p.both m with⟨e,rfl,rfl⟩|⟨M,F,S,V,B,d,c,S',V',B',rfl,rfl,l,a2⟩;simp[vJ,aN C];simp[vJ,aN aBj];simp;simp[aN C,aN (aDE l a2)]
end
