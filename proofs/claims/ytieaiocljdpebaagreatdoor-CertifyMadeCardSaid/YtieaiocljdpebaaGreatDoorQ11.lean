/- Part 11 of the proof; the last part says what is shown. -/
import Derived.Test.YtieaiocljdpebaaGreatDoorQ7
import Derived.Test.YtieaiocljdpebaaGreatDoorQ5
import Derived.Test.YtieaiocljdpebaaGreatDoorQ4
import Derived.Test.YtieaiocljdpebaaGreatDoorQ9
import Derived.Test.YtieaiocljdpebaaGreatDoorQ10
set_option linter.all false
open Bool renaming and_self->aza
open List renaming getElem?_eq_getElem->axK,getElem?_append_left->axL,getD_eq_getElem?_getD->axN,cons_append->axY,mem_cons->axT,mem_append->axS,nil_append->ax2,map_cons->axV,range->ax6,pairwise_cons->ax5,mem_of_getElem?->ax4,mem_map->aya,length_map->ayA,getElem?_set->ayD,append_assoc->azd,take_of_length_le->ay0,getD_cons_zero->ay1,map_nil->ay2,getElem_mem->ayT,mem_of_find?_eq_some->azm,find?_some->az0,getElem?_modify->aA5,length_modify->aDN,take_add_one->aBq
open Option.some renaming injEq->axM
open Nat renaming le_trans->ayt,zero_le->ayK,le_of_not_lt->azD,le_antisymm->azN,mul_le_mul->aA0,succ_le_succ->aAK
open Option renaming map_eq_some_iff->azi
open Int renaming toNat_natCast->ayE,tmod_eq_emod_of_nonneg->aDL,natAbs_mul->aDM,tdiv_eq_ediv_of_nonneg->aDO,emod_lt_of_pos->aDP
namespace Go.Proofs.YtieaiocljdpebaaGreatDoor.Y
open Go.RowKit
noncomputable section
variable{X:Int}{U:Nat}
section
section
def HK(M:List (List RV))(k:Int)(i:Nat):Prop:=∃x∈M,aP 0 x=k/\aP 1 x=(i:Int)
def ajW{c:List RV}(X:c.length=4){k:Int}{i:Nat}:∀{M:List (List RV)},gp M->(HK (eK 3 c M) k i<->HK M k i\/(aP 0 c=k/\aP 1 c=(i:Int)))
 |[],_=>by simp[HK,eK]
 |r::W,h=>by
  have bp:gp W:=⟨(ax5.1 h.keys).2,λx V=>h.four x (by simp[V])⟩;have U:=ajW X (k:=k) (i:=i) bp;have R:=arG X (h.four r (by simp));simp only[eK];split;rename_i Z;have Z:=R.1 Z;have Q:=Z 0 (by simp);have P:=Z 1 (by simp);simp only[HK,axT,exists_eq_or_imp,Q,P]
  grind
  simp only[HK,axT,exists_eq_or_imp] at U⊢
  grind
structure Tr(a b:Nat->Prop)(M:List (List RV)):Prop where
 ok:gp M
 ha:∀i,HK M 4 i<->a i
 hb:∀i,HK M 5 i<->b i
def Tr.nil:Tr (λ_=>False) (λ_=>False) []:=⟨gp.nil,λi=>by simp[HK],λi=>by simp[HK]⟩
variable{a b:Nat->Prop}{M:List (List RV)}{c:List RV}
def Tr.aq(Z:c.length=4)(X:aP 0 c≠4/\aP 0 c≠5)(h:Tr a b M):Tr a b (eK 3 c M):=
 ⟨h.ok.ins Z,λi=>by rw[ajW Z h.ok,h.ha];simp[X.1],λi=>by rw[ajW Z h.ok,h.hb];simp[X.2]⟩
def Tr.aft{j:Nat}(Z:c.length=4)(X:aP 0 c=4)(W:aP 1 c=(j:Int))(h:Tr a b M):Tr (λi=>a i\/i=j) b (eK 3 c M):=
 ⟨h.ok.ins Z,λi=>by rw[ajW Z h.ok,h.ha,X,W];simp[show((j:Int)=(i:Int))<->i=j by omega],λi=>by rw[ajW Z h.ok,h.hb,X];simp⟩
def Tr.box{j:Nat}(Z:c.length=4)(X:aP 0 c=5)(W:aP 1 c=(j:Int))(h:Tr a b M):Tr a (λi=>b i\/i=j) (eK 3 c M):=
 ⟨h.ok.ins Z,λi=>by rw[ajW Z h.ok,h.ha,X];simp,λi=>by rw[ajW Z h.ok,h.hb,X,W];simp[show((j:Int)=(i:Int))<->i=j by omega]⟩
def Tr.congr{Z X:Nat->Prop}(h:Tr a b M)(W:∀i,a i<->Z i)(V:∀i,b i<->X i):Tr Z X M:=⟨h.ok,λi=>(h.ha i).trans (W i),λi=>(h.hb i).trans (V i)⟩
def aBz:HK (Iz M) X U<->HK M X U:=by
 have P:(aU (aI.lex [0,1,2] false).lt (M.map mT)).Perm (M.map mT):=zR _;have Z:∀x,aP 0 (mT x)=aP 0 x:=λx=>aj5 0 (by simp)
 have W:∀x,aP 1 (mT x)=aP 1 x:=λx=>aj5 1 (by simp)
 unfold HK Iz;constructor;rintro⟨x,Q,V,R⟩;obtain⟨y,O,rfl⟩:=aya.1 Q;obtain⟨z,N,rfl⟩:=aya.1 (P.mem_iff.1 O);rw[Z,Z] at V;rw[W,W] at R;exact⟨z,N,V,R⟩;rintro⟨x,Q,V,R⟩;refine⟨mT (mT x),aya.2 ⟨_,P.mem_iff.2 (aya.2 ⟨x,Q,rfl⟩),rfl⟩, ?_, ?_⟩;rw[Z,Z];exact V;rw[W,W];exact R
def aCz:(Iz M).length=M.length:=by
 have:=(zR (lt:=(aI.lex [0,1,2] false).lt) (M.map mT)).length_eq;simp only[Iz,ayA] at this⊢;exact this
end
end
variable{Q P:Int}
section
section
variable{R:aT->Prop}{u:List LK}{t:T}{O:aa}{L:List PC}
variable(W D A B C w:Int)(E F G I J:RV)
def V8(x:Int):Prop:=-841<=x/\x<=841
def aCA(a b:Int):∃o,TB.Ev 139 [.i a,.i b] o/\∃Z,o=.ret Z/\V8 (xi Z 0)/\V8 (xi Z 1):=by
 refine dw rfl rfl (.inl rfl) ?_;simp[Z8,V8,xi]
 repeat'(first|intro _|split)
 all_goals
  try
   have X:lenOf (lX[2]?.getD default).val=8:=rfl;rw[show aR .sub .i64 a 1=a-1 by simp only[aR];exact fk (by omega) (by omega),X];have V:a=1\/a=2\/a=3\/a=4\/a=5\/a=6\/a=7\/a=8:=by omega
   refine⟨by omega,by omega, ?_⟩;rcases V with rfl|rfl|rfl|rfl|rfl|rfl|rfl|rfl<;>decide
 all_goals simp
def aqX(a b:Int):V8 (oi 139 [.i a,.i b] 0)/\V8 (oi 139 [.i a,.i b] 1):=by
 obtain⟨o,Z,V,rfl,X⟩:=aCA a b;simp only[oi,mQ Z];exact X
def aBA(s:RV)(x:vA s)(Q P Z N M X V U J I H G F E z y:Int)(h:vC s Q P Z N M X V U J I H G F E z y=0):(1<=Z/\Z<=4)/\(1<=X/\X<=8)/\(1<=V/\V<=8)/\1<=U/\U<=8:=by
 have w:∃o,TB.Ev 75 [.r s,.i Q,.i P,.i Z,.i N,.i M,.i X,.i V,.i U,.i J,.i I,.i H,.i G,.i F,.i E,.i z,.i y] o/\∃e,o=.ret [.i e]/\(e=0->(1<=Z/\Z<=4)/\(1<=X/\X<=8)/\(1<=V/\V<=8)/\1<=U/\U<=8):=by
  refine dw rfl rfl (.inl rfl) ?_;simp[Si,ajE s x];intros;omega
 exact(Ew w).2 h
def aBB{x m:Int}(Z:-m<=x/\x<=m)(V:-Q<=X/\X<=Q):-(m*Q)<=x*X/\x*X<=m*Q:=by
 have U:(x*X).natAbs<=(m*Q).natAbs:=by rw[aDM,aDM];exact aA0 (by omega) (by omega)
 have P:0<=m*Q:=Int.mul_nonneg (by omega) (by omega);omega
structure Bx(l0 h0 l1 h1:Int)(L H L' H':Int):Prop where
 a:L<=l0
 b:h0<=H
 c:L'<=l1
 d:h1<=H'
 e:-1099511627776<=L
 f:H<=1099511627776
 g:-1099511627776<=L'
 h:H'<=1099511627776
def Bd(p:Int):Prop:=-1099511627776<=p/\p<=1099511627776
def Bd.mn(Z:Bd X)(V:Bd Q):Bd (min X Q):=by simp only[Bd] at*;omega
def Bd.mx(Z:Bd X)(V:Bd Q):Bd (max X Q):=by simp only[Bd] at*;omega
def Bx.tip{Z L H V U p N q M:Int}(k:Bx X Q P Z L H V U)(J:Bd p)(I:Bd N)(G:Bd q)(F:Bd M):Bx X Q P Z (min L p) (max H N) (min V q) (max U M):=by
 obtain⟨a,b,c,d,e,f,g,h⟩:=k;simp only[Bd] at*;constructor<;>omega
def aBC(V:-1073741824<=X/\X<=1073741824)(U:1<=Q/\Q<=8)(Z:V8 P):Bd (aR .add .i64 (aR .mul .i64 29 X) (aR .mul .i64 Q P)):=by
 unfold Bd;have:=aBB (x:=Q) (m:=8) (by omega) Z;simp only[aR];rw[fk (n:=29*X) (by omega) (by omega),fk (n:=Q*P) (by omega) (by omega),fk (by omega) (by omega)];omega
def Lm(d l:Int):Prop:=(d=0/\l=0)\/(0<=d/\d<=8/\1<=l/\l<=3)
structure P74(x y f d0 l0 d1 l1 d2 l2 d3 l3 d4 l4:Int):Prop where
 x:-1073741824<=x/\x<=1073741824
 y:-1073741824<=y/\y<=1073741824
 f:0<=f/\f<=7
 m0:Lm d0 l0
 m1:Lm d1 l1
 m2:Lm d2 l2
 m3:Lm d3 l3
 m4:Lm d4 l4
set_option maxHeartbeats 4000000 in
def aqz (x y f Z X V U Q P N M J I:Int):o74 x y f Z X V U Q P N M J I=0<->P74 x y f Z X V U Q P N M J I:=by
 have H:∃o,TB.Ev 74 [.i x,.i y,.i f,.i Z,.i X,.i V,.i U,.i Q,.i P,.i N,.i M,.i J,.i I] o/\∃e,o=.ret [.i e]/\(e=0<->P74 x y f Z X V U Q P N M J I):=by
  refine dw rfl rfl (.inl rfl) ?_;have G:P74 x y f Z X V U Q P N M J I<->(-1073741824<=x/\x<=1073741824)/\(-1073741824<=y/\y<=1073741824)/\(0<=f/\f<=7)/\Lm Z X/\Lm V U/\Lm Q P/\Lm N M/\Lm J I:=⟨λh=>⟨h.x,h.y,h.f,h.m0,h.m1,h.m2,h.m3,h.m4⟩,λh=>⟨h.1,h.2.1,h.2.2.1,h.2.2.2.1,h.2.2.2.2.1,h.2.2.2.2.2.1,h.2.2.2.2.2.2.1,h.2.2.2.2.2.2.2⟩⟩;rw[G];simp[T74,Lm]
  grind
 exact(Ew H).2
set_option maxHeartbeats 8000000 in
def aBD (Z X j h g f e d c x9 ac af ag:Int) (s:RV) (Q:vA s) (P N V M J I H G F E z w v u q l:Int):∃o,TB.Ev 27 [.i Z,.i X,.i j,.i h,.i g,.i f,.i e,.i d,.i c,.i x9,.i ac,.i af,.i ag,.r s,.i P,.i N,.i V,.i M,.i J,.i I,.i H,.i G,.i F,.i E,.i z,.i w,.i v,.i u,.i q,.i l] o/\∃U,o=.ret U/\((xi U 4=0<->o74 Z X j h g f e d c x9 ac af ag=0/\vC s P N V M J I H G F E z w v u q l=0)/\(xi U 4=0->Bx (29*Z-841) (29*Z+841) (29*X-841) (29*X+841) (xi U 0) (xi U 1) (xi U 2) (xi U 3))):=by
 refine dw rfl rfl (.inl rfl) ?_;by_cases k:o74 Z X j h g f e d c x9 ac af ag=0;by_cases m:vC s P N V M J I H G F E z w v u q l=0
 ·have p:=(aqz _ _ _ _ _ _ _ _ _ _ _ _ _).1 k;obtain⟨g1,g2,g3,g4⟩:=aBA s Q P N V M J I H G F E z w v u q l m;have B0:Bx (29*Z-841) (29*Z+841) (29*X-841) (29*X+841) (aR .sub .i64 (aR .mul .i64 29 Z) (aR .mul .i64 841 V)) (aR .add .i64 (aR .mul .i64 29 Z) (aR .mul .i64 841 V)) (aR .sub .i64 (aR .mul .i64 29 X) (aR .mul .i64 841 V)) (aR .add .i64 (aR .mul .i64 29 X) (aR .mul .i64 841 V)):=by
   have px:=p.x;have py:=p.y;simp only[aR];rw[fk (n:=29*Z) (by omega) (by omega),fk (n:=29*X) (by omega) (by omega),fk (n:=841*V) (by omega) (by omega),fk (n:=29*Z-841*V) (by omega) (by omega),fk (n:=29*Z+841*V) (by omega) (by omega),fk (n:=29*X-841*V) (by omega) (by omega),fk (n:=29*X+841*V) (by omega) (by omega)];constructor<;>omega
  have t1:∀r a b,1<=r/\r<=8->Bd (aR .add .i64 (aR .mul .i64 29 Z) (aR .mul .i64 r (oi 139 [.i a,.i b] 0))):=λr a b hr=>aBC p.x hr (aqX a b).1
  have t2:∀r a b,1<=r/\r<=8->Bd (aR .add .i64 (aR .mul .i64 29 X) (aR .mul .i64 r (oi 139 [.i a,.i b] 1))):=λr a b hr=>aBC p.y hr (aqX a b).2
  clear p;simp(config:={maxSteps:=10000000}) [Sg,c75 s Q,k,m,xi]
  repeat'(refine bj (λ_=> ?_) (λ_=> ?_))
  all_goals first|with_reducible exact B0|with_reducible refine Bx.tip B0 ?_ ?_ ?_ ?_
  all_goals repeat'(first|with_reducible apply Bd.mn|with_reducible apply Bd.mx)
  all_goals with_reducible first|exact t1 _ _ _ g2|exact t1 _ _ _ g3|exact t1 _ _ _ g4|exact t2 _ _ _ g2|exact t2 _ _ _ g3|exact t2 _ _ _ g4
 simp[Sg,c75 s Q,k,m,xi];simp[Sg,c75 s Q,k,xi]
end
end
section
section
variable{R:aT->Prop}{I:List LK}{t:T}{O:aa}{L:List PC}
variable(W D A B C H:Int)(s w E F G:RV)
def Pos(a b c d:Int):Prop:=cK a b c d=true/\a<b/\c<d
def R90(o:aT):Prop:=∃a b c d e,o=.ret [.i a,.i b,.i c,.i d,.i e]/\(e=0->Pos a b c d)
def r90(a b c d e:Int):R90 (.ret [.i a,.i b,.i c,.i d,.i e])<->(e=0->Pos a b c d):=⟨λ⟨_,_,_,_,_,h,k⟩=>by cases h;exact k,λk=>⟨_,_,_,_,_,rfl,k⟩⟩
def ara:Pos 0 0 0 0<->False:=by simp[Pos]
def Fg(a b c d:Int):Prop:=(-10000<=a/\a<0)/\(0<b/\b<=10000)/\(-10000<=c/\c<0)/\0<d/\d<=10000
def S6(p Z:Int):Prop:=-10000<=p/\p<=Z/\Z<=10000
def Fg.jn1{Z p V q U:Int}(h:Fg X Q P Z)(a:S6 p V)(b:S6 q U):Fg (jn (cK X Q P Z&&cK p V q U) (min X p)) (jn (cK X Q P Z&&cK p V q U) (max Q V)) (jn (cK X Q P Z&&cK p V q U) (min P q)) (jn (cK X Q P Z&&cK p V q U) (max Z U)):=by
 simp only[Fg,S6] at*;have e:(cK X Q P Z&&cK p V q U)=true:=by simp[cK];omega
 rw[e];simp only[Y.jn,if_true];omega
def Fg.sh{Z x y:Int}(h:Fg X Q P Z)(e:vx X Q P Z x y=0):Pos (jn (vx X Q P Z x y==0) (IntKind.i64.wrap (X+x))) (jn (vx X Q P Z x y==0) (IntKind.i64.wrap (Q+x))) (jn (vx X Q P Z x y==0) (IntKind.i64.wrap (P+y))) (jn (vx X Q P Z x y==0) (IntKind.i64.wrap (Z+y))):=by
 have V:=e;unfold vx at V;split at V;omega;split at V;omega;split at V;rename_i M U N;simp at U;simp only[Fg] at h;rw[e];simp only[Y.jn,beq_self_eq_true,if_true];refine⟨N, ?_, ?_⟩;rw[fk (by omega) (by omega),fk (by omega) (by omega)];omega;rw[fk (by omega) (by omega),fk (by omega) (by omega)];omega;omega
def Pos.join{d Z V U N:Int}(h:Pos X Q P d)(I:Pos Z V U N):Pos (jn (cK X Q P d&&cK Z V U N) (min X Z)) (jn (cK X Q P d&&cK Z V U N) (max Q V)) (jn (cK X Q P d&&cK Z V U N) (min P U)) (jn (cK X Q P d&&cK Z V U N) (max d N)):=by
 obtain⟨M,H,G⟩:=h;obtain⟨J,F,E⟩:=I;rw[M,J];simp only[Y.jn,aza,if_true];refine⟨?_,by omega,by omega⟩;simp[cK] at M J⊢;omega
def Pos.aBG{d:Int}(h:Pos X Q P d):Pos (jn (cK X Q P d) X) (jn (cK X Q P d) Q) (jn (cK X Q P d) P) (jn (cK X Q P d) d):=by
 have:=h.1;rw[this];exact h
def aBH{r:Int}(Z:1<=r/\r<=8):S6 (aR .sub .i64 0 (aR .mul .i64 841 r)) (aR .mul .i64 841 r):=by
 simp only[aR,S6];rw[fk (n:=841*r) (by omega) (by omega),fk (by omega) (by omega)];omega
def aBI(V:1<=X/\X<=8)(Z:V8 Q):S6 (aR .mul .i64 X Q) (aR .mul .i64 X Q):=by
 have:=aBB (x:=X) (m:=8) (by omega) Z;simp only[aR,S6];rw[fk (by omega) (by omega)];omega
set_option maxHeartbeats 8000000 in
def aCC (h:fF s w E F G) (aN ae:Int) (x0 x1 x2 x3 x4 x5 x6 x7 x8 x9 bf bk br:Int) (P:RV) (a0:vA P) (y0 y1 U y3 y4 y q p y8 y9 a1 a2 a3 a4 a5 a6:Int) (r:RV) (hr:Sl r):∃o,TB.Ev 90 (wk W D A B C H s w E F G++[.i aN,.i ae,.i x0,.i x1,.i x2,.i x3,.i x4,.i x5,.i x6,.i x7,.i x8,.i x9,.i bf,.i bk,.i br,.r P,.i y0,.i y1,.i U,.i y3,.i y4,.i y,.i q,.i p,.i y8,.i y9,.i a1,.i a2,.i a3,.i a4,.i a5,.i a6,.r r]) o/\R90 o:=by
 refine dw rfl rfl (.inl rfl) ?_;have h1:=Ey W D A B C H s w E F G mR h aN ae;have m:=(rZ W D A B C H s w E F G mR h).2;have hl:=L9 W D A B C H s w E F G (aN:=aN) (ae:=ae) m;have N:=Sy W D A B C H s w E F G (aN:=aN) (ae:=ae) m;have gD:= @arz W D A B C H s w E F G aN ae;simp only[wk,axY,ax2] at h1;generalize cm W D A B C H s w E F G aN ae=l at*;generalize jo W D A B C H s w E F G aN ae=e at*;obtain⟨o,h2,v,b,rfl,h3,h4⟩:=ajD l r hr hl N;simp[Sn,wk,arx,aS h1,aS h2,c75 P a0,r90,ara];intro _ bs bt hb;have a7:=h4 hb;have hv:v.length<=4096:=by have:=a7.1;omega
 have j:v.length<=140737488355328:=by omega
 refine bM v.length (λi Z=>dh (kB 6) Z=true) ⟨0,rfl,by omega,rfl⟩ ?_;rintro i Z X V;obtain⟨f,rfl⟩:=SC V;rw[show ax6 6=[0,1,2,3,4,5] from rfl];simp;split
 ·rename_i X;obtain⟨c,d,a8⟩:=gD m a7 X;have ac:=a8 4 (by omega);have bx:=a8 5 (by omega);obtain⟨af,ag⟩:=ary d.kind d.side;have b4:=d.kind;have a9:cd (.sl 3) (cellAt Ez.rows (c 4) 0)=mS (c 4) 0:=rfl;have bb:cd (.sl 3) (cellAt Ez.rows (c 4) 1)=mS (c 4) 1:=rfl;generalize mS (c 4) 0=la at af a9;generalize mS (c 4) 1=lb at ag bb;simp[bG X j,X,ac,ajN];intro _;split
  all_goals
   refine⟨by omega, ?_⟩;refine bM la.rows.length (λ_ Z=>dh (kB 5) Z=true) ⟨0,rfl,by omega,rfl⟩ ?_;rintro a Z M V;obtain⟨g,rfl⟩:=SC V;rw[show ax6 5=[0,1,2,3,4] from rfl];simp[ac,bx,a9,af.1,ajN];split;rename_i M;have hx:=af.2.2 a M;generalize bg (cellAt la.rows (a:Int) 0).val=x at hx;rw[show aR .sub .i64 (aR .add .i64 x (c 5)) 1=x+c 5-1 by simp only[aR];rw[fk (n:=x+c 5) (by omega) (by omega),fk (by omega) (by omega)]];simp[bG M (show la.rows.length<=140737488355328 by omega),M];omega;refine⟨by omega, ?_⟩;refine bM lb.rows.length (λ_ Z=>dh (kB 5) Z=true) ⟨0,rfl,by omega,rfl⟩ ?_;rintro a' Z J V;obtain⟨g',rfl⟩:=SC V;rw[show ax6 5=[0,1,2,3,4] from rfl];simp[ac,bb,ag.1];split;rename_i J;have hx:=ag.2.2 a' J;generalize bg (cellAt lb.rows (a':Int) 0).val=x at hx;simp[bG J (show lb.rows.length<=140737488355328 by omega),J];omega;simp[bG X j]
 have b5:=(aqz _ _ _ _ _ _ _ _ _ _ _ _ _).1 bs;obtain⟨g1,g2,g3,g4⟩:=aBA P a0 y0 y1 U y3 y4 y q p y8 y9 a1 a2 a3 a4 a5 a6 bt;refine bM 5 (λ_ Z=>∃f0 f1 f2 f3,Z=[.i f0,.i f1,.i f2,.i f3]/\Fg f0 f1 f2 f3) ⟨0,by simp,by omega, ?_⟩ ?_;have:=aBH (r:=U) (by omega);have h2:0<aR .mul .i64 841 U/\aR .sub .i64 0 (aR .mul .i64 841 U)<0:=by
  simp only[aR];rw[fk (n:=841*U) (by omega) (by omega),fk (by omega) (by omega)];omega
 refine⟨_,_,_,_,rfl, ?_⟩;simp only[S6,Fg] at*;simp;omega;rintro k Z b6 ⟨f0,f1,f2,f3,rfl,Q⟩;have I:aR .quo .i64 (k:Int) 2=((k/2:Nat):Int):=by
  simp only[aR];rw[show(k:Int).tdiv 2=((k/2:Nat):Int) by rw[aDO (by omega)];omega];exact fk (by omega) (by omega)
 simp[I,r90,ara];refine bj (λN=> ?_) (λb7=> ?_)
 ·have N:k<5:=by omega
  obtain⟨z,bX,al⟩:∃z:Int,(if(k:Int)/2=0 then y else if(k:Int)/2=1 then q else if(k:Int)/2=2 then p else 0)=z/\1<=z/\z<=8:=⟨_,rfl,by(repeat' split)<;>omega⟩;have b1:=λa b=>aBI al (aqX a b).1
  have b2:=λa b=>aBI al (aqX a b).2
  have b3:=aBH al;simp only[bX,bG N (show 5<=140737488355328 by omega)];refine⟨by omega,by omega,by omega,by omega,by omega, ?_⟩
  repeat'(refine bj (λ_=> ?_) (λ_=> ?_))
  all_goals with_reducible first|exact⟨_,_,_,_,rfl,Q⟩|exact⟨_,_,_,_,rfl,Q.jn1 b3 b3⟩|exact⟨_,_,_,_,rfl,Q.jn1 (b1 _ _) (b2 _ _)⟩
 intro he;have hp:=Q.sh he;refine bM v.length (λ_ Z=>dh (kI 17++[.bool]) Z=true/\Pos (xi Z 0) (xi Z 1) (xi Z 2) (xi Z 3)) ⟨0,rfl,by omega,rfl, ?_⟩ ?_;simp[xi];exact hp.aBG;rintro i Z X ⟨V,an⟩;obtain⟨f,b',rfl⟩:=ajM V;rw[show ax6 17=[0,1,2,3,4,5,6,7,8,9,10,11,12,13,14,15,16] from rfl] at*;simp[xi] at an;simp[r90,ara];refine bj (λX=> ?_) (λb8=> ?_);obtain⟨o,q1,ys,rfl,q2⟩:=SB (f 4) (f 5) (f 6) (f 7) (f 8) (f 9) (f 10) (f 11) (f 12) (f 13) (f 14) (f 15) (f 16) (aZ v i) (aZ v i 14) (aZ v i 15) (aZ v i 16) (gV (cellAt v i 17).val);obtain⟨u,rfl⟩:=It q2;rw[show ax6 14=[0,1,2,3,4,5,6,7,8,9,10,11,12,13] from rfl] at q1;simp only[fu,aZ,axY,ax2,axV,ay2] at q1;refine⟨X, ?_⟩;rw[aS q1];simp[bG X j,r90,ara];intro bd b0;have I:=Q.sh b0;refine bj (λ_=>bj (λ_=> ?_) (λhn=>absurd bd hn)) (λ_=>bj (λ_=> ?_) (λhn=>absurd bd hn));simp[xi];exact I.aBG;simp[xi];exact an.join I;exact an
end
end
section
section
variable(W D A B C d:Int)(c g k l f:RV)
def aCD(h:fF c g k l f)(ae:Int):∃o,TB.Ev 23 (wk W D A B C d c g k l f++[.i ae]) o/\∃v e,o=.ret [.r (aF v),.i e]/\v.length<=4096/\(∀x∈v,0<=aP 0 x/\aP 0 x<aP 1 x/\aP 1 x<c.rows.length)/\(jR W D A B C d c g k l f=0->gC ae 0 (d-1)=true->e=0):=by
 refine dw rfl rfl (.inl rfl) ?_;have X:=e65 W D A B C d c g k l f mR h ae;obtain⟨-,N⟩:=rZ W D A B C d c g k l f mR h;simp only[wk,axY,ax2] at X;obtain⟨e,U⟩:∃e,e=(if jR W D A B C d c g k l f=0 then(if gC ae 0 (d-1) then 0 else 1) else jR W D A B C d c g k l f):=⟨_,rfl⟩;rw[<-U] at X;simp[T23,wk,aS X];split
 case isFalse z=>
  exact⟨[],e,⟨rfl,rfl⟩,by simp,by simp,λX N y=>by rw[U,if_pos X,if_pos (by simp;omega)]⟩
 rename_i I;have R:jR W D A B C d c g k l f=0/\gC ae 0 (d-1)=true:=by
  subst I;by_cases R:jR W D A B C d c g k l f=0;rw[if_pos R] at U;refine⟨R, ?_⟩;cases H:gC ae 0 (d-1);simp[H] at U;rfl;rw[if_neg R] at U;exact absurd U.symm R
 have G:=N R.1;have w:=G.nr;refine bM f.rows.length (λi O=>∃m,O=[.r (aF m)]/\∀x∈m,aP 0 x<aP 1 x) ⟨0,rfl,by omega,[],rfl,by simp⟩ ?_;rintro i _ Q ⟨m,rfl,L⟩;simp[h.sg.len];split
 ·rename_i Q;simp[bG Q h.sg.sm,Q]
  repeat'(refine bj (λ_=> ?_) (λ_=> ?_))
  all_goals first
   |exact⟨m,rfl,L⟩
   |(refine⟨_,rfl,λx Z=> ?_⟩
     rcases aaU Z with rfl|Z;show(min _ _:Int)<max _ _;omega;exact L x Z)
 refine bM c.rows.length (λi O=>∃v,O=[.r (aF v)]/\v.length<=i*64/\∀x∈v,0<=aP 0 x/\aP 0 x<aP 1 x/\aP 1 x<c.rows.length) ⟨0,rfl,by omega,[],rfl,by simp,by simp⟩ ?_;rintro i _ Q ⟨v,rfl,F,V⟩;simp[h.rl.len];split;rename_i Q;refine bM c.rows.length (λj O=>∃v,O=[.r (aF v)]/\v.length<=i*64+j/\∀x∈v,0<=aP 0 x/\aP 0 x<aP 1 x/\aP 1 x<c.rows.length) ⟨0,rfl,by omega,v,rfl,by omega,V⟩ ?_;rintro j _ J ⟨v,rfl,F,V⟩;simp[h.rl.len];split
 ·rename_i J;simp[bG J h.rl.sm];have E:∀{P},jA 2 [(i:Int),(j:Int),0] m=some P->i<j:=λ{P} M=>by
   have X:=azm M;have N:=az0 M;have:=L P X;rcases P with _|⟨a,_|⟨b,P⟩⟩<;>simp[i8,aP] at N this;omega
  cases M:jA 2 [(i:Int),(j:Int),0] m with
  |none=>simp;exact⟨v,rfl,by omega,V⟩
  |some P=>
  have u:=E M;simp only;split
  all_goals first
   |exact⟨v,rfl,by omega,V⟩
   |(refine⟨by omega,_,rfl,by simp;omega,λx Z=> ?_⟩
     rcases axS.1 Z with Z|Z;exact V x Z;simp at Z;subst Z;simp[aP,bg];omega)
 simp[bG Q h.rl.sm];exact⟨v,rfl,by omega,V⟩;exact⟨v,0,⟨rfl,rfl⟩,by omega,V,λ_ _ _=>rfl⟩
end
end
section
def OEq:aT->aT->Prop
 |.ret a,.ret b=>wB a b
 |.aW _,.aW _=>True
 |_,_=>False
def StE:List Lp->List Lp->Prop
 |[],[]=>True
 |a::l,b::m=>a.av=b.av/\a.t=b.t/\jH a.O b.O/\StE l m
 |_,_=>False
def StE.find{av:Nat}{X W:Lp}{l R:List Lp}:∀{Q P:List Lp},StE Q P->pj av Q=some (X,l)->pj av P=some (W,R)->X.av=W.av/\X.t=W.t/\jH X.O W.O/\StE l R
 |[],[],_,h,_=>by simp[pj] at h
 |a::s,b::I,h,V,Z=>by
  simp only[pj] at V Z;obtain⟨N,L,J,M⟩:=h;rw[<-N] at Z;split at V;rename_i U;rw[if_pos U] at Z;cases V;cases Z;exact⟨N,L,J,M⟩;rename_i U;rw[if_neg U] at Z;exact StE.find M V Z
section
variable{aQ d:kn}
def aBJ(E:∀f D C o U,wB D C->aQ f D=some o->d f C=some U->OEq o U):∀(n:Nat)(t:T)(O R:aa)(Q P:List Lp)(o U:aT),jH O R->StE Q P->exec aQ n t O Q=some o->exec d n t R P=some U->OEq o U
 |0,t,O,R,Q,P,o,U,_,_,h,_=>by simp[exec] at h
 |n+1,t,O,R,Q,P,o,U,X,W,h,Z=>by
  have V:=aBJ E n;cases t with
  |ret v bx L=>
   simp only[exec,axM] at h Z;subst h;subst Z;exact Ke X _
  |aW v=>
   simp only[exec] at h Z;obtain⟨a,_,rfl⟩:=azi.1 h;obtain⟨b,_,rfl⟩:=azi.1 Z;trivial
  |node b t f=>
   simp only[exec,<-BE.b9 X b] at h Z;split at h;rename_i N;rw[if_pos N] at Z;exact V _ _ _ _ _ _ _ X W h Z;rename_i N;rw[if_neg N] at Z;exact V _ _ _ _ _ _ _ X W h Z
  |az b t=>
   simp only[exec,<-BE.b9 X b] at h Z;split at h;rename_i N;rw[if_pos N] at Z;exact V _ _ _ _ _ _ _ X W h Z;cases h
  |call f B bx L ks eP t=>
   simp only[exec] at h Z;cases J:aQ f ((kJ B).map (SV.xv O)) with
   |none=>rw[J] at h;cases h
   |some r=>
    cases I:d f ((kJ B).map (SV.xv R)) with
    |none=>rw[I] at Z;cases Z
    |some A=>
     have k:=E _ _ _ _ _ (Ke X _) J I;rw[J] at h;rw[I] at Z;cases r with
     |ret ys=>cases A with
      |ret ac=>
       simp only at h Z;split at h;split at Z;exact V _ _ _ _ _ _ _ (X.ext k) W h Z;cases Z;cases h
      |aW v=>exact k.elim
     |aW v=>cases A with
      |ret ac=>exact k.elim
      |aW v'=>cases h;cases Z;trivial
  |loop av ks x0 t=>
   simp only[exec] at h Z;exact V _ _ _ _ _ _ _ (X.ext (Ke X _)) (by exact⟨rfl,rfl,X,W⟩) h Z
  |back av x=>
   simp only[exec] at h Z;cases H:pj av Q with
   |none=>rw[H] at h;cases h
   |some q=>
    cases G:pj av P with
    |none=>rw[G] at Z;cases Z
    |some q'=>
     obtain⟨fr,l⟩:=q;obtain⟨al,l'⟩:=q';rw[H] at h;rw[G] at Z;obtain⟨e1,z,u,e4⟩:=W.find H G;simp only[<-z] at Z;exact V _ _ _ _ _ _ _ (u.ext (Ke X _)) (by exact⟨e1,z,u,e4⟩) h Z
  |new e x L an t=>
   simp only[exec] at h Z;exact V _ _ _ _ _ _ _ (X.add (x:=.r _) (y:=.r _) (afb X x)) W h Z
  |rows k x L t=>
   simp only[exec] at h Z;exact V _ _ _ _ _ _ _ (X.add (x:=.r _) (y:=.r _) (afb X x)) W h Z
  |ey g k t f=>
   simp only[exec,<-BE.b9 X g,<-BE.b9 X k] at h Z;split at h;rename_i F;rw[if_pos F] at Z;split at h;rename_i M;rw[if_pos M] at Z;exact V _ _ _ _ _ _ _ X W (Ox h).1 (Ox Z).1;rename_i M;rw[if_neg M] at Z;exact V _ _ _ _ _ _ _ X W h Z;rename_i F;rw[if_neg F] at Z;split at h;rename_i M;rw[if_pos M] at Z;exact V _ _ _ _ _ _ _ X W h Z;cases h
  |pick m g k t f=>
   simp only[exec] at h Z;have hw:n9 m g k R=n9 m g k O:=by
    have e:(λj:Int=>g.den (R.add (.i j)))=λj:Int=>g.den (O.add (.i j)):=by
     funext j;exact(BE.b9 (X.add (x:=.i j) (y:=.i j) rfl) g).symm
    simp only[n9,<-IE.b9 X m,<-BE.b9 X k,e]
   rw[hw] at Z;cases p:n9 m g k O with
   |nil=>rw[p] at h;simp[aam] at h
   |cons w ws=>
    rw[p] at h Z;have c:=Oy h _ (aya.2 ⟨w,by simp,rfl⟩);have h2:=Oy Z _ (aya.2 ⟨w,by simp,rfl⟩);cases w with
    |some j=>exact V _ _ _ _ _ _ _ (X.add (x:=.i j) (y:=.i j) rfl) W c h2
    |none=>exact V _ _ _ _ _ _ _ X W c h2
  |dq f g e sp sb r L t=>
   simp only[exec] at h Z;split at h;rename_i rows af;split at Z;rename_i aA ag;exact V _ _ _ _ _ _ _ (X.add (x:=.r _) (y:=.r _) ((RE.b9 X r).dq af ag)) W h Z;cases Z;cases h
  |out e s=>simp[exec] at h
  |stuck m=>simp[exec] at h
end
def aCE(O:aa):jH O O:=⟨rfl,rfl,rfl,λk v X h Z=>by rw[h] at Z;cases Z;exact bW.refl v⟩
def arb:∀Z:List XV,wB Z Z
 |[]=>trivial
 |x::Z=>⟨by cases x with
  |i n=>rfl
  |b n=>rfl
  |r v=>exact bW.refl v,arb Z⟩
def aCF{X Z:List XV}:wB X Z->(∀x∈X,∃n,x=.i n)->X=Z:=by
 induction X generalizing Z with
 |nil=>intro h _;cases Z with
  |nil=>rfl
  |cons _ _=>exact h.elim
 |cons x X V=>intro h W;cases Z with
  |nil=>exact h.elim
  |cons y Z=>
   obtain⟨n,rfl⟩:=W x (by simp);cases y with
   |i m=>rw[show n=m from h.1,V h.2 λz U=>W z (by simp[U])]
   |b _=>exact h.1.elim
   |r _=>exact h.1.elim
def aBK(f:FuncId)(X W:List XV)(o R:aT)(V:wB X W)(h:Et f X=some o)(Z:Et f W=some R):OEq o R:=by
 unfold Et at h Z;split at h;rename_i U;rw[if_pos U] at Z;have:X=W:=by
  refine aCF V ?_;unfold Sr at h;split at h;simp;cases h
 subst this;rw[h] at Z;cases Z;cases o with
 |ret Q=>exact arb _
 |aW v=>trivial
 rename_i U;rw[if_neg U] at Z;split at h;rename_i P;rw[if_pos P] at Z;unfold Ss at h Z;split at h;split at Z;rename_i s b _ O N;have M:b=N:=V.2.1;subst M;have L:bW s O:=V.1;cases L with
 |sl A I n c H J aA _ _ _=>cases h;cases Z;exact⟨rfl,trivial⟩
 |val v J G=>
  rw[h] at Z;cases Z;cases o with
  |ret Q=>exact arb _
  |aW v=>trivial
 cases Z;cases h;cases h
def aBL{f:FuncId}{W X:List XV}{o V:aT}(R:wB W X)(h:TB.Ev f W o)(Z:TB.Ev f X V):OEq o V:=by
 have G:∀n f W X o V,wB W X->TB.aQ n f W=some o->TB.aQ n f X=some V->OEq o V:=by
  intro n;induction n with
  |zero=>exact λf W X o V R h Z=>aBK f W X o V R h Z
  |succ n F=>
   intro f W X o V R h Z;simp only[fW.aQ] at h Z;have I:∀{N:List XV}{q:aT},TB.nf f N=some q->f=26\/f=272:=λ{N q} Q=>by
    have Q:Et f N=some q:=Q;unfold Et at Q;split at Q;exact .inl ‹_›
    split at Q;exact .inr ‹_›
    cases Q
   cases O:TB.nf f W with
   |some q=>
    cases P:TB.nf f X with
    |some E=>
     rw[O] at h;rw[P] at Z;cases h;cases Z;exact aBK f W X _ _ R O P
    |none=>
     rw[P] at Z;rcases I O with rfl|rfl<;>simp[TB,In] at Z
   |none=>
    rw[O] at h;cases P:TB.nf f X with
    |some E=>rcases I P with rfl|rfl<;>simp[TB,In] at h
    |none=>
     rw[P] at Z;cases H:TB.tree f with
     |none=>rw[H] at h;cases h
     |some U=>
      rw[H] at h Z;simp only at h Z;have D:jH (de (fU U.g) W) (de (fU U.g) X):=(aCE _).ext R;cases M:exec (TB.aQ n) n U.t (de (fU U.g) W) [] with
      |none=>rw[M] at h;cases h
      |some p=>
       cases L:exec (TB.aQ n) n U.t (de (fU U.g) X) [] with
       |none=>rw[L] at Z;cases Z
       |some J=>
        have k:=aBJ F n U.t _ _ [] [] p J D trivial M L;rw[M] at h;rw[L] at Z;cases p with
        |ret B=>cases J with
         |ret C=>cases h;cases Z;exact k
         |aW v=>exact k.elim
        |aW v=>cases J with
         |ret C=>exact k.elim
         |aW A=>
          simp only[uM] at h Z;split at h;cases h;split at Z;cases Z;cases h;cases Z;trivial
 obtain⟨n,h⟩:=h;obtain⟨m,Z⟩:=Z;exact G (max n m) f W X o V R (jd n _ f W o (by omega) h) (jd m _ f X V (by omega) Z)
end
section
section
variable{R:aT->Prop}{y:List LK}{t:T}{O:aa}{L:List PC}
variable(W D A B C w:Int)(l n q s u:RV)
def aki(v Z:RV)(i:Nat)(h:eF v Z i 4=0):cK (eF v Z i 0) (eF v Z i 1) (eF v Z i 2) (eF v Z i 3)=true/\eF v Z i 0<eF v Z i 1/\eF v Z i 2<eF v Z i 3:=by
 obtain⟨o,X,V,rfl,Q,U⟩:=aBD (ci v i 0) (ci v i 1) (ci v i 2) (ci v i 3) (ci v i 4) (ci v i 5) (ci v i 6) (ci v i 7) (ci v i 8) (ci v i 9) (ci v i 10) (ci v i 11) (ci v i 12) _ (tX (cellAt Z.rows (i:Int) 0)) (ci Z i 1) (ci Z i 2) (ci Z i 3) (ci Z i 4) (ci Z i 5) (ci Z i 6) (ci Z i 7) (ci Z i 8) (ci Z i 9) (ci Z i 10) (ci Z i 11) (ci Z i 12) (ci Z i 13) (ci Z i 14) (ci Z i 15) (ci Z i 16);have e:∀k,eF v Z i k=xi V k:=λk=>by simp only[eF,EA,oi,mQ X]
 simp only[e] at h⊢;obtain⟨a,b,c,d,e,f,g,h⟩:=U h;refine⟨?_,by omega,by omega⟩;simp[cK];omega
def aBM(v Z:RV)(i:Nat):eF v Z i 4=0<->SL v i=0/\tY Z i=0:=by
 obtain⟨o,X,V,rfl,U,Q⟩:=aBD (ci v i 0) (ci v i 1) (ci v i 2) (ci v i 3) (ci v i 4) (ci v i 5) (ci v i 6) (ci v i 7) (ci v i 8) (ci v i 9) (ci v i 10) (ci v i 11) (ci v i 12) _ (tX (cellAt Z.rows (i:Int) 0)) (ci Z i 1) (ci Z i 2) (ci Z i 3) (ci Z i 4) (ci Z i 5) (ci Z i 6) (ci Z i 7) (ci Z i 8) (ci Z i 9) (ci Z i 10) (ci Z i 11) (ci Z i 12) (ci Z i 13) (ci Z i 14) (ci Z i 15) (ci Z i 16);have e:∀k,eF v Z i k=xi V k:=λk=>by simp only[eF,EA,oi,mQ X]
 rw[e];exact U
def R16(a b:Nat->Prop)(o:aT):Prop:=∃v,o=.ret [.r (aF v),.i 0]/\v.length<=536870912/\(∀i,HK v 4 i<->a i)/\∀i,HK v 5 i<->b i
set_option maxHeartbeats 8000000 in
def aCG (h:fF l n q s u) (ae:Int) (v Z mv X V re g:RV) (H:EB l v Z mv X V re g) (a b:Nat->Prop) (x7 x8 x9 a0 a2 a3 a4:Int) (a5 a6 a7 a8 a9:RV) (m N:List (List RV)) (L:List PC)
  (hn:l.rows.length<=64) (bb:Z.rows.length=l.rows.length) (bk:X.rows.length=l.rows.length) (br:V.rows.length=l.rows.length)
  (R:aT->Prop) (hR:∀o,R16 a b o->R o) (bs:Tr a b m) (ca:m.length<=200000*l.rows.length) (al:ajH l.rows.length N)
  (f:∀i<l.rows.length,eF X Z i 4=0) (e:∀i<l.rows.length,eF V Z i 4=0) (bi:ClE W D A B C w l n q s u v ae g (aF (oL X Z l.rows.length)) (aF N)):
  T.wp TB.Ev R (Ag.at aaY) ⟨[W,D,A,B,C,w,ae,x7,x8,x9,a0,a2,a3,a4],[],[l,n,q,s,u,v,Z,mv,X,V,re,g,a5,a6,a7,a8,a9,aF m,aF N],[]⟩ L:=by
 rw[show Ag.at aaY=T.loop _ _ _ _ from rfl];have an:l.rows.length<=140737488355328:=by omega
 have ED:lenOf X.val=(l.rows.length:Int):=by rw[H.bf.len,bk]
 have EC:lenOf V.val=(l.rows.length:Int):=by rw[H.af.len,br]
 have xL:lenOf Z.val=(l.rows.length:Int):=by rw[H.bd.len,bb]
 refine bM l.rows.length (λi J=>J=[.r (aF (oL X Z i))]/\∀k<i,eF X Z k 4=0) ⟨0,rfl,ayK _,rfl,by omega⟩ ?_;rintro i _ U ⟨rfl,bt⟩;simp[ED,xL];refine bj (λU=> ?_) (λd=> ?_);simp[bG U an,U];have q1:=Cd X Z i;exact bj (λG=>⟨by omega,rfl,oK bt G⟩) (λF=>absurd (f i U) F);have c:i=l.rows.length:=azN U (azD d);subst c;refine bM l.rows.length (λi J=>J=[.r (aF (oL V Z i))]/\∀k<i,eF V Z k 4=0) ⟨0,rfl,ayK _,rfl,by omega⟩ ?_;rintro i _ U ⟨rfl,bX⟩;simp[EC,xL];refine bj (λU=> ?_) (λd=> ?_);simp[bG U an,U];have q1:=Cd V Z i;exact bj (λG=>⟨by omega,rfl,oK bX G⟩) (λF=>absurd (e i U) F);have c:i=l.rows.length:=azN U (azD d);subst c;have b0:=Cd X Z l.rows.length;have b1:=Cd V Z l.rows.length;have cc:=al.1;obtain⟨o,g1,ac,cf,rfl,ch,cl,b2,_⟩:=aCo W D A B C w l n q s u h v ae g (aF (oL X Z l.rows.length)) (aF N) H.wg H.bx (Sv (by omega)) (Sv (by omega));simp only[wk,axY,ax2] at g1;rw[aS g1];simp;refine bj (λcp=> ?_) (λF=>absurd (b2.2 bi) F);refine bM ac.length (λj J=>∃M,J=[.r (aF M)]/\Tr a b M/\M.length<=200000*l.rows.length+2*j) ⟨0,rfl,ayK _,m,rfl,bs,by omega⟩ ?_;rintro j _ E ⟨M,rfl,ag,cs⟩;simp;refine bj (λE=>⟨E, ?_⟩) (λb3=> ?_);refine bj (λG=> ?_) (λG=> ?_);rw[bG E (by omega)];exact⟨_,rfl,.aq rfl (⟨by simp[aP,bg],by simp[aP,bg]⟩) (.aq rfl (⟨by simp[aP,bg],by simp[aP,bg]⟩) ag),by refine ayt (pG _ _ _) ?_;refine ayt (aAK (pG _ _ _)) ?_;omega⟩;rw[bG E (by omega)];exact⟨_,rfl,.aq rfl (⟨by simp[aP,bg],by simp[aP,bg]⟩) ag,by refine ayt (pG _ _ _) ?_;omega⟩;have b4:j=ac.length:=azN E (azD b3);subst b4;refine bM N.length (λp J=>∃z,J=[.r (aF z)]/\Tr a b z/\z.length<=200000*l.rows.length+2*ac.length+2*p) ⟨0,rfl,ayK _,M,rfl,ag,by omega⟩ ?_;rintro p _ y ⟨z,rfl,I,ct⟩;simp[b0,b1];refine bj (λy=>⟨y, ?_⟩) (λb5=> ?_)
 ·obtain⟨x,hx⟩:∃x,N[p]?=some x:=⟨_,axK y⟩;have cv:=al.2 x (ax4 hx);have b6:bg (cellAt N (p:Int) 0).val=aP 0 x:=by simp[cellAt,aP,hx]
  have b7:bg (cellAt N (p:Int) 1).val=aP 1 x:=by simp[cellAt,aP,hx]
  generalize aP 0 x=z0 at*;generalize aP 1 x=z1 at*;have Q:z0.toNat<l.rows.length:=by omega
  have P:z1.toNat<l.rows.length:=by omega
  simp only[b6,b7,oM X Z Q 0 (by omega),oM X Z Q 1 (by omega),oM X Z Q 2 (by omega),oM X Z Q 3 (by omega),oM X Z P 0 (by omega),oM X Z P 1 (by omega),oM X Z P 2 (by omega),oM X Z P 3 (by omega),oM V Z Q 0 (by omega),oM V Z Q 1 (by omega),oM V Z Q 2 (by omega),oM V Z Q 3 (by omega),oM V Z P 0 (by omega),oM V Z P 1 (by omega),oM V Z P 2 (by omega),oM V Z P 3 (by omega)];have w1:=(aki X Z _ (f _ Q)).1;have w2:=(aki X Z _ (f _ P)).1;have w3:=(aki V Z _ (e _ Q)).1;have w4:=(aki V Z _ (e _ P)).1;simp only[w1,w2,w3,w4];simp;refine⟨by omega,by omega,by omega,by omega, ?_⟩;refine bj (λc1=>bj (λc2=> ?_) (λc2=> ?_)) (λc1=> ?_)
  all_goals rw[bG y (by omega)]
  exact⟨_,rfl,I,by omega⟩;exact⟨_,rfl,.aq rfl (⟨by simp[aP,bg],by simp[aP,bg]⟩) (.aq rfl (⟨by simp[aP,bg],by simp[aP,bg]⟩) I),by refine ayt (pG _ _ _) ?_;refine ayt (aAK (pG _ _ _)) ?_;omega⟩;exact⟨_,rfl,.aq rfl (⟨by simp[aP,bg],by simp[aP,bg]⟩) (.aq rfl (⟨by simp[aP,bg],by simp[aP,bg]⟩) I),by refine ayt (pG _ _ _) ?_;refine ayt (aAK (pG _ _ _)) ?_;omega⟩
 have b8:p=N.length:=azN y (azD b5);subst b8;exact arQ _ _ _ _ _ _ _ _ _ _ _ _ _ _ _ _ _ _ _ _ _ _ _ _ _ _ _ _ _ _ _ _ _ _ _ _ _ _ _ _ _ _ _ z I.ok (by omega) (hR _ ⟨_,rfl,by rw[aCz];omega,λi=>aBz.trans (I.ha i),λi=>aBz.trans (I.hb i)⟩)
end
end
section
section
variable(W D A B C g:Int)(c d l p f:RV)
def SgE(ae:Int)(Z V X:RV)(i:Nat):Prop:=(∀k<(cm W D A B C g c d l p f i ae).length,∀m,Fst (cr 96 X i) (aZ (cm W D A B C g c d l p f i ae) k 0) m->xi (Cb W D A B C g c d l p f Z (aZ (cm W D A B C g c d l p f i ae) k 0) i) 1=0)/\xi (vF W D A B C g c d l p f ae V Z X i) 1=0
set_option maxHeartbeats 16000000 in
def arc (q:List Nat) (ms:List RV) (P:SgQ q ms) (R:aT->Prop) (J:Nat->List XV->Prop) (L:List PC) (b3:SO) (h:fF c d l p f) (hw:oJ W D g c d f) (ae:Int) (wg Z U V G X F:RV) (E:EB c wg Z U V G X F) (n i:Nat) (c7:n=c.rows.length) (hi:i<n) (hn:n<=64) (c8:U.rows.length=n) (b4:X.rows.length=n)
  (b5:cb U i 0=true->jo W D A B C g c d l p f i ae=0/\∃v,tW (cm W D A B C g c d l p f i ae) (cr 96 X i) (cm W D A B C g c d l p f i ae).length v)
  (x7 x8 x9 b6 b7 b8:Int) (b0:Bool) (ca cc cf ch cl:RV) (s:List (List RV)) (a b:Nat->Prop) (a5:Tr a b s) (c9:s.length<=200000*i+2)
  (a6:∀e:Int,¬e=0->cb U i 0=true->¬SgE W D A B C g c d l p f ae Z V X i->R (.ret [.r (aF []),.i e]))
  (hJ:∀M,(cb U i 0=true->SgE W D A B C g c d l p f ae Z V X i)->Tr a b M->M.length<=200000*(i+1)->J (i+1) [.r (aF M)]):
  T.wp TB.Ev R (Ag.at q) ⟨[W,D,A,B,C,g,ae,x7,x8,x9,b6,b7,(i:Int),b8],[b0],[c,d,l,p,f,wg,Z,U,V,G,X,F,ca,cc,cf,ch,cl]++ms++[aF s],[]⟩ (⟨4,vy n J,tV n,n-i⟩::L):=by
 obtain⟨rfl,m1,m2,rfl⟩|⟨rfl,m1,rfl⟩|⟨rfl,m1,rfl⟩|⟨rfl,rfl⟩:=P;rw[show Ag.at SU=T.node _ _ _ from rfl]
 rotate_left
 rw[show Ag.at SX=T.node _ _ _ from rfl]
 rotate_left
 rw[show Ag.at SY=T.node _ _ _ from rfl]
 rotate_left
 rw[show Ag.at SZ=T.node _ _ _ from rfl]
 rotate_left
 all_goals simp only[axY,ax2]
 all_goals
  have a7:n<=140737488355328:=by omega
  have a8:=E.eP i (by omega);have a9:=Ey W D A B C g c d l p f mR h i ae;simp only[wk,axY,ax2] at a9;have bi:lenOf (cd (.sl 96) (cellAt X.rows (i:Int) 0)).val=((cr 96 X i).rows.length:Int):=a8.1.len;have dc:lenOf X.val=(n:Int):=by rw[E.rsl.len,b4]
  have dd:=L9 W D A B C g c d l p f (aN:=i) (ae:=ae) (λ_=>hw);simp[aS a9];refine bj (λa3=> ?_) (λa3=> ?_);have y:cb U i 0=true:=a3;obtain⟨cp,sv,cs⟩:=b5 y;refine bj (λ_=> ?_) (λN=>absurd cp N);refine bM (cm W D A B C g c d l p f i ae).length (λk x=>∃Q,x=[.r (aF Q)]/\Tr a b Q/\Q.length<=200000*i+2+10*k/\∀I<k,∀m,Fst (cr 96 X i) (aZ (cm W D A B C g c d l p f i ae) I 0) m->xi (Cb W D A B C g c d l p f Z (aZ (cm W D A B C g c d l p f i ae) I 0) i) 1=0) ⟨0,rfl,ayK _,_,rfl,a5,by omega,by omega⟩ ?_;rintro k _ z ⟨Q,rfl,ac,df,bb⟩;simp;refine bj (λz=> ?_) (λct=> ?_);refine⟨z, ?_⟩;refine bM (cr 96 X i).rows.length (λq x=>x=[]/\∀q'<q,ci (cr 96 X i) q' 0≠aZ (cm W D A B C g c d l p f i ae) k 0) ⟨0,rfl,ayK _,rfl,by omega⟩ ?_;rintro q _ P ⟨rfl,ag⟩;simp[bi];refine bj (λP=> ?_) (λdk=> ?_);refine⟨P,bj (λal=> ?_) (λal=> ?_)⟩
  ·have hF:Fst (cr 96 X i) (aZ (cm W D A B C g c d l p f i ae) k 0) q:=⟨P,al,ag⟩;obtain⟨o,H,an,a0,rfl,dn⟩:=t78 W D A B C g c d l p f mR h (aZ (cm W D A B C g c d l p f i ae) k 0) _ (tX (cellAt Z.rows (i:Int) 0)) (ci Z i 1) (ci Z i 2) (ci Z i 3) (ci Z i 4) (ci Z i 5) (ci Z i 6) (ci Z i 7) (ci Z i 8) (ci Z i 9) (ci Z i 10) (ci Z i 11) (ci Z i 12) (ci Z i 13) (ci Z i 14) (ci Z i 15) (ci Z i 16);have bk:Cb W D A B C g c d l p f Z (aZ (cm W D A B C g c d l p f i ae) k 0) i=[.r (aF an),.i a0]:=mQ H;simp only[wk,ci,aZ,axY,ax2] at H;rw[aS H];simp[bi];have cv:SgE W D A B C g c d l p f ae Z V X i->a0=0:=λK=>by
    have:=K.1 k z q hF;rw[bk] at this;exact this
   refine bj (λcx=> ?_) (λN=>a6 a0 N y λK=>N (cv K));have hE:∀I<k+1,∀m,Fst (cr 96 X i) (aZ (cm W D A B C g c d l p f i ae) I 0) m->xi (Cb W D A B C g c d l p f Z (aZ (cm W D A B C g c d l p f i ae) I 0) i) 1=0:=oK bb λm _=>by rw[bk];exact cx
   refine⟨P, ?_⟩;rw[ajL (aF an) (Sv (by omega))];simp[bi];obtain⟨dr,br⟩:∃b,ob 102 [.r (aF an),.i (ci (cr 96 X i) q 0),.i (ci (cr 96 X i) q 1),.i (ci (cr 96 X i) q 2),.b (cb (cr 96 X i) q 3)] 0=b:=⟨_,rfl⟩;have a1:=j7 [.bool] (art W D A B C g c d l p f hw h ae U V G X F (aZ (cm W D A B C g c d l p f i ae) k) E.mv E.rsl (by omega) (by omega) (λj u=>(E.eP j u).1));have bs:SM W D A B C g c d l p f ae U V G X F (aZ (cm W D A B C g c d l p f i ae) k)=xb (out 103 (wk W D A B C g c d l p f++[.i ae,.r U,.r V,.r G,.r X,.r F]++fu (aZ (cm W D A B C g c d l p f i ae) k))) 0:=rfl;generalize SM W D A B C g c d l p f ae U V G X F (aZ (cm W D A B C g c d l p f i ae) k)=ds at bs;simp only[qB,<-bs] at a1;simp only[wk,fu,aZ,axY,ax2] at a1;simp only[ci,cb,cr] at br;simp only[br];have cy:(cm W D A B C g c d l p f i ae).length<=140737488355328:=by omega
   have cI:∀{O:List RV},(eK 3 O Q).length<=200000*i+2+10*(k+1):=λ{O}=>by have:=pG 3 O Q;omega
   have bt:∀{O a2:List RV},(eK 3 a2 (eK 3 O Q)).length<=200000*i+2+10*(k+1):=λ{O a2}=>by have:=pG 3 O Q;have:=pG 3 a2 (eK 3 O Q);omega
   have c0:Q.length<=200000*i+2+10*(k+1):=by omega
   refine bj (λc1=> ?_) (λc1=> ?_)
   all_goals
    refine bj (λh7=>⟨P,bj (λhd=> ?_) (λhd=> ?_)⟩) (λh7=>bj (λh8=>⟨P,bj (λhd=> ?_) (λhd=> ?_)⟩) (λh8=> ?_))
   all_goals
    try rw[aS a1]
    try simp
    try refine bj (λc2=> ?_) (λc2=> ?_)
   all_goals
    rw[bG z cy]
    first
     |exact⟨_,rfl,ac,c0,hE⟩
     |exact⟨_,rfl,.aq rfl ⟨by simp[aP,bg],by simp[aP,bg]⟩ ac,cI,hE⟩
     |exact⟨_,rfl,.aq rfl ⟨by simp[aP,bg],by simp[aP,bg]⟩ (.aq rfl ⟨by simp[aP,bg],by simp[aP,bg]⟩ ac),bt,hE⟩
  have c3:(cr 96 X i).rows.length<=140737488355328:=by omega
  rw[bG P c3];exact⟨rfl,oK ag al⟩;exfalso;obtain⟨I,w1,w2,w3⟩:=cs.2 k z;exact ag I (by omega) w3;have c4:k=(cm W D A B C g c d l p f i ae).length:=azN z (azD ct);subst c4;obtain⟨o,H,bX,a4,rfl,dx⟩:=b3 W D A B C g c d l p f h i ae (ci V i 0) (ci V i 1) (ci V i 2) (ci V i 3) (ci V i 4) (ci V i 5) (ci V i 6) (ci V i 7) (ci V i 8) (ci V i 9) (ci V i 10) (ci V i 11) (ci V i 12) Z (cr 96 X i) E.bd a8.1;have b1:vF W D A B C g c d l p f ae V Z X i=[.r (aF bX),.i a4]:=mQ H;have c5:SgE W D A B C g c d l p f ae Z V X i->a4=0:=λK=>by
   have:=K.2;rw[b1] at this;exact this
  simp only[wk,ci,cr,axY,ax2] at H;rw[aS H];simp;refine bj (λc6=> ?_) (λN=>a6 a4 N y λK=>N (c5 K));refine bM bX.length (λj x=>∃t,x=[.r (aF t)]/\Tr a b t/\t.length<=200000*i+50000+j) ⟨0,rfl,ayK _,Q,rfl,ac,by omega⟩ ?_;rintro j _ u ⟨t,rfl,b2,bt⟩;simp;refine bj (λu=>⟨u, ?_⟩) (λdy=> ?_);rw[bG u (by omega)];exact⟨_,rfl,.aq rfl ⟨by simp[aP,bg],by simp[aP,bg]⟩ b2,by refine ayt (pG _ _ _) ?_;omega⟩;rw[bG hi a7];exact hJ t (λ_=>⟨bb,by rw[b1];exact c6⟩) b2 (by omega);have y:¬cb U i 0=true:=a3;rw[bG hi a7];exact hJ s (λw=>absurd w y) a5 (by omega)
end
end
section
section
variable(W D A B C g:Int)(c d l n f:RV)
def aje(ae:Int)(Z X V U:RV)(i:Nat):Prop:=∀j<13,ci V i j=gS W D A B C g c d l n f ae Z X U i j
def aan(ae:Int)(Z X V U R:RV)(i:Nat):Prop:=B5 (gB W D A B C g c d l n f ae Z X V U i 0) (gB W D A B C g c d l n f ae Z X V U i 1) (gB W D A B C g c d l n f ae Z X V U i 2) (gB W D A B C g c d l n f ae Z X V U i 3) (ci R i 0) (ci R i 1) (ci R i 2) (ci R i 3)=true
def SgA(ae:Int)(Z X V U:RV):Prop:=∀i<c.rows.length,cb X i 0=true->SgE W D A B C g c d l n f ae Z V U i
def RM(E:Prop)(a b:Nat->Prop)(o:aT):Prop:=(∃e,o=.ret [.r (aF []),.i e]/\e≠0/\¬E)\/(E/\R16 a b o)
def aBP{E:Prop}{a b:Nat->Prop}(h:X≠0)(Z:¬E):RM E a b (.ret [.r (aF []),.i X]):=.inl ⟨X,rfl,h,Z⟩
set_option maxHeartbeats 16000000 in
def aCH (a1:SO) (h:fF c d l n f) (hw:oJ W D g c d f) (ae:Int) (x U X Z I V Q:RV) (G:EB c x U X Z I V Q) (L:List PC)
  (hn:c.rows.length<=64) (a8:I.rows.length=c.rows.length) (b0:Q.rows.length=c.rows.length) (a9:U.rows.length=c.rows.length) (ag:X.rows.length=c.rows.length) (bb:Z.rows.length=c.rows.length) (al:V.rows.length=c.rows.length)
  (a2:∀i<c.rows.length,cb X i 0=true->jo W D A B C g c d l n f i ae=0/\∃v,tW (cm W D A B C g c d l n f i ae) (cr 96 V i) (cm W D A B C g c d l n f i ae).length v)
  (x7 x8 x9 b1 b2:Int) (b3 b4:RV) (vs vr vb:List (List RV)) (b5:vs.length=c.rows.length) (b6:vb.length=c.rows.length)
  (b7:∀i<c.rows.length,(∀j<13,bg (cellAt vs (i:Int) j).val=gS W D A B C g c d l n f ae X Z V i j)/\∀j<4,bg (cellAt vb (i:Int) j).val=gB W D A B C g c d l n f ae X Z U V i j)
  (b8:∀i<c.rows.length,RoI W D A B C g c d l n f ae X Z U V Q i) (s1:∀i<c.rows.length,eF Z U i 4=0) (s2:∀i<c.rows.length,eF I U i 4=0) (bk:xi (nN W D A B C g c d l n f ae) 1=0) (bi:ClE W D A B C g c d l n f x ae Q (aF (oL Z U c.rows.length)) (xr (nN W D A B C g c d l n f ae) 0))
  (E:Prop) (hE:E<->SgA W D A B C g c d l n f ae U X Z V) (a b:Nat->Prop) (ca:∀i,a i<->i<c.rows.length/\¬aje W D A B C g c d l n f ae X Z I V i) (cc:∀i,b i<->i<c.rows.length/\¬aan W D A B C g c d l n f ae X Z U V Q i):
  T.wp TB.Ev (RM E a b) (Ag.at aaZ) ⟨[W,D,A,B,C,g,ae,x7,x8,x9,b1,b2],[],[c,d,l,n,f,x,U,X,Z,I,V,Q,b3,b4,aF vs,aF vr,aF vb],[]⟩ L:=by
 rw[show Ag.at aaZ=(T.loop _ _ _ (T.node _ (T.az _ (T.az _ (T.az _ (T.az _ (T.az _ (T.az _ (T.az _ (T.az _ (T.az _ (T.az _ (T.az _ (T.az _ (T.node _ (T.rows _ _ _ (T.az _ (T.az _ (T.az _ (T.az _ (T.call _ _ _ _ _ _ (T.node _ _ (T.node _ (T.rows _ _ _ (Ag.at SU)) (Ag.at SX))))))))) (T.az _ (T.az _ (T.az _ (T.az _ (T.call _ _ _ _ _ _ (T.node _ _ (T.node _ (T.rows _ _ _ (Ag.at SY)) (Ag.at SZ))))))))))))))))))))) (T.call _ _ _ _ _ _ (T.node _ _ (Ag.at aaY))))) from rfl];have c1:c.rows.length<=140737488355328:=by omega
 have EC:lenOf I.val=(c.rows.length:Int):=by rw[G.af.len,a8]
 have Me:lenOf Q.val=(c.rows.length:Int):=by rw[G.bx.len,b0]
 have xL:lenOf U.val=(c.rows.length:Int):=by rw[G.bd.len,a9]
 have Mf:lenOf X.val=(c.rows.length:Int):=by rw[G.mv.len,ag]
 have ED:lenOf Z.val=(c.rows.length:Int):=by rw[G.bf.len,bb]
 have Iw:lenOf V.val=(c.rows.length:Int):=by rw[G.rsl.len,al]
 refine bM c.rows.length (λi cf=>∃m,cf=[.r (aF m)]/\Tr (λk=>k<i/\¬aje W D A B C g c d l n f ae X Z I V k) (λk=>k<i/\¬aan W D A B C g c d l n f ae X Z U V Q k) m/\m.length<=200000*i/\∀k<i,cb X k 0=true->SgE W D A B C g c d l n f ae U Z V k) ⟨0,rfl,ayK _,[],rfl,Tr.nil.congr (by simp) (by simp),by simp,by omega⟩ ?_;rintro i _ O ⟨m,rfl,an,ch,gD⟩;simp[EC,Me,xL,Mf,ED,Iw,b5,b6];refine bj (λO=> ?_) (λcl=> ?_);obtain⟨H,q3⟩:=b7 i O;simp only[H 0 (by omega),H 1 (by omega),H 2 (by omega),H 3 (by omega),H 4 (by omega),H 5 (by omega),H 6 (by omega),H 7 (by omega),H 8 (by omega),H 9 (by omega),H 10 (by omega),H 11 (by omega),H 12 (by omega),q3 0 (by omega),q3 1 (by omega),q3 2 (by omega),q3 3 (by omega)];have u:aan W D A B C g c d l n f ae X Z U V Q i<->B5 (gB W D A B C g c d l n f ae X Z U V i 0) (gB W D A B C g c d l n f ae X Z U V i 1) (gB W D A B C g c d l n f ae X Z U V i 2) (gB W D A B C g c d l n f ae X Z U V i 3) (ci Q i 0) (ci Q i 1) (ci Q i 2) (ci Q i 3)=true:=Iff.rfl;have hI:RoI W D A B C g c d l n f ae X Z U V Q i<->cK (gB W D A B C g c d l n f ae X Z U V i 0) (gB W D A B C g c d l n f ae X Z U V i 1) (gB W D A B C g c d l n f ae X Z U V i 2) (gB W D A B C g c d l n f ae X Z U V i 3)=true/\vB Q i=true:=Iff.rfl;generalize gB W D A B C g c d l n f ae X Z U V i 0=g0 at u hI;generalize gB W D A B C g c d l n f ae X Z U V i 1=g1 at u hI;generalize gB W D A B C g c d l n f ae X Z U V i 2=g2 at u hI;generalize gB W D A B C g c d l n f ae X Z U V i 3=g3 at u hI;have br:=hI.1 (b8 i O);have a3:∀{e:Int},¬e=0->cb X i 0=true->¬SgE W D A B C g c d l n f ae U Z V i->RM E a b (.ret [.r (aF []),.i e]):=λF z y=>aBP F λk=>y (hE.1 k i O z)
 have a4:(cb X i 0=true->SgE W D A B C g c d l n f ae U Z V i)->∀k<i+1,cb X k 0=true->SgE W D A B C g c d l n f ae U Z V k:=λN=>oK gD N
 have u1:∀{P:Nat->Prop},P i->∀k,(k<i/\P k)\/k=i<->k<i+1/\P k:=λhp k=>⟨λh=>h.elim (λh=>⟨by omega,h.2⟩) λh=>by subst h;exact⟨by omega,hp⟩,λh=>by
  by_cases e:k=i;exact .inr e;exact .inl ⟨by omega,h.2⟩⟩
 have u0:∀{P:Nat->Prop},¬P i->∀k,(k<i/\P k)<->k<i+1/\P k:=λhp k=>⟨λh=>⟨by omega,h.2⟩,λh=>⟨by
  rcases Nat.lt_or_ge k i with e|e;exact e;have:k=i:=by omega
  subst this;exact absurd h.2 hp,h.2⟩⟩
 have co:∀{t:List RV},(eK 3 t m).length<=200000*i+2:=λ{t}=>by have:=pG 3 t m;omega
 have cp:∀{t a5:List RV},(eK 3 a5 (eK 3 t m)).length<=200000*i+2:=λ{t a5}=>by have:=pG 3 t m;have:=pG 3 a5 (eK 3 t m);omega
 refine⟨O,bj (λJ=>⟨O, ?_⟩) (λJ=>⟨O, ?_⟩)⟩;have bs:¬aje W D A B C g c d l n f ae X Z I V i:=λN=>by
  simp only[aje,ci] at N;have e0:=N 0 (by omega);have e1:=N 1 (by omega);have e2:=N 2 (by omega);have e3:=N 3 (by omega);have e4:=N 4 (by omega);have e5:=N 5 (by omega);have e6:=N 6 (by omega);have e7:=N 7 (by omega);have e8:=N 8 (by omega);have e9:=N 9 (by omega);have cs:=N 10 (by omega);have ct:=N 11 (by omega);have cv:=N 12 (by omega);rcases J with R|R|R|R|R|R|R|R|R|R|R|R|R;exact R e0;exact R e1;exact R e2;exact R e3;exact R e4;exact R e5;exact R e6;exact R e7;exact R e8;exact R e9;exact R cs;exact R ct;exact R cv
 refine bj (λhb=>absurd br (Cc hb)) (λa0=> ?_);refine bj (λs=> ?_) (λs=> ?_);have a6:¬aan W D A B C g c d l n f ae X Z U V Q i:=λw=>arI a0 s (u.1 w)
 exact arc W D A B C g c d l n f SU [_,_] (.inl ⟨rfl,_,_,rfl⟩) _ _ L a1 h hw ae x U X Z I V Q G c.rows.length i rfl O hn ag al (a2 i O) _ _ _ _ _ _ _ _ _ _ _ _ _ _ _ (.box rfl rfl rfl (.aft rfl rfl rfl an)) cp (λe F z y=>a3 F z y) (λM q p ac=>⟨M,rfl,p.congr (u1 bs) (u1 a6),ac,a4 q⟩);have a7:¬¬aan W D A B C g c d l n f ae X Z U V Q i:=λw=>w (u.2 (arJ a0 s))
 exact arc W D A B C g c d l n f SX [_] (.inr (.inl ⟨rfl,_,rfl⟩)) _ _ L a1 h hw ae x U X Z I V Q G c.rows.length i rfl O hn ag al (a2 i O) _ _ _ _ _ _ _ _ _ _ _ _ _ _ _ (.aft rfl rfl rfl an) co (λe F z y=>a3 F z y) (λM q p ac=>⟨M,rfl,p.congr (u1 bs) (u0 a7),ac,a4 q⟩);have bt:¬¬aje W D A B C g c d l n f ae X Z I V i:=λw=>w (by
  simp only[not_or,Classical.not_not] at J;exact arK J.1 J.2.1 J.2.2.1 J.2.2.2.1 J.2.2.2.2.1 J.2.2.2.2.2.1 J.2.2.2.2.2.2.1 J.2.2.2.2.2.2.2.1 J.2.2.2.2.2.2.2.2.1 J.2.2.2.2.2.2.2.2.2.1 J.2.2.2.2.2.2.2.2.2.2.1 J.2.2.2.2.2.2.2.2.2.2.2.1 J.2.2.2.2.2.2.2.2.2.2.2.2)
 refine bj (λhb=>absurd br (Cc hb)) (λa0=> ?_);refine bj (λs=> ?_) (λs=> ?_);have a6:¬aan W D A B C g c d l n f ae X Z U V Q i:=λw=>arI a0 s (u.1 w)
 exact arc W D A B C g c d l n f SY [_] (.inr (.inr (.inl ⟨rfl,_,rfl⟩))) _ _ L a1 h hw ae x U X Z I V Q G c.rows.length i rfl O hn ag al (a2 i O) _ _ _ _ _ _ _ _ _ _ _ _ _ _ _ (.box rfl rfl rfl an) co (λe F z y=>a3 F z y) (λM q p ac=>⟨M,rfl,p.congr (u0 bt) (u1 a6),ac,a4 q⟩);have a7:¬¬aan W D A B C g c d l n f ae X Z U V Q i:=λw=>w (u.2 (arJ a0 s))
 exact arc W D A B C g c d l n f SZ [] (.inr (.inr (.inr ⟨rfl,rfl⟩))) _ _ L a1 h hw ae x U X Z I V Q G c.rows.length i rfl O hn ag al (a2 i O) _ _ _ _ _ _ _ _ _ _ _ _ _ _ _ an (by omega) (λe F z y=>a3 F z y) (λM q p ac=>⟨M,rfl,p.congr (u0 bt) (u0 a7),ac,a4 q⟩);have cx:i=c.rows.length:=azN O (azD cl);subst cx;obtain⟨o,g1,bX,cy,rfl,c2,cI,c3⟩:=t23 W D A B C g c d l n f mR h ae;have c0:nN W D A B C g c d l n f ae=[.r (aF bX),.i cy]:=mQ g1;rw[c0] at bk bi;simp only[wk,axY,ax2] at g1;rw[aS g1];simp;refine bj (λc4=> ?_) (λhb=>absurd bk hb);exact aCG W D A B C g c d l n f h ae x U X Z I V Q G _ _ _ _ _ _ _ _ _ _ _ _ _ _ m bX _ hn a9 bb a8 _ (λo ho=>.inr ⟨hE.2 gD,ho⟩) (an.congr (λi=>(ca i).symm) λi=>(cc i).symm) ch cI s1 s2 bi
end
end
section
section
variable(W D A B C l:Int)(a b d f g:RV)
def aBQ(h:fF a b d f g)(ae:Int)(U X Z V:RV)(i:Nat)(Q:Sl (cr 96 V i))(R:zS W D A B C l a b d f g ae U X Z V i):Pos (gB W D A B C l a b d f g ae U X Z V i 0) (gB W D A B C l a b d f g ae U X Z V i 1) (gB W D A B C l a b d f g ae U X Z V i 2) (gB W D A B C l a b d f g ae U X Z V i 3):=by
 simp only[gB,zS] at R⊢;by_cases c:cb U i 0=true;simp only[c,if_true] at R⊢;obtain⟨o,P,p,q,r,s,e,rfl,O⟩:=aCC W D A B C l a b d f g h i ae (ci X i 0) (ci X i 1) (ci X i 2) (ci X i 3) (ci X i 4) (ci X i 5) (ci X i 6) (ci X i 7) (ci X i 8) (ci X i 9) (ci X i 10) (ci X i 11) (ci X i 12) _ (tX (cellAt Z.rows (i:Int) 0)) (ci Z i 1) (ci Z i 2) (ci Z i 3) (ci Z i 4) (ci Z i 5) (ci Z i 6) (ci Z i 7) (ci Z i 8) (ci Z i 9) (ci Z i 10) (ci Z i 11) (ci Z i 12) (ci Z i 13) (ci Z i 14) (ci Z i 15) (ci Z i 16) (cr 96 V i) Q;have e:∀k,Mc W D A B C l a b d f g ae X Z V i k=xi [.i p,.i q,.i r,.i s,.i e] k:=λk=>by simp only[Mc,oi,mQ P]
 simp only[e] at R⊢;exact O R.2;simp only[c,if_false] at R⊢;exact aki X Z i R
structure ObE(ae:Int)(wg bd mv bf af re bx:RV):Prop where
 ex:ajX W D A B C l a b d f g ae wg bd mv bf af re bx
 Ix:∀i<a.rows.length,zS W D A B C l a b d f g ae mv bf bd re i
 sge:SgA W D A B C l a b d f g ae bd mv bf re
set_option maxHeartbeats 16000000 in
def avd (cc:SO) (h:fF a b d f g) (ae:Int) (J V Q X L R I:RV) (O:EB a J V Q X L R I):∃o,TB.Ev 16 (wk W D A B C l a b d f g++[.r J,.r V,.i ae,.r Q,.r X,.r L,.r R,.r I]) o/\∃v e,o=.ret [.r (aF v),.i e]/\v.length<=536870912/\(e=0<->ObE W D A B C l a b d f g ae J V Q X L R I)/\(e=0->∀i,(HK v 4 i<->i<a.rows.length/\¬aje W D A B C l a b d f g ae Q X L R i)/\(HK v 5 i<->i<a.rows.length/\¬aan W D A B C l a b d f g ae Q X V R I i)):=by
 obtain⟨E,n⟩:∃E,E<->ObE W D A B C l a b d f g ae J V Q X L R I:=⟨_,Iff.rfl⟩;obtain⟨p4,a9⟩:∃p:Nat->Prop,∀i,p i<->i<a.rows.length/\¬aje W D A B C l a b d f g ae Q X L R i:=⟨_,λ_=>Iff.rfl⟩;obtain⟨p5,bb⟩:∃p:Nat->Prop,∀i,p i<->i<a.rows.length/\¬aan W D A B C l a b d f g ae Q X V R I i:=⟨_,λ_=>Iff.rfl⟩
 suffices cf:∃o,TB.Ev 16 (wk W D A B C l a b d f g++[.r J,.r V,.i ae,.r Q,.r X,.r L,.r R,.r I]) o/\RM E p4 p5 o by
  obtain⟨o,g1,g2⟩:=cf;refine⟨o,g1, ?_⟩;rcases g2 with⟨e,rfl,m,g4⟩|⟨m,v,rfl,g4,g5,g6⟩;exact⟨[],e,rfl,by simp,⟨λh=>absurd h m,λh=>absurd (n.2 h) g4⟩,λh=>absurd h m⟩;exact⟨v,0,rfl,g4,⟨λ_=>n.1 m,λ_=>rfl⟩,λ_ i=>⟨(g5 i).trans (a9 i),(g6 i).trans (bb i)⟩⟩
 refine dw rfl rfl (.inr λv hv=>by rcases hv with⟨_,h,_⟩|⟨_,_,h,_⟩<;>cases h) ?_;obtain⟨h1,h2⟩:=rZ W D A B C l a b d f g mR h;simp only[wk] at h1;have P:∀{e:Int},e≠0->¬ObE W D A B C l a b d f g ae J V Q X L R I->RM E p4 p5 (.ret [.r (aF []),.i e]):=λhe hn=>aBP he λh=>hn (n.1 h)
 rw[show Ag=(T.call _ _ _ _ _ _ (T.node _ _ (T.node _ _ (T.node _ (T.node _ (T.node _ (T.node _ _ (T.node _ (T.node _ (T.node _ (T.node _ _ (T.loop _ _ _ (T.node _ _ (T.loop _ _ _ (T.node _ _ (T.loop _ _ _ (T.node _ _ (T.call _ _ _ _ _ _ (T.call _ _ _ _ _ _ (T.loop _ _ _ (T.node _ _ (Ag.at aaZ)))))))))))) _) _) _)) _) _) _)))) from rfl];simp[wk,aS h1];simp only[h.rl.len,O.wg.len,O.bd.len,O.mv.len,O.bf.len,O.af.len,O.rsl.len,O.bx.len];refine bj (λh0=> ?_) (λbk=>P bk λK=>bk K.ex.wk);have hw:=h2 h0;have hn:=hw.nr;refine bj (λh8=>P (by omega) λK=>by have:=K.ex.nw;omega) (λh8=> ?_);refine bj (λcv=> ?_) (λU=>P (by omega) λK=>by have:=K.ex.br;omega);refine bj (λcx=> ?_) (λU=>P (by omega) λK=>by have:=K.ex.br;omega);refine bj (λEC=> ?_) (λU=>P (by omega) λK=>by have:=K.ex.EC;omega);refine bj (λMe=> ?_) (λU=>P (by omega) λK=>by have:=K.ex.Me;omega);refine bj (λxL=> ?_) (λU=>P (by omega) λK=>by have:=K.ex.xL;omega);refine bj (λMf=> ?_) (λU=>P (by omega) λK=>by have:=K.ex.Mf;omega);refine bj (λED=> ?_) (λU=>P (by omega) λK=>by have:=K.ex.ED;omega);refine bj (λIw=> ?_) (λU=>P (by omega) λK=>by have:=K.ex.Iw;omega);have ch:lenOf L.val=(a.rows.length:Int):=by rw[O.af.len];exact EC
 have cl:lenOf I.val=(a.rows.length:Int):=by rw[O.bx.len];exact Me
 have bs:lenOf V.val=(a.rows.length:Int):=by rw[O.bd.len];exact xL
 have bt:lenOf Q.val=(a.rows.length:Int):=by rw[O.mv.len];exact Mf
 have bX:lenOf X.val=(a.rows.length:Int):=by rw[O.bf.len];exact ED
 have b0:lenOf R.val=(a.rows.length:Int):=by rw[O.rsl.len];exact Iw
 have ac:a.rows.length<=140737488355328:=by omega
 have H:∀i<a.rows.length,Sl (cr 96 R i)/\(cr 96 R i).rows.length<=100:=λi Z=>O.eP i (by omega)
 refine bM a.rows.length (λi G=>G=[]/\∀k<i,tY V k=0/\SL X k=0/\(if cb Q k 0 then m85 W D A B C l a b d f g ae R k=0 else(cr 96 R k).rows=[])) ⟨0,rfl,by omega,rfl,by omega⟩ ?_;rintro i _ Z ⟨rfl,F⟩;simp[bs,bt,bX,b0];refine bj (λZ=> ?_) (λan=> ?_);have b1:=(Ew (t85 W D A B C l a b d f g mR h i ae (cr 96 R i) (H i Z).1)).1;simp only[wk,cr,axY,ax2] at b1;have b2:=(H i Z).1.len;simp only[cr] at b2;simp[bG Z ac,Z,aS b1,b2];refine bj (λw=> ?_) (λU=>P (by omega) λK=>U (K.ex.eB i Z).1);refine bj (λa2=> ?_) (λU=>P (by omega) λK=>U (K.ex.eB i Z).2.1);refine bj (λz=> ?_) (λz=> ?_);have N:cb Q i 0=true:=z;refine bj (λy=> ?_) (λU=>P (by omega) λK=>U (by have:=(K.ex.eB i Z).2.2;rw[if_pos N] at this;exact this));exact oK F ⟨w,a2,by rw[if_pos N];exact y⟩;have N:¬cb Q i 0=true:=z;refine bj (λy=> ?_) (λU=>P (by omega) λK=>U (by have:=(K.ex.eB i Z).2.2;rw[if_neg N] at this;exact this));exact oK F ⟨w,a2,by rw[if_neg N];exact y⟩;have x:i=a.rows.length:=by omega
 subst x;refine bM a.rows.length (λi G=>G=[]/\∀k<i,vB I k=true/\SL L k=0) ⟨0,rfl,by omega,rfl,by omega⟩ ?_;rintro i _ Z ⟨rfl,u⟩;simp[h.rl.len,ch,cl];refine bj (λZ=> ?_) (λan=> ?_);simp[bG Z ac,Z];refine bj (λw=>bj (λa2=>oK u ⟨w,a2⟩) (λU=>P (by omega) λK=>U (K.ex.box i Z).2)) (λU=>P (by omega) λK=>U (K.ex.box i Z).1);have x:i=a.rows.length:=by omega
 subst x;refine bM J.rows.length (λi G=>G=[]/\∀k<i,iX (ci J k) ae 4=0) ⟨0,rfl,by omega,rfl,by omega⟩ ?_;rintro i _ Z ⟨rfl,a0⟩;simp[O.wg.len];refine bj (λZ=> ?_) (λan=> ?_);have b3:=f25 (ci J i) ae;simp only[Is,ci,axY,ax2] at b3;simp[bG Z O.wg.sm,Z,aS b3];exact bj (λw=>oK a0 w) (λU=>P U λK=>U (K.ex.pth i Z));have x:i=J.rows.length:=by omega
 subst x;rw[aS (e86 Q O.mv (by omega))];simp;rw[aS (e87 X O.bf (by omega))];simp;have cp:ajX W D A B C l a b d f g ae J V Q X L R I:=⟨h0,by omega,by omega,by omega,by omega,by omega,by omega,by omega,by omega,F,u,a0⟩;refine bM a.rows.length (λi G=>∃t vr s,G=[.r (aF t),.r (aF vr),.r (aF s)]/\t.length=i/\vr.length=i/\s.length=i/\∀k<i,zS W D A B C l a b d f g ae Q X V R k/\(∀j<13,bg (cellAt t (k:Int) j).val=gS W D A B C l a b d f g ae Q X R k j)/\∀j<4,bg (cellAt s (k:Int) j).val=gB W D A B C l a b d f g ae Q X V R k j) ⟨0,rfl,by omega,[],[],[],rfl,rfl,rfl,rfl,by omega⟩ ?_;rintro i _ Z ⟨t,vr,s,rfl,a6,cy,a7,ag⟩;simp[bs,bt,bX,b0];refine bj (λZ=> ?_) (λan=> ?_);have b4:=e88 (cr 96 R i) (H i Z).1 (by have:=(H i Z).2;omega);simp only[cr] at b4;simp[bG Z ac,Z,aS b4];refine⟨by omega,bj (λz=> ?_) (λz=> ?_)⟩;have N:cb Q i 0=true:=z;have b5:=j7 _ (t89 W D A B C l a b d f g mR SB h i ae (ci X i 0) (ci X i 1) (ci X i 2) (ci X i 3) (ci X i 4) (ci X i 5) (ci X i 6) (ci X i 7) (ci X i 8) (ci X i 9) (ci X i 10) (ci X i 11) (ci X i 12) (cr 96 R i) (H i Z).1);simp only[wk,ci,cr,axY,ax2,Ir,Sz,qB] at b5;rw[aS b5];simp;refine bj (λy=> ?_) (λU=>P U λK=>U (by have:=K.Ix i Z;rw[zS,if_pos N] at this;exact this.1));have b6:=j7 _ (t90 W D A B C l a b d f g mR h i ae (ci X i 0) (ci X i 1) (ci X i 2) (ci X i 3) (ci X i 4) (ci X i 5) (ci X i 6) (ci X i 7) (ci X i 8) (ci X i 9) (ci X i 10) (ci X i 11) (ci X i 12) _ (tX (cellAt V.rows (i:Int) 0)) (ci V i 1) (ci V i 2) (ci V i 3) (ci V i 4) (ci V i 5) (ci V i 6) (ci V i 7) (ci V i 8) (ci V i 9) (ci V i 10) (ci V i 11) (ci V i 12) (ci V i 13) (ci V i 14) (ci V i 15) (ci V i 16) (cr 96 R i) (H i Z).1);simp only[wk,ci,cr,axY,ax2,Ir,Sz,qB] at b6;rw[aS b6];simp[bG Z ac];refine bj (λa5=> ?_) (λU=>P U λK=>U (by have:=K.Ix i Z;rw[zS,if_pos N] at this;exact this.2));refine⟨by omega,by omega,_,_,_,⟨rfl,rfl,rfl⟩,by simp;omega,by simp;omega,by simp;omega,λk q=> ?_⟩;by_cases a8:k=i;subst a8;refine⟨by rw[zS,if_pos N];exact⟨y,a5⟩,λj M=> ?_,λj M=> ?_⟩;rw[Iy a6,gS,if_pos N]
 match j,M with
 |0,_|1,_|2,_|3,_|4,_|5,_|6,_|7,_|8,_|9,_|10,_|11,_|12,_=>rfl
 rw[Iy a7,gB,if_pos N]
 match j,M with
 |0,_|1,_|2,_|3,_=>rfl
 obtain⟨q1,q2,q3⟩:=ag k (by omega);exact⟨q1,λj M=>by rw[SP (by omega)];exact q2 j M,λj M=>by rw[SP (by omega)];exact q3 j M⟩;have N:¬cb Q i 0=true:=z;refine bj (λy=> ?_) (λU=>P U λK=>U (by have:=K.Ix i Z;rw[zS,if_neg N] at this;exact this));refine⟨by omega,by omega,_,_,_,⟨rfl,rfl,rfl⟩,by simp;omega,by simp;omega,by simp;omega,λk q=> ?_⟩;by_cases a8:k=i;subst a8;refine⟨by rw[zS,if_neg N];exact y,λj M=> ?_,λj M=> ?_⟩;rw[Iy a6,gS,if_neg N]
 match j,M with
 |0,_|1,_|2,_|3,_|4,_|5,_|6,_|7,_|8,_|9,_|10,_|11,_|12,_=>rfl
 rw[Iy a7,gB,if_neg N]
 match j,M with
 |0,_|1,_|2,_|3,_=>rfl
 obtain⟨q1,q2,q3⟩:=ag k (by omega);exact⟨q1,λj M=>by rw[SP (by omega)];exact q2 j M,λj M=>by rw[SP (by omega)];exact q3 j M⟩;have x:i=a.rows.length:=by omega
 subst x;have iA:=λk q=>(ag k q).1
 have s1:∀i<a.rows.length,eF X V i 4=0:=λi Z=>(aBM X V i).2 ⟨(F i Z).2.1,(F i Z).1⟩
 have s2:∀i<a.rows.length,eF L V i 4=0:=λi Z=>(aBM L V i).2 ⟨(u i Z).2,(F i Z).1⟩
 obtain⟨o,g1,al,b7,rfl,c1,c2,c3⟩:=aCD W D A B C l a b d f g h ae;have b8:nN W D A B C l a b d f g ae=[.r (aF al),.i b7]:=mQ g1;have ca:gC ae 0 (l-1)=true:=by simp;omega
 have cs:b7=0:=c3 h0 ca;refine aCH W D A B C l a b d f g cc h hw ae J V Q X L R I O _ hn.2 (by omega) (by omega) (by omega) (by omega) (by omega) (by omega) (λi Z ct=> ?_) _ _ _ _ _ _ _ t vr s a6 a7 (λk q=>(ag k q).2) (λi Z=>⟨(aBQ W D A B C l a b d f g h ae Q X V R i (H i Z).1 (iA i Z)).1,(u i Z).1⟩) s1 s2 (by rw[b8];exact cs) ?_ E (n.trans ⟨λK=>K.sge,λk=>⟨cp,iA,k⟩⟩) p4 p5 a9 bb;have:=(F i Z).2.2;rw[if_pos ct] at this;exact(Ew (t85 W D A B C l a b d f g mR h i ae (cr 96 R i) (H i Z).1)).2 this;rw[b8];refine⟨h0,by omega,ca,by omega,Cd X V _,λi Z=>(u i (by omega)).1,λi Z=> ?_,λp hp=> ?_,a0⟩;have Z:i<a.rows.length:=by have:=Cd X V a.rows.length;have Z:i<(oL X V a.rows.length).length:=Z;omega
 have:=(aki X V i (s1 i Z)).1;simp only[vB,ci,aF,RV.jz];rw[oM X V (by simpa using Z) 0 (by omega),oM X V (by simpa using Z) 1 (by omega),oM X V (by simpa using Z) 2 (by omega),oM X V (by simpa using Z) 3 (by omega)];simpa using this;have hp:p<al.length:=hp;have e:∀c,ci (aF al) p c=aP c al[p]:=λc=>by simp[ci,aF,cellAt,aP,hp]
 have:=c2 _ (ayT hp);simp only[xr,ay1,e];exact this
end
end
variable{Z:List (List RV)}
section
section
variable{R:aT->Prop}{s:List LK}{t:T}{O:aa}{L:List PC}
variable(W D A B C d:Int)(a f g l m:RV)
def aCI:TB.Ev 43 [.r (aF []),.r (aF [])] (.ret [.b true]):=by
 refine kR rfl rfl (.inl rfl) ?_;simp[T43];refine bM 0 (λ_ Z=>Z=[]) ⟨0,rfl,by omega,rfl⟩ ?_;rintro i _ X rfl;simp[show i=0 by omega]
def aCJ:TB.Ev 44 [.r (aF []),.r (aF [])] (.ret [.b true]):=by
 refine kR rfl rfl (.inl rfl) ?_;simp[T44];refine bM 0 (λ_ Z=>Z=[]) ⟨0,rfl,by omega,rfl⟩ ?_;rintro i _ X rfl;simp[show i=0 by omega]
def aCK:TB.Ev 45 [.r (aF []),.r (aF [])] (.ret [.b true]):=by
 refine kR rfl rfl (.inl rfl) ?_;simp[T45];refine bM 0 (λ_ Z=>Z=[]) ⟨0,rfl,by omega,rfl⟩ ?_;rintro i _ X rfl;simp[show i=0 by omega]
def aCL:TB.Ev 15 [.i 0,.r (aF []),.r (aF []),.r (aF []),.r (aF []),.r (aF []),.i 0,.r (aF []),.r (aF []),.r (aF []),.r (aF []),.r (aF [])] (.ret [.b true]):=by
 refine kR rfl rfl (.inl rfl) ?_;simp[T15,aS aCI,aS aCJ,aS aCK];refine bM 0 (λ_ Z=>Z=[]) ⟨0,rfl,by omega,rfl⟩ ?_;rintro i _ X rfl;simp[show i=0 by omega]
def t30(v:List (List RV))(N:v.length<=140737488355328)(k:Int)(i:Nat):∃o,TB.Ev 30 [.r (aF v),.i k,.i i] o/\∃b,o=.ret [.b b]/\(b=true<->HK v k i):=by
 refine dw rfl rfl (.inl rfl) ?_;simp[T30];refine bM v.length (λj M=>M=[]/\∀x∈v.take j,¬(aP 0 x=k/\aP 1 x=(i:Int))) ⟨0,rfl,by omega,rfl,by simp⟩ ?_;rintro j _ X ⟨rfl,Q⟩;simp;refine bj (λX=>⟨X, ?_⟩) (λJ=> ?_);have e:∀c,bg (cellAt v (j:Int) c).val=aP c v[j]:=λc=>by simp[cellAt,aP,X]
 have P:¬(aP 0 v[j]=k/\aP 1 v[j]=(i:Int))->∀x∈v.take (j+1),¬(aP 0 x=k/\aP 1 x=(i:Int)):=λh x Z=>by
  rw[aBq,axK X] at Z;rcases axS.1 Z with Z|Z;exact Q x Z;simp at Z;subst Z;exact h
 simp only[e,bG X N];refine bj (λV=>bj (λU=> ?_) (λU=>⟨trivial,λx Z p q=>P (λh=>U h.2) x Z ⟨p,q⟩⟩)) (λV=>⟨trivial,λx Z p q=>P (λh=>V h.1) x Z ⟨p,q⟩⟩);exact⟨_,ayT X,V,U⟩;rintro⟨x,Z,V,U⟩;rw[ay0 (by omega)] at Q;exact Q x Z ⟨V,U⟩
def aao(v:List (List RV))(k:Nat):Nat:=(v.getD k []).length
def arf{X:List RV}{n:Nat}(h:Z.length=U)(V:X.length=n):aao (Z++[X]) U=n:=by
 subst h;simpa[aao] using V
def arh{w:List (List RV)}(h:U<Z.length):aao (Z++w) U=aao Z U:=by simp[aao,axL h]
structure Md(ae:Int)(bd mv bf re:RV)(vs vr vb:List (List RV)):Prop where
 wk:jR W D A B C d a f g l m=0
 br:0<=ae/\ae<d
 xL:bd.rows.length=a.rows.length
 Mf:mv.rows.length=a.rows.length
 ED:bf.rows.length=a.rows.length
 Iw:re.rows.length=a.rows.length
 eB:∀i<a.rows.length,tY bd i=0/\SL bf i=0/\(if cb mv i 0 then m85 W D A B C d a f g l m ae re i=0 else(cr 96 re i).rows=[])
 ls:vs.length=a.rows.length
 lr:vr.length=a.rows.length
 lb:vb.length=a.rows.length
 al:∀k<a.rows.length,cellAt vr (k:Int) 0=aF (cr 96 re k).rows/\aao vs k=13/\aao vb k=4/\zS W D A B C d a f g l m ae mv bf bd re k/\(∀j<13,bg (cellAt vs (k:Int) j).val=gS W D A B C d a f g l m ae mv bf re k j)/\∀j<4,bg (cellAt vb (k:Int) j).val=gB W D A B C d a f g l m ae mv bf bd re k j
def R13(ae:Int)(P Z X N:RV)(o:aT):Prop:=(∃e,e≠0/\o=.ret [.i 0,.r (aF []),.r (aF []),.r (aF []),.r (aF []),.r (aF []),.i e])\/∃V U Q,o=.ret [.i ae,.r (aF Z.rows),.r (aF X.rows),.r (aF V),.r (aF U),.r (aF Q),.i 0]/\Md W D A B C d a f g l m ae P Z X N V U Q
set_option maxHeartbeats 8000000 in
def t13 (h:fF a f g l m) (ae:Int) (wg X Q Z V:RV) (bv:Sl X) (s:Sl Q) (dU:Sl Z) (ag:Sl V) (br:∀i<V.rows.length,Sl (cr 96 V i)/\(cr 96 V i).rows.length<=100):∃o,TB.Ev 13 (wk W D A B C d a f g l m++[.r wg,.r X,.i ae,.r Q,.r Z,.r V]) o/\R13 W D A B C d a f g l m ae X Q Z V o:=by
 obtain⟨P,u⟩:∃P:aT->Prop,∀o,P o<->R13 W D A B C d a f g l m ae X Q Z V o:=⟨_,λ_=>Iff.rfl⟩
 suffices bs:∃o,TB.Ev 13 (wk W D A B C d a f g l m++[.r wg,.r X,.i ae,.r Q,.r Z,.r V]) o/\P o by
  obtain⟨o,g1,g2⟩:=bs;exact⟨o,g1,(u o).1 g2⟩
 refine dw rfl rfl (.inr λv hv=>by rcases(u _).1 hv with⟨_,_,h⟩|⟨_,_,_,h,_⟩<;>cases h) ?_;obtain⟨h1,h2⟩:=rZ W D A B C d a f g l m mR h;simp only[wk] at h1;have J:∀{e:Int},e≠0->P (.ret [.i 0,.r (aF []),.r (aF []),.r (aF []),.r (aF []),.r (aF []),.i e]):=λ{e} he=>(u _).2 (.inl ⟨e,he,rfl⟩)
 simp[T13,wk,aS h1];simp only[h.rl.len,bv.len,s.len,dU.len,ag.len];refine bj (λh0=> ?_) (λU=>J U);have hw:=h2 h0;have hn:=hw.nr;refine bj (λU=>J (by omega)) (λbx=> ?_);refine bj (λU=>J (by omega)) (λbX=> ?_);refine bj (λxL=> ?_) (λU=>J (by omega));refine bj (λMf=> ?_) (λU=>J (by omega));refine bj (λED=> ?_) (λU=>J (by omega));refine bj (λIw=> ?_) (λU=>J (by omega));have al:lenOf X.val=(a.rows.length:Int):=by rw[bv.len];exact xL
 have an:lenOf Q.val=(a.rows.length:Int):=by rw[s.len];exact Mf
 have a0:lenOf Z.val=(a.rows.length:Int):=by rw[dU.len];exact ED
 have a6:lenOf V.val=(a.rows.length:Int):=by rw[ag.len];exact Iw
 have q:a.rows.length<=140737488355328:=by omega
 have F:∀i<a.rows.length,Sl (cr 96 V i)/\(cr 96 V i).rows.length<=100:=λi N=>br i (by omega)
 refine bM a.rows.length (λi p=>p=[]/\∀k<i,tY X k=0/\SL Z k=0/\(if cb Q k 0 then m85 W D A B C d a f g l m ae V k=0 else(cr 96 V k).rows=[])) ⟨0,rfl,by omega,rfl,by omega⟩ ?_;rintro i _ N ⟨rfl,n⟩;simp[al,an,a0,a6];refine bj (λN=> ?_) (λbt=> ?_);have a7:=(Ew (t85 W D A B C d a f g l m mR h i ae (cr 96 V i) (F i N).1)).1;simp only[wk,cr,axY,ax2] at a7;have a8:=(F i N).1.len;simp only[cr] at a8;simp[bG N q,N,aS a7,a8];refine bj (λa1=> ?_) (λU=>J (by omega));refine bj (λa2=> ?_) (λU=>J (by omega));refine bj (λH=> ?_) (λH=> ?_);have I:cb Q i 0=true:=H;refine bj (λG=> ?_) (λU=>J (by omega));exact oK n ⟨a1,a2,by rw[if_pos I];exact G⟩;have I:¬cb Q i 0=true:=H;refine bj (λG=> ?_) (λU=>J (by omega));exact oK n ⟨a1,a2,by rw[if_neg I];exact G⟩;have c:i=a.rows.length:=by omega
 subst c;rw[aS (e86 Q s (by omega))];simp;rw[aS (e87 Z dU (by omega))];simp;refine bM a.rows.length (λi p=>∃E y z,p=[.r (aF E),.r (aF y),.r (aF z)]/\E.length=i/\y.length=i/\z.length=i/\∀k<i,cellAt y (k:Int) 0=aF (cr 96 V k).rows/\aao E k=13/\aao z k=4/\zS W D A B C d a f g l m ae Q Z X V k/\(∀j<13,bg (cellAt E (k:Int) j).val=gS W D A B C d a f g l m ae Q Z V k j)/\∀j<4,bg (cellAt z (k:Int) j).val=gB W D A B C d a f g l m ae Q Z X V k j) ⟨0,rfl,by omega,[],[],[],rfl,rfl,rfl,rfl,by omega⟩ ?_;rintro i _ N ⟨E,y,z,rfl,x,b,w,ac⟩;simp[al,an,a0,a6];refine bj (λN=> ?_) (λbt=> ?_);have a9:=e88 (cr 96 V i) (F i N).1 (by have:=(F i N).2;omega);simp only[cr] at a9;simp[bG N q,N,aS a9];refine⟨by omega,bj (λH=> ?_) (λH=> ?_)⟩;have I:cb Q i 0=true:=H;have bb:=j7 _ (t89 W D A B C d a f g l m mR SB h i ae (ci Z i 0) (ci Z i 1) (ci Z i 2) (ci Z i 3) (ci Z i 4) (ci Z i 5) (ci Z i 6) (ci Z i 7) (ci Z i 8) (ci Z i 9) (ci Z i 10) (ci Z i 11) (ci Z i 12) (cr 96 V i) (F i N).1);simp only[wk,ci,cr,axY,ax2,Ir,Sz,qB] at bb;rw[aS bb];simp;refine bj (λG=> ?_) (λU=>J U);have bk:=j7 _ (t90 W D A B C d a f g l m mR h i ae (ci Z i 0) (ci Z i 1) (ci Z i 2) (ci Z i 3) (ci Z i 4) (ci Z i 5) (ci Z i 6) (ci Z i 7) (ci Z i 8) (ci Z i 9) (ci Z i 10) (ci Z i 11) (ci Z i 12) _ (tX (cellAt X.rows (i:Int) 0)) (ci X i 1) (ci X i 2) (ci X i 3) (ci X i 4) (ci X i 5) (ci X i 6) (ci X i 7) (ci X i 8) (ci X i 9) (ci X i 10) (ci X i 11) (ci X i 12) (ci X i 13) (ci X i 14) (ci X i 15) (ci X i 16) (cr 96 V i) (F i N).1);simp only[wk,ci,cr,axY,ax2,Ir,Sz,qB] at bk;rw[aS bk];simp[bG N q];refine bj (λa5=> ?_) (λU=>J U);refine⟨by omega,by omega,_,_,_,⟨rfl,rfl,rfl⟩,by simp;omega,by simp;omega,by simp;omega,λk hk=> ?_⟩;by_cases af:k=i;subst af;refine⟨by rw[Iy b];rfl,arf x rfl,arf w rfl,by rw[zS,if_pos I];exact⟨G,a5⟩,λj M=> ?_,λj M=> ?_⟩;rw[Iy x,gS,if_pos I]
 match j,M with
 |0,_|1,_|2,_|3,_|4,_|5,_|6,_|7,_|8,_|9,_|10,_|11,_|12,_=>rfl
 rw[Iy w,gB,if_pos I]
 match j,M with
 |0,_|1,_|2,_|3,_=>rfl
 obtain⟨q0,q4,q5,q1,q2,q3⟩:=ac k (by omega);exact⟨by rw[SP (by omega)];exact q0,by rw[arh (by omega)];exact q4,by rw[arh (by omega)];exact q5,q1,λj M=>by rw[SP (by omega)];exact q2 j M,λj M=>by rw[SP (by omega)];exact q3 j M⟩;have I:¬cb Q i 0=true:=H;refine bj (λG=> ?_) (λU=>J U);refine⟨by omega,by omega,_,_,_,⟨rfl,rfl,rfl⟩,by simp;omega,by simp;omega,by simp;omega,λk hk=> ?_⟩;by_cases af:k=i;subst af;refine⟨by rw[Iy b];rfl,arf x rfl,arf w rfl,by rw[zS,if_neg I];exact G,λj M=> ?_,λj M=> ?_⟩;rw[Iy x,gS,if_neg I]
 match j,M with
 |0,_|1,_|2,_|3,_|4,_|5,_|6,_|7,_|8,_|9,_|10,_|11,_|12,_=>rfl
 rw[Iy w,gB,if_neg I]
 match j,M with
 |0,_|1,_|2,_|3,_=>rfl
 obtain⟨q0,q4,q5,q1,q2,q3⟩:=ac k (by omega);exact⟨by rw[SP (by omega)];exact q0,by rw[arh (by omega)];exact q4,by rw[arh (by omega)];exact q5,q1,λj M=>by rw[SP (by omega)];exact q2 j M,λj M=>by rw[SP (by omega)];exact q3 j M⟩;have c:i=a.rows.length:=by omega
 subst c;exact(u _).2 (.inr ⟨E,y,z,rfl,⟨h0,by omega,by omega,by omega,by omega,by omega,n,x,b,w,ac⟩⟩)
end
end
section
section
variable(W D A B C u:Int)(g m p q s:RV)
def avn:∀{Z X:List XV}(k:Nat),wB Z X->xi Z k=xi X k
 |[],[],_,_=>rfl
 |[],_::_,_,h=>h.elim
 |_::_,[],_,h=>h.elim
 |x::Z,y::X,0,h=>by
  have h:=h.1;cases x<;>cases y<;>simp only[Gj] at h<;>simp[xi,h]
 |x::Z,y::X,k+1,h=>by
  have:=avn k h.2;simpa[xi] using this
def avC(a b:RV)(h:bW a b):∀l:List XV,wB (l++[.r a]) (l++[.r b])
 |[]=>⟨h,trivial⟩
 |x::l=>⟨(arb [x]).1,avC a b h l⟩
def aBS{v:RV}(h:Sl v):bW (aF v.rows) v:=by
 obtain⟨⟨a,n,c,V⟩,Z,_⟩:=h;cases v with
 |mk x R=>
  simp only[RV.kf,RV.jz] at V Z⊢;subst V;simp only[lenOf] at Z;obtain rfl:n=R.length:=by omega
  refine bW.sl _ _ _ _ _ _ _ rfl (λi Q P X Z=>by rw[X] at Z;cases Z;rfl) (λi j Q P x N X Z O U=> ?_);rw[X] at Z;cases Z;rw[O] at U;cases U;exact bW.refl x
def aCN(h:fF g m p q s)(ae:Int)(d X t Z:RV)(P:X.rows=d.rows)(i:Nat)(V:Sl (cr 96 t i))(U:cr 96 Z i=aF (cr 96 t i).rows)(k:Nat):m89 W D A B C u g m p q s ae X Z i k=m89 W D A B C u g m p q s ae d t i k:=by
 have O:∀j,ci X i j=ci d i j:=λj=>by simp only[ci,P]
 obtain⟨o,R,N,rfl,_⟩:=t89 W D A B C u g m p q s mR SB h i ae (ci d i 0) (ci d i 1) (ci d i 2) (ci d i 3) (ci d i 4) (ci d i 5) (ci d i 6) (ci d i 7) (ci d i 8) (ci d i 9) (ci d i 10) (ci d i 11) (ci d i 12) (cr 96 t i) V;obtain⟨M,Q,L,rfl,_⟩:=t89 W D A B C u g m p q s mR SB h i ae (ci d i 0) (ci d i 1) (ci d i 2) (ci d i 3) (ci d i 4) (ci d i 5) (ci d i 6) (ci d i 7) (ci d i 8) (ci d i 9) (ci d i 10) (ci d i 11) (ci d i 12) (cr 96 Z i) (by rw[U];exact Sv V.sm);have e:=aBL (avC _ _ (show bW (cr 96 Z i) (cr 96 t i) by rw[U];exact aBS V) (wk W D A B C u g m p q s++[.i i,.i ae,.i (ci d i 0),.i (ci d i 1),.i (ci d i 2),.i (ci d i 3),.i (ci d i 4),.i (ci d i 5),.i (ci d i 6),.i (ci d i 7),.i (ci d i 8),.i (ci d i 9),.i (ci d i 10),.i (ci d i 11),.i (ci d i 12)])) (by simpa only[azd,axY,ax2] using Q) (by simpa only[azd,axY,ax2] using R);simp only[m89,O,oi,mQ R,mQ Q];exact avn k e
def aCO(h:fF g m p q s)(ae:Int)(d X f t Z:RV)(P:X.rows=d.rows)(i:Nat)(V:Sl (cr 96 t i))(U:cr 96 Z i=aF (cr 96 t i).rows)(k:Nat):Mc W D A B C u g m p q s ae X f Z i k=Mc W D A B C u g m p q s ae d f t i k:=by
 have O:∀j,ci X i j=ci d i j:=λj=>by simp only[ci,P]
 obtain⟨o,R,N,rfl,_⟩:=t90 W D A B C u g m p q s mR h i ae (ci d i 0) (ci d i 1) (ci d i 2) (ci d i 3) (ci d i 4) (ci d i 5) (ci d i 6) (ci d i 7) (ci d i 8) (ci d i 9) (ci d i 10) (ci d i 11) (ci d i 12) _ (tX (cellAt f.rows (i:Int) 0)) (ci f i 1) (ci f i 2) (ci f i 3) (ci f i 4) (ci f i 5) (ci f i 6) (ci f i 7) (ci f i 8) (ci f i 9) (ci f i 10) (ci f i 11) (ci f i 12) (ci f i 13) (ci f i 14) (ci f i 15) (ci f i 16) (cr 96 t i) V;obtain⟨M,Q,L,rfl,_⟩:=t90 W D A B C u g m p q s mR h i ae (ci d i 0) (ci d i 1) (ci d i 2) (ci d i 3) (ci d i 4) (ci d i 5) (ci d i 6) (ci d i 7) (ci d i 8) (ci d i 9) (ci d i 10) (ci d i 11) (ci d i 12) _ (tX (cellAt f.rows (i:Int) 0)) (ci f i 1) (ci f i 2) (ci f i 3) (ci f i 4) (ci f i 5) (ci f i 6) (ci f i 7) (ci f i 8) (ci f i 9) (ci f i 10) (ci f i 11) (ci f i 12) (ci f i 13) (ci f i 14) (ci f i 15) (ci f i 16) (cr 96 Z i) (by rw[U];exact Sv V.sm);have e:=aBL (avC _ _ (show bW (cr 96 Z i) (cr 96 t i) by rw[U];exact aBS V) (wk W D A B C u g m p q s++[.i i,.i ae,.i (ci d i 0),.i (ci d i 1),.i (ci d i 2),.i (ci d i 3),.i (ci d i 4),.i (ci d i 5),.i (ci d i 6),.i (ci d i 7),.i (ci d i 8),.i (ci d i 9),.i (ci d i 10),.i (ci d i 11),.i (ci d i 12),.r (cd .str (cellAt f.rows (i:Int) 0)),.i (ci f i 1),.i (ci f i 2),.i (ci f i 3),.i (ci f i 4),.i (ci f i 5),.i (ci f i 6),.i (ci f i 7),.i (ci f i 8),.i (ci f i 9),.i (ci f i 10),.i (ci f i 11),.i (ci f i 12),.i (ci f i 13),.i (ci f i 14),.i (ci f i 15),.i (ci f i 16)])) (by simpa only[azd,axY,ax2] using Q) (by simpa only[azd,axY,ax2] using R);simp only[Mc,O,oi,mQ R,mQ Q];exact avn k e
variable{ae:Int}{f E d t:RV}{F w G:List (List RV)}
def Md.cr(k:Md W D A B C u g m p q s ae f E d t F w G){i:Nat}(Z:i<g.rows.length):cr 96 (aF w) i=aF (cr 96 t i).rows:=by
 have:=(k.al i Z).1;simp only[Y.cr,axq,this];rfl
def Md.gS(k:Md W D A B C u g m p q s ae f E d t F w G)(h:fF g m p q s)(X:∀i<t.rows.length,Sl (Y.cr 96 t i)){i:Nat}(Z:i<g.rows.length)(j:Nat):gS W D A B C u g m p q s ae (aF E.rows) (aF d.rows) (aF w) i j=gS W D A B C u g m p q s ae E d t i j:=by
 have V:=aCN W D A B C u g m p q s h ae d (aF d.rows) t (aF w) rfl i (X i (by rw[k.Iw];exact Z)) (k.cr W D A B C u g m p q s Z) j;simp only[Y.gS,V];rfl
def Md.gB(k:Md W D A B C u g m p q s ae f E d t F w G)(h:fF g m p q s)(X:∀i<t.rows.length,Sl (Y.cr 96 t i)){i:Nat}(Z:i<g.rows.length)(j:Nat):gB W D A B C u g m p q s ae (aF E.rows) (aF d.rows) f (aF w) i j=gB W D A B C u g m p q s ae E d f t i j:=by
 have V:=aCO W D A B C u g m p q s h ae d (aF d.rows) f t (aF w) rfl i (X i (by rw[k.Iw];exact Z)) (k.cr W D A B C u g m p q s Z) j;simp only[Y.gB,V];rfl
end
end
section
section
variable(W D A B C E:Int)(d o s t u:RV)
def avK{i:Nat}{g:List RV->List RV}(h:i≠U)(j:Nat):ci (aF (Z.modify U g)) i j=ci (aF Z) i j:=by
 have e:¬U=i:=λe=>h e.symm
 simp[ci,aF,cellAt,aA5,e]
def aqI{R:Nat}(P:U<Z.length)(Q:R<aao Z U)(j:Nat):ci (aF (Z.modify U λO=>eU O R [.mk (.int .i64 X) []])) U j=if j=R then X else ci (aF Z) U j:=by
 have Q:R<Z[U].length:=by simpa[aao,P] using Q
 simp only[ci,aF,RV.jz,cellAt,ayE,axN,aA5,axK P,eU];simp[ayD];split;rename_i e;subst e;simp[Q,bg];rename_i e;rw[if_neg λh=>e h.symm]
def aCP(Z:0<=X/\X<=7)(U:0<=Q/\Q<=255):(0<=aR .rem .i64 (aR .add .i64 (aR .add .i64 X 1) (aR .rem .i64 (IntKind.i64.wrap Q) 7)) 8/\aR .rem .i64 (aR .add .i64 (aR .add .i64 X 1) (aR .rem .i64 (IntKind.i64.wrap Q) 7)) 8<=7)/\aR .rem .i64 (aR .add .i64 (aR .add .i64 X 1) (aR .rem .i64 (IntKind.i64.wrap Q) 7)) 8≠X:=by
 simp only[aR];rw[fk (n:=Q) (by omega) (by omega),aDL (a:=Q) (by omega),fk (n:=X+1) (by omega) (by omega),fk (by omega) (by omega),aDL (by omega)];omega
variable{ae:Int}{I G M F V:RV}{H y:List (List RV)}
def aCQ(h:fF d o s t u)(m:∀Z O:List (List RV),Z.length=d.rows.length->O.length=d.rows.length->EB d I G M F (aF Z) V (aF O))(R:ObE W D A B C E d o s t u ae I G M F (aF H) V (aF y))(hl:H.length=d.rows.length)(b:y.length=d.rows.length)
  (a:∀i<d.rows.length,aje W D A B C E d o s t u ae M F (aF H) V i)(hI:∀i<d.rows.length,aan W D A B C E d o s t u ae M F G V (aF y) i)(P:U<d.rows.length)(hx:0<=X/\X<=7)(hn:X≠ci (aF H) U 2)(N:Z.length=d.rows.length)(e1:∀i,i≠U->∀j,ci (aF Z) i j=ci (aF H) i j)(L:∀j,ci (aF Z) U j=if j=2 then X else ci (aF H) U j):
  ∃v,TB.Ev 16 (wk W D A B C E d o s t u++[.r I,.r G,.i ae,.r M,.r F,.r (aF Z),.r V,.r (aF y)]) (.ret [.r (aF v),.i 0])/\v.length<=536870912/\HK v 4 U/\¬HK v 5 U:=by
 obtain⟨_,g,v,e,rfl,l,c,q⟩:=avd W D A B C E d o s t u brc h ae I G M F (aF Z) V (aF y) (m Z y N b);have ac:ajX W D A B C E d o s t u ae I G M F (aF Z) V (aF y):={R.ex with
   EC:=N
   box:=λi J=>⟨(R.ex.box i J).1,by
    have Q:=(R.ex.box i J).2;by_cases z:i=U;subst z;simp only[SL] at Q⊢;have p:=(aqz _ _ _ _ _ _ _ _ _ _ _ _ _).1 Q;simp only[L];exact(aqz _ _ _ _ _ _ _ _ _ _ _ _ _).2 {p with f:=hx};simp only[SL,e1 i z] at Q⊢;exact Q⟩}
 have he:e=0:=c.2 ⟨ac,R.Ix,R.sge⟩;subst he;refine⟨v,g,l,(q rfl U).1.2 ⟨P,λw=> ?_⟩,λw=>((q rfl U).2.1 w).2 (hI U P)⟩;have n:=w 2 (by omega);have w2:=a U P 2 (by omega);rw[L,if_pos rfl,<-w2] at n;exact hn n
def aBT(h:fF d o s t u)(L:∀X wb:List (List RV),X.length=d.rows.length->wb.length=d.rows.length->EB d I G M F (aF X) V (aF wb))(Z:ObE W D A B C E d o s t u ae I G M F (aF H) V (aF y))(J:H.length=d.rows.length)
  (z:∀i<d.rows.length,aje W D A B C E d o s t u ae M F (aF H) V i)(R:U<d.rows.length){wb:List (List RV)}(Q:wb.length=d.rows.length)(x:∀i,i≠U->∀j,ci (aF wb) i j=ci (aF y) i j)(p:vB (aF wb) U=true)(n:¬aan W D A B C E d o s t u ae M F G V (aF wb) U):
  ∃v,TB.Ev 16 (wk W D A B C E d o s t u++[.r I,.r G,.i ae,.r M,.r F,.r (aF H),.r V,.r (aF wb)]) (.ret [.r (aF v),.i 0])/\v.length<=536870912/\HK v 5 U/\¬HK v 4 U:=by
 obtain⟨_,g,v,e,rfl,l,c,q⟩:=avd W D A B C E d o s t u brc h ae I G M F (aF H) V (aF wb) (L H wb J Q);have m:ajX W D A B C E d o s t u ae I G M F (aF H) V (aF wb):={Z.ex with
   Me:=Q
   box:=λi P=>⟨by
    by_cases O:i=U;subst O;exact p;have N:=(Z.ex.box i P).1;simp only[vB,x i O] at N⊢;exact N,(Z.ex.box i P).2⟩}
 have f:e=0:=c.2 ⟨m,Z.Ix,Z.sge⟩;subst f;exact⟨v,g,l,(q rfl U).2.2 ⟨R,n⟩,λw=>((q rfl U).1.1 w).2 (z U R)⟩
set_option maxHeartbeats 8000000 in
def t9 (hS:TB.Ev 11 [] (.ret [.b true])) (h:fF d o s t u) (ae:Int) (I G P Q O:RV) (h1:Sl I) (h2:Sl G) (h3:Sl P) (h4:Sl Q) (h5:Sl O) (g:∀i<O.rows.length,Sl (cr 96 O i)) (R hh:Int) (b1:0<=R/\R<=255) (b2:0<=hh/\hh<=255):
  TB.Ev 9 (wk W D A B C E d o s t u++[.r I,.r G,.i ae,.r P,.r Q,.r O,.i R,.i hh]) (.ret [.b true]):=by
 refine kR rfl rfl (.inl rfl) ?_;obtain⟨b3,a2,b4,rfl,hF⟩:=t12 W D A B C E d o s t u I G Q O (by rw[h5.len];omega);simp only[wk,axY,ax2] at a2;simp[T9,wk,aS hS,aS a2];intro hb;have hF:=hF hb;have a3:∀i<O.rows.length,Sl (cr 96 O i)/\(cr 96 O i).rows.length<=100:=λi Z=>⟨g i Z,by
  have:=hF.eP i (by rw[h5.len];omega);rw[(g i Z).len] at this;omega⟩
 obtain⟨_,a4,q⟩:=t13 W D A B C E d o s t u h ae I G P Q O h2 h3 h4 h5 a3;simp only[wk,axY,ax2] at a4;rw[aS a4];rcases q with⟨e,J,rfl⟩|⟨H,N,y,rfl,m⟩;simp[J,aS aCL];have c:1<=d.rows.length/\d.rows.length<=64:=((rZ W D A B C E d o s t u mR h).2 m.wk).nr;have z:∀ws wb:List (List RV),ws.length=d.rows.length->wb.length=d.rows.length->EB d I G (aF P.rows) (aF Q.rows) (aF ws) (aF N) (aF wb):=λws wb L e2=>⟨h1,h2,Sv h3.sm,Sv h4.sm,Sv (by omega),Sv (by have:=m.lr;omega),Sv (by omega),λi Z=>by
  have Z:i<d.rows.length:=by have:=m.lr;have Z:i<N.length:=Z;omega
  have:=a3 i (by rw[m.Iw];exact Z);rw[m.cr W D A B C E d o s t u Z];exact⟨Sv this.1.sm,this.2⟩⟩
 obtain⟨_,a5,a6,b5,rfl,b6,bb,a7⟩:=avd W D A B C E d o s t u brc h ae I G (aF P.rows) (aF Q.rows) (aF H) (aF N) (aF y) (z H y m.ls m.lb);simp only[wk,axY,ax2] at a5;simp;rw[aS a5];simp[m.ls,m.lb];refine bj (λJ=> ?_) (λ_=>by omega);refine bj (λh0=>by rw[h0] at c;simp at c) (λ_=> ?_);have x:=bb.1 J;have a:∀i<d.rows.length,aje W D A B C E d o s t u ae (aF P.rows) (aF Q.rows) (aF H) (aF N) i:=λi Z j hj=>by
  rw[m.gS W D A B C E d o s t u h g Z j];exact(m.al i Z).2.2.2.2.1 j hj
 have U:∀i<d.rows.length,∀j<4,gB W D A B C E d o s t u ae (aF P.rows) (aF Q.rows) G (aF N) i j=ci (aF y) i j:=λi Z j hj=>by
  rw[m.gB W D A B C E d o s t u h g Z j];exact((m.al i Z).2.2.2.2.2 j hj).symm
 have a8:∀i<d.rows.length,aan W D A B C E d o s t u ae (aF P.rows) (aF Q.rows) G (aF N) (aF y) i:=λi Z=>by
  rw[aan,U i Z 0 (by omega),U i Z 1 (by omega),U i Z 2 (by omega),U i Z 3 (by omega)];simp[B5]
 have p:∀{v:List (List RV)}{k:Int}{i:Nat}{b:Bool},(b=true<->HK v k i)->¬HK v k i->b=false:=λ{v k i b} q w=>by
  cases b with
  |false=>rfl
  |true=>exact absurd (q.1 rfl) w
 refine bM d.rows.length (λi bk=>bk=[]) ⟨0,rfl,by omega,rfl⟩ ?_;rintro i _ Z rfl;simp[m.ls,m.lb];refine bj (λZ=> ?_) (λb7=> ?_);obtain⟨_,br,b,rfl,q⟩:=t30 a6 (by omega) 4 i;obtain⟨_,bs,b',rfl,q'⟩:=t30 a6 (by omega) 5 i;obtain rfl:=p q λw=>(((a7 J i).1.1 w).2 (a i Z))
 obtain rfl:=p q' λw=>(((a7 J i).2.1 w).2 (a8 i Z))
 rw[aS br];simp;rw[aS bs];simp[bG Z (show d.rows.length<=140737488355328 by omega)];obtain⟨k,hk,X⟩:∃k:Nat,aR .rem .i64 (IntKind.i64.wrap R) (d.rows.length:Int)=(k:Int)/\k<d.rows.length:=by
  refine⟨(R%d.rows.length).toNat, ?_, ?_⟩;simp only[aR];rw[fk (n:=R) (by omega) (by omega),aDL (by omega)];have:=Int.emod_nonneg R (b:=d.rows.length) (by omega);have:=aDP R (b:=d.rows.length) (by omega);omega;have:=Int.emod_nonneg R (b:=d.rows.length) (by omega);have:=aDP R (b:=d.rows.length) (by omega);omega
 simp only[hk];simp;have ne:d.rows≠[]:=λw=>by rw[w] at c;simp at c
 have bt:k<H.length:=by rw[m.ls];exact X
 have af:k<y.length:=by rw[m.lb];exact X
 obtain⟨_,bx,ag,_⟩:=m.al k X;have hf:=((aqz _ _ _ _ _ _ _ _ _ _ _ _ _).1 (x.ex.box k X).2).f;have fc:=aCP hf b2;have hp:=aBQ W D A B C E d o s t u h ae (aF P.rows) (aF Q.rows) G (aF N) k ((z H y m.ls m.lb).eP k (by have:=m.lr;exact Nat.lt_of_lt_of_eq X this.symm)).1 (x.Ix k X);rw[U k X 0 (by omega),U k X 1 (by omega),U k X 2 (by omega),U k X 3 (by omega)] at hp;obtain⟨p1,p2,p3⟩:=hp;have p1:=p1;simp[cK] at p1;obtain⟨va,gA,lA,bX,b0⟩:=aCQ W D A B C E d o s t u h z x m.ls m.lb a a8 X fc.1 fc.2 (by rw[aDN];exact m.ls) (λi Z j=>avK Z j) (λj=>aqI bt (by rw[bx];omega) j);simp only[wk,axY,ax2,ci,axq] at gA;obtain⟨_,u1,c1,rfl,w1⟩:=t30 va (by omega) 4 k;obtain⟨_,u2,c2,rfl,w2⟩:=t30 va (by omega) 5 k;obtain rfl:=w1.2 bX;obtain rfl:=p w2 b0;simp only[ci,axq] at p1 p2 p3;have a9:aR .rem .i64 (IntKind.i64.wrap R) (H.length:Int)=(k:Int):=by rw[m.ls];exact hk
 refine⟨ne,by omega,X,by omega,bj (λ_=>⟨X, ?_⟩) (λ_=>⟨X, ?_⟩)⟩;have L:aR .sub .i64 (bg (cellAt y (k:Int) 1).val) 1=bg (cellAt y (k:Int) 1).val-1:=by
  simp only[aR];rw[fk (by omega) (by omega)]
 obtain⟨l,gB,lB,an,a0⟩:=aBT W D A B C E d o s t u h z x m.ls a X (wb:=y.modify k λa1=>eU a1 1 [.mk (.int .i64 (aR .sub .i64 (bg (cellAt y (k:Int) 1).val) 1)) []]) (by rw[aDN];exact m.lb) (λi Z j=>avK Z j) (by
  simp only[vB,aqI af (show 1<aao y k by rw[ag];omega)];simp[cK,L,ci];omega) (by
  rw[aan,U k X 0 (by omega),U k X 1 (by omega),U k X 2 (by omega),U k X 3 (by omega)];simp only[aqI af (show 1<aao y k by rw[ag];omega)];simp[B5,L,ci]
  try omega)
 simp only[wk,axY,ax2] at gB;rw[aS gA];simp;rw[aS gB];simp;obtain⟨_,u3,c3,rfl,w3⟩:=t30 l (by omega) 5 k;obtain⟨_,u4,c4,rfl,w4⟩:=t30 l (by omega) 4 k;obtain rfl:=w3.2 an;obtain rfl:=p w4 a0;simp[a9,aS u1,aS u2,aS u3,aS u4];have L:aR .add .i64 (bg (cellAt y (k:Int) 2).val) 1=bg (cellAt y (k:Int) 2).val+1:=by
  simp only[aR];rw[fk (by omega) (by omega)]
 obtain⟨l,gB,lB,an,a0⟩:=aBT W D A B C E d o s t u h z x m.ls a X (wb:=y.modify k λa1=>eU a1 2 [.mk (.int .i64 (aR .add .i64 (bg (cellAt y (k:Int) 2).val) 1)) []]) (by rw[aDN];exact m.lb) (λi Z j=>avK Z j) (by
  simp only[vB,aqI af (show 2<aao y k by rw[ag];omega)];simp[cK,L,ci];omega) (by
  rw[aan,U k X 0 (by omega),U k X 1 (by omega),U k X 2 (by omega),U k X 3 (by omega)];simp only[aqI af (show 2<aao y k by rw[ag];omega)];simp[B5,L,ci]
  try omega)
 simp only[wk,axY,ax2] at gB;rw[aS gA];simp;rw[aS gB];simp;obtain⟨_,u3,c3,rfl,w3⟩:=t30 l (by omega) 5 k;obtain⟨_,u4,c4,rfl,w4⟩:=t30 l (by omega) 4 k;obtain rfl:=w3.2 an;obtain rfl:=p w4 a0;simp[a9,aS u1,aS u2,aS u3,aS u4]
end
end
end
end Go.Proofs.YtieaiocljdpebaaGreatDoor.Y
