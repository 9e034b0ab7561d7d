/- Part 11 of the proof; the last part says what is shown. -/
import Derived.Test.YtieaiocljdpebaaGreatDoorQ7
import Derived.Test.YtieaiocljdpebaaGreatDoorQ5
import Derived.Test.YtieaiocljdpebaaGreatDoorQ4
import Derived.Test.YtieaiocljdpebaaGreatDoorQ9
import Derived.Test.YtieaiocljdpebaaGreatDoorQ10
set_option linter.all false
open Bool renaming and_self->azV
open List renaming getElem?_append_left->ayD,mem_cons->ayK,mem_append->ayL,map_cons->ayO,cons_append->ayP,range->ayQ,nil_append->ayU,pairwise_cons->ayY,mem_map->ay1,append_assoc->azt,map_nil->azT,mem_of_find?_eq_some->azZ,find?_some->aAx
open Option.some renaming injEq->ayE
open Nat renaming mul_le_mul->aBj
open Option renaming map_eq_some_iff->azC
open Int renaming natAbs_mul->aBk,tdiv_eq_ediv_of_nonneg->aBr
namespace Go.Proofs.YtieaiocljdpebaaGreatDoor.Y
open Go.RowKit
noncomputable section
variable{U:Nat}
section
section
def HK(M:List (List RV))(k:Int)(i:Nat):Prop:=∃x∈M,aD 0 x=k/\aD 1 x=(i:Int)
def Eh{c:List RV}(X:c.length=4){k:Int}{i:Nat}:∀{M:List (List RV)},vf M->(HK (fg 3 c M) k i<->HK M k i\/(aD 0 c=k/\aD 1 c=(i:Int)))
 |[],_=>by simp[HK,fg]
 |r::W,h=>by
  have bA:vf W:=⟨(ayY.1 h.keys).2,λx V=>h.four x (by simp[V])⟩;have U:=Eh X (k:=k) (i:=i) bA;have R:=akB X (h.four r (by simp));simp only[fg];split;rename_i Z;have Z:=R.1 Z;have Q:=Z 0 (by simp);have P:=Z 1 (by simp);simp only[HK,ayK,exists_eq_or_imp,Q,P]
  grind
  simp only[HK,ayK,exists_eq_or_imp] at U⊢
  grind
structure Tr(a b:Nat->Prop)(M:List (List RV)):Prop where
 ok:vf M
 ha:∀i,HK M 4 i<->a i
 hb:∀i,HK M 5 i<->b i
def Tr.nil:Tr (λ_=>False) (λ_=>False) []:=⟨vf.nil,λi=>by simp[HK],λi=>by simp[HK]⟩
variable{a b:Nat->Prop}{M:List (List RV)}{c:List RV}
def Tr.ax(Z:c.length=4)(X:aD 0 c≠4/\aD 0 c≠5)(h:Tr a b M):Tr a b (fg 3 c M):=
 ⟨h.ok.ins Z,λi=>by rw[Eh Z h.ok,h.ha];simp[X.1],λi=>by rw[Eh Z h.ok,h.hb];simp[X.2]⟩
def Tr.aft(Z:c.length=4)(X:aD 0 c=4)(W:aD 1 c=(U:Int))(h:Tr a b M):Tr (λi=>a i\/i=U) b (fg 3 c M):=
 ⟨h.ok.ins Z,λi=>by rw[Eh Z h.ok,h.ha,X,W];simp[show((U:Int)=(i:Int))<->i=U by omega],λi=>by rw[Eh Z h.ok,h.hb,X];simp⟩
def Tr.box(Z:c.length=4)(X:aD 0 c=5)(W:aD 1 c=(U:Int))(h:Tr a b M):Tr a (λi=>b i\/i=U) (fg 3 c M):=
 ⟨h.ok.ins Z,λi=>by rw[Eh Z h.ok,h.ha,X];simp,λi=>by rw[Eh Z h.ok,h.hb,X,W];simp[show((U:Int)=(i:Int))<->i=U by omega]⟩
def Tr.congr{Z X:Nat->Prop}(h:Tr a b M)(W:∀i,a i<->Z i)(V:∀i,b i<->X i):Tr Z X M:=⟨h.ok,λi=>(h.ha i).trans (W i),λi=>(h.hb i).trans (V i)⟩
end
end
variable{Z X Q:Int}
section
section
variable{R:aQ->Prop}{j:List LK}{t:T}{O:aa}{L:List PC}
variable(W D A B C u:Int)(w z E F G:RV)
def V8(x:Int):Prop:=-841<=x/\x<=841
def asE(a b:Int):∃o,TB.Ev 139 [.i a,.i b] o/\∃Z,o=.ret Z/\V8 (xi Z 0)/\V8 (xi Z 1):=by
 refine eS rfl rfl (.inl rfl) ?_;simp[Sb,V8,xi]
 repeat'(first|intro _|split)
 all_goals
  try
   have X:lenOf (oE[2]?.getD default).val=8:=rfl;rw[show aP .sub .i64 a 1=a-1 by simp only[aP];exact ef (by omega) (by omega),X];have V:a=1\/a=2\/a=3\/a=4\/a=5\/a=6\/a=7\/a=8:=by omega
   refine⟨by omega,by omega, ?_⟩;rcases V with rfl|rfl|rfl|rfl|rfl|rfl|rfl|rfl<;>decide
 all_goals simp
def SQ(a b:Int):V8 (oi 139 [.i a,.i b] 0)/\V8 (oi 139 [.i a,.i b] 1):=by
 obtain⟨o,Z,V,rfl,X⟩:=asE a b;simp only[oi,tH Z];exact X
def akI(s:RV)(x:vd s)(Q P Z N M X V U J I H G F E z y:Int)(h:BQ s Q P Z N M X V U J I H G F E z y=0):(1<=Z/\Z<=4)/\(1<=X/\X<=8)/\(1<=V/\V<=8)/\1<=U/\U<=8:=by
 have w:∃o,TB.Ev 75 [.r s,.i Q,.i P,.i Z,.i N,.i M,.i X,.i V,.i U,.i J,.i I,.i H,.i G,.i F,.i E,.i z,.i y] o/\∃e,o=.ret [.i e]/\(e=0->(1<=Z/\Z<=4)/\(1<=X/\X<=8)/\(1<=V/\V<=8)/\1<=U/\U<=8):=by
  refine eS rfl rfl (.inl rfl) ?_;simp[Sq,akl s x];intros;omega
 exact(xk w).2 h
def akJ{x m:Int}(V:-m<=x/\x<=m)(U:-X<=Z/\Z<=X):-(m*X)<=x*Z/\x*Z<=m*X:=by
 have Q:(x*Z).natAbs<=(m*X).natAbs:=by rw[aBk,aBk];exact aBj (by omega) (by omega)
 have P:0<=m*X:=Int.mul_nonneg (by omega) (by omega);omega
structure Bx(l0 h0 l1 h1:Int)(L H L' H':Int):Prop where
 a:L<=l0
 b:h0<=H
 c:L'<=l1
 d:h1<=H'
 e:-1099511627776<=L
 f:H<=1099511627776
 g:-1099511627776<=L'
 h:H'<=1099511627776
def Bd(p:Int):Prop:=-1099511627776<=p/\p<=1099511627776
def Bd.mn(V:Bd Z)(U:Bd X):Bd (min Z X):=by simp only[Bd] at*;omega
def Bd.mx(V:Bd Z)(U:Bd X):Bd (max Z X):=by simp only[Bd] at*;omega
def Bx.tip{V L H U P p N q M:Int}(k:Bx Z X Q V L H U P)(J:Bd p)(I:Bd N)(G:Bd q)(F:Bd M):Bx Z X Q V (min L p) (max H N) (min U q) (max P M):=by
 obtain⟨a,b,c,d,e,f,g,h⟩:=k;simp only[Bd] at*;constructor<;>omega
def akK(U:-1073741824<=Z/\Z<=1073741824)(P:1<=X/\X<=8)(V:V8 Q):Bd (aP .add .i64 (aP .mul .i64 29 Z) (aP .mul .i64 X Q)):=by
 unfold Bd;have:=akJ (x:=X) (m:=8) (by omega) V;simp only[aP];rw[ef (n:=29*Z) (by omega) (by omega),ef (n:=X*Q) (by omega) (by omega),ef (by omega) (by omega)];omega
def Lm(d l:Int):Prop:=(d=0/\l=0)\/(0<=d/\d<=8/\1<=l/\l<=3)
structure P74(x y f d0 l0 d1 l1 d2 l2 d3 l3 d4 l4:Int):Prop where
 x:-1073741824<=x/\x<=1073741824
 y:-1073741824<=y/\y<=1073741824
 f:0<=f/\f<=7
 m0:Lm d0 l0
 m1:Lm d1 l1
 m2:Lm d2 l2
 m3:Lm d3 l3
 m4:Lm d4 l4
set_option maxHeartbeats 4000000 in
def akL (x y f Z X V U Q P N M J I:Int):BP x y f Z X V U Q P N M J I=0<->P74 x y f Z X V U Q P N M J I:=by
 have H:∃o,TB.Ev 74 [.i x,.i y,.i f,.i Z,.i X,.i V,.i U,.i Q,.i P,.i N,.i M,.i J,.i I] o/\∃e,o=.ret [.i e]/\(e=0<->P74 x y f Z X V U Q P N M J I):=by
  refine eS rfl rfl (.inl rfl) ?_;have G:P74 x y f Z X V U Q P N M J I<->(-1073741824<=x/\x<=1073741824)/\(-1073741824<=y/\y<=1073741824)/\(0<=f/\f<=7)/\Lm Z X/\Lm V U/\Lm Q P/\Lm N M/\Lm J I:=⟨λh=>⟨h.x,h.y,h.f,h.m0,h.m1,h.m2,h.m3,h.m4⟩,λh=>⟨h.1,h.2.1,h.2.2.1,h.2.2.2.1,h.2.2.2.2.1,h.2.2.2.2.2.1,h.2.2.2.2.2.2.1,h.2.2.2.2.2.2.2⟩⟩;rw[G];simp[Sn,Lm]
  grind
 exact(xk H).2
set_option maxHeartbeats 8000000 in
def akM (Z X j h g f e d c x9 ab af ag:Int) (s:RV) (Q:vd s) (P N V M J I H G F E z w v u q l:Int):∃o,TB.Ev 27 [.i Z,.i X,.i j,.i h,.i g,.i f,.i e,.i d,.i c,.i x9,.i ab,.i af,.i ag,.r s,.i P,.i N,.i V,.i M,.i J,.i I,.i H,.i G,.i F,.i E,.i z,.i w,.i v,.i u,.i q,.i l] o/\∃U,o=.ret U/\((xi U 4=0<->BP Z X j h g f e d c x9 ab af ag=0/\BQ s P N V M J I H G F E z w v u q l=0)/\(xi U 4=0->Bx (29*Z-841) (29*Z+841) (29*X-841) (29*X+841) (xi U 0) (xi U 1) (xi U 2) (xi U 3))):=by
 refine eS rfl rfl (.inl rfl) ?_;by_cases k:BP Z X j h g f e d c x9 ab af ag=0;by_cases m:BQ s P N V M J I H G F E z w v u q l=0
 ·have p:=(akL _ _ _ _ _ _ _ _ _ _ _ _ _).1 k;obtain⟨g1,g2,g3,g4⟩:=akI s Q P N V M J I H G F E z w v u q l m;have B0:Bx (29*Z-841) (29*Z+841) (29*X-841) (29*X+841) (aP .sub .i64 (aP .mul .i64 29 Z) (aP .mul .i64 841 V)) (aP .add .i64 (aP .mul .i64 29 Z) (aP .mul .i64 841 V)) (aP .sub .i64 (aP .mul .i64 29 X) (aP .mul .i64 841 V)) (aP .add .i64 (aP .mul .i64 29 X) (aP .mul .i64 841 V)):=by
   have px:=p.x;have py:=p.y;simp only[aP];rw[ef (n:=29*Z) (by omega) (by omega),ef (n:=29*X) (by omega) (by omega),ef (n:=841*V) (by omega) (by omega),ef (n:=29*Z-841*V) (by omega) (by omega),ef (n:=29*Z+841*V) (by omega) (by omega),ef (n:=29*X-841*V) (by omega) (by omega),ef (n:=29*X+841*V) (by omega) (by omega)];constructor<;>omega
  have t1:∀r a b,1<=r/\r<=8->Bd (aP .add .i64 (aP .mul .i64 29 Z) (aP .mul .i64 r (oi 139 [.i a,.i b] 0))):=λr a b hr=>akK p.x hr (SQ a b).1
  have t2:∀r a b,1<=r/\r<=8->Bd (aP .add .i64 (aP .mul .i64 29 X) (aP .mul .i64 r (oi 139 [.i a,.i b] 1))):=λr a b hr=>akK p.y hr (SQ a b).2
  clear p;simp(config:={maxSteps:=10000000}) [H4,Ed s Q,k,m,xi]
  repeat'(refine cY (λ_=> ?_) (λ_=> ?_))
  all_goals first|with_reducible exact B0|with_reducible refine Bx.tip B0 ?_ ?_ ?_ ?_
  all_goals repeat'(first|with_reducible apply Bd.mn|with_reducible apply Bd.mx)
  all_goals with_reducible first|exact t1 _ _ _ g2|exact t1 _ _ _ g3|exact t1 _ _ _ g4|exact t2 _ _ _ g2|exact t2 _ _ _ g3|exact t2 _ _ _ g4
 simp[H4,Ed s Q,k,m,xi];simp[H4,Ed s Q,k,xi]
end
end
section
section
variable{R:aQ->Prop}{G:List LK}{t:T}{O:aa}{L:List PC}
variable(W D A B C F:Int)(j s w z E:RV)
def qi(a b c d:Int):Prop:=bE a b c d=true/\a<b/\c<d
def R90(o:aQ):Prop:=∃a b c d e,o=.ret [.i a,.i b,.i c,.i d,.i e]/\(e=0->qi a b c d)
def SR(a b c d e:Int):R90 (.ret [.i a,.i b,.i c,.i d,.i e])<->(e=0->qi a b c d):=⟨λ⟨_,_,_,_,_,h,k⟩=>by cases h;exact k,λk=>⟨_,_,_,_,_,rfl,k⟩⟩
def SS:qi 0 0 0 0<->False:=by simp[qi]
def Fg(a b c d:Int):Prop:=(-10000<=a/\a<0)/\(0<b/\b<=10000)/\(-10000<=c/\c<0)/\0<d/\d<=10000
def S6(p Z:Int):Prop:=-10000<=p/\p<=Z/\Z<=10000
def Fg.jn1{V p U q P:Int}(h:Fg Z X Q V)(a:S6 p U)(b:S6 q P):Fg (jn (bE Z X Q V&&bE p U q P) (min Z p)) (jn (bE Z X Q V&&bE p U q P) (max X U)) (jn (bE Z X Q V&&bE p U q P) (min Q q)) (jn (bE Z X Q V&&bE p U q P) (max V P)):=by
 simp only[Fg,S6] at*;have e:(bE Z X Q V&&bE p U q P)=true:=by simp[bE];omega
 rw[e];simp only[Y.jn,if_true];omega
def Fg.sh{V x y:Int}(h:Fg Z X Q V)(e:mW Z X Q V x y=0):qi (jn (mW Z X Q V x y==0) (IntKind.i64.wrap (Z+x))) (jn (mW Z X Q V x y==0) (IntKind.i64.wrap (X+x))) (jn (mW Z X Q V x y==0) (IntKind.i64.wrap (Q+y))) (jn (mW Z X Q V x y==0) (IntKind.i64.wrap (V+y))):=by
 have U:=e;unfold mW at U;split at U;omega;split at U;omega;split at U;rename_i M P N;simp at P;simp only[Fg] at h;rw[e];simp only[Y.jn,beq_self_eq_true,if_true];refine⟨N, ?_, ?_⟩;rw[ef (by omega) (by omega),ef (by omega) (by omega)];omega;rw[ef (by omega) (by omega),ef (by omega) (by omega)];omega;omega
def qi.join{d V U P N:Int}(h:qi Z X Q d)(I:qi V U P N):qi (jn (bE Z X Q d&&bE V U P N) (min Z V)) (jn (bE Z X Q d&&bE V U P N) (max X U)) (jn (bE Z X Q d&&bE V U P N) (min Q P)) (jn (bE Z X Q d&&bE V U P N) (max d N)):=by
 obtain⟨M,H,G⟩:=h;obtain⟨J,F,E⟩:=I;rw[M,J];simp only[Y.jn,azV,if_true];refine⟨?_,by omega,by omega⟩;simp[bE] at M J⊢;omega
def qi.akP{d:Int}(h:qi Z X Q d):qi (jn (bE Z X Q d) Z) (jn (bE Z X Q d) X) (jn (bE Z X Q d) Q) (jn (bE Z X Q d) d):=by
 have:=h.1;rw[this];exact h
def akQ{r:Int}(Z:1<=r/\r<=8):S6 (aP .sub .i64 0 (aP .mul .i64 841 r)) (aP .mul .i64 841 r):=by
 simp only[aP,S6];rw[ef (n:=841*r) (by omega) (by omega),ef (by omega) (by omega)];omega
def akR(U:1<=Z/\Z<=8)(V:V8 X):S6 (aP .mul .i64 Z X) (aP .mul .i64 Z X):=by
 have:=akJ (x:=Z) (m:=8) (by omega) V;simp only[aP,S6];rw[ef (by omega) (by omega)];omega
set_option maxHeartbeats 8000000 in
def asG (h:gH j s w z E) (be ai:Int) (x0 x1 x2 x3 x4 x5 x6 x7 x8 x9 bf bg bk:Int) (P:RV) (a0:vd P) (y0 y1 U y3 y4 G y q y8 y9 a1 a2 a3 a4 a5 a6:Int) (r:RV) (hr:Sl r):∃o,TB.Ev 90 (wk W D A B C F j s w z E++[.i be,.i ai,.i x0,.i x1,.i x2,.i x3,.i x4,.i x5,.i x6,.i x7,.i x8,.i x9,.i bf,.i bg,.i bk,.r P,.i y0,.i y1,.i U,.i y3,.i y4,.i G,.i y,.i q,.i y8,.i y9,.i a1,.i a2,.i a3,.i a4,.i a5,.i a6,.r r]) o/\R90 o:=by
 refine eS rfl rfl (.inl rfl) ?_;have h1:=Ib W D A B C F j s w z E lJ h be ai;have p:=(xo W D A B C F j s w z E lJ h).2;have hl:=LL W D A B C F j s w z E (be:=be) (ai:=ai) p;have N:=LJ W D A B C F j s w z E (be:=be) (ai:=ai) p;have tJ:= @aks W D A B C F j s w z E be ai;simp only[wk,ayP,ayU] at h1;generalize ep W D A B C F j s w z E be ai=l at*;generalize kW W D A B C F j s w z E be ai=e at*;obtain⟨o,h2,v,b,rfl,h3,h4⟩:=SE l r hr hl N;simp[St,wk,akq,bC h1,bC h2,Ed P a0,SR,SS];intro _ bl bo hb;have a7:=h4 hb;have hv:v.length<=4096:=by have:=a7.1;omega
 have m:v.length<=140737488355328:=by omega
 refine di v.length (λi Z=>dj (kB 6) Z=true) ⟨0,rfl,by omega,rfl⟩ ?_;rintro i Z X V;obtain⟨f,rfl⟩:=Ee V;rw[show ayQ 6=[0,1,2,3,4,5] from rfl];simp;split
 ·rename_i X;obtain⟨c,d,a8⟩:=tJ p a7 X;have ab:=a8 4 (by omega);have br:=a8 5 (by omega);obtain⟨af,ag⟩:=akr d.kind d.side;have bx:=d.kind;have a9:cN (.sl 3) (cellAt zA.rows (c 4) 0)=jZ (c 4) 0:=rfl;have bb:cN (.sl 3) (cellAt zA.rows (c 4) 1)=jZ (c 4) 1:=rfl;generalize jZ (c 4) 0=la at af a9;generalize jZ (c 4) 1=lb at ag bb;simp[dh X m,X,ab,SI];intro _;split
  all_goals
   refine⟨by omega, ?_⟩;refine di la.rows.length (λ_ Z=>dj (kB 5) Z=true) ⟨0,rfl,by omega,rfl⟩ ?_;rintro a Z M V;obtain⟨g,rfl⟩:=Ee V;rw[show ayQ 5=[0,1,2,3,4] from rfl];simp[ab,br,a9,af.1,SI];split;rename_i M;have hx:=af.2.2 a M;generalize bc (cellAt la.rows (a:Int) 0).val=x at hx;rw[show aP .sub .i64 (aP .add .i64 x (c 5)) 1=x+c 5-1 by simp only[aP];rw[ef (n:=x+c 5) (by omega) (by omega),ef (by omega) (by omega)]];simp[dh M (show la.rows.length<=140737488355328 by omega),M];omega;refine⟨by omega, ?_⟩;refine di lb.rows.length (λ_ Z=>dj (kB 5) Z=true) ⟨0,rfl,by omega,rfl⟩ ?_;rintro a' Z J V;obtain⟨g',rfl⟩:=Ee V;rw[show ayQ 5=[0,1,2,3,4] from rfl];simp[ab,bb,ag.1];split;rename_i J;have hx:=ag.2.2 a' J;generalize bc (cellAt lb.rows (a':Int) 0).val=x at hx;simp[dh J (show lb.rows.length<=140737488355328 by omega),J];omega;simp[dh X m]
 have b0:=(akL _ _ _ _ _ _ _ _ _ _ _ _ _).1 bl;obtain⟨g1,g2,g3,g4⟩:=akI P a0 y0 y1 U y3 y4 G y q y8 y9 a1 a2 a3 a4 a5 a6 bo;refine di 5 (λ_ Z=>∃f0 f1 f2 f3,Z=[.i f0,.i f1,.i f2,.i f3]/\Fg f0 f1 f2 f3) ⟨0,by simp,by omega, ?_⟩ ?_;have:=akQ (r:=U) (by omega);have h2:0<aP .mul .i64 841 U/\aP .sub .i64 0 (aP .mul .i64 841 U)<0:=by
  simp only[aP];rw[ef (n:=841*U) (by omega) (by omega),ef (by omega) (by omega)];omega
 refine⟨_,_,_,_,rfl, ?_⟩;simp only[S6,Fg] at*;simp;omega;rintro k Z b4 ⟨f0,f1,f2,f3,rfl,Q⟩;have I:aP .quo .i64 (k:Int) 2=((k/2:Nat):Int):=by
  simp only[aP];rw[show(k:Int).tdiv 2=((k/2:Nat):Int) by rw[aBr (by omega)];omega];exact ef (by omega) (by omega)
 simp[I,SR,SS];refine cY (λN=> ?_) (λb5=> ?_)
 ·have N:k<5:=by omega
  obtain⟨H,bs,al⟩:∃H:Int,(if(k:Int)/2=0 then G else if(k:Int)/2=1 then y else if(k:Int)/2=2 then q else 0)=H/\1<=H/\H<=8:=⟨_,rfl,by(repeat' split)<;>omega⟩;have b1:=λa b=>akR al (SQ a b).1
  have b2:=λa b=>akR al (SQ a b).2
  have b3:=akQ al;simp only[bs,dh N (show 5<=140737488355328 by omega)];refine⟨by omega,by omega,by omega,by omega,by omega, ?_⟩
  repeat'(refine cY (λ_=> ?_) (λ_=> ?_))
  all_goals with_reducible first|exact⟨_,_,_,_,rfl,Q⟩|exact⟨_,_,_,_,rfl,Q.jn1 b3 b3⟩|exact⟨_,_,_,_,rfl,Q.jn1 (b1 _ _) (b2 _ _)⟩
 intro he;have hp:=Q.sh he;refine di v.length (λ_ Z=>dj (kI 17++[.bool]) Z=true/\qi (xi Z 0) (xi Z 1) (xi Z 2) (xi Z 3)) ⟨0,rfl,by omega,rfl, ?_⟩ ?_;simp[xi];exact hp.akP;rintro i Z X ⟨V,an⟩;obtain⟨f,b',rfl⟩:=aa8 V;rw[show ayQ 17=[0,1,2,3,4,5,6,7,8,9,10,11,12,13,14,15,16] from rfl] at*;simp[xi] at an;simp[SR,SS];refine cY (λX=> ?_) (λb6=> ?_);obtain⟨o,q1,ys,rfl,q2⟩:=Ie (f 4) (f 5) (f 6) (f 7) (f 8) (f 9) (f 10) (f 11) (f 12) (f 13) (f 14) (f 15) (f 16) (eh v i) (eh v i 14) (eh v i 15) (eh v i 16) (gv (cellAt v i 17).val);obtain⟨u,rfl⟩:=If q2;rw[show ayQ 14=[0,1,2,3,4,5,6,7,8,9,10,11,12,13] from rfl] at q1;simp only[ja,eh,ayP,ayU,ayO,azT] at q1;refine⟨X, ?_⟩;rw[bC q1];simp[dh X m,SR,SS];intro bd bt;have I:=Q.sh bt;refine cY (λ_=>cY (λ_=> ?_) (λhn=>absurd bd hn)) (λ_=>cY (λ_=> ?_) (λhn=>absurd bd hn));simp[xi];exact I.akP;simp[xi];exact an.join I;exact an
end
end
section
section
variable(W D A B C d:Int)(c g k l f:RV)
def asH(h:gH c g k l f)(ai:Int):∃o,TB.Ev 23 (wk W D A B C d c g k l f++[.i ai]) o/\∃v e,o=.ret [.r (aC v),.i e]/\v.length<=4096/\(∀x∈v,0<=aD 0 x/\aD 0 x<aD 1 x/\aD 1 x<c.rows.length)/\(kq W D A B C d c g k l f=0->hJ ai 0 (d-1)=true->e=0):=by
 refine eS rfl rfl (.inl rfl) ?_;have X:=e65 W D A B C d c g k l f lJ h ai;obtain⟨-,N⟩:=xo W D A B C d c g k l f lJ h;simp only[wk,ayP,ayU] at X;obtain⟨e,U⟩:∃e,e=(if kq W D A B C d c g k l f=0 then(if hJ ai 0 (d-1) then 0 else 1) else kq W D A B C d c g k l f):=⟨_,rfl⟩;rw[<-U] at X;simp[T23,wk,bC X];split
 case isFalse z=>
  exact⟨[],e,⟨rfl,rfl⟩,by simp,by simp,λX N y=>by rw[U,if_pos X,if_pos (by simp;omega)]⟩
 rename_i I;have R:kq W D A B C d c g k l f=0/\hJ ai 0 (d-1)=true:=by
  subst I;by_cases R:kq W D A B C d c g k l f=0;rw[if_pos R] at U;refine⟨R, ?_⟩;cases H:hJ ai 0 (d-1);simp[H] at U;rfl;rw[if_neg R] at U;exact absurd U.symm R
 have G:=N R.1;have w:=G.nr;refine di f.rows.length (λi O=>∃m,O=[.r (aC m)]/\∀x∈m,aD 0 x<aD 1 x) ⟨0,rfl,by omega,[],rfl,by simp⟩ ?_;rintro i _ Q ⟨m,rfl,L⟩;simp[h.sg.len];split
 ·rename_i Q;simp[dh Q h.sg.sm,Q]
  repeat'(refine cY (λ_=> ?_) (λ_=> ?_))
  all_goals first
   |exact⟨m,rfl,L⟩
   |(refine⟨_,rfl,λx Z=> ?_⟩
     rcases SM Z with rfl|Z;show(min _ _:Int)<max _ _;omega;exact L x Z)
 refine di c.rows.length (λi O=>∃v,O=[.r (aC v)]/\v.length<=i*64/\∀x∈v,0<=aD 0 x/\aD 0 x<aD 1 x/\aD 1 x<c.rows.length) ⟨0,rfl,by omega,[],rfl,by simp,by simp⟩ ?_;rintro i _ Q ⟨v,rfl,F,V⟩;simp[h.rl.len];split;rename_i Q;refine di c.rows.length (λj O=>∃v,O=[.r (aC v)]/\v.length<=i*64+j/\∀x∈v,0<=aD 0 x/\aD 0 x<aD 1 x/\aD 1 x<c.rows.length) ⟨0,rfl,by omega,v,rfl,by omega,V⟩ ?_;rintro j _ J ⟨v,rfl,F,V⟩;simp[h.rl.len];split
 ·rename_i J;simp[dh J h.rl.sm];have E:∀{P},fY 2 [(i:Int),(j:Int),0] m=some P->i<j:=λ{P} M=>by
   have X:=azZ M;have N:=aAx M;have:=L P X;rcases P with _|⟨a,_|⟨b,P⟩⟩<;>simp[jl,aD] at N this;omega
  cases M:fY 2 [(i:Int),(j:Int),0] m with
  |none=>simp;exact⟨v,rfl,by omega,V⟩
  |some P=>
  have u:=E M;simp only;split
  all_goals first
   |exact⟨v,rfl,by omega,V⟩
   |(refine⟨by omega,_,rfl,by simp;omega,λx Z=> ?_⟩
     rcases ayL.1 Z with Z|Z;exact V x Z;simp at Z;subst Z;simp[aD,bc];omega)
 simp[dh Q h.rl.sm];exact⟨v,rfl,by omega,V⟩;exact⟨v,0,⟨rfl,rfl⟩,by omega,V,λ_ _ _=>rfl⟩
end
end
section
def LU:aQ->aQ->Prop
 |.ret a,.ret b=>jD a b
 |.aR _,.aR _=>True
 |_,_=>False
def Ig:List Lp->List Lp->Prop
 |[],[]=>True
 |a::l,b::m=>a.ao=b.ao/\a.t=b.t/\fK a.O b.O/\Ig l m
 |_,_=>False
def Ig.find{ao:Nat}{X W:Lp}{l R:List Lp}:∀{Q P:List Lp},Ig Q P->nA ao Q=some (X,l)->nA ao P=some (W,R)->X.ao=W.ao/\X.t=W.t/\fK X.O W.O/\Ig l R
 |[],[],_,h,_=>by simp[nA] at h
 |a::s,b::I,h,V,Z=>by
  simp only[nA] at V Z;obtain⟨N,L,J,M⟩:=h;rw[<-N] at Z;split at V;rename_i U;rw[if_pos U] at Z;cases V;cases Z;exact⟨N,L,J,M⟩;rename_i U;rw[if_neg U] at Z;exact Ig.find M V Z
section
variable{aO d:jQ}
def akS(E:∀f D C o U,jD D C->aO f D=some o->d f C=some U->LU o U):∀(n:Nat)(t:T)(O R:aa)(Q P:List Lp)(o U:aQ),fK O R->Ig Q P->exec aO n t O Q=some o->exec d n t R P=some U->LU o U
 |0,t,O,R,Q,P,o,U,_,_,h,_=>by simp[exec] at h
 |n+1,t,O,R,Q,P,o,U,X,W,h,Z=>by
  have V:=akS E n;cases t with
  |ret v bx L=>
   simp only[exec,ayE] at h Z;subst h;subst Z;exact yE X _
  |aR v=>
   simp only[exec] at h Z;obtain⟨a,_,rfl⟩:=azC.1 h;obtain⟨b,_,rfl⟩:=azC.1 Z;trivial
  |node b t f=>
   simp only[exec,<-BE.bK X b] at h Z;split at h;rename_i N;rw[if_pos N] at Z;exact V _ _ _ _ _ _ _ X W h Z;rename_i N;rw[if_neg N] at Z;exact V _ _ _ _ _ _ _ X W h Z
  |aF b t=>
   simp only[exec,<-BE.bK X b] at h Z;split at h;rename_i N;rw[if_pos N] at Z;exact V _ _ _ _ _ _ _ X W h Z;cases h
  |call f B bx L ks fe t=>
   simp only[exec] at h Z;cases J:aO f ((lu B).map (SV.xv O)) with
   |none=>rw[J] at h;cases h
   |some r=>
    cases I:d f ((lu B).map (SV.xv R)) with
    |none=>rw[I] at Z;cases Z
    |some A=>
     have k:=E _ _ _ _ _ (yE X _) J I;rw[J] at h;rw[I] at Z;cases r with
     |ret ys=>cases A with
      |ret ab=>
       simp only at h Z;split at h;split at Z;exact V _ _ _ _ _ _ _ (X.ext k) W h Z;cases Z;cases h
      |aR v=>exact k.elim
     |aR v=>cases A with
      |ret ab=>exact k.elim
      |aR v'=>cases h;cases Z;trivial
  |loop ao ks x0 t=>
   simp only[exec] at h Z;exact V _ _ _ _ _ _ _ (X.ext (yE X _)) (by exact⟨rfl,rfl,X,W⟩) h Z
  |back ao x=>
   simp only[exec] at h Z;cases H:nA ao Q with
   |none=>rw[H] at h;cases h
   |some q=>
    cases G:nA ao P with
    |none=>rw[G] at Z;cases Z
    |some q'=>
     obtain⟨fr,l⟩:=q;obtain⟨al,l'⟩:=q';rw[H] at h;rw[G] at Z;obtain⟨e1,z,u,e4⟩:=W.find H G;simp only[<-z] at Z;exact V _ _ _ _ _ _ _ (u.ext (yE X _)) (by exact⟨e1,z,u,e4⟩) h Z
  |new e x L an t=>
   simp only[exec] at h Z;exact V _ _ _ _ _ _ _ (X.add (x:=.r _) (y:=.r _) (Ob X x)) W h Z
  |rows k x L t=>
   simp only[exec] at h Z;exact V _ _ _ _ _ _ _ (X.add (x:=.r _) (y:=.r _) (Ob X x)) W h Z
  |dW g k t f=>
   simp only[exec,<-BE.bK X g,<-BE.bK X k] at h Z;split at h;rename_i F;rw[if_pos F] at Z;split at h;rename_i M;rw[if_pos M] at Z;exact V _ _ _ _ _ _ _ X W (F5 h).1 (F5 Z).1;rename_i M;rw[if_neg M] at Z;exact V _ _ _ _ _ _ _ X W h Z;rename_i F;rw[if_neg F] at Z;split at h;rename_i M;rw[if_pos M] at Z;exact V _ _ _ _ _ _ _ X W h Z;cases h
  |pick m g k t f=>
   simp only[exec] at h Z;have hw:nz m g k R=nz m g k O:=by
    have e:(λj:Int=>g.den (R.add (.i j)))=λj:Int=>g.den (O.add (.i j)):=by
     funext j;exact(BE.bK (X.add (x:=.i j) (y:=.i j) rfl) g).symm
    simp only[nz,<-IE.bK X m,<-BE.bK X k,e]
   rw[hw] at Z;cases p:nz m g k O with
   |nil=>rw[p] at h;simp[oD] at h
   |cons w ws=>
    rw[p] at h Z;have c:=F6 h _ (ay1.2 ⟨w,by simp,rfl⟩);have h2:=F6 Z _ (ay1.2 ⟨w,by simp,rfl⟩);cases w with
    |some j=>exact V _ _ _ _ _ _ _ (X.add (x:=.i j) (y:=.i j) rfl) W c h2
    |none=>exact V _ _ _ _ _ _ _ X W c h2
  |cA f g e sp sb r L t=>
   simp only[exec] at h Z;split at h;rename_i rows af;split at Z;rename_i ar ag;exact V _ _ _ _ _ _ _ (X.add (x:=.r _) (y:=.r _) ((RE.bK X r).cA X af ag)) W h Z;cases Z;cases h
  |out e s=>simp[exec] at h
  |stuck m=>simp[exec] at h
end
def asI(O:aa):fK O O:=⟨rfl,rfl,rfl,λk v X h Z=>by rw[h] at Z;cases Z;exact bj.refl v⟩
def LV:∀Z:List XV,jD Z Z
 |[]=>trivial
 |x::Z=>⟨by cases x with
  |i n=>rfl
  |b n=>rfl
  |r v=>exact bj.refl v,LV Z⟩
def asJ{X Z:List XV}:jD X Z->(∀x∈X,∃n,x=.i n)->X=Z:=by
 induction X generalizing Z with
 |nil=>intro h _;cases Z with
  |nil=>rfl
  |cons _ _=>exact h.elim
 |cons x X V=>intro h W;cases Z with
  |nil=>exact h.elim
  |cons y Z=>
   obtain⟨n,rfl⟩:=W x (by simp);cases y with
   |i m=>rw[show n=m from h.1,V h.2 λz U=>W z (by simp[U])]
   |b _=>exact h.1.elim
   |r _=>exact h.1.elim
def akT(f:FuncId)(X W:List XV)(o R:aQ)(V:jD X W)(h:tG f X=some o)(Z:tG f W=some R):LU o R:=by
 unfold tG at h Z;split at h;rename_i U;rw[if_pos U] at Z;have:X=W:=by
  refine asJ V ?_;unfold LD at h;split at h;simp;cases h
 subst this;rw[h] at Z;cases Z;cases o with
 |ret Q=>exact LV _
 |aR v=>trivial
 rename_i U;rw[if_neg U] at Z;split at h;rename_i P;rw[if_pos P] at Z;unfold LF at h Z;split at h;split at Z;rename_i s b _ O N;have M:b=N:=V.2.1;subst M;have L:bj s O:=V.1;cases L with
 |sl A I n c H J ar _ _ _=>cases h;cases Z;exact⟨rfl,trivial⟩
 |val v J G=>
  rw[h] at Z;cases Z;cases o with
  |ret Q=>exact LV _
  |aR v=>trivial
 cases Z;cases h;cases h
def SU{f:FuncId}{W X:List XV}{o V:aQ}(R:jD W X)(h:TB.Ev f W o)(Z:TB.Ev f X V):LU o V:=by
 have G:∀n f W X o V,jD W X->TB.aO n f W=some o->TB.aO n f X=some V->LU o V:=by
  intro n;induction n with
  |zero=>exact λf W X o V R h Z=>akT f W X o V R h Z
  |succ n F=>
   intro f W X o V R h Z;simp only[gT.aO] at h Z;have I:∀{N:List XV}{q:aQ},TB.ly f N=some q->f=26\/f=272:=λ{N q} Q=>by
    have Q:tG f N=some q:=Q;unfold tG at Q;split at Q;exact .inl ‹_›
    split at Q;exact .inr ‹_›
    cases Q
   cases O:TB.ly f W with
   |some q=>
    cases P:TB.ly f X with
    |some E=>
     rw[O] at h;rw[P] at Z;cases h;cases Z;exact akT f W X _ _ R O P
    |none=>
     rw[P] at Z;rcases I O with rfl|rfl<;>simp[TB,BM] at Z
   |none=>
    rw[O] at h;cases P:TB.ly f X with
    |some E=>rcases I P with rfl|rfl<;>simp[TB,BM] at h
    |none=>
     rw[P] at Z;cases H:TB.tree f with
     |none=>rw[H] at h;cases h
     |some U=>
      rw[H] at h Z;simp only at h Z;have D:fK (dB (iH U.g) W) (dB (iH U.g) X):=(asI _).ext R;cases M:exec (TB.aO n) n U.t (dB (iH U.g) W) [] with
      |none=>rw[M] at h;cases h
      |some p=>
       cases L:exec (TB.aO n) n U.t (dB (iH U.g) X) [] with
       |none=>rw[L] at Z;cases Z
       |some J=>
        have k:=akS F n U.t _ _ [] [] p J D trivial M L;rw[M] at h;rw[L] at Z;cases p with
        |ret B=>cases J with
         |ret C=>cases h;cases Z;exact k
         |aR v=>exact k.elim
        |aR v=>cases J with
         |ret C=>exact k.elim
         |aR A=>
          simp only[uy] at h Z;split at h;cases h;split at Z;cases Z;cases h;cases Z;trivial
 obtain⟨n,h⟩:=h;obtain⟨m,Z⟩:=Z;exact G (max n m) f W X o V R (i5 n _ f W o (by omega) h) (i5 m _ f X V (by omega) Z)
end
section
section
variable{R:aQ->Prop}{j:List LK}{t:T}{O:aa}{L:List PC}
variable(W D A B C l:Int)(m n p q r:RV)
def asK(v Z:RV)(i:Nat)(h:eI v Z i 4=0):bE (eI v Z i 0) (eI v Z i 1) (eI v Z i 2) (eI v Z i 3)=true/\eI v Z i 0<eI v Z i 1/\eI v Z i 2<eI v Z i 3:=by
 obtain⟨o,X,V,rfl,Q,U⟩:=akM (ci v i 0) (ci v i 1) (ci v i 2) (ci v i 3) (ci v i 4) (ci v i 5) (ci v i 6) (ci v i 7) (ci v i 8) (ci v i 9) (ci v i 10) (ci v i 11) (ci v i 12) _ (zy (cellAt Z.rows (i:Int) 0)) (ci Z i 1) (ci Z i 2) (ci Z i 3) (ci Z i 4) (ci Z i 5) (ci Z i 6) (ci Z i 7) (ci Z i 8) (ci Z i 9) (ci Z i 10) (ci Z i 11) (ci Z i 12) (ci Z i 13) (ci Z i 14) (ci Z i 15) (ci Z i 16);have e:∀k,eI v Z i k=xi V k:=λk=>by simp only[eI,BR,oi,tH X]
 simp only[e] at h⊢;obtain⟨a,b,c,d,e,f,g,h⟩:=U h;refine⟨?_,by omega,by omega⟩;simp[bE];omega
def asL(v Z:RV)(i:Nat):eI v Z i 4=0<->vg v i=0/\SN Z i=0:=by
 obtain⟨o,X,V,rfl,U,Q⟩:=akM (ci v i 0) (ci v i 1) (ci v i 2) (ci v i 3) (ci v i 4) (ci v i 5) (ci v i 6) (ci v i 7) (ci v i 8) (ci v i 9) (ci v i 10) (ci v i 11) (ci v i 12) _ (zy (cellAt Z.rows (i:Int) 0)) (ci Z i 1) (ci Z i 2) (ci Z i 3) (ci Z i 4) (ci Z i 5) (ci Z i 6) (ci Z i 7) (ci Z i 8) (ci Z i 9) (ci Z i 10) (ci Z i 11) (ci Z i 12) (ci Z i 13) (ci Z i 14) (ci Z i 15) (ci Z i 16);have e:∀k,eI v Z i k=xi V k:=λk=>by simp only[eI,BR,oi,tH X]
 rw[e];exact U
end
end
section
section
variable(W D A B C a:Int)(b c d e f:RV)
def SgE(ai:Int)(Z V X:RV)(i:Nat):Prop:=(∀k<(ep W D A B C a b c d e f i ai).length,∀m,Fst (cr 96 X i) (eh (ep W D A B C a b c d e f i ai) k 0) m->xi (m78 W D A B C a b c d e f Z (eh (ep W D A B C a b c d e f i ai) k 0) i) 1=0)/\xi (abe W D A B C a b c d e f ai V Z X i) 1=0
end
end
section
section
variable(W D A B C b:Int)(a c d e f:RV)
def SgA(ai:Int)(Z X V U:RV):Prop:=∀i<a.rows.length,cb X i 0=true->SgE W D A B C b a c d e f ai Z V U i
end
end
section
section
variable(W D A B C j:Int)(a b d f g:RV)
def asO(h:gH a b d f g)(ai:Int)(U X Z V:RV)(i:Nat)(Q:Sl (cr 96 V i))(R:iC W D A B C j a b d f g ai U X Z V i):qi (gB W D A B C j a b d f g ai U X Z V i 0) (gB W D A B C j a b d f g ai U X Z V i 1) (gB W D A B C j a b d f g ai U X Z V i 2) (gB W D A B C j a b d f g ai U X Z V i 3):=by
 simp only[gB,iC] at R⊢;by_cases c:cb U i 0=true;simp only[c,if_true] at R⊢;obtain⟨o,P,p,q,r,s,e,rfl,O⟩:=asG W D A B C j a b d f g h i ai (ci X i 0) (ci X i 1) (ci X i 2) (ci X i 3) (ci X i 4) (ci X i 5) (ci X i 6) (ci X i 7) (ci X i 8) (ci X i 9) (ci X i 10) (ci X i 11) (ci X i 12) _ (zy (cellAt Z.rows (i:Int) 0)) (ci Z i 1) (ci Z i 2) (ci Z i 3) (ci Z i 4) (ci Z i 5) (ci Z i 6) (ci Z i 7) (ci Z i 8) (ci Z i 9) (ci Z i 10) (ci Z i 11) (ci Z i 12) (ci Z i 13) (ci Z i 14) (ci Z i 15) (ci Z i 16) (cr 96 V i) Q;have e:∀k,BS W D A B C j a b d f g ai X Z V i k=xi [.i p,.i q,.i r,.i s,.i e] k:=λk=>by simp only[BS,oi,tH P]
 simp only[e] at R⊢;exact O R.2;simp only[c,if_false] at R⊢;exact asK X Z i R
structure ObE(ai:Int)(wg bd mv bf af re bx:RV):Prop where
 ex:LR W D A B C j a b d f g ai wg bd mv bf af re bx
 BW:∀i<a.rows.length,iC W D A B C j a b d f g ai mv bf bd re i
 sge:SgA W D A B C j a b d f g ai bd mv bf re
end
end
section
section
variable{R:aQ->Prop}{l:List LK}{t:T}{O:aa}{L:List PC}
variable(W D A B C c:Int)(a d e f g:RV)
def asP:TB.Ev 43 [.r (aC []),.r (aC [])] (.ret [.b true]):=by
 refine gG rfl rfl (.inl rfl) ?_;simp[Sv];refine di 0 (λ_ Z=>Z=[]) ⟨0,rfl,by omega,rfl⟩ ?_;rintro i _ X rfl;simp[show i=0 by omega]
def asQ:TB.Ev 44 [.r (aC []),.r (aC [])] (.ret [.b true]):=by
 refine gG rfl rfl (.inl rfl) ?_;simp[Sw];refine di 0 (λ_ Z=>Z=[]) ⟨0,rfl,by omega,rfl⟩ ?_;rintro i _ X rfl;simp[show i=0 by omega]
def asR:TB.Ev 45 [.r (aC []),.r (aC [])] (.ret [.b true]):=by
 refine gG rfl rfl (.inl rfl) ?_;simp[Sx];refine di 0 (λ_ Z=>Z=[]) ⟨0,rfl,by omega,rfl⟩ ?_;rintro i _ X rfl;simp[show i=0 by omega]
def asS:TB.Ev 15 [.i 0,.r (aC []),.r (aC []),.r (aC []),.r (aC []),.r (aC []),.i 0,.r (aC []),.r (aC []),.r (aC []),.r (aC []),.r (aC [])] (.ret [.b true]):=by
 refine gG rfl rfl (.inl rfl) ?_;simp[Su,bC asP,bC asQ,bC asR];refine di 0 (λ_ Z=>Z=[]) ⟨0,rfl,by omega,rfl⟩ ?_;rintro i _ X rfl;simp[show i=0 by omega]
def vi(v:List (List RV))(k:Nat):Nat:=(v.getD k []).length
def SX{v:List (List RV)}{Z:List RV}{n:Nat}(h:v.length=U)(X:Z.length=n):vi (v++[Z]) U=n:=by
 subst h;simpa[vi] using X
def SY{v w:List (List RV)}(h:U<v.length):vi (v++w) U=vi v U:=by simp[vi,ayD h]
structure Md(ai:Int)(bd mv bf re:RV)(vs vr vb:List (List RV)):Prop where
 wk:kq W D A B C c a d e f g=0
 br:0<=ai/\ai<c
 BT:bd.rows.length=a.rows.length
 BU:mv.rows.length=a.rows.length
 BV:bf.rows.length=a.rows.length
 nY:re.rows.length=a.rows.length
 dY:∀i<a.rows.length,SN bd i=0/\vg bf i=0/\(if cb mv i 0 then LQ W D A B C c a d e f g ai re i=0 else(cr 96 re i).rows=[])
 ls:vs.length=a.rows.length
 lr:vr.length=a.rows.length
 lb:vb.length=a.rows.length
 al:∀k<a.rows.length,cellAt vr (k:Int) 0=aC (cr 96 re k).rows/\vi vs k=13/\vi vb k=4/\iC W D A B C c a d e f g ai mv bf bd re k/\(∀j<13,bc (cellAt vs (k:Int) j).val=gS W D A B C c a d e f g ai mv bf re k j)/\∀j<4,bc (cellAt vb (k:Int) j).val=gB W D A B C c a d e f g ai mv bf bd re k j
end
end
section
section
variable(W D A B C u:Int)(g m p q s:RV)
def abj:∀{Z X:List XV}(k:Nat),jD Z X->xi Z k=xi X k
 |[],[],_,_=>rfl
 |[],_::_,_,h=>h.elim
 |_::_,[],_,h=>h.elim
 |x::Z,y::X,0,h=>by
  have h:=h.1;cases x<;>cases y<;>simp only[CZ] at h<;>simp[xi,h]
 |x::Z,y::X,k+1,h=>by
  have:=abj k h.2;simpa[xi] using this
def SZ(a b:RV)(h:bj a b):∀l:List XV,jD (l++[.r a]) (l++[.r b])
 |[]=>⟨h,trivial⟩
 |x::l=>⟨(LV [x]).1,SZ a b h l⟩
def LW{v:RV}(h:Sl v):bj (aC v.rows) v:=by
 obtain⟨⟨a,n,c,V⟩,Z,_⟩:=h;cases v with
 |mk x R=>
  simp only[RV.ji,RV.jk] at V Z⊢;subst V;simp only[lenOf] at Z;obtain rfl:n=R.length:=by omega
  refine bj.sl _ _ _ _ _ _ _ rfl (λi Q P X Z=>by rw[X] at Z;cases Z;rfl) (λi j Q P x N X Z O U=> ?_);rw[X] at Z;cases Z;rw[O] at U;cases U;exact bj.refl x
def akU(h:gH g m p q s)(ai:Int)(d Z t re':RV)(Q:Z.rows=d.rows)(i:Nat)(X:Sl (cr 96 t i))(V:cr 96 re' i=aC (cr 96 t i).rows)(k:Nat):xt W D A B C u g m p q s ai Z re' i k=xt W D A B C u g m p q s ai d t i k:=by
 have P:∀j,ci Z i j=ci d i j:=λj=>by simp only[ci,Q]
 obtain⟨o,U,O,rfl,_⟩:=SH W D A B C u g m p q s lJ Ie h i ai (ci d i 0) (ci d i 1) (ci d i 2) (ci d i 3) (ci d i 4) (ci d i 5) (ci d i 6) (ci d i 7) (ci d i 8) (ci d i 9) (ci d i 10) (ci d i 11) (ci d i 12) (cr 96 t i) X;obtain⟨N,R,M,rfl,_⟩:=SH W D A B C u g m p q s lJ Ie h i ai (ci d i 0) (ci d i 1) (ci d i 2) (ci d i 3) (ci d i 4) (ci d i 5) (ci d i 6) (ci d i 7) (ci d i 8) (ci d i 9) (ci d i 10) (ci d i 11) (ci d i 12) (cr 96 re' i) (by rw[V];exact iB X.sm);have e:=SU (SZ _ _ (show bj (cr 96 re' i) (cr 96 t i) by rw[V];exact LW X) (wk W D A B C u g m p q s++[.i i,.i ai,.i (ci d i 0),.i (ci d i 1),.i (ci d i 2),.i (ci d i 3),.i (ci d i 4),.i (ci d i 5),.i (ci d i 6),.i (ci d i 7),.i (ci d i 8),.i (ci d i 9),.i (ci d i 10),.i (ci d i 11),.i (ci d i 12)])) (by simpa only[azt,ayP,ayU] using R) (by simpa only[azt,ayP,ayU] using U);simp only[xt,P,oi,tH U,tH R];exact abj k e
def akV(h:gH g m p q s)(ai:Int)(d Z f t re':RV)(Q:Z.rows=d.rows)(i:Nat)(X:Sl (cr 96 t i))(V:cr 96 re' i=aC (cr 96 t i).rows)(k:Nat):BS W D A B C u g m p q s ai Z f re' i k=BS W D A B C u g m p q s ai d f t i k:=by
 have P:∀j,ci Z i j=ci d i j:=λj=>by simp only[ci,Q]
 obtain⟨o,U,O,rfl,_⟩:=SJ W D A B C u g m p q s lJ h i ai (ci d i 0) (ci d i 1) (ci d i 2) (ci d i 3) (ci d i 4) (ci d i 5) (ci d i 6) (ci d i 7) (ci d i 8) (ci d i 9) (ci d i 10) (ci d i 11) (ci d i 12) _ (zy (cellAt f.rows (i:Int) 0)) (ci f i 1) (ci f i 2) (ci f i 3) (ci f i 4) (ci f i 5) (ci f i 6) (ci f i 7) (ci f i 8) (ci f i 9) (ci f i 10) (ci f i 11) (ci f i 12) (ci f i 13) (ci f i 14) (ci f i 15) (ci f i 16) (cr 96 t i) X;obtain⟨N,R,M,rfl,_⟩:=SJ W D A B C u g m p q s lJ h i ai (ci d i 0) (ci d i 1) (ci d i 2) (ci d i 3) (ci d i 4) (ci d i 5) (ci d i 6) (ci d i 7) (ci d i 8) (ci d i 9) (ci d i 10) (ci d i 11) (ci d i 12) _ (zy (cellAt f.rows (i:Int) 0)) (ci f i 1) (ci f i 2) (ci f i 3) (ci f i 4) (ci f i 5) (ci f i 6) (ci f i 7) (ci f i 8) (ci f i 9) (ci f i 10) (ci f i 11) (ci f i 12) (ci f i 13) (ci f i 14) (ci f i 15) (ci f i 16) (cr 96 re' i) (by rw[V];exact iB X.sm);have e:=SU (SZ _ _ (show bj (cr 96 re' i) (cr 96 t i) by rw[V];exact LW X) (wk W D A B C u g m p q s++[.i i,.i ai,.i (ci d i 0),.i (ci d i 1),.i (ci d i 2),.i (ci d i 3),.i (ci d i 4),.i (ci d i 5),.i (ci d i 6),.i (ci d i 7),.i (ci d i 8),.i (ci d i 9),.i (ci d i 10),.i (ci d i 11),.i (ci d i 12),.r (cN .str (cellAt f.rows (i:Int) 0)),.i (ci f i 1),.i (ci f i 2),.i (ci f i 3),.i (ci f i 4),.i (ci f i 5),.i (ci f i 6),.i (ci f i 7),.i (ci f i 8),.i (ci f i 9),.i (ci f i 10),.i (ci f i 11),.i (ci f i 12),.i (ci f i 13),.i (ci f i 14),.i (ci f i 15),.i (ci f i 16)])) (by simpa only[azt,ayP,ayU] using R) (by simpa only[azt,ayP,ayU] using U);simp only[BS,P,oi,tH U,tH R];exact abj k e
variable{ai:Int}{f z d t:RV}{E w F:List (List RV)}
def Md.cr(k:Md W D A B C u g m p q s ai f z d t E w F){i:Nat}(Z:i<g.rows.length):cr 96 (aC w) i=aC (cr 96 t i).rows:=by
 have:=(k.al i Z).1;simp only[Y.cr,H8,this];rfl
def Md.gS(k:Md W D A B C u g m p q s ai f z d t E w F)(h:gH g m p q s)(X:∀i<t.rows.length,Sl (Y.cr 96 t i)){i:Nat}(Z:i<g.rows.length)(j:Nat):gS W D A B C u g m p q s ai (aC z.rows) (aC d.rows) (aC w) i j=gS W D A B C u g m p q s ai z d t i j:=by
 have V:=akU W D A B C u g m p q s h ai d (aC d.rows) t (aC w) rfl i (X i (by rw[k.nY];exact Z)) (k.cr W D A B C u g m p q s Z) j;simp only[Y.gS,V];rfl
def Md.gB(k:Md W D A B C u g m p q s ai f z d t E w F)(h:gH g m p q s)(X:∀i<t.rows.length,Sl (Y.cr 96 t i)){i:Nat}(Z:i<g.rows.length)(j:Nat):gB W D A B C u g m p q s ai (aC z.rows) (aC d.rows) f (aC w) i j=gB W D A B C u g m p q s ai z d f t i j:=by
 have V:=akV W D A B C u g m p q s h ai d (aC d.rows) f t (aC w) rfl i (X i (by rw[k.nY];exact Z)) (k.cr W D A B C u g m p q s Z) j;simp only[Y.gB,V];rfl
end
end
section
section
variable(W D A B C a:Int)(b c d e f:RV)
variable{ai:Int}{g h M F V:RV}{i j:List (List RV)}
end
end
end
end Go.Proofs.YtieaiocljdpebaaGreatDoor.Y
