/- Part 7 of the proof. -/
import Derived.Test.YtieaiocljdpebaaGreatDoorQ4
import Derived.Test.YtieaiocljdpebaaGreatDoorQ6
set_option linter.all false
open Bool renaming and_eq_true->aIy,and_self->aJI,not_eq_false->aJY,true_and->aJ3,false_and->aLY,true->J,false->E
open List renaming cons_append->aIF,nil_append->aIJ,getElem_mem->aJl,pairwise_iff_getElem->aJO,take_append_drop->aJR,length_take->aJS,length_drop->aJT,length_pos_iff->aKl,getElem_of_mem->aKV,length->Y
open Nat renaming eq_zero_or_pos->aJB,gcd->aJE,mod_lt->aKA,mul_le_mul->aKM,gcd_comm->aKO,add_sub_cancel->aK3,gcd_rec->aLq
open Option renaming some->U
open Int renaming tmod_eq_emod_of_nonneg->aJK,natAbs_tmod->aKg,mul_le_mul_of_nonneg_right->aKh,natAbs_mul->aK4,mul_le_mul_of_nonpos_right->aLk,toNat_of_nonneg->aLo
open Go.IntKind renaming i64->I
namespace Go.Proofs.YtieaiocljdpebaaGreatDoor.Y
open Go.RowKit
noncomputable section
variable{X W N:Int}{P:RV}{Q:Nat}{V:Nat→Int}{M:am}
def Er(P:Prop)(c e:Int):Prop:=(P->e=0)/\(¬P->e=c)
def Er.eq{P:Prop}(h:Er P X W)(Q:Er P X N):W=N:=by
 by_cases V:P;rw[h.1 V,Q.1 V];rw[h.2 V,Q.2 V]
def Er.no{P:Prop}(h:¬P):Er P X X:=⟨λp=>absurd p h,λ_=>rfl⟩
def Er.ok{P:Prop}(h:P):Er P X 0:=⟨λ_=>rfl,λp=>absurd h p⟩
def ahT(d n:Int):aJE (d.tmod n).natAbs n.natAbs=aJE n.natAbs d.natAbs:=by
 rw[aKg,<-aLq]
def ahU{a:Int}(h:-32768<=a/\a<=32768):0<=a*a/\a*a<=1073741824:=by
 have X:=Int.natAbs_mul_self (a:=a);have W:a.natAbs*a.natAbs<=32768*32768:=aKM (by omega) (by omega);omega
structure Q8(a b c:Int):Prop where
 fc:1<=c/\c<=32768
 fa:-c<=a/\a<=c
 fb:-c<=b/\b<=c
 q:a*a+b*b=c*c
 g:aJE (aJE a.natAbs b.natAbs) c.natAbs=1
def aCd(Q:1<=X)(h:X.tdiv W=X):W=1:=by
 rw[Int.tdiv_eq_ediv_of_nonneg (by omega)] at h;by_cases V:W=1;exact V;have P:X/W<X:=Int.ediv_lt_self_of_pos_of_ne_one (by omega) V;omega
def ku(X:RV)(k:Nat)(ab:Int):Int:=ci X k 1+(ab-ci X k 0)*ci X k 2
def xw(X:RV)(k:Nat)(ab:Int):Prop:=k<Y X.rows/\ci X k 0<=ab/\(k+1<Y X.rows->ab<ci X (k+1) 0)
structure TpK(bars:Int)(tp:RV)(k:Nat):Prop where
 inc:0<k->ci tp (k-1) 0<ci tp k 0
 lt:ci tp k 0<bars
 ti:-65536<=ci tp k 1/\ci tp k 1<=65536
 st:-65536<=ci tp k 2/\ci tp k 2<=65536
structure PsK(bars:Int)(ps:RV)(k:Nat):Prop where
 ge:0<=ci ps k 0
 lt:ci ps k 0<=bars-2
 inc:0<k->ci ps (k-1) 0<ci ps k 0
 kd:1<=ci ps k 1/\ci ps k 1<=2
 lo:0<=ci ps k 2
 hi:ci ps k 2<=ci ps k 3
 mx:ci ps k 3<=1048576
structure SpK(bars:Int)(sp:RV)(k:Nat):Prop where
 fr:0<=ci sp k 0/\ci sp k 0<=bars
 to:0<=ci sp k 1/\ci sp k 1<=bars
 ne:ci sp k 0≠ci sp k 1
 lo:-1099511627776<=ci sp k 2
 hi:ci sp k 2<=ci sp k 3
 mx:ci sp k 3<=1099511627776
structure sG(bars:Int)(tp:RV):Prop where
 br:1<=bars/\bars<=4096
 pos:0<Y tp.rows
 zero:ci tp 0 0=0
 all:∀k<Y tp.rows,TpK bars tp k
def sG.mono{W:Int}{X:RV}(h:sG W X):∀{k j:Nat},j<k->k<Y X.rows->ci X j 0<ci X k 0
 |k+1,j,P,V=>by
  have:=(h.all (k+1) V).inc (by omega);simp at this;by_cases Q:j=k;subst Q;exact this;have:=h.mono (k:=k) (j:=j) (by omega) (by omega);omega
def sG.ge(h:sG X P){k:Nat}(W:k<Y P.rows):0<=ci P k 0:=by
 rcases aJB k with rfl|V;rw[h.zero];omega;have:=h.mono V W;rw[h.zero] at this;omega
def sG.ahY(h:sG X P){k:Nat}(V:xw P Q W)(N:xw P k W):Q=k:=by
 rcases Nat.lt_trichotomy Q k with M|M|M;have G:=V.2.2 (by have:=N.1;omega);have F:=N.2.1;by_cases H:k=Q+1;subst H;omega;have:=h.mono (j:=Q+1) (k:=k) (by omega) N.1;omega;exact M;have G:=N.2.2 (by have:=V.1;omega);have F:=V.2.1;by_cases H:Q=k+1;subst H;omega;have:=h.mono (j:=k+1) (k:=Q) (by omega) V.1;omega
def Zc{a b x y:Int}(X:-x<=a/\a<=x)(W:-y<=b/\b<=y):-(x*y)<=a*b/\a*b<=x*y:=by
 have V:(a*b).natAbs<=x.toNat*y.toNat:=by rw[aK4];exact aKM (by omega) (by omega)
 have Q:x*y=((x.toNat*y.toNat:Nat):Int):=by rw[Int.natCast_mul,aLo (by omega),aLo (by omega)]
 omega
def aCe{M H:Int}(D:X<=N)(C:N<=W)(B:M<=ku P Q X/\ku P Q X<=H)(A:M<=ku P Q W/\ku P Q W<=H):M<=ku P Q N/\ku P Q N<=H:=by
 simp only[ku] at*;generalize ci P Q 0=z at*;generalize ci P Q 2=s at*;rcases Int.le_total 0 s with V|V;have G:=aKh (show X-z<=N-z by omega) V;have F:=aKh (show N-z<=W-z by omega) V;omega;have G:=aLk (show X-z<=N-z by omega) V;have F:=aLk (show N-z<=W-z by omega) V;omega
def Zd(W:Int)(X:RV):Prop:=∀(k:Nat)(ab:Int),0<=ab->ab<W->xw X k ab->1<=ku X k ab/\ku X k ab<=65536
def sH(W:Int)(X:RV)(k:Nat):Int:=if k+1<Y X.rows then ci X (k+1) 0-1 else W-1
def sG.last(h:sG X P)(W:Q<Y P.rows):xw P Q (ci P Q 0)/\xw P Q (sH X P Q)/\0<=ci P Q 0/\ci P Q 0<=sH X P Q/\sH X P Q<X:=by
 have N:=h.ge W;have M:=(h.all Q W).lt;simp only[sH,xw];split;rename_i V;have H:=h.mono (j:=Q) (k:=Q+1) (by omega) V;have G:=(h.all (Q+1) V).lt;exact⟨⟨W,by omega,λ_=>by omega⟩,⟨W,by omega,λ_=>by omega⟩,by omega,by omega,by omega⟩;rename_i V;exact⟨⟨W,by omega,λe=>absurd e V⟩,⟨W,by omega,λe=>absurd e V⟩,by omega,by omega,by omega⟩
def sG.tk(h:sG X P):Zd X P<->∀k<Y P.rows,(1<=ku P k (ci P k 0)/\ku P k (ci P k 0)<=65536)/\1<=ku P k (sH X P k)/\ku P k (sH X P k)<=65536:=by
 constructor;intro g k H;obtain⟨V,Q,N,G,M⟩:=h.last H;exact⟨g k _ N (by omega) V,g k _ (by omega) M Q⟩;intro g k ab B A W;obtain⟨V,Q,N,G,M⟩:=h.last W.1;obtain⟨F,D⟩:=g k W.1;refine aCe W.2.1 ?_ F D;simp only[sH];split;rename_i C;have:=W.2.2 C;omega;omega
structure Q9(bars:Int)(tp ps sp:RV):Prop where
 t:sG bars tp
 k:Zd bars tp
 p:∀k<Y ps.rows,PsK bars ps k
 s:∀k<Y sp.rows,SpK bars sp k
structure dv(bars:Int)(tp ps sp:RV)(e:Int):Prop where
 l:¬(Y tp.rows<=4096/\Y ps.rows<=4096/\Y sp.rows<=256)->e=2
 k:Y tp.rows<=4096/\Y ps.rows<=4096/\Y sp.rows<=256->Er (Q9 bars tp ps sp) 130 e
def dv.eq{P:Int}{W V Q:RV}{e N:Int}(h:dv P W V Q e)(M:dv P W V Q N):e=N:=by
 by_cases X:Y W.rows<=4096/\Y V.rows<=4096/\Y Q.rows<=256;exact(h.k X).eq (M.k X);rw[h.l X,M.l X]
section
variable{R:bD->Prop}{m:aP}{t:T}{O:aa}{L:dN}
def wtd(h:-32768<=X/\X<=32768):IntKind.i64.wrap (X.tdiv W)=X.tdiv W:=by
 have V:(X.tdiv W).natAbs<=X.natAbs:=by rw[Int.natAbs_tdiv];exact Nat.div_le_self _ _
 exact bJ (by omega) (by omega)
def sqs(V:1<=N)(Q:N<=32768)(P:-N<=X/\X<=N)(M:-N<=W/\W<=N):(au .add I (au .mul I X X) (au .mul I W W)=au .mul I N N)=(X*X+W*W=N*N):=by
 have H:=ahU (a:=X) (by omega);have G:=ahU (a:=W) (by omega);have F:=ahU (a:=N) (by omega);simp only[au];rw[bJ (n:=X*X) (by omega) (by omega),bJ (n:=W*W) (by omega) (by omega),bJ (n:=N*N) (by omega) (by omega),bJ (by omega) (by omega)]
def auu(W:1<=X)(V:X<=32768):au .sub I 0 X=-X:=by simp only[au];rw[bJ (by omega) (by omega)];omega
def aCf(a b c:Int)(F:1<=c)(D:c<=32768)(C:-c<=a/\a<=c)(B:-c<=b/\b<=c):∃g:Int,g=(aJE (aJE a.natAbs b.natAbs) c.natAbs:Nat)/\TB.Ev 153 [.i a,.i b,.i c] (.ret [.i (a.tdiv g),.i (b.tdiv g),.i (c.tdiv g)]):=by
 refine⟨_,rfl,bW rfl rfl (.inl rfl) ?_⟩;simp[Yf];refine ub (λX=>∃n d:Int,X=[.i n,.i d]∧-c<=n/\n<=c∧-c<=d/\d<=c/\aJE n.natAbs d.natAbs=a.natAbs) (λX=>(xi X 0).natAbs) ⟨a,0,rfl,by omega,by omega,by omega,by omega,by simp⟩ ?_;rintro _ ⟨n,d,rfl,Q,P,N,M,W⟩;simp[xi,ua,au];split
 case isFalse h=>
  have:=Mm (a:=d) h;refine⟨h,⟨_,_,⟨rfl,rfl⟩,by omega,by omega,by omega,by omega,by rw[ahT];exact W⟩,by rw[<-aKg];exact this⟩
 rename_i h;subst h;simp at W;refine ub (λX=>∃n e:Int,X=[.i n,.i e]∧-c<=n/\n<=c∧-c<=e/\e<=c/\aJE n.natAbs e.natAbs=aJE a.natAbs b.natAbs) (λX=>(xi X 0).natAbs) ⟨b,d,rfl,by omega,by omega,by omega,by omega,by rw[W,aKO]⟩ ?_;rintro _ ⟨n,e,rfl,Q,P,N,M,V⟩;simp[xi,ua,au];split
 case isFalse h=>
  have:=Mm (a:=e) h;refine⟨h,⟨_,_,⟨rfl,rfl⟩,by omega,by omega,by omega,by omega,by rw[ahT];exact V⟩,by rw[<-aKg];exact this⟩
 rename_i h;subst h;simp at V;refine ub (λX=>∃n f:Int,X=[.i n,.i f]∧-c<=n/\n<=c∧-c<=f/\f<=c/\aJE n.natAbs f.natAbs=aJE (aJE a.natAbs b.natAbs) c.natAbs) (λX=>(xi X 0).natAbs) ⟨c,e,rfl,by omega,by omega,by omega,by omega,by rw[V,aKO]⟩ ?_;rintro _ ⟨n,f,rfl,Q,P,N,M,H⟩;simp[xi,ua,au];split
 case isFalse h=>
  have:=Mm (a:=f) h;refine⟨h,⟨_,_,⟨rfl,rfl⟩,by omega,by omega,by omega,by omega,by rw[ahT];exact H⟩,by rw[<-aKg];exact this⟩
 rename_i h;subst h;simp at H;have A:0<aJE (aJE a.natAbs b.natAbs) c.natAbs:=Nat.gcd_pos_of_pos_right _ (by omega);have:IntKind.i64.wrap (-f)=-f:=bJ (by omega) (by omega);simp[this];generalize(a.natAbs.gcd b.natAbs).gcd c.natAbs=G at*;rw[show max f (-f)=(G:Int) by omega,wtd (by omega),wtd (by omega),wtd (by omega)];exact⟨by omega,rfl,rfl,rfl⟩
def x83(a b c:Int):∃o,TB.Ev 83 [.i a,.i b,.i c] o/\∃e,o=.ret [.i e]/\Er (Q8 a b c) 140 e:=by
 refine dm rfl rfl (.inl rfl) ?_;simp[Yg];split;exact Er.no λh=>by have:=h.fc;omega
 split;exact Er.no λh=>by have:=h.fc;omega
 rw[auu (by omega) (by omega)];split;exact Er.no λh=>by have:=h.fa;have:=h.fb;omega
 split;exact Er.no λh=>by have:=h.fa;have:=h.fb;omega
 refine az (λX=> ?_) (λX=> ?_)
 all_goals rw[sqs (by omega) (by omega) (by omega) (by omega)] at X
 case refine_2=>exact Er.no λp=>X p.q
 obtain⟨g,W,V⟩:=aCf a b c (by omega) (by omega) (by omega) (by omega);rw[aN V];simp;refine az (λh=>Er.no λp=> ?_) (λh=> ?_);have Q:=p.g;rw[Q] at W;subst W;simp at h;simp at h;have:=aCd (by omega) h.2.2;exact Er.ok ⟨by omega,by omega,by omega,X,by omega⟩
def aCh(Q ab:Int)(X G F:RV)(M:Sl X)(h:sG Q X)(s:0<=ab)(q:ab<Q):∃k,xw X k ab/\TB.Ev 220 [.i Q,.r X,.r G,.r F,.i ab] (.ret [.i (ku X k ab)]):=by
 suffices C:∃o,TB.Ev 220 [.i Q,.r X,.r G,.r F,.i ab] o/\∃k,xw X k ab/\o=.ret [.i (ku X k ab)] by
  obtain⟨o,H,k,D,rfl⟩:=C;exact⟨k,D,H⟩
 refine dm rfl rfl (.inl rfl) ?_;simp[X9];have p:=h.pos;have m:=M.sm;refine ub (λP=>∃i j:Nat,P=[.i i,.i j]/\i<=j/\j<=Y X.rows/\(j=Y X.rows\/ab<ci X j 0)/\(0<i->ci X (i-1) 0<=ab)) (λP=>(xi P 1-xi P 0).toNat) ⟨0,Y X.rows,by simp[M.len],by omega,by omega,.inl rfl,by omega⟩ ?_;rintro _ ⟨i,j,rfl,H,D,W,N⟩;simp[xi,ua,M.len,asA (show j<=140737488355328 by omega) H];split;rename_i B;refine⟨by omega, ?_⟩;have A:((i:Int)+j)/2=(((i+j)/2:Nat):Int):=by omega
 have z:=Ml (i:=(i+j)/2) (by omega);rw[A,z];split;rename_i V;refine⟨⟨(i+j)/2+1,j,⟨rfl,rfl⟩,by omega,by omega,W,λ_=> ?_⟩,by omega⟩;simp only[ci,aK3];omega;rename_i V;refine⟨⟨i,(i+j)/2,⟨rfl,rfl⟩,by omega,by omega,.inr ?_,N⟩,by omega⟩;simp only[ci];omega;rename_i B;have w:i=j:=by omega
 subst w;have v:1<=i:=by
  rcases aJB i with rfl|V;have:=h.zero;rcases W with W|W<;>omega;exact V
 have N:=N v;rw[show au .sub I (i:Int) 1=((i-1:Nat):Int) by simp only[au];rw[bJ (by omega) (by omega)];omega];refine⟨by omega,i-1,⟨by omega,N,λV=> ?_⟩, ?_⟩;rw[show i-1+1=i by omega] at V⊢;rcases W with W|W<;>omega;have l:=h.ge (k:=i-1) (by omega);obtain⟨-,g,f,u⟩:=h.all (i-1) (by omega);have e:=h.br;have d:=Zc (a:=ab-ci X (i-1) 0) (b:=ci X (i-1) 2) (x:=4096) (y:=65536) (by omega) u;simp only[ku,au];simp only[ci] at*;rw[bJ (n:=ab-_) (by omega) (by omega),bJ (n:=_*_) (by omega) (by omega),bJ (by omega) (by omega)]
def dv.Ra{W V:RV}(h:¬(Y P.rows<=4096/\Y W.rows<=4096/\Y V.rows<=256)):dv X P W V 2:=⟨λ_=>rfl,λk=>absurd k h⟩
def dv.no{Q:Int}{X W V:RV}(h:Y X.rows<=4096/\Y W.rows<=4096/\Y V.rows<=256)(P:¬Q9 Q X W V):dv Q X W V 130:=⟨λk=>absurd h k,λ_=>Er.no P⟩
def dv.ok{V:Int}{X ps W:RV}(h:Y X.rows<=4096/\Y ps.rows<=4096/\Y W.rows<=256)(Q:Q9 V X ps W):dv V X ps W 0:=⟨λk=>absurd h k,λ_=>Er.ok Q⟩
def x81(Q:Int)(P M H:RV)(u:Sl P)(j:Sl M)(g:Sl H):∃o,TB.Ev 81 [.i Q,.r P,.r M,.r H] o/\∃e,o=.ret [.i e]/\dv Q P M H e:=by
 refine dm rfl rfl (.inr λv hv=>by obtain⟨_,h,_⟩:=hv;cases h) ?_;simp[Yh,u.len,j.len,g.len];refine az (λm1=> ?_) (λm1=>dv.Ra (by omega));refine az (λm2=>dv.Ra (by omega)) (λm2=> ?_);have W:Y P.rows<=4096/\Y M.rows<=4096/\Y H.rows<=256:=by omega
 refine az (λm3=> ?_) (λm3=>dv.no W λp=>by have:=p.t.br;omega);refine az (λm4=> ?_) (λm4=>dv.no W λp=>by have:=p.t.br;omega);refine az (λf=> ?_) (λf=>dv.no W λp=>by have:=p.t.pos;omega);refine⟨f, ?_⟩;refine az (λn=> ?_) (λn=>dv.no W λp=>n p.t.zero);have e1:au .sub I Q 1=Q-1:=by simp only[au];rw[bJ (by omega) (by omega)]
 have e2:au .sub I Q 2=Q-2:=by simp only[au];rw[bJ (by omega) (by omega)]
 refine cZ (Y P.rows) (λi F=>∃V:Int,F=[.i V]/\(∀k<i,TpK Q P k)∧-1<=V/\V<=4096/\((i=0/\V=-1)\/(0<i/\V=ci P (i-1) 0))) ⟨0,rfl,by omega,-1,rfl,by omega,by omega,by omega,.inl ⟨rfl,rfl⟩⟩ ?_;rintro i _ X ⟨V,rfl,N,k2,k3,k4⟩;have m:au .add I V 1=V+1:=by simp only[au];rw[bJ (by omega) (by omega)]
 simp[u.len,e1,m];refine az (λX=> ?_) (λX=> ?_);simp[cQ X u.sm];refine⟨X, ?_⟩;have lo:i=0->ci P i 0=0:=by rintro rfl;exact n
 refine az (λD=> ?_) (λD=>dv.no W λp=>by have q:=(p.t.all i X).inc;have:=p.t.ge X;simp only[ci] at*;omega);refine az (λC=> ?_) (λC=>dv.no W λp=>by have q:=(p.t.all i X).lt;simp only[ci] at*;omega);refine az (λB=> ?_) (λB=>dv.no W λp=>by have q:=(p.t.all i X).ti;simp only[ci] at*;omega);refine az (λA=> ?_) (λA=>dv.no W λp=>by have q:=(p.t.all i X).ti;simp only[ci] at*;omega);refine az (λz=> ?_) (λz=>dv.no W λp=>by have q:=(p.t.all i X).st;simp only[ci] at*;omega);refine az (λy=>dv.no W λp=>by have q:=(p.t.all i X).st;simp only[ci] at*;omega) (λy=> ?_);refine⟨λk G=> ?_,by omega,by omega,rfl⟩;by_cases x:k=i;subst x;refine⟨λd=> ?_, ?_, ?_, ?_⟩<;>simp only[ci] at* <;>omega;exact N k (by omega);have w:i=Y P.rows:=by omega
 subst w;have c:sG Q P:=⟨⟨m3,m4⟩,f,n,N⟩;clear N k2 k3 k4 m;refine cZ Q.toNat (λi F=>F=[]/\∀(k:Nat)(b:Int),0<=b->b<i->xw P k b->1<=ku P k b/\ku P k b<=65536) ⟨0,rfl,by omega,rfl,by omega⟩ ?_;rintro i _ X ⟨rfl,N⟩;simp;refine az (λX=> ?_) (λX=> ?_);have af:i<Q.toNat:=by omega
 obtain⟨k,G,he⟩:=aCh Q i P M H u c (by omega) X;rw[aN he];simp[cQ af (show Q.toNat<=140737488355328 by omega)];refine az (λD=> ?_) (λD=>dv.no W λp=>by have q:=p.k k i (by omega) X G;omega);refine az (λC=>dv.no W λp=>by have q:=p.k k i (by omega) X G;omega) (λC=> ?_);intro k' b hb al l;by_cases ag:b=i;subst ag;rw[c.ahY l G];omega;exact N k' b hb (by omega) l;have G:Zd Q P:=λk b d hb l=>N k b d (by omega) l
 clear N X;refine cZ (Y M.rows) (λi F=>∃V:Int,F=[.i V]/\(∀k<i,PsK Q M k)∧-1<=V/\V<=4096/\((i=0/\V=-1)\/(0<i/\V=ci M (i-1) 0))) ⟨0,rfl,by omega,-1,rfl,by omega,by omega,by omega,.inl ⟨rfl,rfl⟩⟩ ?_;rintro i _ X ⟨V,rfl,N,k2,k3,k4⟩;have m:au .add I V 1=V+1:=by simp only[au];rw[bJ (by omega) (by omega)]
 simp[j.len,e2,m];refine az (λX=> ?_) (λX=> ?_);simp[cQ X j.sm];refine⟨X, ?_⟩;refine az (λD=> ?_) (λD=>dv.no W λp=>by have q:=p.p i X;have q1:=q.ge;have q2:=q.inc;simp only[ci] at*;omega);refine az (λC=> ?_) (λC=>dv.no W λp=>by have q:=(p.p i X).lt;simp only[ci] at*;omega);refine az (λB=> ?_) (λB=>dv.no W λp=>by have q:=(p.p i X).kd;simp only[ci] at*;omega);refine az (λA=> ?_) (λA=>dv.no W λp=>by have q:=(p.p i X).kd;simp only[ci] at*;omega);refine az (λz=> ?_) (λz=>dv.no W λp=>by have q:=(p.p i X).lo;simp only[ci] at*;omega);refine az (λy=> ?_) (λy=>dv.no W λp=>by have q:=(p.p i X).hi;simp only[ci] at*;omega);refine az (λa=>dv.no W λp=>by have q:=(p.p i X).mx;simp only[ci] at*;omega) (λa=> ?_);refine⟨λk G=> ?_,by omega,by omega,rfl⟩;by_cases x:k=i;subst x;refine⟨?_, ?_,λd=> ?_, ?_, ?_, ?_, ?_⟩<;>simp only[ci] at* <;>omega;exact N k (by omega);have w:i=Y M.rows:=by omega
 subst w;refine cZ (Y H.rows) (λi F=>F=[]/\∀k<i,SpK Q H k) ⟨0,rfl,by omega,rfl,by omega⟩ ?_;rintro i _ X ⟨rfl,k5⟩;simp[g.len];refine az (λX=> ?_) (λX=> ?_);simp[cQ X g.sm];refine⟨X, ?_⟩;refine az (λD=> ?_) (λD=>dv.no W λp=>by have q:=(p.s i X).fr;simp only[ci] at*;omega);refine az (λC=> ?_) (λC=>dv.no W λp=>by have q:=(p.s i X).fr;simp only[ci] at*;omega);refine az (λB=> ?_) (λB=>dv.no W λp=>by have q:=(p.s i X).to;simp only[ci] at*;omega);refine az (λA=> ?_) (λA=>dv.no W λp=>by have q:=(p.s i X).to;simp only[ci] at*;omega);refine az (λz=>dv.no W λp=>by have q:=(p.s i X).ne;simp only[ci] at*;omega) (λz=> ?_);refine az (λy=> ?_) (λy=>dv.no W λp=>by have q:=(p.s i X).lo;simp only[ci] at*;omega);refine az (λa=> ?_) (λa=>dv.no W λp=>by have q:=(p.s i X).hi;simp only[ci] at*;omega);refine az (λg8=>dv.no W λp=>by have q:=(p.s i X).mx;simp only[ci] at*;omega) (λg8=> ?_);intro k G;by_cases x:k=i;subst x;refine⟨?_, ?_, ?_, ?_, ?_, ?_⟩<;>simp only[ci] at* <;>omega;exact k5 k (by omega);have w:i=Y H.rows:=by omega
 subst w;exact dv.ok W ⟨c,G,N,k5⟩
end
section
variable{R:bD->Prop}{f:aP}{t:T}{O:aa}{L:dN}
def aCj(n X W:Int):TB.Ev 159 [.i n,.i X,.i W] (.ret [.b (iC n X W)]):=by
 refine bW rfl rfl (.inl rfl) ?_;simp[agD,iC]
 grind
@[simp] def aIn (n X W:Int):eK TB.Ev R 159 [.i n,.i X,.i W] f t O L=eL TB.Ev R (.ret [.b (iC n X W)]) f t O L:=aN (aCj n X W)
def aCk(n X W:Int):TB.Ev 163 [.i n,.i X,.i W] (.ret [.b (iC n X W)]):=by
 refine bW rfl rfl (.inl rfl) ?_;simp[agE,iC]
 grind
@[simp] def aIo (n X W:Int):eK TB.Ev R 163 [.i n,.i X,.i W] f t O L=eL TB.Ev R (.ret [.b (iC n X W)]) f t O L:=aN (aCk n X W)
def aCl(a b:Nat)(_:a<=1152921504606846976)(V:b<=1152921504606846976):TB.Ev 342 [.i a,.i b] (.ret [.i (aJE a b:Nat)]):=by
 refine bW rfl rfl (.inl rfl) ?_;simp[agJ];refine ub (λX=>∃m n:Nat,X=[.i m,.i n]/\m<=1152921504606846976/\aJE m n=aJE a b) (λX=>(xi X 0).toNat) ⟨b,a,rfl,V,aKO _ _⟩ ?_;rintro _ ⟨m,n,rfl,Q,W⟩;simp[xi,ua,au];split;rename_i h;have P:n%m<m:=aKA _ (by omega);refine⟨by omega,⟨n%m,m,⟨?_,rfl⟩,by omega,by rw[<-W,<-aLq]⟩, ?_⟩;rw[aJK (by omega)];rfl;rw[aJK (by omega)];omega;rename_i h;have:m=0:=by omega
 subst this;simp at W;rw[W]
def auv(a b:Nat)(_:a<=1152921504606846976)(V:b<=1152921504606846976):TB.Ev 229 [.i a,.i b] (.ret [.i (aJE a b:Nat)]):=by
 refine bW rfl rfl (.inl rfl) ?_;simp[agH];refine ub (λX=>∃m n:Nat,X=[.i m,.i n]/\m<=1152921504606846976/\aJE m n=aJE a b) (λX=>(xi X 0).toNat) ⟨b,a,rfl,V,aKO _ _⟩ ?_;rintro _ ⟨m,n,rfl,Q,W⟩;simp[xi,ua,au];split;rename_i h;have P:n%m<m:=aKA _ (by omega);refine⟨by omega,⟨n%m,m,⟨?_,rfl⟩,by omega,by rw[<-W,<-aLq]⟩, ?_⟩;rw[aJK (by omega)];rfl;rw[aJK (by omega)];omega;rename_i h;have:m=0:=by omega
 subst this;simp at W;rw[W]
def aCm(n:Int)(h:-1152921504606846976<=n/\n<=1152921504606846976):TB.Ev 343 [.i n] (.ret [.i n.natAbs]):=by
 refine bW rfl rfl (.inl rfl) ?_;simp[agK,au];split;rw[bJ (by omega) (by omega)];omega;omega
def ah0(V:1<=W)(Q:W<=1073741824)(P:-1073741824<=X)(N:X<=1073741824):TB.Ev 343 [.i X] (.ret [.i X.natAbs])/\TB.Ev 342 [.i X.natAbs,.i W] (.ret [.i (aJE X.natAbs W.toNat:Nat)]):=by
 refine⟨aCm X (by omega), ?_⟩;have:=aCl X.natAbs W.toNat (by omega) (by omega)
 rwa [aLo (by omega)] at this
def ah1(h:¬(1<=W/\W<=1073741824∧-1073741824<=X/\X<=1073741824)):eU X W=false:=by
 simp[eU];omega
def ah2(h:1<=W/\W<=1073741824∧-1073741824<=X/\X<=1073741824):eU X W=(aJE X.natAbs W.toNat==1):=by
 simp[eU,h]
def aCn(n d:Int):TB.Ev 231 [.i n,.i d] (.ret [.i (if eU n d then 0 else 120)]):=by
 refine bW rfl rfl (.inl rfl) ?_;by_cases X:1<=d/\d<=1073741824∧-1073741824<=n/\n<=1073741824;rw[ah2 X];obtain⟨W,V,Q,P⟩:=X;obtain⟨N,M⟩:=ah0 W V Q P;simp[Ym,W,V,Q,P,aN N,aN M]
 grind
 rw[ah1 X];simp[Ym]
 grind
@[simp] def aIp (n d:Int):eK TB.Ev R 231 [.i n,.i d] f t O L=eL TB.Ev R (.ret [.i (if eU n d then 0 else 120)]) f t O L:=aN (aCn n d)
def aCo(a b c d:Int):TB.Ev 232 [.i a,.i b,.i c,.i d] (.ret [.i (mo a b c d),.i (if eU a b&&eU c d then 0 else 120)]):=by
 refine bW rfl rfl (.inl rfl) ?_;by_cases X:1<=b/\b<=1073741824∧-1073741824<=a/\a<=1073741824;rw[mo,ah2 X];obtain⟨W,V,Q,P⟩:=X;obtain⟨M,H⟩:=ah0 W V Q P;by_cases N:1<=d/\d<=1073741824∧-1073741824<=c/\c<=1073741824;rw[ah2 N];obtain⟨G,F,D,C⟩:=N;obtain⟨B,A⟩:=ah0 G F D C;simp[QD,W,V,Q,P,aN M,aN H,G,F,D,C,aN B,aN A,qM,au]
 grind
 rw[ah1 N];simp[QD,W,V,Q,P,aN M,aN H]
 grind
 rw[mo,ah1 X];simp[QD]
 grind
@[simp] def aIq (a b c d:Int):eK TB.Ev R 232 [.i a,.i b,.i c,.i d] f t O L=eL TB.Ev R (.ret [.i (mo a b c d),.i (if eU a b&&eU c d then 0 else 120)]) f t O L:=aN (aCo a b c d)
def aCp(a b c:Int):∃o,TB.Ev 164 [.i a,.i b,.i c] o/\∃e,o=.ret [.i e]/\Er (Q8 a b c) 140 e:=by
 refine dm rfl rfl (.inl rfl) ?_;simp[agI];refine az (λ_=>Er.no λh=>by have:=h.fc;omega) (λP=> ?_);refine az (λ_=>Er.no λh=>by have:=h.fc;omega) (λN=> ?_);rw[auu (by omega) (by omega)];refine az (λ_=>Er.no λh=>by have:=h.fa;omega) (λM=> ?_);refine az (λ_=>Er.no λh=>by have:=h.fa;omega) (λH=> ?_);refine az (λ_=>Er.no λh=>by have:=h.fb;omega) (λG=> ?_);refine az (λ_=>Er.no λh=>by have:=h.fb;omega) (λF=> ?_);refine az (λX=> ?_) (λX=> ?_)
 all_goals rw[sqs (by omega) (by omega) (by omega) (by omega)] at X
 case refine_2=>exact Er.no λp=>X p.q
 rw[show max a (au .sub I 0 a)=(a.natAbs:Int) by simp only[au];rw[bJ (by omega) (by omega)];omega,show max b (au .sub I 0 b)=(b.natAbs:Int) by simp only[au];rw[bJ (by omega) (by omega)];omega];rw[aN (auv a.natAbs b.natAbs (by omega) (by omega))];have V:aJE a.natAbs b.natAbs<=1152921504606846976:=by
  by_cases Q:a.natAbs=0;rw[Q,Nat.gcd_zero_left];omega;have:=Nat.le_of_dvd (by omega) (Nat.gcd_dvd_left a.natAbs b.natAbs);omega
 have W:=auv (aJE a.natAbs b.natAbs) c.natAbs V (by omega);rw[show((c.natAbs:Nat):Int)=c by omega] at W;simp[aN W];refine az (λh=>Er.ok ⟨by omega,by omega,by omega,X,by omega⟩) (λh=>Er.no λp=>h (by have:=p.g;omega))
end
section
variable{R:bD->Prop}{c:aP}{t:T}{O:aa}{L:dN}
def iM{P:Nat->Prop}(h:∀k<Q,P k)(X:P Q):∀k<Q+1,P k:=λk W=>by
 by_cases e:k=Q;subst e;exact X;exact h k (by omega)
def MD(h:0<Q)(X:Q<=140737488355328):au .sub I (Q:Int) 1=((Q-1:Nat):Int):=by simp only[au];rw[bJ (by omega) (by omega)];omega
def auw{n:Nat}{X:Nat->aV->Prop}{i:Nat}{W:aV}(V:i<n)(P:n<=140737488355328):HT (U ⟨Q,Fi n X,C0 n,n-i⟩) (.i ((i:Int)+1)::W)=X (i+1) W:=by
 have:=cQ (aq:=Q) (J:=X) (rest:=W) V P
 rwa [Ml (by omega)] at this
def aux(V ab:Int)(X M H:RV)(G:Sl X)(h:sG V X)(w:0<=ab)(v:ab<V):∃k,xw X k ab/\TB.Ev 228 [.i V,.r X,.r M,.r H,.i ab] (.ret [.i (ku X k ab)]):=by
 suffices D:∃o,TB.Ev 228 [.i V,.r X,.r M,.r H,.i ab] o/\∃k,xw X k ab/\o=.ret [.i (ku X k ab)] by
  obtain⟨o,W,k,Q,rfl⟩:=D;exact⟨k,Q,W⟩
 refine dm rfl rfl (.inl rfl) ?_;simp[agF];have u:=h.pos;have C:=G.sm;refine cZ (Y X.rows) (λi B=>B=[]/\i<Y X.rows/\ci X i 0<=ab) ⟨0,rfl,by omega,rfl,by omega,by rw[h.zero];omega⟩ ?_;rintro i _ s ⟨rfl,W,Q⟩;have P:(i+1<Y X.rows->ab<ci X (i+1) 0)->(0<=(i:Int)/\(i:Int)<Y X.rows)/\∃k,xw X k ab/\au .add I (ci X i 1) (au .mul I (au .sub I ab (ci X i 0)) (ci X i 2))=ku X k ab:=by
  intro N;refine⟨by omega,i,⟨W,Q,N⟩, ?_⟩;have q:=h.ge W;obtain⟨-,p,m,A⟩:=h.all i W;have l:=h.br;have j:=Zc (a:=ab-ci X i 0) (b:=ci X i 2) (x:=4096) (y:=65536) (by omega) A;simp only[ku,au];rw[bJ (n:=ab-_) (by omega) (by omega),bJ (n:=_*_) (by omega) (by omega),bJ (by omega) (by omega)]
 simp only[ci] at P;have z:au .add I (i:Int) 1=((i+1:Nat):Int):=Ml (by omega);simp[G.len,z];refine az (λN=>⟨by omega,az (λF=> ?_) (λF=> ?_)⟩) (λN=> ?_);rw[auw W C];exact⟨rfl,by omega,F⟩;have:=P (λ_=>by simp only[Int.natCast_add,Int.natCast_one];omega);exact⟨W,this.2⟩;have:=P (λe=>by omega);exact⟨W,this.2⟩
def r91(V:Int)(W M H:RV)(G:Sl W)(v:Sl M)(m:Sl H):∃o,TB.Ev 91 [.i V,.r W,.r M,.r H] o/\∃e,o=.ret [.i e]/\dv V W M H e:=by
 refine dm rfl rfl (.inl rfl) ?_;simp[T91,G.len,v.len,m.len];refine az (λl=>dv.Ra (by omega)) (λl=> ?_);refine az (λl=>dv.Ra (by omega)) (λl=> ?_);refine az (λm2=>dv.Ra (by omega)) (λm2=> ?_);have Q:Y W.rows<=4096/\Y M.rows<=4096/\Y H.rows<=256:=by omega
 refine az (λm3=> ?_) (λm3=>dv.no Q λp=>by have:=p.t.br;omega);refine az (λm4=>dv.no Q λp=>by have:=p.t.br;omega) (λm4=> ?_);refine az (λj=>dv.no Q λp=>by have:=p.t.pos;rw[j] at this;simp at this) (λj=> ?_);have af:0<Y W.rows:=aKl.2 j;refine⟨af, ?_⟩;refine az (λh=> ?_) (λh=>dv.no Q λp=>h p.t.zero);have f:au .sub I V 1=V-1:=by simp only[au];rw[bJ (by omega) (by omega)]
 have e2:au .sub I V 2=V-2:=by simp only[au];rw[bJ (by omega) (by omega)]
 refine cZ (Y W.rows) (λi D=>D=[]/\∀k<i,TpK V W k) ⟨0,rfl,by omega,rfl,by omega⟩ ?_;rintro i _ X ⟨rfl,P⟩;simp[G.len,f];refine az (λX=> ?_) (λX=> ?_);simp[cQ X G.sm];have u:=G.sm;refine⟨X,az (λC=> ?_) (λC=> ?_)⟩
 ·rw[MD C (by omega)];refine⟨by omega, ?_⟩
  repeat'(refine az (λ_=> ?_) (λ_=> ?_))
  any_goals(refine dv.no Q λp=> ?_;obtain⟨z,y,q3,x⟩:=p.t.all i X;simp only[ci] at*;omega)
  refine iM P ⟨λ_=> ?_, ?_, ?_, ?_⟩<;>simp only[ci]<;>omega
 ·repeat'(refine az (λ_=> ?_) (λ_=> ?_))
  any_goals(refine dv.no Q λp=> ?_;obtain⟨z,y,q3,x⟩:=p.t.all i X;simp only[ci] at*;omega)
  refine iM P ⟨λ_=> ?_, ?_, ?_, ?_⟩<;>simp only[ci]<;>omega
 have B:i=Y W.rows:=by omega
 subst B;have N:sG V W:=⟨⟨m3,by omega⟩,af,h,P⟩;clear P;refine cZ (Y W.rows) (λi D=>D=[]/\∀k<i,(1<=ku W k (ci W k 0)/\ku W k (ci W k 0)<=65536)/\1<=ku W k (sH V W k)/\ku W k (sH V W k)<=65536) ⟨0,rfl,by omega,rfl,by omega⟩ ?_;rintro i _ X ⟨rfl,P⟩;simp[G.len,f];refine az (λX=> ?_) (λX=> ?_);have u:=G.sm;obtain⟨l1,l2,l3,l4,l5⟩:=N.last X;obtain⟨a,a1,a2⟩:=aux V (ci W i 0) W M H G N l3 (by omega);obtain rfl:=N.ahY l1 a1;obtain⟨b,b1,q⟩:=aux V (sH V W i) W M H G N (by omega) l5;obtain rfl:=N.ahY l2 b1;have e3:=Ml (i:=i) (by omega);refine az (λC=> ?_) (λC=> ?_);have w:sH V W i=au .sub I (ci W (i+1) 0) 1:=by
  have g:=N.ge (k:=i+1) (by omega);have F:=(N.all (i+1) (by omega)).lt;rw[sH,if_pos (by omega)];simp only[au];rw[bJ (by omega) (by omega)]
 refine⟨by omega,X, ?_⟩;simp only[ci] at a2 q;rw[aN a2];simp[e3];rw[show(i:Int)+1=((i+1:Nat):Int) from rfl];refine az (λA=> ?_) (λA=> ?_);have e5:sH V W i=au .sub I (bB (cellAt W.rows ((i+1:Nat):Int) 0).val) 1:=w;have b3:=q;rw[e5] at b3;rw[aN b3,<-e5];simp;refine az (λF=> ?_) (λF=>dv.no Q λp=>F (N.tk.1 p.k i X).2);rw[cQ X u];exact⟨rfl,iM P ⟨A,F⟩⟩;refine dv.no Q λp=>A ?_
 have:=(N.tk.1 p.k i X).1;simpa only[ci] using this;have w:sH V W i=V-1:=by rw[sH,if_neg (by omega)]
 refine⟨X, ?_⟩;rw[w] at q;simp only[ci] at a2;rw[aN a2];simp[f,aN q,cQ X u];have n:∀p:Q9 V W M H,_:=λp=>N.tk.1 p.k i X
 rw[w] at n;simp only[ci] at n;refine az (λA=>az (λF=>iM P ?_) (λF=>dv.no Q λp=>F (n p).2)) (λA=>dv.no Q λp=>A (n p).1);rw[w];exact⟨A,F⟩;have B:i=Y W.rows:=by omega
 subst B;have hk:Zd V W:=N.tk.2 P;clear P X;refine cZ (Y M.rows) (λi D=>D=[]/\∀k<i,PsK V M k) ⟨0,rfl,by omega,rfl,by omega⟩ ?_;rintro i _ X ⟨rfl,P⟩;simp[v.len,e2];refine az (λX=> ?_) (λX=> ?_);simp[cQ X v.sm];have u:=v.sm;refine⟨X,az (λhb=>az (λC=> ?_) (λC=> ?_)) (λhb=> ?_)⟩
 ·rw[MD C (by omega)];refine⟨by omega, ?_⟩
  repeat'(refine az (λ_=> ?_) (λ_=> ?_))
  any_goals(refine dv.no Q λp=> ?_;obtain⟨z,y,q3,x,d,c,q7⟩:=p.p i X;simp only[ci] at*;omega)
  all_goals refine iM P ⟨?_, ?_,λ_=> ?_, ?_, ?_, ?_, ?_⟩<;>simp only[ci]<;>omega
 ·repeat'(refine az (λ_=> ?_) (λ_=> ?_))
  any_goals(refine dv.no Q λp=> ?_;obtain⟨z,y,q3,x,d,c,q7⟩:=p.p i X;simp only[ci] at*;omega)
  all_goals refine iM P ⟨?_, ?_,λ_=> ?_, ?_, ?_, ?_, ?_⟩<;>simp only[ci]<;>omega
 refine dv.no Q λp=> ?_
 obtain⟨z,y,q3,x,d,c,q7⟩:=p.p i X;simp only[ci] at*;omega;have B:i=Y M.rows:=by omega
 subst B;refine cZ (Y H.rows) (λi D=>D=[]/\∀k<i,SpK V H k) ⟨0,rfl,by omega,rfl,by omega⟩ ?_;rintro i _ X ⟨rfl,k5⟩;simp[m.len];refine az (λX=> ?_) (λX=> ?_)
 ·simp[cQ X m.sm];refine⟨X, ?_⟩
  repeat'(refine az (λ_=> ?_) (λ_=> ?_))
  any_goals(refine dv.no Q λp=> ?_;obtain⟨z,y,q3,x,d,c⟩:=p.s i X;simp only[ci] at*;omega)
  refine iM k5 ⟨?_, ?_, ?_, ?_, ?_, ?_⟩<;>simp only[ci]<;>omega
 have B:i=Y H.rows:=by omega
 subst B;exact dv.ok Q ⟨N,hk,P,k5⟩
end
def xx(c:Nat->Int):Bool:=eU (c 10) (c 11)&&eU (c 12) (c 13)&&decide (0<=c 10)&&decide (mo (c 10) (c 11) (c 12) (c 13)<0)&&decide (c 12<=c 13)
structure SgP(roles bars:Int)(c:Nat->Int):Prop where
 ok:iZ roles bars c
 sp:xx c=J
def Ze(h:eU X W=J):1<=W/\W<=1073741824∧-1073741824<=X/\X<=1073741824:=by
 simp[eU] at h;omega
def aCr(h:eU X W=J):mo 0 1 X W=qM 0 X:=by
 have:=Ze h;have V:eU 0 1=true:=by decide
 simp only[mo,h,V,aJI,if_true];rw[bJ (by omega) (by omega),bJ (by omega) (by omega)];simp
def aCs(h:eU X W=J):mo X W 1 1=qM X W:=by
 have:=Ze h;have V:eU 1 1=true:=by decide
 simp only[mo,h,V,aJI,if_true];rw[bJ (by omega) (by omega),bJ (by omega) (by omega)];simp
def aCt(a b:Int):mo a b a b=0:=by
 simp[mo,qM]
section
variable{R:bD->Prop}{f:aP}{t:T}{O:aa}{L:dN}
def Be(X W:Int)(c:Nat->Int):Bool:=iC (c 4) 1 9&&iC (c 1) 0 (X-1)&&iC (c 2) 0 (W-1)&&iC (c 3) 1 3&&pI (c 5) (fG (kT (c 4) 0).val) 1 2&&pI (c 6) (fG (kT (c 4) 1).val) (bB (kT (c 4) 3).val) 8&&pI (c 7) (decide (0<bB (kT (c 4) 4).val)) 1 (bB (kT (c 4) 4).val)&&pI (c 8) (decide (0<bB (kT (c 4) 5).val)) 1 (bB (kT (c 4) 5).val)&&pI (c 9) (fG (kT (c 4) 2).val) 1 X
def aCu(h:iZ X W V):Be X W V=true:=by
 obtain⟨G,F,D,C,Q,P,N,M,H,-,-⟩:=h;have:V 4=1\/V 4=2\/V 4=3\/V 4=4\/V 4=5\/V 4=6\/V 4=7\/V 4=8\/V 4=9:=by omega
 rcases this with h|h|h|h|h|h|h|h|h
 all_goals
  simp[h] at Q P N M H;simp[Be,h,kT,iG,jJ,bV,iV,cellAt,pI,fG,bB,iC];omega
def aCv(h:Be X W V=J)(Q:xx V=J):iZ X W V:=by
 simp only[Be,xx,aIy,QF] at h Q;obtain⟨⟨⟨⟨⟨⟨⟨⟨P,N⟩,M⟩,H⟩,G⟩,F⟩,D⟩,C⟩,B⟩:=h;exact asz P N M H G F D C B Q.1.1.1.1 Q.1.1.1.2
def auy:SgP X W V<->(Be X W V&&xx V)=true:=by
 rw[aIy];exact⟨λh=>⟨aCu h.ok,h.sp⟩,λh=>⟨aCv h.1 h.2,h.2⟩⟩
def Zf{p:Prop}(d V:Decidable p):pI X (@decide p d) W N=pI X (@decide p V) W N:=by congr
set_option maxHeartbeats 2000000 in
def x84 (c:Nat->Int) (X W:Int) (j:-1000<=X/\X<=1000000) (h:-1000<=W/\W<=1000000):TB.Ev 84 (bv c++[.i X,.i W]) (.ret [.b (Be X W c&&xx c)]):=by
 refine bW rfl rfl (.inl rfl) ?_;have B:au .sub I X 1=X-1:=by simp only[au];rw[bJ (by omega) (by omega)]
 have A:au .sub I W 1=W-1:=by simp only[au];rw[bJ (by omega) (by omega)]
 have z:lenOf (iG[0]?.getD default).val=10:=rfl;by_cases V:Be X W c=J
 ·have P:=V;simp only[Be,aIy,QF] at V;obtain⟨⟨⟨⟨⟨⟨⟨⟨y,x⟩,k3⟩,w⟩,N⟩,M⟩,H⟩,G⟩,F⟩:=V;simp only[kT] at N M H G F;rw[P,aJ3];simp[Qy,bv,B,A,z,y,x,k3,w,N,M,F];refine⟨by omega, ?_⟩;refine az (λ_=>az (λ_=> ?_) (λn=>absurd ((Zf _ _).trans G) n)) (λn=>absurd ((Zf _ _).trans H) n);clear N M H G F;have D:eU 0 1=true:=by decide
  have v:eU 1 1=true:=by decide
  by_cases Q:eU (c 10) (c 11)=J
  case neg=>simp[Q,D,xx]
  by_cases C:eU (c 12) (c 13)=J
  case neg=>
   simp[Q,C,D,xx]
   repeat' split
   all_goals trivial
  have e:c 10=c 12->c 11=c 13->mo (c 10) (c 11) (c 12) (c 13)=0:=λa b=>by rw[<-a,<-b];exact aCt _ _
  rw[aCr Q,aCs C];simp only[xx,Q,C,D,v];generalize mo (c 10) (c 11) (c 12) (c 13)=m at*;simp[qM]
  grind
 have P:Be X W c=false:=by simpa using V
 rw[P,aLY];simp only[Be,aIy,QF,kT] at V;simp[Qy,bv,B,A,z];intro u a2 s r a5 a6 a7 a8;refine⟨by omega,λq p o l k=>absurd ⟨⟨⟨⟨⟨⟨⟨⟨⟨u,a2⟩,s,r⟩,a5,a6⟩,a7,a8⟩,q⟩,p⟩,(Zf _ _).trans o⟩,(Zf _ _).trans l⟩,k⟩ V⟩
end
section
variable{R:bD->Prop}{g:aP}{t:T}{O:aa}{L:dN}
structure FdP(roles:Int)(c:Nat->Int):Prop where
 kind:1<=c 4/\c 4<=9
 side:if c 4=1\/c 4=3\/c 4=4\/c 4=9 then 1<=c 5/\c 5<=2 else c 5=0
 dir:if c 4=1\/c 4=2 then 1<=c 6/\c 6<=8 else if c 4=3\/c 4=4\/c 4=5 then 0<=c 6/\c 6<=8 else c 6=0
 aAe:if c 4=3\/c 4=4\/c 4=5\/c 4=9 then 1<=c 7/\c 7<=3 else c 7=0
 size:if c 4=1\/c 4=2 then 1<=c 8/\c 8<=16 else if c 4=6 then 1<=c 8/\c 8<=7 else c 8=0
 wth:if c 4=7\/c 4=8 then 1<=c 9/\c 9<=roles else c 9=0
def aCx:FdP X V<->(1<=V 4/\V 4<=9)/\(if V 4=1\/V 4=3\/V 4=4\/V 4=9 then 1<=V 5/\V 5<=2 else V 5=0)/\(if V 4=1\/V 4=2 then 1<=V 6/\V 6<=8 else if V 4=3\/V 4=4\/V 4=5 then 0<=V 6/\V 6<=8 else V 6=0)/\(if V 4=3\/V 4=4\/V 4=5\/V 4=9 then 1<=V 7/\V 7<=3 else V 7=0)/\(if V 4=1\/V 4=2 then 1<=V 8/\V 8<=16 else if V 4=6 then 1<=V 8/\V 8<=7 else V 8=0)/\(if V 4=7\/V 4=8 then 1<=V 9/\V 9<=X else V 9=0):=
 ⟨λ⟨a,b,V,d,e,f⟩=>⟨a,b,V,d,e,f⟩,λ⟨a,b,V,d,e,f⟩=>⟨a,b,V,d,e,f⟩⟩
def aCy(c:Nat->Int)(W:Int):∃o,TB.Ev 165 (bv c++[.i W]) o/\∃b,o=.ret [.b b]/\(b=J<->FdP W c):=by
 refine dm rfl rfl (.inl rfl) ?_;rw[aCx];by_cases X:c 4=1\/c 4=2\/c 4=3\/c 4=4\/c 4=5\/c 4=6\/c 4=7\/c 4=8\/c 4=9
 ·rcases X with h|h|h|h|h|h|h|h|h
  all_goals
   simp[Yn,bv,h]
   repeat'(refine az (λ_=> ?_) (λ_=> ?_))
   all_goals(first|omega|(simp;omega)|grind)
 simp only[not_or] at X;obtain⟨V,Q,k3,P,N,M,H,G,F⟩:=X;simp[Yn,bv,V,Q,k3,P,N,M,H,G,F];omega
def aCz(c:Nat->Int):TB.Ev 166 (bv c) (.ret [.b (xx c)]):=by
 refine bW rfl rfl (.inl rfl) ?_;simp[agL,bv,xx]
 grind
end
def dv.p{W V:RV}(h:dv X P W V 0):Q9 X P W V:=by
 by_cases Q:Y P.rows<=4096/\Y W.rows<=4096/\Y V.rows<=256;exact Classical.byContradiction λN=>by have:=(h.k Q).2 N;omega
 have:=h.l Q;omega
section
variable{R:bD->Prop}{j:aP}{t:T}{O:aa}{L:dN}
def f83(a b c:Int):Er (Q8 a b c) 140 (oi 83 [.i a,.i b,.i c] 0):=(su (x83 a b c)).2
def aCA(a b c:Int):TB.Ev 164 [.i a,.i b,.i c] (.ret [.i (oi 83 [.i a,.i b,.i c] 0)]):=by
 obtain⟨o,h,e,rfl,X⟩:=aCp a b c;rw[(f83 a b c).eq X];exact h
@[simp] def aIr (a b c:Int):eK TB.Ev R 164 [.i a,.i b,.i c] j t O L=eL TB.Ev R (.ret [.i (oi 83 [.i a,.i b,.i c] 0)]) j t O L:=aN (aCA a b c)
def Zg:oi 83 [.i X,.i W,.i N] 0=0<->Q8 X W N:=by
 have h:=f83 X W N;refine⟨λe=>Classical.byContradiction λV=>by have:=h.2 V;omega,h.1⟩
def aCB{roles bars:Int}{c:Nat->Int}:SgP roles bars c<->(0<=c 1/\c 1<=roles-1)/\(0<=c 2/\c 2<=bars-1)/\(1<=c 3/\c 3<=3)/\FdP roles c/\xx c=true:=by
 constructor;rintro⟨⟨W,G,F,V,Q,P,N,M,H,-,-⟩,X⟩;exact⟨by omega,by omega,V,⟨W,Q,P,N,M,H⟩,X⟩;rintro⟨G,F,V,⟨W,Q,P,N,M,H⟩,X⟩;have:=X;simp only[xx,aIy] at this;exact⟨⟨W,by omega,by omega,V,Q,P,N,M,H,this.1.1.1.1,this.1.1.1.2⟩,X⟩
variable[Inhabited dJ]
structure RoP(k:Nat):Prop where
 x:0<=ci be k 1/\ci be k 1<=vA
 y:0<=ci be k 2/\ci be k 2<=vC
 f:0<=ci be k 3/\ci be k 3<=7
structure SiP(k:Nat):Prop where
 id:0<=ci bX k 0/\ci bX k 0<=1048576
 inc:0<k->ci bX (k-1) 0<ci bX k 0
 sg:SgP (Y be.rows) eD (ci bX k)
structure WkP:Prop where
 w:1<=vA/\vA<=1000
 d:1<=vC/\vC<=1000
 t:Q8 wkA wkB wkC
 a:0<=wkA
 b:0<=wkB
 n:0<Y be.rows
 r:∀k<Y be.rows,RoP k
 s:∀k<Y bX.rows,SiP k
def Fq:Int:=oi 81 [.i eD,.r oT,.r qP,.r qQ] 0
def f81(h:gH):TB.Ev 81 [.i eD,.r oT,.r qP,.r qQ] (.ret [.i Fq])/\dv eD oT qP qQ Fq:=su (x81 eD oT qP qQ h.tp h.ps h.sp)
def f91(h:gH):TB.Ev 91 [.i eD,.r oT,.r qP,.r qQ] (.ret [.i Fq]):=by
 obtain⟨o,X,e,rfl,W⟩:=r91 eD oT qP qQ h.tp h.ps h.sp;rw[(f81 h).2.eq W];exact X
structure ol(e:Int):Prop where
 l:¬(Y be.rows<=64/\Y bX.rows<=4096)->e=2
 c:Y be.rows<=64/\Y bX.rows<=4096->Fq≠0->e=Fq
 k:Y be.rows<=64/\Y bX.rows<=4096->Fq=0->Er WkP 190 e
def ol.eq{e Q:Int}(h:ol e)(V:ol Q):e=Q:=by
 by_cases X:Y be.rows<=64/\Y bX.rows<=4096;by_cases W:Fq=0;exact(h.k X W).eq (V.k X W);rw[h.c X W,V.c X W];rw[h.l X,V.l X]
def ol.no(X:Y be.rows<=64/\Y bX.rows<=4096)(W:Fq=0)(V:¬WkP):ol 190:=⟨λk=>absurd X k,λ_ k=>absurd W k,λ_ _=>Er.no V⟩
def x37(h:gH):∃o,TB.Ev 37 wk o/\∃e,o=.ret [.i e]/\ol e:=by
 refine dm rfl rfl (.inl rfl) ?_;obtain⟨v,B⟩:=f81 h;simp[Yb,wk,h.rl.len,h.sg.len,aN v];refine az (λu=>⟨λ_=>rfl,λk=>by omega,λk=>by omega⟩) (λu=> ?_);refine az (λq=>⟨λ_=>rfl,λk=>by omega,λk=>by omega⟩) (λq=> ?_);have V:Y be.rows<=64/\Y bX.rows<=4096:=by omega
 refine az (λX=> ?_) (λX=>⟨λk=>absurd V k,λ_ _=>rfl,λ_ k=>absurd k X⟩);rw[X] at B;have m:=B.p;have hb:=m.t.br;refine az (λN=> ?_) (λN=>ol.no V X λp=>N p.w);refine az (λM=> ?_) (λM=>ol.no V X λp=>M p.d);refine az (λH=> ?_) (λH=>ol.no V X λp=>H (Zg.2 p.t));refine az (λl=>ol.no V X λp=>by have:=p.a;omega) (λl=> ?_);refine az (λj=>ol.no V X λp=>by have:=p.b;omega) (λj=> ?_);refine az (λG=>ol.no V X λp=>by have:=p.n;rw[G] at this;simp at this) (λG=> ?_);have g:0<Y be.rows:=aKl.2 G;refine cZ (Y be.rows) (λi F=>F=[]/\∀k<i,RoP k) ⟨0,rfl,by omega,rfl,by omega⟩ ?_;rintro i _ W ⟨rfl,A⟩;simp[h.rl.len];refine az (λW=> ?_) (λW=> ?_)
 ·simp[cQ W h.rl.sm];refine⟨W, ?_⟩
  repeat'(refine az (λ_=> ?_) (λ_=> ?_))
  any_goals(refine ol.no V X λp=> ?_;obtain⟨z,y,q3⟩:=p.r i W;simp only[ci] at*;omega)
  refine iM A ⟨?_, ?_, ?_⟩<;>simp only[ci]<;>omega
 have D:i=Y be.rows:=by omega
 subst D;refine cZ (Y bX.rows) (λi F=>∃P:Int,F=[.i P]/\(∀k<i,SiP k)/\((i=0/\P=-1)\/(0<i/\P=ci bX (i-1) 0))) ⟨0,rfl,by omega,-1,rfl,by omega,.inl ⟨rfl,rfl⟩⟩ ?_;rintro i _ W ⟨P,rfl,C,k3⟩;simp[h.rl.len,h.sg.len];refine az (λW=> ?_) (λW=> ?_);refine⟨W, ?_⟩;have f:=h.sg.sm;have x:=x84 (ci bX i) (Y be.rows) eD (by omega) (by omega);simp only[bv,ci,aIF,aIJ] at x;have k4:-1<=P:=by
  rcases k3 with⟨-,e⟩|⟨c,e⟩;omega;have:=(C (i-1) (by omega)).id;omega
 refine az (λg1=> ?_) (λg1=> ?_);refine ol.no V X λp=> ?_
 obtain⟨z,y,q3⟩:=p.s i W;simp only[ci] at*;omega;refine az (λg2=> ?_) (λg2=> ?_);refine ol.no V X λp=> ?_
 obtain⟨z,y,q3⟩:=p.s i W;simp only[ci] at*;omega;rw[aN x];simp[cQ W f];refine az (λQ=> ?_) (λQ=> ?_);refine ol.no V X λp=> ?_
 have:=auy.1 (p.s i W).sg;simp only[aIy] at this;rw[this.1,this.2] at Q;simp at Q;simp only[not_or,aJY] at Q;refine⟨iM C ⟨?_,λc=> ?_,auy.2 (by rw[Q.1,Q.2];rfl)⟩,rfl⟩<;>simp only[ci] at* <;>omega;have D:i=Y bX.rows:=by omega
 subst D;exact⟨λk=>absurd V k,λ_ k=>absurd X k,λ_ _=>Er.ok ⟨N,M,Zg.1 H,by omega,by omega,g,A,C⟩⟩
def aCE(h:gH):TB.Ev 37 wk (.ret [.i ji])/\ol ji:=su (x37 h)
def r92(h:gH)(hb:1<=eD/\eD<=4096)(hl:Y be.rows<=64/\Y bX.rows<=4096):∃o,TB.Ev 92 wk o/\∃b,o=.ret [.b b]/\(b=J<->WkP):=by
 refine dm rfl rfl (.inl rfl) ?_;simp[T92,wk,h.rl.len,h.sg.len];refine az (λC=> ?_) (λC p=>by have:=p.w;omega);refine az (λy p=>by have:=p.w;omega) (λy=> ?_);refine az (λB=> ?_) (λB p=>by have:=p.d;omega);refine az (λx p=>by have:=p.d;omega) (λx=> ?_);refine az (λQ=> ?_) (λQ p=>Q (Zg.2 p.t));refine az (λv p=>by have:=p.a;omega) (λv=> ?_);refine az (λu p=>by have:=p.b;omega) (λu=> ?_);refine az (λP p=>by have:=p.n;rw[P] at this;simp at this) (λP=> ?_);have m:0<Y be.rows:=aKl.2 P;refine cZ (Y be.rows) (λi N=>N=[]/\∀k<i,RoP k) ⟨0,rfl,by omega,rfl,by omega⟩ ?_;rintro i _ X ⟨rfl,A⟩;simp[h.rl.len];refine az (λX=> ?_) (λX=> ?_)
 ·simp[cQ X h.rl.sm];refine⟨X, ?_⟩
  repeat'(refine az (λ_=> ?_) (λ_=> ?_))
  any_goals(intro p;obtain⟨q1,q2,q3⟩:=p.r i X;simp only[ci] at*;omega)
  refine iM A ⟨?_, ?_, ?_⟩<;>simp only[ci]<;>omega
 have M:i=Y be.rows:=by omega
 subst M;have l:au .sub I (Y be.rows:Int) 1=Y be.rows-1:=by simp only[au];rw[bJ (by omega) (by omega)]
 have j:au .sub I eD 1=eD-1:=by simp only[au];rw[bJ (by omega) (by omega)]
 refine cZ (Y bX.rows) (λi N=>N=[]/\∀k<i,SiP k) ⟨0,rfl,by omega,rfl,by omega⟩ ?_;rintro i _ X ⟨rfl,H⟩;simp[h.rl.len,h.sg.len,l,j];refine az (λX=>⟨X, ?_⟩) (λX=> ?_);have z:=h.sg.sm;obtain⟨o,G,b,rfl,g⟩:=aCy (ci bX i) (Y be.rows);have F:=aCz (ci bX i);have W:=aCB (roles:=Y be.rows) (bars:=eD) (c:=ci bX i);rw[<-g] at W;simp only[bv,ci,aIF,aIJ] at G F W;refine az (λD=>az (λV=> ?_) (λV=> ?_)) (λD p=> ?_)
 ·rw[MD V (by omega)];refine⟨by omega,az (λf p=> ?_) (λf=> ?_)⟩;have:=(p.s i X).inc V;simp only[ci] at this;omega;have af:ci bX (i-1) 0<ci bX i 0:=by simp only[ci];omega
  simp[aN G,aN F,cQ X z]
  repeat'(refine az (λ_=> ?_) (λ_=> ?_))
  any_goals(intro p;have q:=W.1 (p.s i X).sg;grind)
  exact iM H ⟨D,λ_=>af,W.2 (by refine⟨?_, ?_, ?_, ?_, ?_⟩<;>assumption)⟩
 ·simp[aN G,aN F,cQ X z]
  repeat'(refine az (λ_=> ?_) (λ_=> ?_))
  any_goals(intro p;have q:=W.1 (p.s i X).sg;grind)
  exact iM H ⟨D,λe=>absurd e V,W.2 (by refine⟨?_, ?_, ?_, ?_, ?_⟩<;>assumption)⟩
 have:=(p.s i X).id;simp only[ci] at this;omega;have M:i=Y bX.rows:=by omega
 subst M;exact⟨⟨C,by omega⟩,⟨B,by omega⟩,Zg.1 Q,by omega,by omega,m,A,H⟩
def r40(h:gH):TB.Ev 40 wk (.ret [.i ji]):=by
 suffices M:∃o,TB.Ev 40 wk o/\∃e,o=.ret [.i e]/\ol e by
  obtain⟨o,Q,e,rfl,W⟩:=M;rw[(aCE h).2.eq W];exact Q
 refine dm rfl rfl (.inl rfl) ?_;have Q:=f91 h;have W:=(f81 h).2;simp[T40,wk,h.rl.len,h.sg.len,aN Q];refine az (λH=>⟨λ_=>rfl,λk=>by omega,λk=>by omega⟩) (λH=> ?_);refine az (λG=>⟨λ_=>rfl,λk=>by omega,λk=>by omega⟩) (λG=> ?_);have V:Y be.rows<=64/\Y bX.rows<=4096:=by omega
 refine az (λX=> ?_) (λX=>⟨λk=>absurd V k,λ_ _=>rfl,λ_ k=>absurd k X⟩);rw[X] at W;obtain⟨o,P,b,rfl,N⟩:=r92 h W.p.t.br V;simp only[wk] at P;rw[aN P];simp;refine az (λg=>⟨λk=>absurd V k,λ_ k=>absurd X k,λ_ _=>Er.ok (N.1 g)⟩) (λg=>ol.no V X λp=>g (N.2 p))
end
def auB{lt:aH->aH->Bool}(l:am)(x:aH):bE lt (l++[x])=dj lt x (bE lt l):=by simp[bE]
section
variable{lt:aH->aH->Bool}{p:aH->Prop}
def aCG{A B:am}{x:aH}(X:∀y∈A,lt x y=E)(W:∀y∈B,lt x y=J):dj lt x (A++B)=A++x::B:=by
 induction A with
 |nil=>
  cases B with
  |nil=>rfl
  |cons y r=>simp[dj,W y (by simp)]
 |cons y r V=>
  simp only[aIF,dj];rw[X y (by simp),V λz Q=>X z (by simp[Q])];rfl
def auC(h:kq lt p){x:aH}(N:p x)(V:∀z∈M,p z)(H:fC lt M)(C:Q<=Y M)(G:∀(j:Nat)(X:j<Y M),Q<=j->lt x M[j]=J)(F:∀X:Q-1<Y M,0<Q->lt x M[Q-1]=E):dj lt x M=M.take Q++x::M.drop Q:=by
 have:=aCG (lt:=lt) (x:=x) (A:=M.take Q) (B:=M.drop Q) (λy W=> ?_) (λy W=> ?_)
 rwa [aJR] at this
 obtain⟨j,X,rfl⟩:=aKV W;simp only[aJS] at X;simp only[List.getElem_take];have P:=F (by omega) (by omega);by_cases e:j=Q-1;subst e;exact P;have D:=aJO.1 H j (Q-1) (by omega) (by omega) (by omega);exact h.nt _ _ _ N (V _ (aJl _)) (V _ (aJl _)) P D;obtain⟨j,X,rfl⟩:=aKV W;simp only[aJT] at X;simp only[List.getElem_drop];exact G _ (by omega) (by omega)
end
section
variable{R:bD->Prop}{f:aP}{t:T}{O:aa}{L:dN}
def aCH(a b:Nat->Int):TB.Ev 312 (bv a++bv b) (.ret [.b (decide (mo (a 10) (a 11) (b 10) (b 11)<0)||decide (mo (a 10) (a 11) (b 10) (b 11)=0)&&decide (a 0<b 0))]):=by
 refine bW rfl rfl (.inl rfl) ?_;simp[agO,bv]
 grind
def aCI{d:Int}(h:eU X W=J)(V:eU N d=J):(mo X W N d<0<->X*d<N*W)/\(mo X W N d=0<->X*d=N*W):=by
 have g:=Ze h;have Q:=Ze V;have P:=Zc (a:=X) (b:=d) (x:=1073741824) (y:=1073741824) (by omega) (by omega);have M:=Zc (a:=N) (b:=W) (x:=1073741824) (y:=1073741824) (by omega) (by omega);simp only[mo,h,V,aJI,if_true,qM];rw[bJ (by omega) (by omega),bJ (by omega) (by omega)];generalize X*d=u at*;generalize N*W=v at*;constructor;split;simp;omega;split<;>simp<;>omega;split;simp;omega;split<;>simp<;>omega
variable[Inhabited dJ]
def aCJ(h:gH)(V:Mo)(ao ab:Int):TB.Ev 197 (wk++[.i ao,.i ab]) (.ret [.r (bT (bE (aW.ratio 10 11).lt (jt ao ab (Y bX.rows))))]):=by
 refine bW rfl rfl (.inl rfl) ?_;simp[agS,wk];refine cZ (Y bX.rows) (λi s=>s=[.r (bT (bE (aW.ratio 10 11).lt (jt ao ab i)))]) ⟨0,rfl,by omega,rfl⟩ ?_;rintro i _ W rfl;have o:=QH (ao:=ao) (ab:=ab) i;have af:=V.ns;simp[h.sg.len];refine az (λW=>⟨W, ?_⟩) (λW=> ?_)
 case refine_2=>
  have n:i=Y bX.rows:=by omega
  rw[n]
 refine az (λM=>⟨W, ?_⟩) (λM=> ?_)
 case refine_2=>
  rw[cQ W h.sg.sm];simp[jt,ci,M]
 refine az (λG=>⟨W, ?_⟩) (λG=> ?_)
 case refine_2=>
  rw[cQ W h.sg.sm];simp[jt,ci,M,G]
 have f:(aW.ratio 10 11).ok (ln (ci bX i))=true:=by
  simp only[aW.ok];rw[uc _ _ (by omega),uc _ _ (by omega)];exact(V.HY i W).from_
 have B:∀z∈bE (aW.ratio 10 11).lt (jt ao ab i),∃k<i,z=ln (ci bX k):=λz P=>by
  obtain⟨k,A,d,-⟩:=(QI).1 ((A7 _).mem_iff.1 P);exact⟨k,A,d⟩
 have y:∀z∈bE (aW.ratio 10 11).lt (jt ao ab i),(aW.ratio 10 11).ok z=true:=λz P=>by
  obtain⟨k,A,rfl⟩:=B z P;simp only[aW.ok];rw[uc _ _ (by omega),uc _ _ (by omega)];exact(V.HY k (by omega)).from_
 have c:=C7 (QY 10 11) (l:=jt ao ab i) (λz P=>y z ((A7 _).mem_iff.2 P));have ag:(bE (aW.ratio 10 11).lt (jt ao ab i)).length<=i:=by rw[j9];exact o
 have b:bE (aW.ratio 10 11).lt (jt ao ab (i+1))=dj (aW.ratio 10 11).lt (ln (ci bX i)) (bE (aW.ratio 10 11).lt (jt ao ab i)):=by
  have:jt ao ab (i+1)=jt ao ab i++[ln (ci bX i)]:=by simp only[jt];rw[if_pos ⟨M,G⟩]
  rw[this,auB]
 generalize bE (aW.ratio 10 11).lt (jt ao ab i)=l at*;refine ub (λF=>∃k:Nat,F=[.i k]/\k<=Y l/\∀(j:Nat)(Q:j<Y l),k<=j->(aW.ratio 10 11).lt (ln (ci bX i)) l[j]=J) (λF=>(xi F 0).toNat) ⟨Y l,rfl,by omega,λj Q e=>by omega⟩ ?_;rintro _ ⟨k,rfl,N,x⟩;have w:(∀Q:k-1<Y l,0<k->(aW.ratio 10 11).lt (ln (ci bX i)) l[k-1]=E)->bE (aW.ratio 10 11).lt (jt ao ab (i+1))=l.take k++ln (ci bX i)::l.drop k:=λe=>by rw[b];exact auC (QY 10 11) f y c N x e
 simp[xi];refine az (λH=> ?_) (λH=> ?_);rw[MD H (by omega)];refine⟨by omega, ?_⟩;obtain⟨m,a,v⟩:=B l[k-1] (aJl (by omega));have X:∀j<14,bB (cellAt l ((k-1:Nat):Int) j).val=ci bX m j:=λj Q=>by
  have:bB (cellAt l ((k-1:Nat):Int) j).val=aT j l[k-1]:=by simp[cellAt,aT,show k-1<Y l by omega]
  rw[this,v,uc _ _ Q]
 rw[X 0 (by omega),X 1 (by omega),X 2 (by omega),X 3 (by omega),X 4 (by omega),X 5 (by omega),X 6 (by omega),X 7 (by omega),X 8 (by omega),X 9 (by omega),X 10 (by omega),X 11 (by omega),X 12 (by omega),X 13 (by omega)];have u:=aCH (ci bX i) (ci bX m);simp only[bv,ci,aIF,aIJ] at u;have D:=aCI (V.HY i W).from_ (V.HY m (by omega)).from_;have f3:=V.ids m i a W;have C:(aW.ratio 10 11).lt (ln (ci bX i)) l[k-1]=decide (ci bX i 10*ci bX m 11<ci bX m 10*ci bX i 11):=by
  simp only[aW.lt,v];rw[uc _ _ (by omega),uc _ _ (by omega),uc _ _ (by omega),uc _ _ (by omega)]
 simp only[ci] at D f3 C⊢;rw[aN u];simp;refine az (λg=> ?_) (λg=> ?_);rw[MD H (by omega),ua];refine⟨⟨k-1,rfl,by omega,λj Q e=> ?_⟩,by simp;omega⟩;by_cases ej:j=k-1;subst ej;rw[C];rcases g with g|g;exact decide_eq_true (D.1.1 (of_decide_eq_true g));have:=of_decide_eq_true g.2;omega;exact x j Q (by omega);have e:=w (λ_ _=>by
  rw[C];exact decide_eq_false λq=>g (.inl (decide_eq_true (D.1.2 q))))
 refine⟨N,by omega,N,by omega, ?_⟩;rw[cQ W h.sg.sm,e];rfl;have e:=w (λ_ q=>absurd q H);refine⟨N,by omega,N,by omega, ?_⟩;rw[cQ W h.sg.sm,e];rfl
def ah9(h:gH)(ao ab:Int):TB.Ev 169 (wk++[.i ao,.i ab]) (.ret [.r (bT (bL ao ab)),.i (eE ao ab)]):=by
 refine bW rfl rfl (.inl rfl) ?_;have P:=r40 h;have M:=(C1 xl h).2;simp only[wk] at P;simp[agT,wk,h.rl.len,aN P];refine az (λX=> ?_) (λX=> ?_)
 case refine_2=>simp[bL,eE,X]
 have V:=M X;have H:=V.nr;have G:=V.br;rw[show au .sub I (Y be.rows:Int) 1=Y be.rows-1 by simp only[au];rw[bJ (by omega) (by omega)],show au .sub I eD 1=eD-1 by simp only[au];rw[bJ (by omega) (by omega)]];have N:=aCJ h V ao ab;simp only[wk,aIF,aIJ] at N;have W:¬(0<=ao/\ao<=Y be.rows-1/\0<=ab/\ab<=eD-1)->bT []=bT (bL ao ab)/\1=eE ao ab:=λH=>by
  have Q:eE ao ab=1:=by
   simp only[eE,X,if_true];rw[if_neg];simp only[aIy,QF];omega
  exact⟨by rw[bL,if_neg (by omega)],Q.symm⟩
 refine az (λa=>az (λb=>W (by omega)) (λb=>az (λc=>az (λd=>W (by omega)) (λd=> ?_)) (λc=>W (by omega)))) (λa=>W (by omega));have Q:eE ao ab=0:=by
  simp only[eE,X,if_true];rw[if_pos];simp only[aIy,QF];omega
 rw[aN N];simp[bL,Q]
end
def fU(c:Nat->Int)(x y z:Int)(b:Bool):Prop:=x=c 0/\(if b=J then y=0/\z=0 else if c 4=3\/c 4=4\/c 4=5 then(0<=y/\y<=8)/\1<=z/\z<=3 else if c 4=9 then y=0/\1<=z/\z<=3 else y=0/\z=0)
def sI(c:Nat->Int)(r:RV)(k:Nat):Prop:=fU c (ci r k 0) (ci r k 1) (ci r k 2) (cb r k 3)
abbrev ik(l:am):am:=bE (aW.lex [0] E).lt l
def lq(l:am)(r:RV):Prop:=Y l=Y r.rows/\∀k<Y l,sI (ba (ik l) k) r k
section
variable{R:bD->Prop}{d:aP}{t:T}{O:aa}{L:dN}
def auD(c:Nat->Int)(x y z:Int)(b:Bool):∃o,TB.Ev 225 (bv c++[.i x,.i y,.i z,.b b]) o/\∃e,o=.ret [.b e]/\(e=J<->fU c x y z b):=by
 refine dm rfl rfl (.inl rfl) ?_;simp[Yd,bv,fU];cases b
 all_goals
  simp
  repeat'(refine az (λ_=> ?_) (λ_=> ?_))
  all_goals grind [iC]
def aCK(c:Nat->Int)(j:Nat)(h:j<14):aT j (ln c)=c j:=by
 match j,h with
 |0,_|1,_|2,_|3,_|4,_|5,_|6,_|7,_|8,_|9,_|10,_|11,_|12,_|13,_=>rfl
structure mq(l:am):Prop where
 n:Y l<=4096
 k:xk l
 m:∀x∈l,∃c,x=ln c
def mq.rw{l:am}(h:mq l){i:Nat}(X:i<Y l):ln (ba l i)=l[i]:=by
 obtain⟨c,W⟩:=h.m l[i] (aJl X);have:∀j<14,ba l i j=c j:=λj V=>by
  have:ba l i j=aT j l[i]:=by simp[ba,cellAt,aT,X]
  rw[this,W,aCK _ _ V]
 rw[W];simp only[ln];rw[this 0 (by omega),this 1 (by omega),this 2 (by omega),this 3 (by omega),this 4 (by omega),this 5 (by omega),this 6 (by omega),this 7 (by omega),this 8 (by omega),this 9 (by omega),this 10 (by omega),this 11 (by omega),this 12 (by omega),this 13 (by omega)]
def zh{l:am}(X:Q<Y l)(j:Nat):ba l Q j=aT j l[Q]:=by simp[ba,cellAt,aT,X]
def mq.by{l:am}(h:mq l):mq (ik l):=⟨by rw[j9];exact h.n,h.k.perm (A7 _),λx X=>h.m x ((A7 _).mem_iff.1 X)⟩
def mq.to{l:am}{i:Nat}(X:i<Y l):∃k<Y l,∀j,ba (ik l) k j=ba l i j:=by
 have V:l[i]∈ik l:=(A7 _).mem_iff.2 (aJl X);obtain⟨k,W,e⟩:=aKV V;have Q:k<Y l:=by rwa [j9] at W
 exact⟨k,Q,λj=>by rw[zh W,zh X,e]⟩
def mq.from(P:Q<Y M):∃i<Y M,∀j,ba (ik M) Q j=ba M i j:=by
 have X:Q<(ik M).length:=by rwa [j9]
 have V:(ik M)[Q]∈M:=(A7 _).mem_iff.1 (aJl X);obtain⟨i,W,e⟩:=aKV V;exact⟨i,W,λj=>by rw[zh X,zh W,e]⟩
def mq.inj(h:mq M){a b:Nat}(X:a<Y M)(W:b<Y M)(e:ba M a 0=ba M b 0):a=b:=by
 rcases Nat.lt_trichotomy a b with q|q|q;exact absurd (by rw[<-zh X,<-zh W];exact e) (aJO.1 h.k a b X W q);exact q;exact absurd (by rw[<-zh X,<-zh W];exact e.symm) (aJO.1 h.k b a W X q)
def fU.congr{Q:Nat->Int}(e:∀j,V j=Q j){b:Bool}:fU V X W N b<->fU Q X W N b:=by
 have:V=Q:=funext e;rw[this]
variable[Inhabited dJ]
def ME(ao ab:Int)(h:gH):mq (bL ao ab):=
 ⟨asI (C1 xl h).2,asH (C1 xl h).2,λx X=>by
  obtain⟨k,-,e,-⟩:=asG (C1 xl h).2 X;exact⟨_,e⟩⟩
structure Fs(ao ab:Int)(r:RV)(e:Int):Prop where
 c:eE ao ab≠0->e=eE ao ab
 k:eE ao ab=0->Er (lq (bL ao ab) r) 270 e
def Fs.eq{ao ab:Int}{r:RV}{e W:Int}(h:Fs ao ab r e)(V:Fs ao ab r W):e=W:=by
 by_cases X:eE ao ab=0;exact(h.k X).eq (V.k X);rw[h.c X,V.c X]
def x85(h:gH)(ao ab:Int)(r:RV)(N:Sl r):∃o,TB.Ev 85 (wk++[.i ao,.i ab,.r r]) o/\∃e,o=.ret [.i e]/\Fs ao ab r e:=by
 by_cases V:bL ao ab=[];refine⟨_,asN xl h ao ab r N V,_,rfl,λX=>by rw[if_pos X],λX=> ?_⟩;rw[if_neg (by omega),V];split;rename_i B;exact Er.ok ⟨by simp;omega,λk Q=>absurd Q (by simp)⟩;rename_i B;exact Er.no λp=>B (by have:=p.1;simp at this;omega)
 have V:=aKl.2 V;refine dm rfl rfl (.inl rfl) ?_;have A:=QJ xl h ao ab;have H:=ME ao ab h;have z:∀e,Fs ao ab r e<->(eE ao ab≠0->e=eE ao ab)/\(eE ao ab=0->Er (lq (bL ao ab) r) 270 e):=λe=>⟨λq=>⟨q.c,q.k⟩,λq=>⟨q.1,q.2⟩⟩
 simp only[z];clear z;simp only[wk,aIF,aIJ] at A;generalize bL ao ab=l at*;generalize eE ao ab=e at*;simp[QC,wk,aN A,N.len];refine az (λX=> ?_) (λX q=>absurd q X);have y:¬lq l r->(¬e=0->270=e)/\(e=0->Er (lq l r) 270 270):=λp=>⟨λq=>absurd X q,λ_=>Er.no p⟩
 refine az (λM=> ?_) (λM=>y λp=>M (by have:=p.1;omega));have M:Y l=Y r.rows:=by omega
 have hn:=H.n;rw[HV];refine⟨.inl rfl,λ_=> ?_,λh=> ?_,λ_ h=> ?_⟩;simp;refine⟨by omega, ?_⟩
 first|rw[yV]|rw[yW]
 refine⟨_,Yw (by simp;omega) (by simpa using H.k), ?_⟩;simp;have x:(bE (aW.lex [0] E).lt l).length=Y l:=j9;refine cZ (Y l) (λi G=>∃v,G=[.r (bT v)]/\Y v<=i/\∀k<i,∃q<Y l,ba (ik l) q 0=ba l k 0/\sI (ba l k) r q) ⟨0,rfl,by omega,[],rfl,by simp,by omega⟩ ?_;rintro i _ W ⟨v,rfl,af,w⟩;simp;refine az (λW=> ?_) (λW=> ?_);refine⟨W, ?_⟩;refine cZ (Y l) (λj G=>G=[.r (bT v)]/\∀q<j,¬(ba (ik l) q 0=ba l i 0/\sI (ba l i) r q)) ⟨0,rfl,by omega,rfl,by omega⟩ ?_;rintro j _ P ⟨rfl,f⟩;have F:∀q<j,ba (ik l) q 0=ba l i 0->¬sI (ba l i) r q:=λq D a b=>f q D ⟨a,b⟩
 simp[N.len];refine az (λP=>⟨P,az (λg=>⟨by omega, ?_⟩) (λg=> ?_)⟩) (λP=>y λp=> ?_);obtain⟨o,u,b,rfl,s⟩:=auD (ba l i) (ci r j 0) (ci r j 1) (ci r j 2) (cb r j 3);simp only[bv,ba,ci,cb,aIF,aIJ] at u;rw[aN u];simp[cQ P (show Y l<=140737488355328 by omega),cQ W (show Y l<=140737488355328 by omega)];refine az (λC=> ?_) (λC=> ?_);exact⟨by rw[N.len];omega,by omega,_,rfl,by simp;omega,iM w ⟨j,P,g,s.1 C⟩⟩;exact iM F λ_ q=>C (s.2 q)
 rw[cQ P (by omega)];exact⟨rfl,iM F λe=>absurd e g⟩;obtain⟨k,Q,e⟩:=mq.to W;exact F k (by omega) (e 0) ((fU.congr e).1 (p.2 k Q));have d:i=Y l:=by omega
 subst d;refine⟨λq=>absurd X q,λ_=>Er.ok ⟨M,λk Q=> ?_⟩⟩;obtain⟨i,W,m⟩:=mq.from Q;obtain⟨q,D,e2,e3⟩:=w i W;have:q=k:=H.by.inj (by rw[x];exact D) (by rw[x];exact Q) (by rw[e2,m]);subst this;exact(fU.congr m).2 e3;simp at h;simp[h] at V;simp at h;simp[h] at V
def aCM(x y:aH):(aW.lex [0] E).lt x y=decide (aT 0 x<aT 0 y):=by
 simp only[aW.lt,iO]
 grind
def aia(l:am)(C:mq l)(r:RV)(B:Sl r):∃o,TB.Ev 170 [.r (bT l),.r r] o/\∃b,o=.ret [.b b]/\(b=J<->lq l r):=by
 refine dm rfl rfl (.inl rfl) ?_;simp[agU,B.len];have f:=C.n;refine az (λV=> ?_) (λV p=>V (by have:=p.1;omega));have V:Y l=Y r.rows:=by omega
 refine cZ (Y l) (λi P=>P=[.r (bT (ik (l.take i)))]) ⟨0,rfl,by omega,rfl⟩ ?_;rintro i _ X rfl;simp;refine az (λX=> ?_) (λX=> ?_);have d:(ik (l.take i)).length<=i:=by rw[j9,aJS];omega
 have N:fC (aW.lex [0] E).lt (ik (l.take i)):=C7 (My [0] E) (l:=l.take i) (λz c=>rfl);have u:ik (l.take (i+1))=dj (aW.lex [0] E).lt l[i] (ik (l.take i)):=by
  rw[<-List.take_append_getElem X,ik,auB]
 have s:=C.rw X;generalize ik (l.take i)=v at*;refine ub (λM=>∃k:Nat,M=[.i k]/\k<=Y v/\∀(j:Nat)(Q:j<Y v),k<=j->(aW.lex [0] E).lt l[i] v[j]=J) (λM=>(xi M 0).toNat) ⟨Y v,rfl,by omega,λj Q e=>by omega⟩ ?_;rintro _ ⟨k,rfl,W,A⟩;have y:(∀Q:k-1<Y v,0<k->(aW.lex [0] E).lt l[i] v[k-1]=E)->ik (l.take (i+1))=v.take k++l[i]::v.drop k:=λe=>by rw[u];exact auC (My [0] E) rfl (λ_ _=>rfl) N W A e
 simp[xi];have x:ik (l.take (i+1))=v.take k++l[i]::v.drop k->bT (v.take k++ln (ba l i)::v.drop k)=bT (ik (l.take (i+1))):=λe=>by rw[e,s]
 refine az (λH=>⟨X, ?_⟩) (λH=> ?_);rw[MD H (by omega)];have w:(aW.lex [0] E).lt l[i] v[k-1]=decide (bB (cellAt l (i:Int) 0).val<bB (cellAt v ((k-1:Nat):Int) 0).val):=by
  rw[aCM,<-zh X,<-zh (l:=v) (by omega)];rfl
 refine⟨by omega,az (λg=> ?_) (λg=> ?_)⟩;rw[ua];refine⟨⟨k-1,rfl,by omega,λj Q e=> ?_⟩,by simp;omega⟩;by_cases m:j=k-1;subst m;rw[w];exact decide_eq_true g;exact A j Q (by omega);have e:=y (λ_ _=>by rw[w];exact decide_eq_false g);refine⟨W,by omega,X,by omega,W,by omega, ?_⟩;rw[cQ X (by omega),<-x e];rfl;have e:=y (λ_ q=>absurd q H);refine⟨W,by omega,X,by omega,W,by omega, ?_⟩;rw[cQ X (by omega),<-x e];rfl;have G:i=Y l:=by omega
 subst G;rw[List.take_length];have N:(ik l).length=Y l:=j9;refine cZ (Y l) (λi P=>P=[]/\∀k<i,sI (ba (ik l) k) r k) ⟨0,rfl,by omega,rfl,by omega⟩ ?_;rintro i _ X ⟨rfl,W⟩;simp[N,B.len];refine az (λX=>⟨X,by omega, ?_⟩) (λX=> ?_)
 ·simp[cQ X (show Y l<=140737488355328 by omega)];have h:sI (ba (ik l) i) r i<->fU (ba (ik l) i) (ci r i 0) (ci r i 1) (ci r i 2) (cb r i 3):=Iff.rfl;have F:¬sI (ba (ik l) i) r i->¬lq l r:=λq p=>q (p.2 i X)
  have D:sI (ba (ik l) i) r i->∀k<i+1,sI (ba (ik l) k) r k:=iM W;rw[h] at F D;simp only[fU,ba,ci,cb] at F D
  repeat'(refine az (λ_=> ?_) (λ_=> ?_))
  all_goals first|(apply F;grind)|(apply D;grind)
 have G:i=Y l:=by omega
 subst G;exact⟨V,W⟩
def r95(h:gH)(ao ab:Int)(r:RV)(P:Sl r):∃o,TB.Ev 95 (wk++[.i ao,.i ab,.r r]) o/\∃e,o=.ret [.i e]/\Fs ao ab r e:=by
 refine dm rfl rfl (.inl rfl) ?_;have V:=ah9 h ao ab;obtain⟨o,N,b,rfl,Q⟩:=aia _ (ME ao ab h) r P;simp only[wk,aIF,aIJ] at V;have M:∀e,Fs ao ab r e<->(eE ao ab≠0->e=eE ao ab)/\(eE ao ab=0->Er (lq (bL ao ab) r) 270 e):=λe=>⟨λq=>⟨q.c,q.k⟩,λq=>⟨q.1,q.2⟩⟩
 simp only[M];simp[T95,wk,aN V];refine az (λX=> ?_) (λX=> ?_);simp[aN N];refine az (λW=>⟨λq=>absurd X q,λ_=>Er.ok (Q.1 W)⟩) (λW=>⟨λq=>absurd X q,λ_=>Er.no λp=>W (Q.2 p)⟩);exact λq=>absurd q X
def Ft(ao ab:Int)(r:RV):Int:=oi 85 (wk++[.i ao,.i ab,.r r]) 0
def aCO(h:gH)(ao ab:Int)(r:RV)(X:Sl r):TB.Ev 85 (wk++[.i ao,.i ab,.r r]) (.ret [.i (Ft ao ab r)])/\Fs ao ab r (Ft ao ab r):=su (x85 h ao ab r X)
def f95(h:gH)(ao ab:Int)(r:RV)(X:Sl r):TB.Ev 95 (wk++[.i ao,.i ab,.r r]) (.ret [.i (Ft ao ab r)]):=by
 obtain⟨o,W,e,rfl,V⟩:=r95 h ao ab r X;rw[(aCO h ao ab r X).2.eq V];exact W
end
section
variable{R:bD->Prop}{g:aP}{t:T}{O:aa}{L:dN}
variable[Inhabited dJ]
set_option maxHeartbeats 4000000 in
def auE (x y f X W V Q P N M H G F:Int):Er (lR x y f X W V Q P N M H G F) 260 (sw x y f X W V Q P N M H G F):=by
 have D:∃o,TB.Ev 74 [.i x,.i y,.i f,.i X,.i W,.i V,.i Q,.i P,.i N,.i M,.i H,.i G,.i F] o/\∃e,o=.ret [.i e]/\(e=0\/e=260):=by
  refine dm rfl rfl (.inl rfl) ?_;simp[QA]
 have h:=mN x y f X W V Q P N M H G F;refine⟨h.2,λp=> ?_⟩;rcases(su D).2 with e|e;exact absurd (h.1 e) p;exact e
set_option maxHeartbeats 4000000 in
def r94 (x y f X W V Q P N M H G F:Int):TB.Ev 94 [.i x,.i y,.i f,.i X,.i W,.i V,.i Q,.i P,.i N,.i M,.i H,.i G,.i F] (.ret [.i (sw x y f X W V Q P N M H G F)]):=by
 suffices v:∃o,TB.Ev 94 [.i x,.i y,.i f,.i X,.i W,.i V,.i Q,.i P,.i N,.i M,.i H,.i G,.i F] o/\∃e,o=.ret [.i e]/\Er (lR x y f X W V Q P N M H G F) 260 e by
  obtain⟨o,h,e,rfl,u⟩:=v;rw[(auE x y f X W V Q P N M H G F).eq u];exact h
 refine dm rfl rfl (.inl rfl) ?_;simp[T94];have D:¬lR x y f X W V Q P N M H G F->Er (lR x y f X W V Q P N M H G F) 260 260:=Er.no;refine az (λs=> ?_) (λs=>D λp=>by have:=p.x;omega);refine az (λa2=>D λp=>by have:=p.x;omega) (λa2=> ?_);refine az (λr=> ?_) (λr=>D λp=>by have:=p.y;omega);refine az (λq=>D λp=>by have:=p.y;omega) (λq=> ?_);refine az (λa5=> ?_) (λa5=>D λp=>by have:=p.f;omega);refine az (λa6=>D λp=>by have:=p.f;omega) (λa6=> ?_);refine cZ 5 (λi n=>n=[]/\(0<i->Lm X W)/\(1<i->Lm V Q)/\(2<i->Lm P N)/\(3<i->Lm M H)/\(4<i->Lm G F)) ⟨0,rfl,by omega,rfl,by omega,by omega,by omega,by omega,by omega⟩ ?_;rintro i _ l ⟨rfl,C,B,A,k3,z⟩;have m:i=0\/i=1\/i=2\/i=3\/i=4\/i=5:=by omega
 rcases m with rfl|rfl|rfl|rfl|rfl|rfl
 case inr.inr.inr.inr.inr=>simp;exact Er.ok ⟨by omega,by omega,by omega,C (by omega),B (by omega),A (by omega),k3 (by omega),z (by omega)⟩
 all_goals
  simp;have w:lR x y f X W V Q P N M H G F->Lm X W/\Lm V Q/\Lm P N/\Lm M H/\Lm G F:=λp=>⟨p.m0,p.m1,p.m2,p.m3,p.m4⟩
  simp only[Lm] at w C B A k3 z⊢
  repeat'(refine az (λ_=> ?_) (λ_=> ?_))
  any_goals(refine D λp=> ?_;have:=w p;omega)
  all_goals
   rw[ua]
   first
    |refine⟨⟨1,rfl,by omega,rfl, ?_⟩,by dsimp only;decide⟩;omega
    |refine⟨⟨2,rfl,by omega,rfl, ?_⟩,by dsimp only;decide⟩;omega
    |refine⟨⟨3,rfl,by omega,rfl, ?_⟩,by dsimp only;decide⟩;omega
    |refine⟨⟨4,rfl,by omega,rfl, ?_⟩,by dsimp only;decide⟩;omega
    |refine⟨⟨5,rfl,by omega,rfl, ?_⟩,by dsimp only;decide⟩;omega
@[simp] def c94 (x y f X W V Q P N M H G F:Int):eK TB.Ev R 94 [.i x,.i y,.i f,.i X,.i W,.i V,.i Q,.i P,.i N,.i M,.i H,.i G,.i F] g t O L=eL TB.Ev R (.ret [.i (sw x y f X W V Q P N M H G F)]) g t O L:=aN (r94 x y f X W V Q P N M H G F)
def aCR(N:1<=X/\X<=8)(M:0<=W/\W<=7):oi 138 [.i X,.i W] 0=(X-1+W)%8+1:=by
 have V:∃o,TB.Ev 138 [.i X,.i W] o/\∃x y,o=.ret [.i x,.i y]/\x=(X-1+W)%8+1:=by
  refine dm rfl rfl (.inl rfl) ?_;have Q:au .add I X W=X+W:=by simp only[au];rw[bJ (by omega) (by omega)]
  have P:au .sub I (X+W) 8=X+W-8:=by simp only[au];rw[bJ (by omega) (by omega)]
  simp[Mg,Q,P]
  grind
 obtain⟨o,h,x,y,rfl,e⟩:=V;rw[<-e,oi,A6 h];rfl
def auF{a:Int}(P:1<=a/\a<=8):oi 376 [.i a] 0=HW a/\oi 376 [.i a] 1=HX a:=by
 have X:∃o,TB.Ev 376 [.i a] o/\∃x y z,o=.ret [.i x,.i y,.i z]/\x=HW a/\y=HX a:=by
  refine dm rfl rfl (.inl rfl) ?_;have W:a=1\/a=2\/a=3\/a=4\/a=5\/a=6\/a=7\/a=8:=by omega
  rcases W with rfl|rfl|rfl|rfl|rfl|rfl|rfl|rfl
  all_goals
   simp[X2,HW,HX,au,iG,jJ,iV,cellAt,bB];exact⟨by decide,by decide,by decide,by decide,rfl,rfl⟩
 obtain⟨o,h,x,y,z,rfl,V,Q⟩:=X;rw[<-V,<-Q,oi,oi,A6 h];exact⟨rfl,rfl⟩
def mP(x f d n:Int):Int:=au .add I x (au .mul I n (oi 376 [.i (oi 138 [.i d,.i f] 0)] 0))
def mQ(y f d n:Int):Int:=au .add I y (au .mul I n (oi 376 [.i (oi 138 [.i d,.i f] 0)] 1))
def aib(x y f X W a5 a6 a7 a8 V Q dp dq d n:Int)(P:0<=f/\f<=7)(N:1<=d/\d<=8):TB.Ev 267 [.i x,.i y,.i f,.i X,.i W,.i a5,.i a6,.i a7,.i a8,.i V,.i Q,.i dp,.i dq,.i d,.i n] (.ret [.i (mP x f d n),.i (mQ y f d n),.i f,.i X,.i W,.i a5,.i a6,.i a7,.i a8,.i V,.i Q,.i dp,.i dq]):=by
 refine bW rfl rfl (.inl rfl) ?_;have M:au .add I (au .rem I (au .add I (au .sub I d 1) f) 8) 1=(d-1+f)%8+1:=by
  simp only[au];rw[bJ (n:=d-1) (by omega) (by omega),bJ (n:=d-1+f) (by omega) (by omega),aJK (by omega)];rw[bJ (by omega) (by omega)]
 simp[ag2,M,mP,mQ,aCR N P,(auF (a:=(d-1+f)%8+1) (by omega)).1,(auF (a:=(d-1+f)%8+1) (by omega)).2];generalize G:(d-1+f)%8+1=m;have H:m=1\/m=2\/m=3\/m=4\/m=5\/m=6\/m=7\/m=8:=by omega
 rcases H with rfl|rfl|rfl|rfl|rfl|rfl|rfl|rfl
 all_goals
  rw[if_neg (by omega),if_neg (by omega),if_neg (by omega),if_neg (by omega),if_neg (by omega)];simp[HW,HX]
def ui(c:Nat->Int)(h:iZ X W c):TB.Ev 265 [.i (c 3),.i (c 4),.i (c 5),.i (c 6),.i (c 7),.i (c 8)] (.ret [.b J]):=by
 refine bW rfl rfl (.inl rfl) ?_;obtain⟨G,F,D,M,V,Q,P,N,H,-,-⟩:=h;have:c 4=1\/c 4=2\/c 4=3\/c 4=4\/c 4=5\/c 4=6\/c 4=7\/c 4=8\/c 4=9:=by omega
 rcases this with h|h|h|h|h|h|h|h|h
 all_goals
  simp[h] at V Q P N H;simp[agX,h,M,V,Q,P,N]
def uj(c:Nat->Int)(x y z:Int)(b:Bool)(h:fU c x y z b):TB.Ev 266 (bv c++[.i x,.i y,.i z,.b b]) (.ret [.b J]):=by
 refine bW rfl rfl (.inl rfl) ?_;simp only[fU] at h;simp[agY,bv];cases b
 all_goals
  simp at h⊢
  grind
end
