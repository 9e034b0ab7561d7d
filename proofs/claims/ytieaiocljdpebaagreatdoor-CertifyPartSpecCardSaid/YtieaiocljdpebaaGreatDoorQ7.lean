/- Part 7 of the proof. -/
import Derived.Test.YtieaiocljdpebaaGreatDoorQ4
import Derived.Test.YtieaiocljdpebaaGreatDoorQ6
set_option linter.all false
set_option maxRecDepth 100000
set_option maxHeartbeats 100000000
open Bool renaming and_eq_true->aA,and_self->wW,true_and->Du,not_eq_false->H5,false_and->axl,true->J,false->E
open Nat renaming gcd->lC,eq_zero_or_pos->BG,mod_lt->Ia,gcd_comm->ON,mul_le_mul->Ub,gcd_rec->abe,add_sub_cancel->ajM
open List renaming cons_append->da,nil_append->di,getElem_mem->pl,length_take->FD,length_drop->FE,take_append_drop->KN,pairwise_iff_getElem->Oz,length_pos_iff->T2,getElem_of_mem->ajL,length->Y
open Option renaming some->U
open Int renaming natAbs_tmod->KR,tmod_eq_emod_of_nonneg->Oy,natAbs_mul->aba,mul_le_mul_of_nonneg_right->ajF,toNat_of_nonneg->aw5,mul_le_mul_of_nonpos_right->aKh
open Go.IntKind renaming i64->I
namespace Go.Proofs.YtieaiocljdpebaaGreatDoor.Y
open Go.RowKit
noncomputable section
variable{X W N:Int}{P:RV}{Q:Nat}{V:Nat→Int}{M:ar}
def Er(P:Prop)(c e:Int):Prop:=(P->e=0)/\(¬P->e=c)
def Er.eq{P:Prop}(h:Er P X W)(Q:Er P X N):W=N:=by
 by_cases V:P;rw[h.1 V,Q.1 V];rw[h.2 V,Q.2 V]
def Er.no{P:Prop}(h:¬P):Er P X X:=⟨λp=>aG p h,λ_=>rfl⟩
def Er.ok{P:Prop}(h:P):Er P X 0:=⟨λ_=>rfl,λp=>aG h p⟩
def aiy(d n:Int):lC (d.tmod n).natAbs n.natAbs=lC n.natAbs d.natAbs:=by
 rw[KR,<-abe]
def aiz{a:Int}(h:-32768<=a/\a<=32768):0<=a*a/\a*a<=1073741824:=by
 have X:=Int.natAbs_mul_self (a:=a);have W:a.natAbs*a.natAbs<=32768*32768:=Ub aa aa;omega
structure Tp(a b c:Int):Prop where
 fc:1<=c/\c<=32768
 fa:-c<=a/\a<=c
 fb:-c<=b/\b<=c
 q:a*a+b*b=c*c
 g:lC (lC a.natAbs b.natAbs) c.natAbs=1
def aDM(Q:1<=X)(h:X.tdiv W=X):W=1:=by
 rw[Int.tdiv_eq_ediv_of_nonneg aa] at h;by_cases V:W=1;exact V;have P:X/W<X:=Int.ediv_lt_self_of_pos_of_ne_one aa V;omega
def md(X:RV)(k:Nat)(ah:Int):Int:=ci X k 1+(ah-ci X k 0)*ci X k 2
def zJ(X:RV)(k:Nat)(ah:Int):Prop:=k<Y X.ae/\ci X k 0<=ah/\(k+1<Y X.ae->ah<ci X (k+1) 0)
structure TpK(bars:Int)(tp:RV)(k:Nat):Prop where
 inc:0<k->ci tp (k-1) 0<ci tp k 0
 lt:ci tp k 0<bars
 ti:-65536<=ci tp k 1/\ci tp k 1<=65536
 st:-65536<=ci tp k 2/\ci tp k 2<=65536
structure PsK(bars:Int)(ps:RV)(k:Nat):Prop where
 ge:0<=ci ps k 0
 lt:ci ps k 0<=bars-2
 inc:0<k->ci ps (k-1) 0<ci ps k 0
 kd:1<=ci ps k 1/\ci ps k 1<=2
 lo:0<=ci ps k 2
 hi:ci ps k 2<=ci ps k 3
 mx:ci ps k 3<=1048576
structure SpK(bars:Int)(sp:RV)(k:Nat):Prop where
 fr:0<=ci sp k 0/\ci sp k 0<=bars
 to:0<=ci sp k 1/\ci sp k 1<=bars
 ne:ci sp k 0≠ci sp k 1
 lo:-1099511627776<=ci sp k 2
 hi:ci sp k 2<=ci sp k 3
 mx:ci sp k 3<=1099511627776
structure vi(bars:Int)(tp:RV):Prop where
 br:1<=bars/\bars<=4096
 pos:0<Y tp.ae
 zero:ci tp 0 0=0
 all:∀k<Y tp.ae,TpK bars tp k
def vi.mono{W:Int}{X:RV}(h:vi W X):∀{k j:Nat},j<k->k<Y X.ae->ci X j 0<ci X k 0
 |k+1,j,P,V=>by
  have:=(h.all (k+1) V).inc aa;simp at this;by_cases Q:j=k;subst Q;exact this;have:=h.mono (k:=k) (j:=j) aa aa;omega
def vi.ge(h:vi X P){k:Nat}(W:k<Y P.ae):0<=ci P k 0:=by
 rcases BG k with rfl|V;rw[h.zero];omega;have:=h.mono V W;rw[h.zero] at this;omega
def vi.aiD(h:vi X P){k:Nat}(V:zJ P Q W)(N:zJ P k W):Q=k:=by
 rcases Nat.lt_trichotomy Q k with M|M|M;have G:=V.2.2 (by have:=N.1;omega);have F:=N.2.1;by_cases H:k=Q+1;subst H;omega;have:=h.mono (j:=Q+1) (k:=k) aa N.1;omega;exact M;have G:=N.2.2 (by have:=V.1;omega);have F:=V.2.1;by_cases H:Q=k+1;subst H;omega;have:=h.mono (j:=k+1) (k:=Q) aa V.1;omega
def aav{a b x y:Int}(X:-x<=a/\a<=x)(W:-y<=b/\b<=y):-(x*y)<=a*b/\a*b<=x*y:=by
 have V:(a*b).natAbs<=x.toNat*y.toNat:=by rw[aba];exact Ub aa aa
 have Q:x*y=((x.toNat*y.toNat:Nat):Int):=by rw[Int.natCast_mul,aw5 aa,aw5 aa]
 omega
def aDN{M H:Int}(D:X<=N)(B:N<=W)(A:M<=md P Q X/\md P Q X<=H)(y:M<=md P Q W/\md P Q W<=H):M<=md P Q N/\md P Q N<=H:=by
 simp only[md] at*;generalize ci P Q 0=z at*;generalize ci P Q 2=s at*;rcases Int.le_total 0 s with V|V;have G:=ajF (show X-z<=N-z from aa) V;have F:=ajF (show N-z<=W-z from aa) V;omega;have G:=aKh (show X-z<=N-z from aa) V;have F:=aKh (show N-z<=W-z from aa) V;omega
def TkP(W:Int)(X:RV):Prop:=∀(k:Nat)(ah:Int),0<=ah->ah<W->zJ X k ah->1<=md X k ah/\md X k ah<=65536
def vj(W:Int)(X:RV)(k:Nat):Int:=if k+1<Y X.ae then ci X (k+1) 0-1 else W-1
def vi.last(h:vi X P)(W:Q<Y P.ae):zJ P Q (ci P Q 0)/\zJ P Q (vj X P Q)/\0<=ci P Q 0/\ci P Q 0<=vj X P Q/\vj X P Q<X:=by
 have N:=h.ge W;have M:=(h.all Q W).lt;simp only[vj,zJ];split;rename_i V;have H:=h.mono (j:=Q) (k:=Q+1) aa V;have G:=(h.all (Q+1) V).lt;exact⟨⟨W,aa,λ_=>aa⟩,⟨W,aa,λ_=>aa⟩,aa,aa,aa⟩;rename_i V;exact⟨⟨W,aa,λe=>aG e V⟩,⟨W,aa,λe=>aG e V⟩,aa,aa,aa⟩
def vi.tk(h:vi X P):TkP X P<->∀k<Y P.ae,(1<=md P k (ci P k 0)/\md P k (ci P k 0)<=65536)/\1<=md P k (vj X P k)/\md P k (vj X P k)<=65536:=by
 constructor;intro g k H;obtain⟨V,Q,N,G,M⟩:=h.last H;exact⟨g k _ N aa V,g k _ aa M Q⟩;intro g k ah A z W;obtain⟨V,Q,N,G,M⟩:=h.last W.1;obtain⟨F,D⟩:=g k W.1;refine aDN W.2.1 ?_ F D;simp only[vj];split;rename_i B;have:=W.2.2 B;omega;omega
structure Tq(bars:Int)(tp ps sp:RV):Prop where
 t:vi bars tp
 k:TkP bars tp
 p:∀k<Y ps.ae,PsK bars ps k
 s:∀k<Y sp.ae,SpK bars sp k
structure eL(bars:Int)(tp ps sp:RV)(e:Int):Prop where
 l:¬(Y tp.ae<=4096/\Y ps.ae<=4096/\Y sp.ae<=256)->e=2
 k:Y tp.ae<=4096/\Y ps.ae<=4096/\Y sp.ae<=256->Er (Tq bars tp ps sp) 130 e
def eL.eq{P:Int}{W V Q:RV}{e N:Int}(h:eL P W V Q e)(M:eL P W V Q N):e=N:=by
 by_cases X:Y W.ae<=4096/\Y V.ae<=4096/\Y Q.ae<=256;exact(h.k X).eq (M.k X);rw[h.l X,M.l X]
section
variable{R:bv->Prop}{m:aY}{t:T}{O:ai}{L:dE}
def wtd(h:-32768<=X/\X<=32768):IntKind.i64.wrap (X.tdiv W)=X.tdiv W:=by
 have V:(X.tdiv W).natAbs<=X.natAbs:=by rw[Int.natAbs_tdiv];exact Nat.div_le_self _ _
 exact bO aa aa
def sqs(V:1<=N)(Q:N<=32768)(P:-N<=X/\X<=N)(M:-N<=W/\W<=N):(ay .add I (ay .mul I X X) (ay .mul I W W)=ay .mul I N N)=(X*X+W*W=N*N):=by
 have H:=aiz (a:=X) aa;have G:=aiz (a:=W) aa;have F:=aiz (a:=N) aa;simp only[ay];rw[bO (n:=X*X) aa aa,bO (n:=W*W) aa aa,bO (n:=N*N) aa aa,bO aa aa]
def avb(W:1<=X)(V:X<=32768):ay .sub I 0 X=-X:=by simp only[ay];rw[bO aa aa];omega
def aDO(a b c:Int)(F:1<=c)(D:c<=32768)(B:-c<=a/\a<=c)(A:-c<=b/\b<=c):∃g:Int,g=(lC (lC a.natAbs b.natAbs) c.natAbs:Nat)/\TB.Ev 153 [.i a,.i b,.i c] (.ret [.i (a.tdiv g),.i (b.tdiv g),.i (c.tdiv g)]):=by
 refine⟨_,rfl,ce ?_⟩;simp[Zx];refine wF (λX=>∃n d:Int,X=[.i n,.i d]∧-c<=n/\n<=c∧-c<=d/\d<=c/\lC n.natAbs d.natAbs=a.natAbs) (λX=>(xi X 0).natAbs) ⟨a,0,rfl,aa,aa,aa,aa,aw⟩ ?_;rintro _ ⟨n,d,rfl,Q,P,N,M,W⟩;simp[xi,wE,ay];split
 case isFalse h=>
  have:=NS (a:=d) h;refine⟨h,⟨_,_,⟨rfl,rfl⟩,aa,aa,aa,aa,by rw[aiy];exact W⟩,by rw[<-KR];exact this⟩
 rename_i h;subst h;simp at W;refine wF (λX=>∃n e:Int,X=[.i n,.i e]∧-c<=n/\n<=c∧-c<=e/\e<=c/\lC n.natAbs e.natAbs=lC a.natAbs b.natAbs) (λX=>(xi X 0).natAbs) ⟨b,d,rfl,aa,aa,aa,aa,by rw[W,ON]⟩ ?_;rintro _ ⟨n,e,rfl,Q,P,N,M,V⟩;simp[xi,wE,ay];split
 case isFalse h=>
  have:=NS (a:=e) h;refine⟨h,⟨_,_,⟨rfl,rfl⟩,aa,aa,aa,aa,by rw[aiy];exact V⟩,by rw[<-KR];exact this⟩
 rename_i h;subst h;simp at V;refine wF (λX=>∃n f:Int,X=[.i n,.i f]∧-c<=n/\n<=c∧-c<=f/\f<=c/\lC n.natAbs f.natAbs=lC (lC a.natAbs b.natAbs) c.natAbs) (λX=>(xi X 0).natAbs) ⟨c,e,rfl,aa,aa,aa,aa,by rw[V,ON]⟩ ?_;rintro _ ⟨n,f,rfl,Q,P,N,M,H⟩;simp[xi,wE,ay];split
 case isFalse h=>
  have:=NS (a:=f) h;refine⟨h,⟨_,_,⟨rfl,rfl⟩,aa,aa,aa,aa,by rw[aiy];exact H⟩,by rw[<-KR];exact this⟩
 rename_i h;subst h;simp at H;have z:0<lC (lC a.natAbs b.natAbs) c.natAbs:=Nat.gcd_pos_of_pos_right _ aa;have:IntKind.i64.wrap (-f)=-f:=bO aa aa;simp[this];generalize(a.natAbs.gcd b.natAbs).gcd c.natAbs=G at*;rw[show max f (-f)=(G:Int) from aa,wtd aa,wtd aa,wtd aa];exact⟨aa,rfl,rfl,rfl⟩
def x83(a b c:Int):∃o,TB.Ev 83 [.i a,.i b,.i c] o/\∃e,o=.ret [.i e]/\Er (Tp a b c) 140 e:=by
 refine dR ?_;simp[Zy];split;exact Er.no λh=>by have:=h.fc;omega
 split;exact Er.no λh=>by have:=h.fc;omega
 rw[avb aa aa];split;exact Er.no λh=>by have:=h.fa;have:=h.fb;omega
 split;exact Er.no λh=>by have:=h.fa;have:=h.fb;omega
 refine ax (λX=> ?_) (λX=> ?_)
 all_goals rw[sqs aa aa aa aa] at X
 case refine_2=>exact Er.no λp=>X p.q
 obtain⟨g,W,V⟩:=aDO a b c aa aa aa aa;rw[aT V];simp;refine ax (λh=>Er.no λp=> ?_) (λh=> ?_);have Q:=p.g;rw[Q] at W;subst W;simp at h;simp at h;have:=aDM aa h.2.2;exact Er.ok ⟨aa,aa,aa,X,aa⟩
def aDQ(Q ah:Int)(X G F:RV)(M:Sl X)(h:vi Q X)(q:0<=ah)(p:ah<Q):∃k,zJ X k ah/\TB.Ev 220 [.i Q,.r X,.r G,.r F,.i ah] (.ret [.i (md X k ah)]):=by
 suffices B:∃o,TB.Ev 220 [.i Q,.r X,.r G,.r F,.i ah] o/\∃k,zJ X k ah/\o=.ret [.i (md X k ah)] by
  obtain⟨o,H,k,D,rfl⟩:=B;exact⟨k,D,H⟩
 refine dR ?_;simp[Zr];have m:=h.pos;have l:=M.sm;refine wF (λP=>∃i j:Nat,P=[.i i,.i j]/\i<=j/\j<=Y X.ae/\(j=Y X.ae\/ah<ci X j 0)/\(0<i->ci X (i-1) 0<=ah)) (λP=>(xi P 1-xi P 0).toNat) ⟨0,Y X.ae,by simp[M.len],aa,aa,.inl rfl,aa⟩ ?_;rintro _ ⟨i,j,rfl,H,D,W,N⟩;simp[xi,wE,M.len,atk (show j<=140737488355328 from aa) H];split;rename_i A;refine⟨aa, ?_⟩;have z:((i:Int)+j)/2=(((i+j)/2:Nat):Int):=aa;have w:=Kg (i:=(i+j)/2) aa;rw[z,w];split;rename_i V;refine⟨⟨(i+j)/2+1,j,⟨rfl,rfl⟩,aa,aa,W,λ_=> ?_⟩,aa⟩;simp only[ci,ajM];omega;rename_i V;refine⟨⟨i,(i+j)/2,⟨rfl,rfl⟩,aa,aa,.inr ?_,N⟩,aa⟩;simp only[ci];omega;rename_i A;have v:i=j:=aa;subst v;have u:1<=i:=by
  rcases BG i with rfl|V;have:=h.zero;rcases W with W|W<;>omega;exact V
 have N:=N u;rw[show ay .sub I (i:Int) 1=((i-1:Nat):Int) by simp only[ay];rw[bO aa aa];omega];refine⟨aa,i-1,⟨aa,N,λV=> ?_⟩, ?_⟩;rw[show i-1+1=i from aa] at V⊢;rcases W with W|W<;>omega;have g:=h.ge (k:=i-1) aa;obtain⟨-,f,e,s⟩:=h.all (i-1) aa;have d:=h.br;have c:=aav (a:=ah-ci X (i-1) 0) (b:=ci X (i-1) 2) (x:=4096) (y:=65536) aa s;simp only[md,ay];simp only[ci] at*;rw[bO (n:=ah-_) aa aa,bO (n:=_*_) aa aa,bO aa aa]
def eL.Ts{W V:RV}(h:¬(Y P.ae<=4096/\Y W.ae<=4096/\Y V.ae<=256)):eL X P W V 2:=⟨λ_=>rfl,λk=>aG k h⟩
def eL.no{Q:Int}{X W V:RV}(h:Y X.ae<=4096/\Y W.ae<=4096/\Y V.ae<=256)(P:¬Tq Q X W V):eL Q X W V 130:=⟨λk=>aG h k,λ_=>Er.no P⟩
def eL.ok{V:Int}{X ps W:RV}(h:Y X.ae<=4096/\Y ps.ae<=4096/\Y W.ae<=256)(Q:Tq V X ps W):eL V X ps W 0:=⟨λk=>aG h k,λ_=>Er.ok Q⟩
def x81(Q:Int)(P M H:RV)(n:Sl P)(g:Sl M)(f:Sl H):∃o,TB.Ev 81 [.i Q,.r P,.r M,.r H] o/\∃e,o=.ret [.i e]/\eL Q P M H e:=by
 refine SN rfl rfl (.inr λv hv=>by obtain⟨_,h,_⟩:=hv;cases h) ?_;simp[Zz,n.len,g.len,f.len];refine ax (λm1=> ?_) (λm1=>eL.Ts aa);refine ax (λm2=>eL.Ts aa) (λm2=> ?_);have W:Y P.ae<=4096/\Y M.ae<=4096/\Y H.ae<=256:=aa;refine ax (λm3=> ?_) (λm3=>eL.no W λp=>by have:=p.t.br;omega);refine ax (λm4=> ?_) (λm4=>eL.no W λp=>by have:=p.t.br;omega);refine ax (λd=> ?_) (λd=>eL.no W λp=>by have:=p.t.pos;omega);refine⟨d, ?_⟩;refine ax (λm=> ?_) (λm=>eL.no W λp=>m p.t.zero);have e1:ay .sub I Q 1=Q-1:=by simp only[ay];rw[bO aa aa]
 have e2:ay .sub I Q 2=Q-2:=by simp only[ay];rw[bO aa aa]
 refine cP (Y P.ae) (λi F=>∃V:Int,F=[.i V]/\(∀k<i,TpK Q P k)∧-1<=V/\V<=4096/\((i=0/\V=-1)\/(0<i/\V=ci P (i-1) 0))) ⟨0,rfl,aa,-1,rfl,aa,aa,aa,.inl ⟨rfl,rfl⟩⟩ ?_;rintro i _ X ⟨V,rfl,N,k2,k3,k4⟩;have l:ay .add I V 1=V+1:=by simp only[ay];rw[bO aa aa]
 simp[n.len,e1,l];refine ax (λX=> ?_) (λX=> ?_);simp[cu X n.sm];refine⟨X, ?_⟩;have lo:i=0->ci P i 0=0:=by rintro rfl;exact m
 refine ax (λD=> ?_) (λD=>eL.no W λp=>by have q:=(p.t.all i X).inc;have:=p.t.ge X;simp only[ci] at*;omega);refine ax (λB=> ?_) (λB=>eL.no W λp=>by have q:=(p.t.all i X).lt;simp only[ci] at*;omega);refine ax (λA=> ?_) (λA=>eL.no W λp=>by have q:=(p.t.all i X).ti;simp only[ci] at*;omega);refine ax (λz=> ?_) (λz=>eL.no W λp=>by have q:=(p.t.all i X).ti;simp only[ci] at*;omega);refine ax (λy=> ?_) (λy=>eL.no W λp=>by have q:=(p.t.all i X).st;simp only[ci] at*;omega);refine ax (λx=>eL.no W λp=>by have q:=(p.t.all i X).st;simp only[ci] at*;omega) (λx=> ?_);refine⟨λk G=> ?_,aa,aa,rfl⟩;by_cases w:k=i;subst w;refine⟨λc=> ?_, ?_, ?_, ?_⟩<;>simp only[ci] at* <;>omega;exact N k aa;have u:i=Y P.ae:=aa;subst u;have a:vi Q P:=⟨⟨m3,m4⟩,d,m,N⟩;clear N k2 k3 k4 l;refine cP Q.toNat (λi F=>F=[]/\∀(k:Nat)(b:Int),0<=b->b<i->zJ P k b->1<=md P k b/\md P k b<=65536) ⟨0,rfl,aa,rfl,aa⟩ ?_;rintro i _ X ⟨rfl,N⟩;simp;refine ax (λX=> ?_) (λX=> ?_);have ac:i<Q.toNat:=aa;obtain⟨k,G,he⟩:=aDQ Q i P M H n a aa X;rw[aT he];simp[cu ac (show Q.toNat<=140737488355328 from aa)];refine ax (λD=> ?_) (λD=>eL.no W λp=>by have q:=p.k k i aa X G;omega);refine ax (λB=>eL.no W λp=>by have q:=p.k k i aa X G;omega) (λB=> ?_);intro k' b hb ag j;by_cases af:b=i;subst af;rw[a.aiD j G];omega;exact N k' b hb aa j;have G:TkP Q P:=λk b c hb j=>N k b c aa j
 clear N X;refine cP (Y M.ae) (λi F=>∃V:Int,F=[.i V]/\(∀k<i,PsK Q M k)∧-1<=V/\V<=4096/\((i=0/\V=-1)\/(0<i/\V=ci M (i-1) 0))) ⟨0,rfl,aa,-1,rfl,aa,aa,aa,.inl ⟨rfl,rfl⟩⟩ ?_;rintro i _ X ⟨V,rfl,N,k2,k3,k4⟩;have l:ay .add I V 1=V+1:=by simp only[ay];rw[bO aa aa]
 simp[g.len,e2,l];refine ax (λX=> ?_) (λX=> ?_);simp[cu X g.sm];refine⟨X, ?_⟩;refine ax (λD=> ?_) (λD=>eL.no W λp=>by have q:=p.p i X;have q1:=q.ge;have q2:=q.inc;simp only[ci] at*;omega);refine ax (λB=> ?_) (λB=>eL.no W λp=>by have q:=(p.p i X).lt;simp only[ci] at*;omega);refine ax (λA=> ?_) (λA=>eL.no W λp=>by have q:=(p.p i X).kd;simp only[ci] at*;omega);refine ax (λz=> ?_) (λz=>eL.no W λp=>by have q:=(p.p i X).kd;simp only[ci] at*;omega);refine ax (λy=> ?_) (λy=>eL.no W λp=>by have q:=(p.p i X).lo;simp only[ci] at*;omega);refine ax (λx=> ?_) (λx=>eL.no W λp=>by have q:=(p.p i X).hi;simp only[ci] at*;omega);refine ax (λg7=>eL.no W λp=>by have q:=(p.p i X).mx;simp only[ci] at*;omega) (λg7=> ?_);refine⟨λk G=> ?_,aa,aa,rfl⟩;by_cases w:k=i;subst w;refine⟨?_, ?_,λc=> ?_, ?_, ?_, ?_, ?_⟩<;>simp only[ci] at* <;>omega;exact N k aa;have u:i=Y M.ae:=aa;subst u;refine cP (Y H.ae) (λi F=>F=[]/\∀k<i,SpK Q H k) ⟨0,rfl,aa,rfl,aa⟩ ?_;rintro i _ X ⟨rfl,k5⟩;simp[f.len];refine ax (λX=> ?_) (λX=> ?_);simp[cu X f.sm];refine⟨X, ?_⟩;refine ax (λD=> ?_) (λD=>eL.no W λp=>by have q:=(p.s i X).fr;simp only[ci] at*;omega);refine ax (λB=> ?_) (λB=>eL.no W λp=>by have q:=(p.s i X).fr;simp only[ci] at*;omega);refine ax (λA=> ?_) (λA=>eL.no W λp=>by have q:=(p.s i X).to;simp only[ci] at*;omega);refine ax (λz=> ?_) (λz=>eL.no W λp=>by have q:=(p.s i X).to;simp only[ci] at*;omega);refine ax (λy=>eL.no W λp=>by have q:=(p.s i X).ne;simp only[ci] at*;omega) (λy=> ?_);refine ax (λx=> ?_) (λx=>eL.no W λp=>by have q:=(p.s i X).lo;simp only[ci] at*;omega);refine ax (λg7=> ?_) (λg7=>eL.no W λp=>by have q:=(p.s i X).hi;simp only[ci] at*;omega);refine ax (λg8=>eL.no W λp=>by have q:=(p.s i X).mx;simp only[ci] at*;omega) (λg8=> ?_);intro k G;by_cases w:k=i;subst w;refine⟨?_, ?_, ?_, ?_, ?_, ?_⟩<;>simp only[ci] at* <;>omega;exact k5 k aa;have u:i=Y H.ae:=aa;subst u;exact eL.ok W ⟨a,G,N,k5⟩
end
section
variable{R:bv->Prop}{f:aY}{t:T}{O:ai}{L:dE}
def aDS(n X W:Int):TB.Ev 159 [.i n,.i X,.i W] (.ret [.b (jm n X W)]):=by
 refine ce ?_;simp[ag5,jm]
 grind
@[simp] def aLz (n X W:Int):fZ TB.Ev R 159 [.i n,.i X,.i W] f t O L=f8 TB.Ev R (.ret [.b (jm n X W)]) f t O L:=aT (aDS n X W)
def aDT(n X W:Int):TB.Ev 163 [.i n,.i X,.i W] (.ret [.b (jm n X W)]):=by
 refine ce ?_;simp[ag6,jm]
 grind
@[simp] def aLA (n X W:Int):fZ TB.Ev R 163 [.i n,.i X,.i W] f t O L=f8 TB.Ev R (.ret [.b (jm n X W)]) f t O L:=aT (aDT n X W)
def aDU(a b:Nat)(_:a<=1152921504606846976)(V:b<=1152921504606846976):TB.Ev 342 [.i a,.i b] (.ret [.i (lC a b:Nat)]):=by
 refine ce ?_;simp[ahb];refine wF (λX=>∃m n:Nat,X=[.i m,.i n]/\m<=1152921504606846976/\lC m n=lC a b) (λX=>(xi X 0).toNat) ⟨b,a,rfl,V,ON _ _⟩ ?_;rintro _ ⟨m,n,rfl,Q,W⟩;simp[xi,wE,ay];split;rename_i h;have P:n%m<m:=Ia _ aa;refine⟨aa,⟨n%m,m,⟨?_,rfl⟩,aa,by rw[<-W,<-abe]⟩, ?_⟩;rw[Oy aa];rfl;rw[Oy aa];omega;rename_i h;have:m=0:=aa;subst this;simp at W;rw[W]
def avc(a b:Nat)(_:a<=1152921504606846976)(V:b<=1152921504606846976):TB.Ev 229 [.i a,.i b] (.ret [.i (lC a b:Nat)]):=by
 refine ce ?_;simp[ag9];refine wF (λX=>∃m n:Nat,X=[.i m,.i n]/\m<=1152921504606846976/\lC m n=lC a b) (λX=>(xi X 0).toNat) ⟨b,a,rfl,V,ON _ _⟩ ?_;rintro _ ⟨m,n,rfl,Q,W⟩;simp[xi,wE,ay];split;rename_i h;have P:n%m<m:=Ia _ aa;refine⟨aa,⟨n%m,m,⟨?_,rfl⟩,aa,by rw[<-W,<-abe]⟩, ?_⟩;rw[Oy aa];rfl;rw[Oy aa];omega;rename_i h;have:m=0:=aa;subst this;simp at W;rw[W]
def aDV(n:Int)(h:-1152921504606846976<=n/\n<=1152921504606846976):TB.Ev 343 [.i n] (.ret [.i n.natAbs]):=by
 refine ce ?_;simp[ahc,ay];split;rw[bO aa aa];omega;omega
def aiF(V:1<=W)(Q:W<=1073741824)(P:-1073741824<=X)(N:X<=1073741824):TB.Ev 343 [.i X] (.ret [.i X.natAbs])/\TB.Ev 342 [.i X.natAbs,.i W] (.ret [.i (lC X.natAbs W.toNat:Nat)]):=by
 refine⟨aDV X aa, ?_⟩;have:=aDU X.natAbs W.toNat aa aa
 rwa [aw5 aa] at this
def aiG(h:¬(1<=W/\W<=1073741824∧-1073741824<=X/\X<=1073741824)):ga X W=false:=by
 simp[ga];omega
def aiH(h:1<=W/\W<=1073741824∧-1073741824<=X/\X<=1073741824):ga X W=(lC X.natAbs W.toNat==1):=by
 simp[ga,h]
def aDW(n d:Int):TB.Ev 231 [.i n,.i d] (.ret [.i (if ga n d then 0 else 120)]):=by
 refine ce ?_;by_cases X:1<=d/\d<=1073741824∧-1073741824<=n/\n<=1073741824;rw[aiH X];obtain⟨W,V,Q,P⟩:=X;obtain⟨N,M⟩:=aiF W V Q P;simp[ZE,W,V,Q,P,aT N,aT M]
 grind
 rw[aiG X];simp[ZE]
 grind
@[simp] def aLB (n d:Int):fZ TB.Ev R 231 [.i n,.i d] f t O L=f8 TB.Ev R (.ret [.i (if ga n d then 0 else 120)]) f t O L:=aT (aDW n d)
def aDX(a b c d:Int):TB.Ev 232 [.i a,.i b,.i c,.i d] (.ret [.i (oz a b c d),.i (if ga a b&&ga c d then 0 else 120)]):=by
 refine ce ?_;by_cases X:1<=b/\b<=1073741824∧-1073741824<=a/\a<=1073741824;rw[oz,aiH X];obtain⟨W,V,Q,P⟩:=X;obtain⟨M,H⟩:=aiF W V Q P;by_cases N:1<=d/\d<=1073741824∧-1073741824<=c/\c<=1073741824;rw[aiH N];obtain⟨G,F,D,B⟩:=N;obtain⟨A,z⟩:=aiF G F D B;simp[SJ,W,V,Q,P,aT M,aT H,G,F,D,B,aT A,aT z,tU,ay]
 grind
 rw[aiG N];simp[SJ,W,V,Q,P,aT M,aT H]
 grind
 rw[oz,aiG X];simp[SJ]
 grind
@[simp] def aLC (a b c d:Int):fZ TB.Ev R 232 [.i a,.i b,.i c,.i d] f t O L=f8 TB.Ev R (.ret [.i (oz a b c d),.i (if ga a b&&ga c d then 0 else 120)]) f t O L:=aT (aDX a b c d)
def aDY(a b c:Int):∃o,TB.Ev 164 [.i a,.i b,.i c] o/\∃e,o=.ret [.i e]/\Er (Tp a b c) 140 e:=by
 refine dR ?_;simp[aha];refine ax (λ_=>Er.no λh=>by have:=h.fc;omega) (λP=> ?_);refine ax (λ_=>Er.no λh=>by have:=h.fc;omega) (λN=> ?_);rw[avb aa aa];refine ax (λ_=>Er.no λh=>by have:=h.fa;omega) (λM=> ?_);refine ax (λ_=>Er.no λh=>by have:=h.fa;omega) (λH=> ?_);refine ax (λ_=>Er.no λh=>by have:=h.fb;omega) (λG=> ?_);refine ax (λ_=>Er.no λh=>by have:=h.fb;omega) (λF=> ?_);refine ax (λX=> ?_) (λX=> ?_)
 all_goals rw[sqs aa aa aa aa] at X
 case refine_2=>exact Er.no λp=>X p.q
 rw[show max a (ay .sub I 0 a)=(a.natAbs:Int) by simp only[ay];rw[bO aa aa];omega,show max b (ay .sub I 0 b)=(b.natAbs:Int) by simp only[ay];rw[bO aa aa];omega];rw[aT (avc a.natAbs b.natAbs aa aa)];have V:lC a.natAbs b.natAbs<=1152921504606846976:=by
  by_cases Q:a.natAbs=0;rw[Q,Nat.gcd_zero_left];omega;have:=Nat.le_of_dvd aa (Nat.gcd_dvd_left a.natAbs b.natAbs);omega
 have W:=avc (lC a.natAbs b.natAbs) c.natAbs V aa;rw[show((c.natAbs:Nat):Int)=c from aa] at W;simp[aT W];refine ax (λh=>Er.ok ⟨aa,aa,aa,X,aa⟩) (λh=>Er.no λp=>h (by have:=p.g;omega))
end
section
variable{R:bv->Prop}{c:aY}{t:T}{O:ai}{L:dE}
def jc{P:Nat->Prop}(h:∀k<Q,P k)(X:P Q):∀k<Q+1,P k:=λk W=>by
 by_cases e:k=Q;subst e;exact X;exact h k aa
def Ob(h:0<Q)(X:Q<=140737488355328):ay .sub I (Q:Int) 1=((Q-1:Nat):Int):=by simp only[ay];rw[bO aa aa];omega
def avd{n:Nat}{X:Nat->bn->Prop}{i:Nat}{W:bn}(V:i<n)(P:n<=140737488355328):Kd (U ⟨Q,Bl n X,zC n,n-i⟩) (.i ((i:Int)+1)::W)=X (i+1) W:=by
 have:=cu (aC:=Q) (J:=X) (rest:=W) V P
 rwa [Kg aa] at this
def ave(V ah:Int)(X M H:RV)(G:Sl X)(h:vi V X)(v:0<=ah)(u:ah<V):∃k,zJ X k ah/\TB.Ev 228 [.i V,.r X,.r M,.r H,.i ah] (.ret [.i (md X k ah)]):=by
 suffices D:∃o,TB.Ev 228 [.i V,.r X,.r M,.r H,.i ah] o/\∃k,zJ X k ah/\o=.ret [.i (md X k ah)] by
  obtain⟨o,W,k,Q,rfl⟩:=D;exact⟨k,Q,W⟩
 refine dR ?_;simp[ag7];have s:=h.pos;have B:=G.sm;refine cP (Y X.ae) (λi A=>A=[]/\i<Y X.ae/\ci X i 0<=ah) ⟨0,rfl,aa,rfl,aa,by rw[h.zero];omega⟩ ?_;rintro i _ q ⟨rfl,W,Q⟩;have P:(i+1<Y X.ae->ah<ci X (i+1) 0)->(0<=(i:Int)/\(i:Int)<Y X.ae)/\∃k,zJ X k ah/\ay .add I (ci X i 1) (ay .mul I (ay .sub I ah (ci X i 0)) (ci X i 2))=md X k ah:=by
  intro N;refine⟨aa,i,⟨W,Q,N⟩, ?_⟩;have p:=h.ge W;obtain⟨-,m,l,z⟩:=h.all i W;have j:=h.br;have g:=aav (a:=ah-ci X i 0) (b:=ci X i 2) (x:=4096) (y:=65536) aa z;simp only[md,ay];rw[bO (n:=ah-_) aa aa,bO (n:=_*_) aa aa,bO aa aa]
 simp only[ci] at P;have w:ay .add I (i:Int) 1=((i+1:Nat):Int):=Kg aa;simp[G.len,w];refine ax (λN=>⟨aa,ax (λF=> ?_) (λF=> ?_)⟩) (λN=> ?_);rw[avd W B];exact⟨rfl,aa,F⟩;have:=P (λ_=>by simp only[Int.natCast_add,Int.natCast_one];omega);exact⟨W,this.2⟩;have:=P (λe=>aa);exact⟨W,this.2⟩
def r91(V:Int)(W M H:RV)(G:Sl W)(q:Sl M)(j:Sl H):∃o,TB.Ev 91 [.i V,.r W,.r M,.r H] o/\∃e,o=.ret [.i e]/\eL V W M H e:=by
 refine dR ?_;simp[T91,G.len,q.len,j.len];refine ax (λh=>eL.Ts aa) (λh=> ?_);refine ax (λh=>eL.Ts aa) (λh=> ?_);refine ax (λm2=>eL.Ts aa) (λm2=> ?_);have Q:Y W.ae<=4096/\Y M.ae<=4096/\Y H.ae<=256:=aa;refine ax (λm3=> ?_) (λm3=>eL.no Q λp=>by have:=p.t.br;omega);refine ax (λm4=>eL.no Q λp=>by have:=p.t.br;omega) (λm4=> ?_);refine ax (λf=>eL.no Q λp=>by have:=p.t.pos;rw[f] at this;simp at this) (λf=> ?_);have ac:0<Y W.ae:=T2.2 f;refine⟨ac, ?_⟩;refine ax (λd=> ?_) (λd=>eL.no Q λp=>d p.t.zero);have c:ay .sub I V 1=V-1:=by simp only[ay];rw[bO aa aa]
 have e2:ay .sub I V 2=V-2:=by simp only[ay];rw[bO aa aa]
 refine cP (Y W.ae) (λi D=>D=[]/\∀k<i,TpK V W k) ⟨0,rfl,aa,rfl,aa⟩ ?_;rintro i _ X ⟨rfl,P⟩;simp[G.len,c];refine ax (λX=> ?_) (λX=> ?_);simp[cu X G.sm];have n:=G.sm;refine⟨X,ax (λB=> ?_) (λB=> ?_)⟩
 ·rw[Ob B aa];refine⟨aa, ?_⟩
  repeat'(refine ax (λ_=> ?_) (λ_=> ?_))
  any_goals(refine eL.no Q λp=> ?_;obtain⟨y,x,w,v⟩:=p.t.all i X;simp only[ci] at*;omega)
  refine jc P ⟨λ_=> ?_, ?_, ?_, ?_⟩<;>simp only[ci]<;>omega
 ·repeat'(refine ax (λ_=> ?_) (λ_=> ?_))
  any_goals(refine eL.no Q λp=> ?_;obtain⟨y,x,w,v⟩:=p.t.all i X;simp only[ci] at*;omega)
  refine jc P ⟨λ_=> ?_, ?_, ?_, ?_⟩<;>simp only[ci]<;>omega
 have A:i=Y W.ae:=aa;subst A;have N:vi V W:=⟨⟨m3,aa⟩,ac,d,P⟩;clear P;refine cP (Y W.ae) (λi D=>D=[]/\∀k<i,(1<=md W k (ci W k 0)/\md W k (ci W k 0)<=65536)/\1<=md W k (vj V W k)/\md W k (vj V W k)<=65536) ⟨0,rfl,aa,rfl,aa⟩ ?_;rintro i _ X ⟨rfl,P⟩;simp[G.len,c];refine ax (λX=> ?_) (λX=> ?_);have n:=G.sm;obtain⟨l1,l2,l3,l4,l5⟩:=N.last X;obtain⟨a,a1,a2⟩:=ave V (ci W i 0) W M H G N l3 aa;obtain rfl:=N.aiD l1 a1;obtain⟨b,b1,m⟩:=ave V (vj V W i) W M H G N aa l5;obtain rfl:=N.aiD l2 b1;have e3:=Kg (i:=i) aa;refine ax (λB=> ?_) (λB=> ?_);have u:vj V W i=ay .sub I (ci W (i+1) 0) 1:=by
  have g:=N.ge (k:=i+1) aa;have F:=(N.all (i+1) aa).lt;rw[vj,aL aa];simp only[ay];rw[bO aa aa]
 refine⟨aa,X, ?_⟩;simp only[ci] at a2 m;rw[aT a2];simp[e3];rw[show(i:Int)+1=((i+1:Nat):Int) from rfl];refine ax (λz=> ?_) (λz=> ?_);have e5:vj V W i=ay .sub I (bp (aZ W.ae ((i+1:Nat):Int) 0).val) 1:=u;have b3:=m;rw[e5] at b3;rw[aT b3,<-e5];simp;refine ax (λF=> ?_) (λF=>eL.no Q λp=>F (N.tk.1 p.k i X).2);rw[cu X n];exact⟨rfl,jc P ⟨z,F⟩⟩;refine eL.no Q λp=>z ?_
 have:=(N.tk.1 p.k i X).1;simpa only[ci] using this;have u:vj V W i=V-1:=by rw[vj,aP aa]
 refine⟨X, ?_⟩;rw[u] at m;simp only[ci] at a2;rw[aT a2];simp[c,aT m,cu X n];have l:∀p:Tq V W M H,_:=λp=>N.tk.1 p.k i X
 rw[u] at l;simp only[ci] at l;refine ax (λz=>ax (λF=>jc P ?_) (λF=>eL.no Q λp=>F (l p).2)) (λz=>eL.no Q λp=>z (l p).1);rw[u];exact⟨z,F⟩;have A:i=Y W.ae:=aa;subst A;have hk:TkP V W:=N.tk.2 P;clear P X;refine cP (Y M.ae) (λi D=>D=[]/\∀k<i,PsK V M k) ⟨0,rfl,aa,rfl,aa⟩ ?_;rintro i _ X ⟨rfl,P⟩;simp[q.len,e2];refine ax (λX=> ?_) (λX=> ?_);simp[cu X q.sm];have n:=q.sm;refine⟨X,ax (λhb=>ax (λB=> ?_) (λB=> ?_)) (λhb=> ?_)⟩
 ·rw[Ob B aa];refine⟨aa, ?_⟩
  repeat'(refine ax (λ_=> ?_) (λ_=> ?_))
  any_goals(refine eL.no Q λp=> ?_;obtain⟨y,x,w,v,q5,q6,q7⟩:=p.p i X;simp only[ci] at*;omega)
  all_goals refine jc P ⟨?_, ?_,λ_=> ?_, ?_, ?_, ?_, ?_⟩<;>simp only[ci]<;>omega
 ·repeat'(refine ax (λ_=> ?_) (λ_=> ?_))
  any_goals(refine eL.no Q λp=> ?_;obtain⟨y,x,w,v,q5,q6,q7⟩:=p.p i X;simp only[ci] at*;omega)
  all_goals refine jc P ⟨?_, ?_,λ_=> ?_, ?_, ?_, ?_, ?_⟩<;>simp only[ci]<;>omega
 refine eL.no Q λp=> ?_
 obtain⟨y,x,w,v,q5,q6,q7⟩:=p.p i X;simp only[ci] at*;omega;have A:i=Y M.ae:=aa;subst A;refine cP (Y H.ae) (λi D=>D=[]/\∀k<i,SpK V H k) ⟨0,rfl,aa,rfl,aa⟩ ?_;rintro i _ X ⟨rfl,k5⟩;simp[j.len];refine ax (λX=> ?_) (λX=> ?_)
 ·simp[cu X j.sm];refine⟨X, ?_⟩
  repeat'(refine ax (λ_=> ?_) (λ_=> ?_))
  any_goals(refine eL.no Q λp=> ?_;obtain⟨y,x,w,v,q5,q6⟩:=p.s i X;simp only[ci] at*;omega)
  refine jc k5 ⟨?_, ?_, ?_, ?_, ?_, ?_⟩<;>simp only[ci]<;>omega
 have A:i=Y H.ae:=aa;subst A;exact eL.ok Q ⟨N,hk,P,k5⟩
end
def zK(c:Nat->Int):Bool:=ga (c 10) (c 11)&&ga (c 12) (c 13)&&decide (0<=c 10)&&decide (oz (c 10) (c 11) (c 12) (c 13)<0)&&decide (c 12<=c 13)
structure SgP(roles bars:Int)(c:Nat->Int):Prop where
 ok:kh roles bars c
 sp:zK c=J
def aax(h:ga X W=J):1<=W/\W<=1073741824∧-1073741824<=X/\X<=1073741824:=by
 simp[ga] at h;omega
def aD0(h:ga X W=J):oz 0 1 X W=tU 0 X:=by
 have:=aax h;have V:ga 0 1=true:=dM;simp only[oz,h,V,wW,cN];rw[bO aa aa,bO aa aa];simp
def aD1(h:ga X W=J):oz X W 1 1=tU X W:=by
 have:=aax h;have V:ga 1 1=true:=dM;simp only[oz,h,V,wW,cN];rw[bO aa aa,bO aa aa];simp
def aD2(a b:Int):oz a b a b=0:=by
 simp[oz,tU]
section
variable{R:bv->Prop}{f:aY}{t:T}{O:ai}{L:dE}
def Dm(X W:Int)(c:Nat->Int):Bool:=jm (c 4) 1 9&&jm (c 1) 0 (X-1)&&jm (c 2) 0 (W-1)&&jm (c 3) 1 3&&sx (c 5) (fW (kT (c 4) 0).val) 1 2&&sx (c 6) (fW (kT (c 4) 1).val) (bp (kT (c 4) 3).val) 8&&sx (c 7) (decide (0<bp (kT (c 4) 4).val)) 1 (bp (kT (c 4) 4).val)&&sx (c 8) (decide (0<bp (kT (c 4) 5).val)) 1 (bp (kT (c 4) 5).val)&&sx (c 9) (fW (kT (c 4) 2).val) 1 X
def aD3(h:kh X W V):Dm X W V=true:=by
 obtain⟨G,F,D,B,Q,P,N,M,H,-,-⟩:=h;have:V 4=1\/V 4=2\/V 4=3\/V 4=4\/V 4=5\/V 4=6\/V 4=7\/V 4=8\/V 4=9:=aa;rcases this with h|h|h|h|h|h|h|h|h
 all_goals
  simp[h] at Q P N M H;simp[Dm,h,kT,j7,lu,bV,iV,aZ,sx,fW,bp,jm];omega
def aD4(h:Dm X W V=J)(Q:zK V=J):kh X W V:=by
 simp only[Dm,zK,aA,SO] at h Q;obtain⟨⟨⟨⟨⟨⟨⟨⟨P,N⟩,M⟩,H⟩,G⟩,F⟩,D⟩,B⟩,A⟩:=h;exact atj P N M H G F D B A Q.1.1.1.1 Q.1.1.1.2
def avf:SgP X W V<->(Dm X W V&&zK V)=true:=by
 rw[aA];exact⟨λh=>⟨aD3 h.ok,h.sp⟩,λh=>⟨aD4 h.1 h.2,h.2⟩⟩
def aay{p:Prop}(d V:Decidable p):sx X (@decide p d) W N=sx X (@decide p V) W N:=by congr
def x84(c:Nat->Int)(X W:Int)(g:-1000<=X/\X<=1000000)(f:-1000<=W/\W<=1000000):TB.Ev 84 (bG c++[.i X,.i W]) (.ret [.b (Dm X W c&&zK c)]):=by
 refine ce ?_;have A:ay .sub I X 1=X-1:=by simp only[ay];rw[bO aa aa]
 have z:ay .sub I W 1=W-1:=by simp only[ay];rw[bO aa aa]
 have y:lenOf (j7[0]?.getD default).val=10:=rfl;by_cases V:Dm X W c=J
 ·have P:=V;simp only[Dm,aA,SO] at V;obtain⟨⟨⟨⟨⟨⟨⟨⟨x,w⟩,v⟩,u⟩,N⟩,M⟩,H⟩,G⟩,F⟩:=V;simp only[kT] at N M H G F;rw[P,Du];simp[SC,bG,A,z,y,x,w,v,u,N,M,F];refine⟨aa, ?_⟩;refine ax (λ_=>ax (λ_=> ?_) (λn=>aG ((aay _ _).trans G) n)) (λn=>aG ((aay _ _).trans H) n);clear N M H G F;have D:ga 0 1=true:=dM;have s:ga 1 1=true:=dM;by_cases Q:ga (c 10) (c 11)=J
  case neg=>simp[Q,D,zK]
  by_cases B:ga (c 12) (c 13)=J
  case neg=>
   simp[Q,B,D,zK]
   repeat' split
   all_goals trivial
  have e:c 10=c 12->c 11=c 13->oz (c 10) (c 11) (c 12) (c 13)=0:=λa b=>by rw[<-a,<-b];exact aD2 _ _
  rw[aD0 Q,aD1 B];simp only[zK,Q,B,D,s];generalize oz (c 10) (c 11) (c 12) (c 13)=m at*;simp[tU]
  grind
 have P:Dm X W c=false:=by simpa using V
 rw[P,axl];simp only[Dm,aA,SO,kT] at V;simp[SC,bG,A,z,y];intro r a2 q p a5 a6 a7 a8;refine⟨aa,λo l k j h=>aG ⟨⟨⟨⟨⟨⟨⟨⟨⟨r,a2⟩,q,p⟩,a5,a6⟩,a7,a8⟩,o⟩,l⟩,(aay _ _).trans k⟩,(aay _ _).trans j⟩,h⟩ V⟩
end
section
variable{R:bv->Prop}{g:aY}{t:T}{O:ai}{L:dE}
structure FdP(roles:Int)(c:Nat->Int):Prop where
 kind:1<=c 4/\c 4<=9
 side:if c 4=1\/c 4=3\/c 4=4\/c 4=9 then 1<=c 5/\c 5<=2 else c 5=0
 dir:if c 4=1\/c 4=2 then 1<=c 6/\c 6<=8 else if c 4=3\/c 4=4\/c 4=5 then 0<=c 6/\c 6<=8 else c 6=0
 aBS:if c 4=3\/c 4=4\/c 4=5\/c 4=9 then 1<=c 7/\c 7<=3 else c 7=0
 size:if c 4=1\/c 4=2 then 1<=c 8/\c 8<=16 else if c 4=6 then 1<=c 8/\c 8<=7 else c 8=0
 wth:if c 4=7\/c 4=8 then 1<=c 9/\c 9<=roles else c 9=0
def aD6:FdP X V<->(1<=V 4/\V 4<=9)/\(if V 4=1\/V 4=3\/V 4=4\/V 4=9 then 1<=V 5/\V 5<=2 else V 5=0)/\(if V 4=1\/V 4=2 then 1<=V 6/\V 6<=8 else if V 4=3\/V 4=4\/V 4=5 then 0<=V 6/\V 6<=8 else V 6=0)/\(if V 4=3\/V 4=4\/V 4=5\/V 4=9 then 1<=V 7/\V 7<=3 else V 7=0)/\(if V 4=1\/V 4=2 then 1<=V 8/\V 8<=16 else if V 4=6 then 1<=V 8/\V 8<=7 else V 8=0)/\(if V 4=7\/V 4=8 then 1<=V 9/\V 9<=X else V 9=0):=
 ⟨λ⟨a,b,V,d,e,f⟩=>⟨a,b,V,d,e,f⟩,λ⟨a,b,V,d,e,f⟩=>⟨a,b,V,d,e,f⟩⟩
def aD7(c:Nat->Int)(W:Int):∃o,TB.Ev 165 (bG c++[.i W]) o/\∃b,o=.ret [.b b]/\(b=J<->FdP W c):=by
 refine dR ?_;rw[aD6];by_cases X:c 4=1\/c 4=2\/c 4=3\/c 4=4\/c 4=5\/c 4=6\/c 4=7\/c 4=8\/c 4=9
 ·rcases X with h|h|h|h|h|h|h|h|h
  all_goals
   simp[ZF,bG,h]
   repeat'(refine ax (λ_=> ?_) (λ_=> ?_))
   all_goals(first|omega|(simp;omega)|grind)
 simp only[not_or] at X;obtain⟨V,Q,P,N,M,H,G,F,D⟩:=X;simp[ZF,bG,V,Q,P,N,M,H,G,F,D];omega
def aD8(c:Nat->Int):TB.Ev 166 (bG c) (.ret [.b (zK c)]):=by
 refine ce ?_;simp[ahd,bG,zK]
 grind
end
def eL.p{W V:RV}(h:eL X P W V 0):Tq X P W V:=by
 by_cases Q:Y P.ae<=4096/\Y W.ae<=4096/\Y V.ae<=256;exact Classical.byContradiction λN=>by have:=(h.k Q).2 N;omega
 have:=h.l Q;omega
section
variable{R:bv->Prop}{j:aY}{t:T}{O:ai}{L:dE}
def f83(a b c:Int):Er (Tp a b c) 140 (oi 83 [.i a,.i b,.i c] 0):=(tV (x83 a b c)).2
def aD9(a b c:Int):TB.Ev 164 [.i a,.i b,.i c] (.ret [.i (oi 83 [.i a,.i b,.i c] 0)]):=by
 obtain⟨o,h,e,rfl,X⟩:=aDY a b c;rw[(f83 a b c).eq X];exact h
@[simp] def aLD (a b c:Int):fZ TB.Ev R 164 [.i a,.i b,.i c] j t O L=f8 TB.Ev R (.ret [.i (oi 83 [.i a,.i b,.i c] 0)]) j t O L:=aT (aD9 a b c)
def aaz:oi 83 [.i X,.i W,.i N] 0=0<->Tp X W N:=by
 have h:=f83 X W N;refine⟨λe=>Classical.byContradiction λV=>by have:=h.2 V;omega,h.1⟩
def aEa{roles bars:Int}{c:Nat->Int}:SgP roles bars c<->(0<=c 1/\c 1<=roles-1)/\(0<=c 2/\c 2<=bars-1)/\(1<=c 3/\c 3<=3)/\FdP roles c/\zK c=true:=by
 constructor;rintro⟨⟨W,G,F,V,Q,P,N,M,H,-,-⟩,X⟩;exact⟨aa,aa,V,⟨W,Q,P,N,M,H⟩,X⟩;rintro⟨G,F,V,⟨W,Q,P,N,M,H⟩,X⟩;have:=X;simp only[zK,aA] at this;exact⟨⟨W,aa,aa,V,Q,P,N,M,H,this.1.1.1.1,this.1.1.1.2⟩,X⟩
variable[Inhabited dB]
structure RoP(k:Nat):Prop where
 x:0<=ci az k 1/\ci az k 1<=tX
 y:0<=ci az k 2/\ci az k 2<=tY
 f:0<=ci az k 3/\ci az k 3<=7
structure SiP(k:Nat):Prop where
 id:0<=ci bE k 0/\ci bE k 0<=1048576
 inc:0<k->ci bE (k-1) 0<ci bE k 0
 sg:SgP (Y az.ae) eu (ci bE k)
structure WkP:Prop where
 w:1<=tX/\tX<=1000
 d:1<=tY/\tY<=1000
 t:Tp NU NV SQ
 a:0<=NU
 b:0<=NV
 n:0<Y az.ae
 r:∀k<Y az.ae,RoP k
 s:∀k<Y bE.ae,SiP k
def HQ:Int:=oi 81 [.i eu,.r mb,.r nq,.r nu] 0
def f81(h:gc):TB.Ev 81 [.i eu,.r mb,.r nq,.r nu] (.ret [.i HQ])/\eL eu mb nq nu HQ:=tV (x81 eu mb nq nu h.tp h.ps h.sp)
def f91(h:gc):TB.Ev 91 [.i eu,.r mb,.r nq,.r nu] (.ret [.i HQ]):=by
 obtain⟨o,X,e,rfl,W⟩:=r91 eu mb nq nu h.tp h.ps h.sp;rw[(f81 h).2.eq W];exact X
structure qF(e:Int):Prop where
 l:¬(Y az.ae<=64/\Y bE.ae<=4096)->e=2
 c:Y az.ae<=64/\Y bE.ae<=4096->HQ≠0->e=HQ
 k:Y az.ae<=64/\Y bE.ae<=4096->HQ=0->Er WkP 190 e
def qF.eq{e Q:Int}(h:qF e)(V:qF Q):e=Q:=by
 by_cases X:Y az.ae<=64/\Y bE.ae<=4096;by_cases W:HQ=0;exact(h.k X W).eq (V.k X W);rw[h.c X W,V.c X W];rw[h.l X,V.l X]
def qF.no(X:Y az.ae<=64/\Y bE.ae<=4096)(W:HQ=0)(V:¬WkP):qF 190:=⟨λk=>aG X k,λ_ k=>aG W k,λ_ _=>Er.no V⟩
def x37(h:gc):∃o,TB.Ev 37 wk o/\∃e,o=.ret [.i e]/\qF e:=by
 refine dR ?_;obtain⟨q,A⟩:=f81 h;simp[Zt,wk,h.rl.len,h.sg.len,aT q];refine ax (λm=>⟨λ_=>rfl,λk=>aa,λk=>aa⟩) (λm=> ?_);refine ax (λl=>⟨λ_=>rfl,λk=>aa,λk=>aa⟩) (λl=> ?_);have V:Y az.ae<=64/\Y bE.ae<=4096:=aa;refine ax (λX=> ?_) (λX=>⟨λk=>aG V k,λ_ _=>rfl,λ_ k=>aG k X⟩);rw[X] at A;have j:=A.p;have hb:=j.t.br;refine ax (λN=> ?_) (λN=>qF.no V X λp=>N p.w);refine ax (λM=> ?_) (λM=>qF.no V X λp=>M p.d);refine ax (λH=> ?_) (λH=>qF.no V X λp=>H (aaz.2 p.t));refine ax (λg=>qF.no V X λp=>by have:=p.a;omega) (λg=> ?_);refine ax (λf=>qF.no V X λp=>by have:=p.b;omega) (λf=> ?_);refine ax (λG=>qF.no V X λp=>by have:=p.n;rw[G] at this;simp at this) (λG=> ?_);have c:0<Y az.ae:=T2.2 G;refine cP (Y az.ae) (λi F=>F=[]/\∀k<i,RoP k) ⟨0,rfl,aa,rfl,aa⟩ ?_;rintro i _ W ⟨rfl,z⟩;simp[h.rl.len];refine ax (λW=> ?_) (λW=> ?_)
 ·simp[cu W h.rl.sm];refine⟨W, ?_⟩
  repeat'(refine ax (λ_=> ?_) (λ_=> ?_))
  any_goals(refine qF.no V X λp=> ?_;obtain⟨y,x,v⟩:=p.r i W;simp only[ci] at*;omega)
  refine jc z ⟨?_, ?_, ?_⟩<;>simp only[ci]<;>omega
 have D:i=Y az.ae:=aa;subst D;refine cP (Y bE.ae) (λi F=>∃P:Int,F=[.i P]/\(∀k<i,SiP k)/\((i=0/\P=-1)\/(0<i/\P=ci bE (i-1) 0))) ⟨0,rfl,aa,-1,rfl,aa,.inl ⟨rfl,rfl⟩⟩ ?_;rintro i _ W ⟨P,rfl,B,k3⟩;simp[h.rl.len,h.sg.len];refine ax (λW=> ?_) (λW=> ?_);refine⟨W, ?_⟩;have hs:=h.sg.sm;have u:=x84 (ci bE i) (Y az.ae) eu aa aa;simp only[bG,ci,da,di] at u;have k4:-1<=P:=by
  rcases k3 with⟨-,e⟩|⟨h0,e⟩;omega;have:=(B (i-1) aa).id;omega
 refine ax (λg1=> ?_) (λg1=> ?_);refine qF.no V X λp=> ?_
 obtain⟨y,x,v⟩:=p.s i W;simp only[ci] at*;omega;refine ax (λg2=> ?_) (λg2=> ?_);refine qF.no V X λp=> ?_
 obtain⟨y,x,v⟩:=p.s i W;simp only[ci] at*;omega;rw[aT u];simp[cu W hs];refine ax (λQ=> ?_) (λQ=> ?_);refine qF.no V X λp=> ?_
 have:=avf.1 (p.s i W).sg;simp only[aA] at this;rw[this.1,this.2] at Q;simp at Q;simp only[not_or,H5] at Q;refine⟨jc B ⟨?_,λh0=> ?_,avf.2 (by rw[Q.1,Q.2];rfl)⟩,rfl⟩<;>simp only[ci] at* <;>omega;have D:i=Y bE.ae:=aa;subst D;exact⟨λk=>aG V k,λ_ k=>aG X k,λ_ _=>Er.ok ⟨N,M,aaz.1 H,aa,aa,c,z,B⟩⟩
def aEd(h:gc):TB.Ev 37 wk (.ret [.i iD])/\qF iD:=tV (x37 h)
def r92(h:gc)(hb:1<=eu/\eu<=4096)(hl:Y az.ae<=64/\Y bE.ae<=4096):∃o,TB.Ev 92 wk o/\∃b,o=.ret [.b b]/\(b=J<->WkP):=by
 refine dR ?_;simp[T92,wk,h.rl.len,h.sg.len];refine ax (λB=> ?_) (λB p=>by have:=p.w;omega);refine ax (λx p=>by have:=p.w;omega) (λx=> ?_);refine ax (λA=> ?_) (λA p=>by have:=p.d;omega);refine ax (λv p=>by have:=p.d;omega) (λv=> ?_);refine ax (λQ=> ?_) (λQ p=>Q (aaz.2 p.t));refine ax (λu p=>by have:=p.a;omega) (λu=> ?_);refine ax (λm p=>by have:=p.b;omega) (λm=> ?_);refine ax (λP p=>by have:=p.n;rw[P] at this;simp at this) (λP=> ?_);have l:0<Y az.ae:=T2.2 P;refine cP (Y az.ae) (λi N=>N=[]/\∀k<i,RoP k) ⟨0,rfl,aa,rfl,aa⟩ ?_;rintro i _ X ⟨rfl,z⟩;simp[h.rl.len];refine ax (λX=> ?_) (λX=> ?_)
 ·simp[cu X h.rl.sm];refine⟨X, ?_⟩
  repeat'(refine ax (λ_=> ?_) (λ_=> ?_))
  any_goals(intro p;obtain⟨q1,q2,q3⟩:=p.r i X;simp only[ci] at*;omega)
  refine jc z ⟨?_, ?_, ?_⟩<;>simp only[ci]<;>omega
 have M:i=Y az.ae:=aa;subst M;have j:ay .sub I (Y az.ae:Int) 1=Y az.ae-1:=by simp only[ay];rw[bO aa aa]
 have g:ay .sub I eu 1=eu-1:=by simp only[ay];rw[bO aa aa]
 refine cP (Y bE.ae) (λi N=>N=[]/\∀k<i,SiP k) ⟨0,rfl,aa,rfl,aa⟩ ?_;rintro i _ X ⟨rfl,H⟩;simp[h.rl.len,h.sg.len,j,g];refine ax (λX=>⟨X, ?_⟩) (λX=> ?_);have y:=h.sg.sm;obtain⟨o,G,b,rfl,f⟩:=aD7 (ci bE i) (Y az.ae);have F:=aD8 (ci bE i);have W:=aEa (roles:=Y az.ae) (bars:=eu) (c:=ci bE i);rw[<-f] at W;simp only[bG,ci,da,di] at G F W;refine ax (λD=>ax (λV=> ?_) (λV=> ?_)) (λD p=> ?_)
 ·rw[Ob V aa];refine⟨aa,ax (λg2 p=> ?_) (λg2=> ?_)⟩;have:=(p.s i X).inc V;simp only[ci] at this;omega;have ac:ci bE (i-1) 0<ci bE i 0:=by simp only[ci];omega
  simp[aT G,aT F,cu X y]
  repeat'(refine ax (λ_=> ?_) (λ_=> ?_))
  any_goals(intro p;have q:=W.1 (p.s i X).sg;grind)
  exact jc H ⟨D,λ_=>ac,W.2 (by refine⟨?_, ?_, ?_, ?_, ?_⟩<;>assumption)⟩
 ·simp[aT G,aT F,cu X y]
  repeat'(refine ax (λ_=> ?_) (λ_=> ?_))
  any_goals(intro p;have q:=W.1 (p.s i X).sg;grind)
  exact jc H ⟨D,λe=>aG e V,W.2 (by refine⟨?_, ?_, ?_, ?_, ?_⟩<;>assumption)⟩
 have:=(p.s i X).id;simp only[ci] at this;omega;have M:i=Y bE.ae:=aa;subst M;exact⟨⟨B,aa⟩,⟨A,aa⟩,aaz.1 Q,aa,aa,l,z,H⟩
def r40(h:gc):TB.Ev 40 wk (.ret [.i iD]):=by
 suffices M:∃o,TB.Ev 40 wk o/\∃e,o=.ret [.i e]/\qF e by
  obtain⟨o,Q,e,rfl,W⟩:=M;rw[(aEd h).2.eq W];exact Q
 refine dR ?_;have Q:=f91 h;have W:=(f81 h).2;simp[T40,wk,h.rl.len,h.sg.len,aT Q];refine ax (λH=>⟨λ_=>rfl,λk=>aa,λk=>aa⟩) (λH=> ?_);refine ax (λG=>⟨λ_=>rfl,λk=>aa,λk=>aa⟩) (λG=> ?_);have V:Y az.ae<=64/\Y bE.ae<=4096:=aa;refine ax (λX=> ?_) (λX=>⟨λk=>aG V k,λ_ _=>rfl,λ_ k=>aG k X⟩);rw[X] at W;obtain⟨o,P,b,rfl,N⟩:=r92 h W.p.t.br V;simp only[wk] at P;rw[aT P];simp;refine ax (λg=>⟨λk=>aG V k,λ_ k=>aG X k,λ_ _=>Er.ok (N.1 g)⟩) (λg=>qF.no V X λp=>g (N.2 p))
end
def avi{lt:aM->aM->Bool}(l:ar)(x:aM):bX lt (l++[x])=eB lt x (bX lt l):=by simp[bX]
section
variable{lt:aM->aM->Bool}{p:aM->Prop}
def aEf{A B:ar}{x:aM}(X:∀y∈A,lt x y=E)(W:∀y∈B,lt x y=J):eB lt x (A++B)=A++x::B:=by
 induction A with
 |nil=>
  cases B with
  |nil=>rfl
  |cons y r=>simp[eB,W y aw]
 |cons y r V=>
  simp only[da,eB];rw[X y aw,V λz Q=>X z (by simp[Q])];rfl
def avj(h:mc lt p){x:aM}(N:p x)(V:∀z∈M,p z)(H:gT lt M)(w:Q<=Y M)(G:∀(j:Nat)(X:j<Y M),Q<=j->lt x M[j]=J)(F:∀X:Q-1<Y M,0<Q->lt x M[Q-1]=E):eB lt x M=M.take Q++x::M.drop Q:=by
 have:=aEf (lt:=lt) (x:=x) (A:=M.take Q) (B:=M.drop Q) (λy W=> ?_) (λy W=> ?_)
 rwa [KN] at this
 obtain⟨j,X,rfl⟩:=ajL W;simp only[FD] at X;simp only[List.getElem_take];have P:=F aa aa;by_cases e:j=Q-1;subst e;exact P;have D:=Oz.1 H j (Q-1) aa aa aa;exact h.nt _ _ _ N (V _ (pl _)) (V _ (pl _)) P D;obtain⟨j,X,rfl⟩:=ajL W;simp only[FE] at X;simp only[List.getElem_drop];exact G _ aa aa
end
section
variable{R:bv->Prop}{f:aY}{t:T}{O:ai}{L:dE}
def aEg(a b:Nat->Int):TB.Ev 312 (bG a++bG b) (.ret [.b (decide (oz (a 10) (a 11) (b 10) (b 11)<0)||decide (oz (a 10) (a 11) (b 10) (b 11)=0)&&decide (a 0<b 0))]):=by
 refine ce ?_;simp[ahg,bG]
 grind
def aEh{d:Int}(h:ga X W=J)(V:ga N d=J):(oz X W N d<0<->X*d<N*W)/\(oz X W N d=0<->X*d=N*W):=by
 have g:=aax h;have Q:=aax V;have P:=aav (a:=X) (b:=d) (x:=1073741824) (y:=1073741824) aa aa;have M:=aav (a:=N) (b:=W) (x:=1073741824) (y:=1073741824) aa aa;simp only[oz,h,V,wW,cN,tU];rw[bO aa aa,bO aa aa];generalize X*d=u at*;generalize N*W=v at*;constructor;split;simp;omega;split<;>simp<;>omega;split;simp;omega;split<;>simp<;>omega
variable[Inhabited dB]
def aEi(h:gc)(V:NW)(av ah:Int):TB.Ev 197 (wk++[.i av,.i ah]) (.ret [.r (aI (bX (bq.ratio 10 11).lt (kR av ah (Y bE.ae))))]):=by
 refine ce ?_;simp[ahk,wk];refine cP (Y bE.ae) (λi o=>o=[.r (aI (bX (bq.ratio 10 11).lt (kR av ah i)))]) ⟨0,rfl,aa,rfl⟩ ?_;rintro i _ W rfl;have dH:=SR (av:=av) (ah:=ah) i;have ac:=V.ns;simp[h.sg.len];refine ax (λW=>⟨W, ?_⟩) (λW=> ?_)
 case refine_2=>
  have n:i=Y bE.ae:=aa;rw[n]
 refine ax (λM=>⟨W, ?_⟩) (λM=> ?_)
 case refine_2=>
  rw[cu W h.sg.sm];simp[kR,ci,M]
 refine ax (λG=>⟨W, ?_⟩) (λG=> ?_)
 case refine_2=>
  rw[cu W h.sg.sm];simp[kR,ci,M,G]
 have f:(bq.ratio 10 11).ok (nl (ci bE i))=true:=by
  simp only[bq.ok];rw[wG _ _ aa,wG _ _ aa];exact(V.HE i W).from_
 have A:∀z∈bX (bq.ratio 10 11).lt (kR av ah i),∃k<i,z=nl (ci bE k):=λz P=>by
  obtain⟨k,y,d,-⟩:=(SS).1 ((Df _).mem_iff.1 P);exact⟨k,y,d⟩
 have x:∀z∈bX (bq.ratio 10 11).lt (kR av ah i),(bq.ratio 10 11).ok z=true:=λz P=>by
  obtain⟨k,y,rfl⟩:=A z P;simp only[bq.ok];rw[wG _ _ aa,wG _ _ aa];exact(V.HE k aa).from_
 have c:=Fl (Tf 10 11) (l:=kR av ah i) (λz P=>x z ((Df _).mem_iff.2 P));have af:(bX (bq.ratio 10 11).lt (kR av ah i)).length<=i:=by rw[lZ];exact dH
 have b:bX (bq.ratio 10 11).lt (kR av ah (i+1))=eB (bq.ratio 10 11).lt (nl (ci bE i)) (bX (bq.ratio 10 11).lt (kR av ah i)):=by
  have:kR av ah (i+1)=kR av ah i++[nl (ci bE i)]:=by simp only[kR];rw[aL ⟨M,G⟩]
  rw[this,avi]
 generalize bX (bq.ratio 10 11).lt (kR av ah i)=l at*;refine wF (λF=>∃k:Nat,F=[.i k]/\k<=Y l/\∀(j:Nat)(Q:j<Y l),k<=j->(bq.ratio 10 11).lt (nl (ci bE i)) l[j]=J) (λF=>(xi F 0).toNat) ⟨Y l,rfl,aa,λj Q e=>aa⟩ ?_;rintro _ ⟨k,rfl,N,w⟩;have v:(∀Q:k-1<Y l,0<k->(bq.ratio 10 11).lt (nl (ci bE i)) l[k-1]=E)->bX (bq.ratio 10 11).lt (kR av ah (i+1))=l.take k++nl (ci bE i)::l.drop k:=λe=>by rw[b];exact avj (Tf 10 11) f x c N w e
 simp[xi];refine ax (λH=> ?_) (λH=> ?_);rw[Ob H aa];refine⟨aa, ?_⟩;obtain⟨m,a,u⟩:=A l[k-1] (pl aa);have X:∀j<14,bp (aZ l ((k-1:Nat):Int) j).val=ci bE m j:=λj Q=>by
  have:bp (aZ l ((k-1:Nat):Int) j).val=aN j l[k-1]:=by simp[aZ,aN,show k-1<Y l from aa]
  rw[this,u,wG _ _ Q]
 rw[X 0 aa,X 1 aa,X 2 aa,X 3 aa,X 4 aa,X 5 aa,X 6 aa,X 7 aa,X 8 aa,X 9 aa,X 10 aa,X 11 aa,X 12 aa,X 13 aa];have s:=aEg (ci bE i) (ci bE m);simp only[bG,ci,da,di] at s;have D:=aEh (V.HE i W).from_ (V.HE m aa).from_;have f3:=V.ids m i a W;have B:(bq.ratio 10 11).lt (nl (ci bE i)) l[k-1]=decide (ci bE i 10*ci bE m 11<ci bE m 10*ci bE i 11):=by
  simp only[bq.lt,u];rw[wG _ _ aa,wG _ _ aa,wG _ _ aa,wG _ _ aa]
 simp only[ci] at D f3 B⊢;rw[aT s];simp;refine ax (λg=> ?_) (λg=> ?_);rw[Ob H aa,wE];refine⟨⟨k-1,rfl,aa,λj Q e=> ?_⟩,dh⟩;by_cases ej:j=k-1;subst ej;rw[B];rcases g with g|g;exact decide_eq_true (D.1.1 (wX g));have:=wX g.2;omega;exact w j Q aa;have e:=v (λ_ _=>by
  rw[B];exact decide_eq_false λq=>g (.inl (decide_eq_true (D.1.2 q))))
 refine⟨N,aa,N,aa, ?_⟩;rw[cu W h.sg.sm,e];rfl;have e:=v (λ_ q=>aG q H);refine⟨N,aa,N,aa, ?_⟩;rw[cu W h.sg.sm,e];rfl
def aiO(h:gc)(av ah:Int):TB.Ev 169 (wk++[.i av,.i ah]) (.ret [.r (aI (ck av ah)),.i (gf av ah)]):=by
 refine ce ?_;have P:=r40 h;have M:=(yf sy h).2;simp only[wk] at P;simp[ahl,wk,h.rl.len,aT P];refine ax (λX=> ?_) (λX=> ?_)
 case refine_2=>simp[ck,gf,X]
 have V:=M X;have H:=V.nr;have G:=V.br;rw[show ay .sub I (Y az.ae:Int) 1=Y az.ae-1 by simp only[ay];rw[bO aa aa],show ay .sub I eu 1=eu-1 by simp only[ay];rw[bO aa aa]];have N:=aEi h V av ah;simp only[wk,da,di] at N;have W:¬(0<=av/\av<=Y az.ae-1/\0<=ah/\ah<=eu-1)->aI []=aI (ck av ah)/\1=gf av ah:=λH=>by
  have Q:gf av ah=1:=by
   simp only[gf,X,cN];rw[aP];simp only[aA,SO];omega
  exact⟨by rw[ck,aP aa],Q.symm⟩
 refine ax (λa=>ax (λb=>W aa) (λb=>ax (λc=>ax (λd=>W aa) (λd=> ?_)) (λc=>W aa))) (λa=>W aa);have Q:gf av ah=0:=by
  simp only[gf,X,cN];rw[aL];simp only[aA,SO];omega
 rw[aT N];simp[ck,Q]
end
def iq(c:Nat->Int)(x y z:Int)(b:Bool):Prop:=x=c 0/\(if b=J then y=0/\z=0 else if c 4=3\/c 4=4\/c 4=5 then(0<=y/\y<=8)/\1<=z/\z<=3 else if c 4=9 then y=0/\1<=z/\z<=3 else y=0/\z=0)
def vk(c:Nat->Int)(r:RV)(k:Nat):Prop:=iq c (ci r k 0) (ci r k 1) (ci r k 2) (cb r k 3)
abbrev jQ(l:ar):ar:=bX (bq.lex [0] E).lt l
def nz(l:ar)(r:RV):Prop:=Y l=Y r.ae/\∀k<Y l,vk (bu (jQ l) k) r k
section
variable{R:bv->Prop}{d:aY}{t:T}{O:ai}{L:dE}
def avk(c:Nat->Int)(x y z:Int)(b:Bool):∃o,TB.Ev 225 (bG c++[.i x,.i y,.i z,.b b]) o/\∃e,o=.ret [.b e]/\(e=J<->iq c x y z b):=by
 refine dR ?_;simp[Zv,bG,iq];cases b
 all_goals
  simp
  repeat'(refine ax (λ_=> ?_) (λ_=> ?_))
  all_goals grind [jm]
def aEj(c:Nat->Int)(j:Nat)(h:j<14):aN j (nl c)=c j:=by
 match j,h with
 |0,_|1,_|2,_|3,_|4,_|5,_|6,_|7,_|8,_|9,_|10,_|11,_|12,_|13,_=>rfl
structure oA(l:ar):Prop where
 n:Y l<=4096
 k:zD l
 m:∀x∈l,∃c,x=nl c
def oA.rw{l:ar}(h:oA l){i:Nat}(X:i<Y l):nl (bu l i)=l[i]:=by
 obtain⟨c,W⟩:=h.m l[i] (pl X);have:∀j<14,bu l i j=c j:=λj V=>by
  have:bu l i j=aN j l[i]:=by simp[bu,aZ,aN,X]
  rw[this,W,aEj _ _ V]
 rw[W];simp only[nl];rw[this 0 aa,this 1 aa,this 2 aa,this 3 aa,this 4 aa,this 5 aa,this 6 aa,this 7 aa,this 8 aa,this 9 aa,this 10 aa,this 11 aa,this 12 aa,this 13 aa]
def BA{l:ar}(X:Q<Y l)(j:Nat):bu l Q j=aN j l[Q]:=by simp[bu,aZ,aN,X]
def oA.by{l:ar}(h:oA l):oA (jQ l):=⟨by rw[lZ];exact h.n,h.k.perm (Df _),λx X=>h.m x ((Df _).mem_iff.1 X)⟩
def oA.to{l:ar}{i:Nat}(X:i<Y l):∃k<Y l,∀j,bu (jQ l) k j=bu l i j:=by
 have V:l[i]∈jQ l:=(Df _).mem_iff.2 (pl X);obtain⟨k,W,e⟩:=ajL V;have Q:k<Y l:=by rwa [lZ] at W
 exact⟨k,Q,λj=>by rw[BA W,BA X,e]⟩
def oA.from(P:Q<Y M):∃i<Y M,∀j,bu (jQ M) Q j=bu M i j:=by
 have X:Q<(jQ M).length:=by rwa [lZ]
 have V:(jQ M)[Q]∈M:=(Df _).mem_iff.1 (pl X);obtain⟨i,W,e⟩:=ajL V;exact⟨i,W,λj=>by rw[BA X,BA W,e]⟩
def oA.inj{l:ar}(h:oA l){a b:Nat}(X:a<Y l)(W:b<Y l)(e:bu l a 0=bu l b 0):a=b:=by
 rcases Nat.lt_trichotomy a b with q|q|q;exact aG (by rw[<-BA X,<-BA W];exact e) (Oz.1 h.k a b X W q);exact q;exact aG (by rw[<-BA X,<-BA W];exact e.symm) (Oz.1 h.k b a W X q)
def iq.congr{Q:Nat->Int}(e:∀j,V j=Q j){b:Bool}:iq V X W N b<->iq Q X W N b:=by
 have:V=Q:=funext e;rw[this]
variable[Inhabited dB]
def Oc(av ah:Int)(h:gc):oA (ck av ah):=
 ⟨atr (yf sy h).2,atq (yf sy h).2,λx X=>by
  obtain⟨k,-,e,-⟩:=atp (yf sy h).2 X;exact⟨_,e⟩⟩
structure HR(av ah:Int)(r:RV)(e:Int):Prop where
 c:gf av ah≠0->e=gf av ah
 k:gf av ah=0->Er (nz (ck av ah) r) 270 e
def HR.eq{av ah:Int}{r:RV}{e W:Int}(h:HR av ah r e)(V:HR av ah r W):e=W:=by
 by_cases X:gf av ah=0;exact(h.k X).eq (V.k X);rw[h.c X,V.c X]
def x85(h:gc)(av ah:Int)(r:RV)(N:Sl r):∃o,TB.Ev 85 (wk++[.i av,.i ah,.r r]) o/\∃e,o=.ret [.i e]/\HR av ah r e:=by
 by_cases V:ck av ah=[];refine⟨_,atw sy h av ah r N V,_,rfl,λX=>by rw[aL X],λX=> ?_⟩;rw[aP aa,V];split;rename_i A;exact Er.ok ⟨dh,λk Q=>aG Q aw⟩;rename_i A;exact Er.no λp=>A (by have:=p.1;simp at this;omega)
 have V:=T2.2 V;refine dR ?_;have z:=SU sy h av ah;have H:=Oc av ah h;have y:∀e,HR av ah r e<->(gf av ah≠0->e=gf av ah)/\(gf av ah=0->Er (nz (ck av ah) r) 270 e):=λe=>⟨λq=>⟨q.c,q.k⟩,λq=>⟨q.1,q.2⟩⟩
 simp only[y];clear y;simp only[wk,da,di] at z;generalize ck av ah=l at*;generalize gf av ah=e at*;simp[SH,wk,aT z,N.len];refine ax (λX=> ?_) (λX q=>aG q X);have x:¬nz l r->(¬e=0->270=e)/\(e=0->Er (nz l r) 270 270):=λp=>⟨λq=>aG X q,λ_=>Er.no p⟩
 refine ax (λM=> ?_) (λM=>x λp=>M (by have:=p.1;omega));have M:Y l=Y r.ae:=aa;have hn:=H.n;rw[Fc];refine⟨.inl rfl,λ_=> ?_,λh=> ?_,λ_ h=> ?_⟩;simp;refine⟨aa, ?_⟩
 first|rw[Bj]|rw[Bk]
 refine⟨_,ZN dh (by simpa using H.k), ?_⟩;simp;have w:(bX (bq.lex [0] E).lt l).length=Y l:=lZ;refine cP (Y l) (λi G=>∃v,G=[.r (aI v)]/\Y v<=i/\∀k<i,∃q<Y l,bu (jQ l) q 0=bu l k 0/\vk (bu l k) r q) ⟨0,rfl,aa,[],rfl,aw,aa⟩ ?_;rintro i _ W ⟨v,rfl,af,u⟩;simp;refine ax (λW=> ?_) (λW=> ?_);refine⟨W, ?_⟩;refine cP (Y l) (λj G=>G=[.r (aI v)]/\∀q<j,¬(bu (jQ l) q 0=bu l i 0/\vk (bu l i) r q)) ⟨0,rfl,aa,rfl,aa⟩ ?_;rintro j _ P ⟨rfl,d⟩;have F:∀q<j,bu (jQ l) q 0=bu l i 0->¬vk (bu l i) r q:=λq D a b=>d q D ⟨a,b⟩
 simp[N.len];refine ax (λP=>⟨P,ax (λg=>⟨aa, ?_⟩) (λg=> ?_)⟩) (λP=>x λp=> ?_);obtain⟨o,s,b,rfl,m⟩:=avk (bu l i) (ci r j 0) (ci r j 1) (ci r j 2) (cb r j 3);simp only[bG,bu,ci,cb,da,di] at s;rw[aT s];simp[cu P (show Y l<=140737488355328 from aa),cu W (show Y l<=140737488355328 from aa)];refine ax (λB=> ?_) (λB=> ?_);exact⟨by rw[N.len];omega,aa,_,rfl,dh,jc u ⟨j,P,g,m.1 B⟩⟩;exact jc F λ_ q=>B (m.2 q)
 rw[cu P aa];exact⟨rfl,jc F λe=>aG e g⟩;obtain⟨k,Q,e⟩:=oA.to W;exact F k aa (e 0) ((iq.congr e).1 (p.2 k Q));have ac:i=Y l:=aa;subst ac;refine⟨λq=>aG X q,λ_=>Er.ok ⟨M,λk Q=> ?_⟩⟩;obtain⟨i,W,f⟩:=oA.from Q;obtain⟨q,D,e2,e3⟩:=u i W;have:q=k:=H.by.inj (by rw[w];exact D) (by rw[w];exact Q) (by rw[e2,f]);subst this;exact(iq.congr f).2 e3;simp at h;simp[h] at V;simp at h;simp[h] at V
def aEl(x y:aM):(bq.lex [0] E).lt x y=decide (aN 0 x<aN 0 y):=by
 simp only[bq.lt,kg]
 grind
def aiP(l:ar)(B:oA l)(r:RV)(A:Sl r):∃o,TB.Ev 170 [.r (aI l),.r r] o/\∃b,o=.ret [.b b]/\(b=J<->nz l r):=by
 refine dR ?_;simp[ahm,A.len];have d:=B.n;refine ax (λV=> ?_) (λV p=>V (by have:=p.1;omega));have V:Y l=Y r.ae:=aa;refine cP (Y l) (λi P=>P=[.r (aI (jQ (l.take i)))]) ⟨0,rfl,aa,rfl⟩ ?_;rintro i _ X rfl;simp;refine ax (λX=> ?_) (λX=> ?_);have c:(jQ (l.take i)).length<=i:=by rw[lZ,FD];omega
 have N:gT (bq.lex [0] E).lt (jQ (l.take i)):=Fl (N6 [0] E) (l:=l.take i) (λz a=>rfl);have s:jQ (l.take (i+1))=eB (bq.lex [0] E).lt l[i] (jQ (l.take i)):=by
  rw[<-List.take_append_getElem X,jQ,avi]
 have m:=B.rw X;generalize jQ (l.take i)=v at*;refine wF (λM=>∃k:Nat,M=[.i k]/\k<=Y v/\∀(j:Nat)(Q:j<Y v),k<=j->(bq.lex [0] E).lt l[i] v[j]=J) (λM=>(xi M 0).toNat) ⟨Y v,rfl,aa,λj Q e=>aa⟩ ?_;rintro _ ⟨k,rfl,W,y⟩;have x:(∀Q:k-1<Y v,0<k->(bq.lex [0] E).lt l[i] v[k-1]=E)->jQ (l.take (i+1))=v.take k++l[i]::v.drop k:=λe=>by rw[s];exact avj (N6 [0] E) rfl (λ_ _=>rfl) N W y e
 simp[xi];have w:jQ (l.take (i+1))=v.take k++l[i]::v.drop k->aI (v.take k++nl (bu l i)::v.drop k)=aI (jQ (l.take (i+1))):=λe=>by rw[e,m]
 refine ax (λH=>⟨X, ?_⟩) (λH=> ?_);rw[Ob H aa];have u:(bq.lex [0] E).lt l[i] v[k-1]=decide (bp (aZ l (i:Int) 0).val<bp (aZ v ((k-1:Nat):Int) 0).val):=by
  rw[aEl,<-BA X,<-BA (l:=v) aa];rfl
 refine⟨aa,ax (λg=> ?_) (λg=> ?_)⟩;rw[wE];refine⟨⟨k-1,rfl,aa,λj Q e=> ?_⟩,dh⟩;by_cases h:j=k-1;subst h;rw[u];exact decide_eq_true g;exact y j Q aa;have e:=x (λ_ _=>by rw[u];exact decide_eq_false g);refine⟨W,aa,X,aa,W,aa, ?_⟩;rw[cu X aa,<-w e];rfl;have e:=x (λ_ q=>aG q H);refine⟨W,aa,X,aa,W,aa, ?_⟩;rw[cu X aa,<-w e];rfl;have G:i=Y l:=aa;subst G;rw[List.take_length];have N:(jQ l).length=Y l:=lZ;refine cP (Y l) (λi P=>P=[]/\∀k<i,vk (bu (jQ l) k) r k) ⟨0,rfl,aa,rfl,aa⟩ ?_;rintro i _ X ⟨rfl,W⟩;simp[N,A.len];refine ax (λX=>⟨X,aa, ?_⟩) (λX=> ?_)
 ·simp[cu X (show Y l<=140737488355328 from aa)];have f:vk (bu (jQ l) i) r i<->iq (bu (jQ l) i) (ci r i 0) (ci r i 1) (ci r i 2) (cb r i 3):=Iff.rfl;have F:¬vk (bu (jQ l) i) r i->¬nz l r:=λq p=>q (p.2 i X)
  have D:vk (bu (jQ l) i) r i->∀k<i+1,vk (bu (jQ l) k) r k:=jc W;rw[f] at F D;simp only[iq,bu,ci,cb] at F D
  repeat'(refine ax (λ_=> ?_) (λ_=> ?_))
  all_goals first|(apply F;grind)|(apply D;grind)
 have G:i=Y l:=aa;subst G;exact⟨V,W⟩
def r95(h:gc)(av ah:Int)(r:RV)(P:Sl r):∃o,TB.Ev 95 (wk++[.i av,.i ah,.r r]) o/\∃e,o=.ret [.i e]/\HR av ah r e:=by
 refine dR ?_;have V:=aiO h av ah;obtain⟨o,N,b,rfl,Q⟩:=aiP _ (Oc av ah h) r P;simp only[wk,da,di] at V;have M:∀e,HR av ah r e<->(gf av ah≠0->e=gf av ah)/\(gf av ah=0->Er (nz (ck av ah) r) 270 e):=λe=>⟨λq=>⟨q.c,q.k⟩,λq=>⟨q.1,q.2⟩⟩
 simp only[M];simp[T95,wk,aT V];refine ax (λX=> ?_) (λX=> ?_);simp[aT N];refine ax (λW=>⟨λq=>aG X q,λ_=>Er.ok (Q.1 W)⟩) (λW=>⟨λq=>aG X q,λ_=>Er.no λp=>W (Q.2 p)⟩);exact λq=>aG q X
def Dn(av ah:Int)(r:RV):Int:=oi 85 (wk++[.i av,.i ah,.r r]) 0
def aEn(h:gc)(av ah:Int)(r:RV)(X:Sl r):TB.Ev 85 (wk++[.i av,.i ah,.r r]) (.ret [.i (Dn av ah r)])/\HR av ah r (Dn av ah r):=tV (x85 h av ah r X)
def f95(h:gc)(av ah:Int)(r:RV)(X:Sl r):TB.Ev 95 (wk++[.i av,.i ah,.r r]) (.ret [.i (Dn av ah r)]):=by
 obtain⟨o,W,e,rfl,V⟩:=r95 h av ah r X;rw[(aEn h av ah r X).2.eq V];exact W
end
section
variable{R:bv->Prop}{g:aY}{t:T}{O:ai}{L:dE}
variable[Inhabited dB]
def avl(x y f X W V Q P N M H G F:Int):Er (nU x y f X W V Q P N M H G F) 260 (vc x y f X W V Q P N M H G F):=by
 have D:∃o,TB.Ev 74 [.i x,.i y,.i f,.i X,.i W,.i V,.i Q,.i P,.i N,.i M,.i H,.i G,.i F] o/\∃e,o=.ret [.i e]/\(e=0\/e=260):=by
  refine dR ?_;simp[SE]
 have h:=o7 x y f X W V Q P N M H G F;refine⟨h.2,λp=> ?_⟩;rcases(tV D).2 with e|e;exact aG (h.1 e) p;exact e
def r94(x y f X W V Q P N M H G F:Int):TB.Ev 94 [.i x,.i y,.i f,.i X,.i W,.i V,.i Q,.i P,.i N,.i M,.i H,.i G,.i F] (.ret [.i (vc x y f X W V Q P N M H G F)]):=by
 suffices s:∃o,TB.Ev 94 [.i x,.i y,.i f,.i X,.i W,.i V,.i Q,.i P,.i N,.i M,.i H,.i G,.i F] o/\∃e,o=.ret [.i e]/\Er (nU x y f X W V Q P N M H G F) 260 e by
  obtain⟨o,h,e,rfl,r⟩:=s;rw[(avl x y f X W V Q P N M H G F).eq r];exact h
 refine dR ?_;simp[T94];have D:¬nU x y f X W V Q P N M H G F->Er (nU x y f X W V Q P N M H G F) 260 260:=Er.no;refine ax (λq=> ?_) (λq=>D λp=>by have:=p.x;omega);refine ax (λa2=>D λp=>by have:=p.x;omega) (λa2=> ?_);refine ax (λn=> ?_) (λn=>D λp=>by have:=p.y;omega);refine ax (λm=>D λp=>by have:=p.y;omega) (λm=> ?_);refine ax (λa5=> ?_) (λa5=>D λp=>by have:=p.f;omega);refine ax (λa6=>D λp=>by have:=p.f;omega) (λa6=> ?_);refine cP 5 (λi l=>l=[]/\(0<i->Lm X W)/\(1<i->Lm V Q)/\(2<i->Lm P N)/\(3<i->Lm M H)/\(4<i->Lm G F)) ⟨0,rfl,aa,rfl,aa,aa,aa,aa,aa⟩ ?_;rintro i _ j ⟨rfl,B,A,z,w,v⟩;have k:i=0\/i=1\/i=2\/i=3\/i=4\/i=5:=aa;rcases k with rfl|rfl|rfl|rfl|rfl|rfl
 case inr.inr.inr.inr.inr=>simp;exact Er.ok ⟨aa,aa,aa,B aa,A aa,z aa,w aa,v aa⟩
 all_goals
  simp;have u:nU x y f X W V Q P N M H G F->Lm X W/\Lm V Q/\Lm P N/\Lm M H/\Lm G F:=λp=>⟨p.m0,p.m1,p.m2,p.m3,p.m4⟩
  simp only[Lm] at u B A z w v⊢
  repeat'(refine ax (λ_=> ?_) (λ_=> ?_))
  any_goals(refine D λp=> ?_;have:=u p;omega)
  all_goals
   rw[wE]
   first
    |refine⟨⟨1,rfl,aa,rfl, ?_⟩,po⟩;omega
    |refine⟨⟨2,rfl,aa,rfl, ?_⟩,po⟩;omega
    |refine⟨⟨3,rfl,aa,rfl, ?_⟩,po⟩;omega
    |refine⟨⟨4,rfl,aa,rfl, ?_⟩,po⟩;omega
    |refine⟨⟨5,rfl,aa,rfl, ?_⟩,po⟩;omega
@[simp] def c94 (x y f X W V Q P N M H G F:Int):fZ TB.Ev R 94 [.i x,.i y,.i f,.i X,.i W,.i V,.i Q,.i P,.i N,.i M,.i H,.i G,.i F] g t O L=f8 TB.Ev R (.ret [.i (vc x y f X W V Q P N M H G F)]) g t O L:=aT (r94 x y f X W V Q P N M H G F)
def aEq(N:1<=X/\X<=8)(M:0<=W/\W<=7):oi 138 [.i X,.i W] 0=(X-1+W)%8+1:=by
 have V:∃o,TB.Ev 138 [.i X,.i W] o/\∃x y,o=.ret [.i x,.i y]/\x=(X-1+W)%8+1:=by
  refine dR ?_;have Q:ay .add I X W=X+W:=by simp only[ay];rw[bO aa aa]
  have P:ay .sub I (X+W) 8=X+W-8:=by simp only[ay];rw[bO aa aa]
  simp[NO,Q,P]
  grind
 obtain⟨o,h,x,y,rfl,e⟩:=V;rw[<-e,oi,De h];rfl
def avm{a:Int}(P:1<=a/\a<=8):oi 376 [.i a] 0=Ke a/\oi 376 [.i a] 1=Kf a:=by
 have X:∃o,TB.Ev 376 [.i a] o/\∃x y z,o=.ret [.i x,.i y,.i z]/\x=Ke a/\y=Kf a:=by
  refine dR ?_;have W:a=1\/a=2\/a=3\/a=4\/a=5\/a=6\/a=7\/a=8:=aa;rcases W with rfl|rfl|rfl|rfl|rfl|rfl|rfl|rfl
  all_goals
   simp[Zj,Ke,Kf,ay,j7,lu,iV,aZ,bp];exact⟨dM,dM,dM,dM,rfl,rfl⟩
 obtain⟨o,h,x,y,z,rfl,V,Q⟩:=X;rw[<-V,<-Q,oi,oi,De h];exact⟨rfl,rfl⟩
def o9(x f d n:Int):Int:=ay .add I x (ay .mul I n (oi 376 [.i (oi 138 [.i d,.i f] 0)] 0))
def pe(y f d n:Int):Int:=ay .add I y (ay .mul I n (oi 376 [.i (oi 138 [.i d,.i f] 0)] 1))
def aiQ(x y f X W a5 a6 a7 a8 V Q eD eF d n:Int)(P:0<=f/\f<=7)(N:1<=d/\d<=8):TB.Ev 267 [.i x,.i y,.i f,.i X,.i W,.i a5,.i a6,.i a7,.i a8,.i V,.i Q,.i eD,.i eF,.i d,.i n] (.ret [.i (o9 x f d n),.i (pe y f d n),.i f,.i X,.i W,.i a5,.i a6,.i a7,.i a8,.i V,.i Q,.i eD,.i eF]):=by
 refine ce ?_;have M:ay .add I (ay .rem I (ay .add I (ay .sub I d 1) f) 8) 1=(d-1+f)%8+1:=by
  simp only[ay];rw[bO (n:=d-1) aa aa,bO (n:=d-1+f) aa aa,Oy aa];rw[bO aa aa]
 simp[ahu,M,o9,pe,aEq N P,(avm (a:=(d-1+f)%8+1) aa).1,(avm (a:=(d-1+f)%8+1) aa).2];generalize G:(d-1+f)%8+1=m;have H:m=1\/m=2\/m=3\/m=4\/m=5\/m=6\/m=7\/m=8:=aa;rcases H with rfl|rfl|rfl|rfl|rfl|rfl|rfl|rfl
 all_goals
  rw[aP aa,aP aa,aP aa,aP aa,aP aa];simp[Ke,Kf]
def wM(c:Nat->Int)(h:kh X W c):TB.Ev 265 [.i (c 3),.i (c 4),.i (c 5),.i (c 6),.i (c 7),.i (c 8)] (.ret [.b J]):=by
 refine ce ?_;obtain⟨G,F,D,M,V,Q,P,N,H,-,-⟩:=h;have:c 4=1\/c 4=2\/c 4=3\/c 4=4\/c 4=5\/c 4=6\/c 4=7\/c 4=8\/c 4=9:=aa;rcases this with h|h|h|h|h|h|h|h|h
 all_goals
  simp[h] at V Q P N H;simp[ahp,h,M,V,Q,P,N]
def wN(c:Nat->Int)(x y z:Int)(b:Bool)(h:iq c x y z b):TB.Ev 266 (bG c++[.i x,.i y,.i z,.b b]) (.ret [.b J]):=by
 refine ce ?_;simp only[iq] at h;simp[ahq,bG];cases b
 all_goals
  simp at h⊢
  grind
end
