/- Part 12 of the proof; the last part says what is shown. -/
import Derived.Test.YtieaiocljdpebaaGreatDoorQ2
import Derived.Test.YtieaiocljdpebaaGreatDoorQ11
import Derived.Test.YtieaiocljdpebaaGreatDoorQ8
set_option linter.all false
open Bool renaming and_eq_true->ayz,or_eq_true->ay2,and_true->aAn,eq_false_iff->aBu
open List renaming getElem?_eq_some_iff->ayA,getElem?_eq_getElem->ayB,getD_eq_getElem?_getD->ayC,getElem?_append_left->ayD,getElem?_map->ayF,getElem?_append_right->ayG,replicate->ayJ,mem_append->ayL,all_eq_true->ayM,length_append->ayN,cons_append->ayP,range->ayQ,nil_append->ayU,mem_of_getElem?->ayW,getElem?_eq_none->ayX,map_congr_left->ayZ,mem_map->ay1,ext_getElem?->ay3,getElem?_set_ne->azc,length_map->azg,getElem?_of_mem->azh,getElem?_cons_zero->azl,getElem?_set->azr,mem_or_eq_of_mem_set->azs,append_assoc->azt,mem_range->azz,getElem?_set_self->azI,getElem?_range->azM,getElem_mem->azR,length_singleton->aAg,map->aAE,getElem?_modify->aAK,find?_cons->aAP,length_range->aBv,length_set->aBH,take_add_one->aCi
open Option.some renaming injEq->ayE
open Nat renaming le_refl->ayH,le_trans->azF,strongRecOn->aAi,zero_le->aAq,min_eq_left->aAR,lt_of_le_of_ne->aAX,le_of_not_lt->aA4,min_eq_right->aBE,not_lt_zero->aBJ,le_antisymm->aBK
open Option renaming map_some->ayI,map_eq_some_iff->azC
open Int renaming ofNat_inj->aB3
namespace Go.Proofs.YtieaiocljdpebaaGreatDoor.Y
open Go.RowKit
noncomputable section
variable{V:Nat→Nat}{X Q:Nat}{Z:List (List RV)}{U:Int}
inductive Rt(g:Nat->Nat):Nat->Nat->Prop where
 |here {k:Nat} (h:g k=k):Rt g k k
 |up {k r:Nat} (h:g k≠k) (h2:Rt g (g k) r):Rt g k r
def Rt.S2(h:Rt V X Q):∀{Z:Nat},Rt V X Z->Q=Z:=by
 induction h with
 |here h=>
  intro Z U;cases U with
  |here=>rfl
  |up W R=>exact(W h).elim
 |up h R P=>
  intro Z U;cases U with
  |here W=>exact(h W).elim
  |up W O=>exact P O
def Rt.fix(h:Rt V X Q):V Q=Q:=by
 induction h with
 |here h=>exact h
 |up h W Z=>exact Z
def Rt.le(Z:∀q,V q<=q)(h:Rt V X Q):Q<=X:=by
 induction h with
 |here h=>exact ayH _
 |up h U W=>exact azF W (Z _)
def Rt.mX(Z:∀q,V q<=q)(k:Nat):∃r,Rt V k r:=by
 induction k using aAi with
 |_ k X=>
  by_cases h:V k=k;exact⟨k,.here h⟩;obtain⟨r,W⟩:=X (V k) (aAX (Z k) h);exact⟨r,.up h W⟩
def pe(g:Nat->Nat)(k v:Nat):Nat->Nat:=λq=>if q=k then v else g q
def BX:Nat->Nat->(Nat->Nat)->Nat->Nat
 |0,_,g=>g
 |n+1,k,g=>if g k=k then g else pe (BX n (g k) g) k (BX n (g k) g (g k))
def akW{g:Nat->Nat}(X:∀q,g q<=q):∀n k,k<n->Rt g k (BX n k g k)/\∀q,BX n k g q=g q\/Rt g q (BX n k g q)
 |0,k,h=>absurd h (aBJ _)
 |n+1,k,h=>by
  simp only[BX];by_cases Z:g k=k;rw[if_pos Z];exact⟨by rw[Z];exact .here Z,λq=>.inl rfl⟩;rw[if_neg Z];have R:=aAX (X k) Z;obtain⟨W,U⟩:=akW X n (g k) (by omega);refine⟨by simp only[pe,if_true];exact .up Z W,λq=> ?_⟩;simp only[pe];by_cases V:q=k;subst V;rw[if_pos rfl];exact .inr (.up Z W);rw[if_neg V];exact U q
def Rt.short{X:Nat->Nat}(U:∀q,V q<=q)(h:∀q,X q=V q\/Rt V q (X q))(x:Nat):∀{r:Nat},Rt V x r->Rt X x r:=by
 induction x using aAi with
 |_ x R=>
  intro r Q;cases Q with
  |here Z=>
   rcases h x with e|e;exact .here (e.trans Z);exact .here (e.S2 (.here Z))
  |up Z W=>
   have P:=aAX (U x) Z;rcases h x with e|e;refine .up (by rw[e];exact Z) ?_;rw[e];exact R _ P W;have O:X x=r:=e.S2 (.up Z W);have N:=W.le U;refine .up (by omega) ?_;rw[O];exact R r (by omega) (.here W.fix)
def asT{Z:Nat->Nat}(X:∀q,V q<=q)(h:∀q,Z q=V q\/Rt V q (Z q))(q:Nat):Z q<=q:=by
 rcases h q with e|e;rw[e];exact X q;exact e.le X
def Rt.join{x r:Nat}(R:V X=X)(P:V Q=Q)(h:Rt V x r):Rt (pe V X Q) x (if r=X then Q else r):=by
 induction h with
 |here W=>
  rename_i k;by_cases Z:k=X;subst Z;rw[if_pos rfl];by_cases U:Q=k;subst U;exact .here (by simp[pe]);have e:pe V k Q k=Q:=by simp[pe]
  refine .up (by rw[e];exact U) ?_;rw[e];exact .here (by simp[pe,U,P]);rw[if_neg Z];exact .here (by simp[pe,Z,W])
 |up W N O=>
  rename_i k r;have Z:k≠X:=λe=>W (by rw[e];exact R)
  have e:pe V X Q k=V k:=by simp[pe,Z]
  refine .up (by rw[e];exact W) ?_;rw[e];exact O
def BY(g:Nat->Nat)(a b:Nat):Prop:=∃r,Rt g a r/\Rt g b r
def BY.short{g Z:Nat->Nat}{a b:Nat}(X:∀q,g q<=q)(h:∀q,Z q=g q\/Rt g q (Z q))(k:BY g a b):BY Z a b:=by
 obtain⟨r,W,V⟩:=k;exact⟨r,W.short X h,V.short X h⟩
def BY.join{g:Nat->Nat}{Z X a b:Nat}(W:g Z=Z)(V:g X=X)(k:BY g a b):BY (pe g Z X) a b:=by
 obtain⟨r,U,R⟩:=k;exact⟨_,U.join W V,R.join W V⟩
def fm(m:List (List RV))(q:Nat):Nat:=(aD 0 (m.getD q [])).toNat
def akX{x:List RV}(V:X<Z.length):fm (Z.set X x)=pe (fm Z) X (aD 0 x).toNat:=by
 funext q;simp only[fm,pe,ayC];by_cases W:q=X;subst W;rw[if_pos rfl,azI V];rfl;rw[if_neg W,azc (Ne.symm W)]
def Ih(h:iR Z=true)(q:Nat):fm Z q<=q:=by
 unfold fm;by_cases X:q<Z.length;have:=Af h X;omega;rw[ayC,ayX (by omega)];show(0:Int).toNat<=q;simp
def akY{m:List (List RV)}(h:iR m=true):∀(n:Nat)(i:Int),0<=i->i<m.length->fm (mF n i m)=BX n i.toNat (fm m)
 |0,_,_,_=>rfl
 |n+1,i,X,W=>by
  obtain⟨V,Q,U⟩:=Vd h X W;have R:=akY h n _ V U;have e:fm m i.toNat=(aD 0 (m.getD i.toNat [])).toNat:=rfl;simp only[mF,BX];by_cases Z:aD 0 (m.getD i.toNat [])=i;rw[if_pos Z,if_pos (by rw[e,Z])];rw[if_neg Z,if_neg (by rw[e];omega),akX (by rw[Nw];omega),e,<-R];rfl
def abk(h:∀k<Z.length,0<=aD 0 (Z.getD k [])/\aD 0 (Z.getD k [])<=k):iR Z=true:=by
 refine ayM.2 λk X=> ?_
 simp only[ayz,decide_eq_true_eq];exact h k (azz.1 X)
def S3(h:iR Z=true)(k:Nat)(X:k<Z.length):aD 0 (Z.getD k [])=(fm Z k:Int):=by
 have:=Af h X;unfold fm;omega
def asU{X:List (List RV)}(h:iR Z=true)(U:∀x∈X,x∈Z)(R:∀q,fm X q<=q):iR X=true:=by
 refine abk λk Q=> ?_
 have P:X.getD k []∈X:=adY Q _;obtain⟨p,V⟩:=azh (U _ P);have O:p<Z.length:=(ayA.1 V).1;have W:=(Af h O).1;rw[ayC,V] at W;have W:0<=aD 0 (X.getD k []):=W;have:=R k;unfold fm at this;omega
def asV(h:iR Z=true)(N:Z.length<=1099511627776)(R:0<=U)(Q:U<Z.length):∃X,qE U Z=some X/\X.length=Z.length/\iR X=true/\(∀q,fm X q=fm Z q\/Rt (fm Z) q (fm X q))/\Rt (fm Z) U.toNat (fm X U.toNat):=by
 obtain⟨X,W⟩:∃X,qE U Z=some X:=⟨mF Z.length U Z,by unfold qE;rw[if_pos (by simp[N,R,Q,h])]⟩;obtain⟨-,-,-,-,e⟩:=Jt W;have P:=akY h Z.length U R Q;rw[<-e] at P;obtain⟨O,V⟩:=akW (Ih h) Z.length U.toNat (by omega);rw[<-P] at O V;exact⟨X,W,Ve W,asU h (Nx W) (asT (Ih h) V),V,O⟩
variable{P:RV}{I:aa}{N:List PC}{J:TypeId}{x:IE}
section
section
variable(W D A B C p:Int)(b d f g l:RV)
structure asW(n:Nat)(v m:List (List RV)):Prop where
 len:m.length=n
 ok:iR m=true
 pr:∀x∈v,aD 0 (m.getD (aD 0 x).toNat [])=aD 0 (m.getD (aD 1 x).toNat [])
def R63(n:Nat)(v:List (List RV))(e:Int)(o:aQ):Prop:=(e≠0/\o=.ret [.r (aC []),.i e])\/(e=0/\∃m,o=.ret [.r (aC m),.i 0]/\asW n v m)
def asY(m:List (List RV))(k:Nat)(x:Int)(X:k<m.length)(U:∀Z∈m,Z.length=1):(m.modify k λZ=>dJ Z 0 [iV x])=m.set k [iV x]:=by
 apply ay3;intro q;rw[aAK,azr];by_cases V:k=q;subst V;rw[if_pos rfl,if_pos X,ayB X];have:=U _ (azR X);generalize m[k]=Z at this
 match Z,this with
 |[c],_=>simp[dJ]
 rw[if_neg V];simp[V]
def asZ(h:iR Z=true)(U:Z.length=X):iR (Z++[[iV X]])=true:=by
 refine abk λk R=> ?_
 simp only[ayN,aAg] at R;rw[ayC];by_cases V:k<Z.length;rw[ayD V,<-ayC];exact Af h V;have:k=Z.length:=by omega
 subst this;rw[ayG (ayH _)];simp[aD,bc,iV,U]
def as1(h:∀V∈Z,V.length=1):∀V∈Z++[[P]],V.length=1:=λV X=>by
 rcases ayL.1 X with X|X;exact h V X;simp at X;subst X;rfl
def abl{R:aQ->Prop}{t:T}{m:List (List RV)}{r:RE}{P:List RK}(M:r.rv I=aC m)(H:x.den I=U)(G:∀X∈m,X.length=1)(h:iR m=true)(u:m.length<=1000)(F:0<=U)(E:U<m.length)
  (k:∀Z,Z.length=m.length->(∀X∈Z,X.length=1)->iR Z=true->(∀q,fm Z q=fm m q\/Rt (fm m) q (fm Z q))->Rt (fm m) U.toNat (fm Z U.toNat)->t.wp TB.Ev R (I.add (.r (aC Z))) N):
  T.wp TB.Ev R (.cA 130 130 J (.bN 0 (.lex [] false) [x]) true r P t) I N:=by
 obtain⟨Z,V,Q,z,y,w⟩:=asV h (by omega) F E;rw[aro,M];refine⟨Z, ?_, ?_⟩;show qE (x.den I) m=some Z;rw[H];exact V;have:=k Z Q (λX v=>G X (Nx V X v)) z y w;have J:(RV.mk (aC m).val Z)=aC Z:=by
  simp only[aC,RV.ji,Q]
 rw[J];exact this
set_option maxHeartbeats 4000000 in
def t63 (h:gH b d f g l) (ai:Int) (ag:TB.Ev 23 (wk W D A B C p b d f g l++[.i ai]) (.ret [.r (aC Z),.i U])) (hv:∀x∈Z,0<=aD 0 x/\aD 0 x<aD 1 x/\aD 1 x<b.rows.length) (bf:Z.length<=4096) (hn:b.rows.length<=1000):
  ∃o,TB.Ev 63 (wk W D A B C p b d f g l++[.i ai]) o/\R63 b.rows.length Z U o:=by
 refine eS rfl rfl (.inl rfl) ?_;simp only[wk,ayP,ayU] at ag;simp[T63,wk,bC ag];refine cY (λc=> ?_) (λc=>.inl ⟨c,rfl⟩);subst c;have al:b.rows.length<=140737488355328:=by omega
 have a3:Z.length<=140737488355328:=by omega
 refine di b.rows.length (λi G=>∃m,G=[.r (aC m)]/\m.length=i/\(∀M∈m,M.length=1)/\iR m=true) ⟨0,rfl,by omega,[],rfl,rfl,by simp,rfl⟩ ?_;rintro i _ hi ⟨m0,rfl,F,E,I⟩;simp[h.rl.len];refine cY (λhi=> ?_) (λbg=> ?_);simp[dh hi al];exact⟨by omega,_,rfl,by simp;omega,as1 E,asZ I F⟩;have a4:i=b.rows.length:=by omega
 subst a4;refine di Z.length (λj G=>∃m,G=[.r (aC m)]/\m.length=b.rows.length/\(∀M∈m,M.length=1)/\iR m=true/\∀x∈Z.take j,BY (fm m) (aD 0 x).toNat (aD 1 x).toNat) ⟨0,rfl,by omega,m0,rfl,F,E,I,by simp⟩ ?_;rintro j _ L ⟨m,rfl,F,E,I,a⟩;simp;refine cY (λL=> ?_) (λbk=> ?_);simp[L];obtain⟨va,a5,vb⟩:=hv _ (azR L);have ea:bc (cellAt Z (j:Int) 0).val=aD 0 Z[j]:=by simp[cellAt,aD,L]
 have eb:bc (cellAt Z (j:Int) 1).val=aD 1 Z[j]:=by simp[cellAt,aD,L]
 refine abl (m:=m) rfl ea E I (by omega) (by omega) (by omega) ?_;intro H l1 r1 z P t;refine abl (m:=H) rfl eb r1 z (by omega) (by omega) (by omega) ?_;intro Q l2 r2 o2 s2 a2;simp[dh L a3];have na:bc (cellAt H (bc (cellAt Z (j:Int) 0).val) 0).val=((fm H (aD 0 Z[j]).toNat:Nat):Int):=by rw[ea];exact S3 z _ (by omega)
 have nb:bc (cellAt Q (bc (cellAt Z (j:Int) 1).val) 0).val=((fm Q (aD 1 Z[j]).toNat:Nat):Int):=by rw[eb];exact S3 o2 _ (by omega)
 simp only[na,nb];have J:=Ih I;have g1:=Ih z;have g2:=Ih o2;have s:=(t.short J P).short g1 s2;have n:=a2.short g1 s2;have fa:=s.fix;have fb:=n.fix;have la:=s.le g2;have lb:=n.le g2;generalize fm H (aD 0 Z[j]).toNat=O at s fa la⊢;generalize fm Q (aD 1 Z[j]).toNat=N at n fb lb⊢;obtain⟨V,a6⟩:∃V:Nat,V=max O N:=⟨_,rfl⟩;obtain⟨X,a7⟩:∃X:Nat,X=min O N:=⟨_,rfl⟩;have e1:max (O:Int) (N:Int)=(V:Int):=by omega
 have e2:min (O:Int) (N:Int)=(X:Int):=by omega
 rw[e1,e2];have ab:V<Q.length:=by omega
 have fx:fm Q V=V:=by rcases Nat.le_total O N with q|q<;>simp only[a6,Nat.max_eq_left,Nat.max_eq_right,q]<;>assumption
 have fn:fm Q X=X:=by rcases Nat.le_total O N with q|q<;>simp only[a7,aAR,aBE,q]<;>assumption
 have ek:fm (Q.set V [iV (X:Int)])=pe (fm Q) V X:=by rw[akX ab];rfl
 refine⟨by omega,Q.set V [iV (X:Int)], ?_,by simp;omega,λM y=> ?_, ?_,λx R=> ?_⟩;rw[<-asY Q V X ab r2];rfl;rcases azs y with y|y;exact r2 M y;subst y;rfl;refine abk λk w=> ?_
 rw[aBH] at w;rw[ayC];by_cases an:k=V;subst an;rw[azI ab];show(0:Int)<=(X:Int)/\(X:Int)<=(k:Int);omega;rw[azc (Ne.symm an),<-ayC];exact Af o2 w;rw[ek];rw[aCi,ayB L] at R;rcases ayL.1 R with R|R;exact(((a x R).short J P).short g1 s2).join fx fn;simp at R;subst R;refine⟨X, ?_, ?_⟩;have:=s.join fx fn;by_cases q:O=V
 rwa [if_pos q] at this
 rw[if_neg q] at this;have:O=X:=by omega
 subst this;assumption;have:=n.join fx fn;by_cases q:N=V
 rwa [if_pos q] at this
 rw[if_neg q] at this;have:N=X:=by omega
 subst this;assumption;have a8:j=Z.length:=by omega
 subst a8;rw[List.take_length] at a;refine di b.rows.length (λk G=>∃m,G=[.r (aC m)]/\m.length=b.rows.length/\(∀M∈m,M.length=1)/\iR m=true/\(∀x∈Z,BY (fm m) (aD 0 x).toNat (aD 1 x).toNat)/\∀q<k,Rt (fm m) q (fm m q)) ⟨0,rfl,by omega,m,rfl,F,E,I,a,by simp⟩ ?_;rintro k _ w ⟨m',rfl,a9,bb,u,a0,af⟩;simp[F];refine cY (λw=> ?_) (λbl=> ?_);refine abl (m:=m') rfl rfl bb u (by omega) (by simp) (by simp;omega) ?_;intro H l1 r1 z P t;have J:=Ih u;simp[dh w al] at t⊢;refine⟨H,rfl,by omega,r1,z,λx R=>(a0 x R).short J P,λq hq=> ?_⟩;by_cases bd:q=k;subst bd;exact t.short J P;have:=af q (by omega);rcases P q with U|U;rw[U];exact this.short J P;exact U.short J P;refine .inr ⟨rfl,m',rfl,a9,u,λx R=> ?_⟩;obtain⟨va,a5,vb⟩:=hv x R;obtain⟨r,q1,q2⟩:=a0 x R;rw[S3 u _ (by omega),S3 u _ (by omega),(af _ (by omega)).S2 q1,(af _ (by omega)).S2 q2]
end
end
section
section
variable{R:aQ->Prop}{l:List LK}{t:T}{O:aa}{L:List PC}
variable(W D A B C g:Int)(a b c d f:RV)
structure Ab(n:Nat)(ai:Int)(bd mv bf re:RV)(vs vr vb:List (List RV)):Prop where
 ls:vs.length=n
 lr:vr.length=n
 lb:vb.length=n
 al:∀k<n,cellAt vr (k:Int) 0=aC (cr 96 re k).rows/\vi vs k=13/\vi vb k=4/\iC W D A B C g a b c d f ai mv bf bd re k/\(∀j<13,bc (cellAt vs (k:Int) j).val=gS W D A B C g a b c d f ai mv bf re k j)/\∀j<4,bc (cellAt vb (k:Int) j).val=gB W D A B C g a b c d f ai mv bf bd re k j
def R39(ai:Int)(V Z X U:RV)(o:aQ):Prop:=(∃e,e≠0/\(∃k<a.rows.length,¬iC W D A B C g a b c d f ai Z X V U k)/\o=.aR (.iface 45 (.int .i64 e)))\/∃Q P N,o=.ret [.i ai,.r (aC Z.rows),.r (aC X.rows),.r (aC Q),.r (aC P),.r (aC N)]/\Ab W D A B C g a b c d f a.rows.length ai V Z X U Q P N
def abm{Z:FuncId->List XV->aQ->Prop}{R:aQ->Prop}{k:IntKind}(h:R (.aR (.iface J (.int k (x.den I))))):T.wp Z R (.aR (.dD J (.int k x))) I N:=⟨_,rfl,h⟩
set_option maxHeartbeats 8000000 in
def t39 (h:gH a b c d f) (ai:Int) (X Q Z V:RV) (bU:Sl X) (ab:Sl Q) (af:Sl Z) (a1:Sl V) (ag:a.rows.length<=140737488355328) (bl:a.rows.length<=536870912) (BT:X.rows.length=a.rows.length) (BU:Q.rows.length=a.rows.length) (BV:Z.rows.length=a.rows.length) (nY:V.rows.length=a.rows.length) (a2:∀i<V.rows.length,Sl (cr 96 V i)/\(cr 96 V i).rows.length<=100):∃o,TB.Ev 39 (wk W D A B C g a b c d f++[.r X,.i ai,.r Q,.r Z,.r V]) o/\R39 W D A B C g a b c d f ai X Q Z V o:=by
 obtain⟨P,y⟩:∃P:aQ->Prop,∀o,P o<->R39 W D A B C g a b c d f ai X Q Z V o:=⟨_,λ_=>Iff.rfl⟩
 suffices a6:∃o,TB.Ev 39 (wk W D A B C g a b c d f++[.r X,.i ai,.r Q,.r Z,.r V]) o/\P o by
  obtain⟨o,g1,g2⟩:=a6;exact⟨o,g1,(y o).1 g2⟩
 refine eS rfl rfl (.inl rfl) ?_;have x:∀{e:Int}{i:Nat},e≠0->i<a.rows.length->¬iC W D A B C g a b c d f ai Q Z X V i->P (.aR (.iface 45 (.int .i64 e))):=λ{e i} he N M=>(y _).2 (.inl ⟨e,he,⟨i,N,M⟩,rfl⟩)
 simp[T39,wk];have a7:lenOf X.val=(a.rows.length:Int):=by rw[bU.len,BT]
 have a8:lenOf Q.val=(a.rows.length:Int):=by rw[ab.len,BU]
 have a9:lenOf Z.val=(a.rows.length:Int):=by rw[af.len,BV]
 have bb:lenOf V.val=(a.rows.length:Int):=by rw[a1.len,nY]
 have z:∀i<a.rows.length,Sl (cr 96 V i)/\(cr 96 V i).rows.length<=100:=λi N=>a2 i (by omega)
 rw[bC (e86 Q ab (by omega))];simp;rw[bC (e87 Z af (by omega))];simp;refine di a.rows.length (λi bg=>∃I G H,bg=[.r (aC I),.r (aC G),.r (aC H)]/\I.length=i/\G.length=i/\H.length=i/\∀k<i,cellAt G (k:Int) 0=aC (cr 96 V k).rows/\vi I k=13/\vi H k=4/\iC W D A B C g a b c d f ai Q Z X V k/\(∀j<13,bc (cellAt I (k:Int) j).val=gS W D A B C g a b c d f ai Q Z V k j)/\∀j<4,bc (cellAt H (k:Int) j).val=gB W D A B C g a b c d f ai Q Z X V k j) ⟨0,rfl,by omega,[],[],[],rfl,rfl,rfl,rfl,by omega⟩ ?_;rintro i _ N ⟨I,G,H,rfl,F,w,E,v⟩;simp[a7,a8,a9,bb];refine cY (λN=> ?_) (λbo=> ?_);have al:=e88 (cr 96 V i) (z i N).1 (by have:=(z i N).2;omega);simp only[cr] at al;simp[dh N ag,N,bC al];refine⟨by omega,cY (λu=> ?_) (λu=> ?_)⟩;have J:cb Q i 0=true:=u;have an:=mY _ (SH W D A B C g a b c d f lJ Ie h i ai (ci Z i 0) (ci Z i 1) (ci Z i 2) (ci Z i 3) (ci Z i 4) (ci Z i 5) (ci Z i 6) (ci Z i 7) (ci Z i 8) (ci Z i 9) (ci Z i 10) (ci Z i 11) (ci Z i 12) (cr 96 V i) (z i N).1);simp only[wk,ci,cr,ayP,ayU,Ic,SF,tI] at an;rw[bC an];simp;refine cY (λs=> ?_) (λM=>abm (x M N (by rw[iC,if_pos J];exact λq=>M q.1)));have a0:=mY _ (SJ W D A B C g a b c d f lJ h i ai (ci Z i 0) (ci Z i 1) (ci Z i 2) (ci Z i 3) (ci Z i 4) (ci Z i 5) (ci Z i 6) (ci Z i 7) (ci Z i 8) (ci Z i 9) (ci Z i 10) (ci Z i 11) (ci Z i 12) _ (zy (cellAt X.rows (i:Int) 0)) (ci X i 1) (ci X i 2) (ci X i 3) (ci X i 4) (ci X i 5) (ci X i 6) (ci X i 7) (ci X i 8) (ci X i 9) (ci X i 10) (ci X i 11) (ci X i 12) (ci X i 13) (ci X i 14) (ci X i 15) (ci X i 16) (cr 96 V i) (z i N).1);simp only[wk,ci,cr,ayP,ayU,Ic,SF,tI] at a0;rw[bC a0];simp[dh N ag];refine cY (λa5=> ?_) (λM=>abm (x M N (by rw[iC,if_pos J];exact λq=>M q.2)));refine⟨by omega,by omega,_,_,_,⟨rfl,rfl,rfl⟩,by simp;omega,by simp;omega,by simp;omega,λk hk=> ?_⟩;by_cases p:k=i;subst p;refine⟨by rw[xu w];rfl,SX F rfl,SX E rfl,by rw[iC,if_pos J];exact⟨s,a5⟩,λj U=> ?_,λj U=> ?_⟩;rw[xu F,gS,if_pos J]
 match j,U with
 |0,_|1,_|2,_|3,_|4,_|5,_|6,_|7,_|8,_|9,_|10,_|11,_|12,_=>rfl
 rw[xu E,gB,if_pos J]
 match j,U with
 |0,_|1,_|2,_|3,_=>rfl
 obtain⟨n,m,l,q1,q2,q3⟩:=v k (by omega);exact⟨by rw[xw (by omega)];exact n,by rw[SY (by omega)];exact m,by rw[SY (by omega)];exact l,q1,λj U=>by rw[xw (by omega)];exact q2 j U,λj U=>by rw[xw (by omega)];exact q3 j U⟩;have J:¬cb Q i 0=true:=u;refine cY (λs=> ?_) (λM=>abm (x M N (by rw[iC,if_neg J];exact M)));refine⟨by omega,by omega,_,_,_,⟨rfl,rfl,rfl⟩,by simp;omega,by simp;omega,by simp;omega,λk hk=> ?_⟩;by_cases p:k=i;subst p;refine⟨by rw[xu w];rfl,SX F rfl,SX E rfl,by rw[iC,if_neg J];exact s,λj U=> ?_,λj U=> ?_⟩;rw[xu F,gS,if_neg J]
 match j,U with
 |0,_|1,_|2,_|3,_|4,_|5,_|6,_|7,_|8,_|9,_|10,_|11,_|12,_=>rfl
 rw[xu E,gB,if_neg J]
 match j,U with
 |0,_|1,_|2,_|3,_=>rfl
 obtain⟨n,m,l,q1,q2,q3⟩:=v k (by omega);exact⟨by rw[xw (by omega)];exact n,by rw[SY (by omega)];exact m,by rw[SY (by omega)];exact l,q1,λj U=>by rw[xw (by omega)];exact q2 j U,λj U=>by rw[xw (by omega)];exact q3 j U⟩;have bk:i=a.rows.length:=by omega
 subst bk;exact(y _).2 (.inr ⟨I,G,H,rfl,⟨F,w,E,v⟩⟩)
end
end
def abn{Z:Type}(n i:Nat)(f W:Nat->Z)(g:Z->Z)(h:∀k<n,W k=if k=i then g (f k) else f k):((ayQ n).map f).modify i g=(ayQ n).map W:=by
 apply ay3;intro q;rw[aAK];simp only[ayF];by_cases X:q<n;rw[azM X];simp only[ayI,h q X];by_cases e:i=q;subst e;simp;rw[if_neg (Ne.symm e)];simp[e];rw[ayX (by simpa using aA4 X)];simp
def LX{W:Type}{f Z:Nat->W}(h:∀k<X,f k=Z k):(ayQ X).map f=(ayQ X).map Z:=ayZ λk V=>h k (azz.1 V)
def qj(Z:List (List RV))(g:Int):Bool:=match fY 1 [g,0,0] Z with
 |some X=>gv (X.getD 1 default).val
 |none=>false
def Ii(g:Int)(Z:List RV):jl 1 [g,0,0] Z=decide ((Z.take 1).map (λc=>bc c.val)=[g]):=rfl
def ak0(x g:Int):∀U:List (List RV),qj (fg 1 [RV.mk (.int .i64 x) [],RV.mk (.bool true) []] U) g=(decide (g=x)||qj U g)
 |[]=>by
  by_cases h:g=x;subst h;simp[qj,fg,fY,Ii,bc,gv];have W:¬x=g:=λe=>h e.symm
  simp[qj,fg,fY,Ii,bc,h,W]
 |r::Z=>by
  have R:=ak0 x g Z;have Q:(aAE (λc:RV=>bc c.val) (List.take 1 [RV.mk (.int .i64 x) [],RV.mk (.bool true) []]))=[x]:=rfl;by_cases X:(r.take 1).map (λc=>bc c.val)=[x];have V:fg 1 [RV.mk (.int .i64 x) [],RV.mk (.bool true) []] (r::Z)=[RV.mk (.int .i64 x) [],RV.mk (.bool true) []]::Z:=by
   simp only[fg,Q,jl];rw[if_pos (by simpa using X)]
  rw[V];by_cases h:g=x;subst h;simp[qj,fY,Ii,bc,gv];have W:¬x=g:=λe=>h e.symm
  simp only[qj,fY,aAP,Ii,X,h];simp[bc,W];have V:fg 1 [RV.mk (.int .i64 x) [],RV.mk (.bool true) []] (r::Z)=r::fg 1 [RV.mk (.int .i64 x) [],RV.mk (.bool true) []] Z:=by
   simp only[fg,Q,jl];rw[if_neg (by simpa using X)]
  rw[V];by_cases h:(r.take 1).map (λc=>bc c.val)=[g];have P:¬g=x:=λe=>X (by rw[h,e])
  simp only[qj,fY,aAP,Ii,h,P];simp;simp only[qj,fY,aAP,Ii,h] at R⊢;simpa using R
variable{M:RV}
section
def xx(m:List (List RV))(wo a:RV)(n:Nat)(g:Int):Prop:=∃k<n,aD 0 (m.getD k [])=g/\(cb wo k 0=false\/cb a k 0=false)
open Classical in
noncomputable def gI(m:List (List RV))(wo a:RV)(n k:Nat):Bool:= !decide (xx m wo a n (aD 0 (m.getD k [])))
noncomputable def eJ(m:List (List RV))(wo a:RV)(n:Nat):RV:=aC ((ayQ n).map λk=>[RV.mk (.bool (gI m wo a n k)) []])
noncomputable def j5(m:List (List RV))(wo a b:RV)(n:Nat):RV:=aC ((ayQ n).map λk=>[if gI m wo a n k=true then cr 96 b k else aC []])
section
variable{m:List (List RV)}{wo a b:RV}{n:Nat}
def LY:gI m wo a n X=false<->xx m wo a n (aD 0 (m.getD X [])):=by
 classical
 simp[gI]
def abo(Z:X<n)(V:gI m wo a n X=true):cb wo X 0=true/\cb a X 0=true:=by
 have h:¬xx m wo a n (aD 0 (m.getD X [])):=λq=>by rw[LY.2 q] at V;cases V
 constructor;cases e:cb wo X 0;exact(h ⟨X,Z,rfl,.inl e⟩).elim;rfl;cases e:cb a X 0;exact(h ⟨X,Z,rfl,.inr e⟩).elim;rfl
def abp{f:Nat->List RV}(Z:X<n):cellAt ((ayQ n).map f) (X:Int) Q=(f X).getD Q default:=by
 simp[cellAt,azM Z]
def LZ(Z:X<n):cb (eJ m wo a n) X 0=gI m wo a n X:=by
 simp only[cb,eJ,H8,abp Z];rfl
def as3(e:TypeId)(v:RV):cN (.sl e) (cN (.sl e) v)=cN (.sl e) v:=by
 obtain⟨x,r⟩:=v;cases x<;>rfl
def Ei(Z:X<n):cr 96 (j5 m wo a b n) X=if gI m wo a n X=true then cr 96 b X else aC []:=by
 simp only[cr,j5,H8,abp Z];show cN (.sl 96) (if gI m wo a n X=true then cN (.sl 96) (cellAt b.rows (X:Int) 0) else aC [])=_;split;exact as3 _ _;rfl
def ak1:(eJ m wo a n).rows.length=n:=by simp[eJ]
def ak2:(j5 m wo a b n).rows.length=n:=by simp[j5]
end
section
variable(W D A B C d:Int)(c l o p s:RV)
def as4{V b wo:RV}{m:List (List RV)}(R:∀i<c.rows.length,iC W D A B C d c l o p s U M V P b i)(Q:∀i<c.rows.length,eI V P i 4=0):∀i<c.rows.length,iC W D A B C d c l o p s U (eJ m wo M c.rows.length) V P (j5 m wo M b c.rows.length) i:=by
 intro i Z;have X:=R i Z;unfold iC at X⊢;rw[LZ Z];by_cases h:gI m wo M c.rows.length i=true;rw[if_pos h];rw[if_pos (abo Z h).2] at X;have e:cr 96 (j5 m wo M b c.rows.length) i=cr 96 b i:=by rw[Ei Z,if_pos h]
 simp only[xt,BS,e] at X⊢;exact X;rw[if_neg h];exact Q i Z
end
end
section
def q21:List Nat:=[0,1,1,0,0,0,1,0,0,0,1,0,1,0,1,0,1,0,0,0,1,1,0,1]
def oes{o:aQ}:uu o o=true:=Og o
noncomputable def vj(m:List (List RV))(d j:RV)(n i:Nat):List (List RV):=(ayQ n).map λk=>[RV.mk (.bool (decide (k<i)&&gI m d j n k)) []]
noncomputable def vk(m:List (List RV))(d j l:RV)(n i:Nat):List (List RV):=(ayQ n).map λk=>[if(decide (k<i)&&gI m d j n k)=true then cr 96 l k else aC []]
def abq{V:Type}(n:Nat)(x:V){f:Nat->V}(h:∀k<n,f k=x):(ayQ n).map f=ayJ n x:=by
 rw[List.eq_replicate_iff];refine⟨by simp,λb Z=> ?_⟩;obtain⟨k,X,rfl⟩:=ay1.1 Z;exact h k (azz.1 X)
section
variable{m:List (List RV)}{d j l:RV}{n:Nat}
def abr:vj m d j n 0=ayJ n [RV.mk (.bool false) []]:=abq n _ λk _=>by simp
def abs:vk m d j l n 0=ayJ n [aC []]:=abq n _ λk _=>by simp
def as6:(vj m d j n X).length=n:=by simp[vj]
def as7:(vk m d j l n X).length=n:=by simp[vk]
def as8:vj m d j n n=(ayQ n).map λk=>[RV.mk (.bool (gI m d j n k)) []]:=LX λk Z=>by simp[Z]
def as9:vk m d j l n n=(ayQ n).map λk=>[if gI m d j n k=true then cr 96 l k else aC []]:=LX λk Z=>by simp[Z]
def ata(h:gI m d j n X=true):(vj m d j n X).modify X (λZ=>dJ Z 0 [RV.mk (.bool true) []])=vj m d j n (X+1):=by
 refine abn n X _ _ _ λk _=> ?_
 by_cases e:k=X;subst e;simp[h,dJ];have:(k<X+1)<->k<X:=by omega
 simp[e,this]
def atb(h:gI m d j n X=true):(vk m d j l n X).modify X (λZ=>dJ Z 0 [cr 96 l X])=vk m d j l n (X+1):=by
 refine abn n X _ _ _ λk _=> ?_
 by_cases e:k=X;subst e;simp[h,dJ];have:(k<X+1)<->k<X:=by omega
 simp[e,this]
def atc(h:gI m d j n X=false):vj m d j n X=vj m d j n (X+1):=by
 refine LX λk _=> ?_
 by_cases e:k=X;subst e;simp[h];have:(k<X+1)<->k<X:=by omega
 simp[this]
def atd(h:gI m d j n X=false):vk m d j l n X=vk m d j l n (X+1):=by
 refine LX λk _=> ?_
 by_cases e:k=X;subst e;simp[h];have:(k<X+1)<->k<X:=by omega
 simp[this]
def ak4:xx m d j (X+1) U<->xx m d j X U\/(aD 0 (m.getD X [])=U/\(cb d X 0=false\/cb j X 0=false)):=by
 constructor;rintro⟨k,R,Z,V⟩;by_cases e:k=X;subst e;exact .inr ⟨Z,V⟩;exact .inl ⟨k,by omega,Z,V⟩;rintro(⟨k,R,Z,V⟩|⟨Z,V⟩);exact⟨k,by omega,Z,V⟩;exact⟨X,by omega,Z,V⟩
end
section
variable(W D A B C p:Int)(q s t w y:RV)
set_option maxHeartbeats 4000000 in
def abt (ai P O N M J I H:Int) (G Q j V F l E d z x k h f u v:RV) (m c b a U:List (List RV)) (n:Nat) (L:List PC) (x0:List SV)
  (hn:n<=1000) (hm:m.length=n) (nY:lenOf l.val=(n:Int)) (ab:∀g,qj U g=true<->xx m d j n g)
  (tK:TB.Ev 39 (wk W D A B C p q s t w y++[.r Q,.i ai,.r (eJ m d j n),.r V,.r (j5 m d j l n)]) (.ret [.i ai,.r (aC (eJ m d j n).rows),.r (aC V.rows),.r (aC c),.r (aC b),.r (aC a)]))
  (h0:x0.map (SV.xv ⟨[W,D,A,B,C,p,ai,P,O,N,M,J,I,H],[],[q,s,t,w,y,G,Q,j,V,F,l,E,d,z,x,k,h,f,aC m,aC U,u,v],[]⟩)=[.i 0,.r (aC (vj m d j n 0)),.r (aC (vk m d j l n 0))]):
  T.wp TB.Ev (λo=>o=.ret [.i ai,.r (aC (eJ m d j n).rows),.r (aC V.rows),.r (aC c),.r (aC b),.r (aC a),.i 0]) (T.loop 5 aaj x0 aal) ⟨[W,D,A,B,C,p,ai,P,O,N,M,J,I,H],[],[q,s,t,w,y,G,Q,j,V,F,l,E,d,z,x,k,h,f,aC m,aC U,u,v],[]⟩ L:=by
 have ag:n<=140737488355328:=by omega
 have al:((m.length:Nat):Int)=(n:Int):=by omega
 refine di n (λi an=>an=[.r (aC (vj m d j n i)),.r (aC (vk m d j l n i))]) (by rw[h0];exact⟨0,rfl,aAq _,rfl⟩) ?_;rintro i _ X rfl;simp[al,nY,as6,as7];refine cY (λX=>⟨X, ?_⟩) (λa0=> ?_);have a2:bc (cellAt m (i:Int) 0).val=aD 0 (m.getD i []):=by simp[cellAt,aD]
 rw[a2,dh X ag,dh X ag];refine cY (λZ=> ?_) (λZ=>⟨X, ?_⟩);have Z:qj U (aD 0 (m.getD i []))=true:=Z;have R:gI m d j n i=false:=LY.2 ((ab _).1 Z);rw[atc R,atd R];have Z:¬qj U (aD 0 (m.getD i []))=true:=Z;have R:gI m d j n i=true:=by
  cases e:gI m d j n i;exact(Z ((ab _).2 (LY.1 e))).elim;rfl
 rw[ata R,<-atb R];rfl;have a3:i=n:=aBK X (aA4 a0);subst a3;have e1:aC (vj m d j i i)=eJ m d j i:=by rw[as8];rfl
 have e2:aC (vk m d j l i i)=j5 m d j l i:=by rw[as9];rfl
 simp only[wk,ayP,ayU] at tK;rw[e1,e2,bC tK];simp
set_option maxHeartbeats 4000000 in
def ate (R:aQ->Prop) (ai E z x v u k:Int) (f G j Q af l bx d ab ag al an a0:RV) (m X V U:List (List RV)) (n:Nat) (L:List PC)
  (H:n<=1000) (Z:m.length=n) (BU:lenOf j.val=(n:Int)) (xz:lenOf d.val=(n:Int)) (nY:lenOf l.val=(n:Int))
  (tK:TB.Ev 39 (wk W D A B C p q s t w y++[.r G,.i ai,.r (eJ m d j n),.r Q,.r (j5 m d j l n)]) (.ret [.i ai,.r (aC (eJ m d j n).rows),.r (aC Q.rows),.r (aC X),.r (aC V),.r (aC U)]))
  (hR:∀o,o=.ret [.i ai,.r (aC (eJ m d j n).rows),.r (aC Q.rows),.r (aC X),.r (aC V),.r (aC U),.i 0]->R o):
  T.wp TB.Ev R (LB.at q21) ⟨[W,D,A,B,C,p,ai,E,z,x,v,u,k],[],[q,s,t,w,y,f,G,j,Q,af,l,bx,d,ab,ag,al,an,a0,aC m],[]⟩ L:=by
 rw[show LB.at q21=T.loop _ _ _ _ from rfl];have a3:n<=140737488355328:=by omega
 have I:(n:Int)<=536870912:=by omega
 have a4:((m.length:Nat):Int)=(n:Int):=by omega
 refine asD (λo=>o=.ret [.i ai,.r (aC (eJ m d j n).rows),.r (aC Q.rows),.r (aC X),.r (aC V),.r (aC U),.i 0]) hR n (λi a5=>∃Z,a5=[.r (aC Z)]/\∀g,qj Z g=true<->xx m d j i g) ⟨0,rfl,aAq _,[],rfl,λg=>⟨λh=>by simp[qj,fY] at h,λ⟨_,hk,_⟩=>absurd hk (aBJ _)⟩⟩ ?_;rintro i _ P ⟨O,rfl,N⟩;simp[a4,xz,BU];refine cY (λP=>⟨P, ?_⟩) (λa6=> ?_);have F:(cb d i 0=false\/cb j i 0=false)->∃Z,aC (fg 1 [RV.mk (Value.int IntKind.i64 (bc (cellAt m (i:Int) 0).val)) [],RV.mk (Value.bool true) []] O)=aC Z/\∀g,qj Z g=true<->xx m d j (i+1) g:=λa7=>⟨_,rfl,λg=>by
  rw[ak0,ak4,ay2,N,decide_eq_true_eq];have:bc (cellAt m (i:Int) 0).val=aD 0 (m.getD i []):=by simp[cellAt,aD]
  rw[this];constructor;rintro(e|e);exact .inr ⟨e.symm,a7⟩;exact .inl e;rintro(e|⟨e,_⟩);exact .inr e;exact .inl e.symm⟩
 simp[dh P a3];refine cY (λM=>⟨P,cY (λJ=> ?_) (λJ=>F (.inr (aBu.2 J)))⟩) (λM=>F (.inl (aBu.2 M)));refine⟨O,rfl,λg=> ?_⟩;rw[N,ak4];have M:cb d i 0=true:=M;have J:cb j i 0=true:=J;rw[M,J];simp;have a8:i=n:=aBK P (aA4 a6);subst a8;rw[show∀{a b:T},Q9 a b=T.dW (.c true) (.c true) a b from rfl,D9];have tJ:J6 (λo=>o=.ret [.i ai,.r (aC (eJ m d j i).rows),.r (aC Q.rows),.r (aC X),.r (aC V),.r (aC U),.i 0]):=single oes;have a9:(lenOf d.val).toNat=i:=by omega
 refine⟨.inl rfl,λ_=> ?_,λ_=> ?_,λ_ _=>tJ⟩;simp[xz,I];rw[show∀{a b:T},Q9 a b=T.dW (.c true) (.c true) a b from rfl,D9];refine⟨.inl rfl,λ_=> ?_,λ_=> ?_,λ_ _=>tJ⟩;simp[xz,I];exact abt W D A B C p q s t w y _ _ _ _ _ _ _ _ _ _ _ _ _ _ _ _ _ _ _ _ _ _ _ m X V U O i _ _ H Z nY N tK (by simp[abr,abs]);simp[xz,I];exact abt W D A B C p q s t w y _ _ _ _ _ _ _ _ _ _ _ _ _ _ _ _ _ _ _ _ _ _ _ m X V U O i _ _ H Z nY N tK (by simp[abr,abs]);simp[xz,I];exact abt W D A B C p q s t w y _ _ _ _ _ _ _ _ _ _ _ _ _ _ _ _ _ _ _ _ _ _ _ m X V U O i _ _ H Z nY N tK (by simp[abr,abs])
end
end
section
section
variable{R:aQ->Prop}{c:List LK}{t:T}{O:aa}{L:List PC}{a b:RV}
def cE(h:bj a b)(i:Int)(j:Nat):bc (cellAt b.rows i j).val=bc (cellAt a.rows i j).val:=((h.cellAt i j).bc).1.symm
def cF(h:bj a b)(i:Int)(j:Nat):gv (cellAt b.rows i j).val=gv (cellAt a.rows i j).val:=((h.cellAt i j).bc).2.1.symm
def lE(h:bj a b):lenOf b.val=lenOf a.val:=(h.bc).2.2.1.symm
def rE(h:bj a b)(Z:Sl a)(X:Sl b):b.rows.length=a.rows.length:=by
 have:=lE h;rw[Z.len,X.len] at this;omega
def atf(h:bj a b)(Z:Sl a)(X:Sl b):TB.Ev 43 [.r a,.r b] (.ret [.b true]):=by
 refine gG rfl rfl (.inl rfl) ?_;have V:=rE h Z X;simp[Sv,Z.len,X.len,V];refine di a.rows.length (λ_ U=>U=[]) ⟨0,rfl,by omega,rfl⟩ ?_;rintro i _ W rfl;simp[Z.len,X.len,V,cF h];intro W;simp[dh W Z.sm,W]
def ak5(h:bj a b)(Z:Sl a)(X:Sl b):TB.Ev 44 [.r a,.r b] (.ret [.b true]):=by
 refine gG rfl rfl (.inl rfl) ?_;have V:=rE h Z X;simp[Sw,Z.len,X.len,V];refine di a.rows.length (λ_ U=>U=[]) ⟨0,rfl,by omega,rfl⟩ ?_;rintro i _ W rfl;simp[Z.len,X.len,V,cE h];intro W;simp[dh W Z.sm,W]
def atg(h:bj a b)(Z:Sl a)(X:Sl b):TB.Ev 98 [.r a,.r b] (.ret [.b true]):=by
 refine gG rfl rfl (.inl rfl) ?_;have V:=rE h Z X;simp[T98,Z.len,X.len,V];refine di a.rows.length (λ_ U=>U=[]) ⟨0,rfl,by omega,rfl⟩ ?_;rintro i _ W rfl;simp[Z.len,X.len,V,cE h,cF h];intro W;simp[dh W Z.sm,W]
def ath(h:bj a b)(X:Sl a)(W:Sl b)(U:∀i<a.rows.length,Sl (cr 96 a i))(cb:∀i<a.rows.length,Sl (cr 96 b i)):TB.Ev 45 [.r a,.r b] (.ret [.b true]):=by
 refine gG rfl rfl (.inl rfl) ?_;have V:=rE h X W;simp[Sx,X.len,W.len,V];refine di a.rows.length (λ_ Q=>Q=[]) ⟨0,rfl,by omega,rfl⟩ ?_;rintro i _ Z rfl;simp[X.len,W.len,V];intro Z;have g:=atg ((h.cellAt i 0).cN (.sl 96)) (U i Z) (cb i Z);simp[Z,bC g,dh Z X.sm]
def ati{n:Int}{F U S Q V X Z N:RV}(E:bj P M)(D:bj F U)(C:bj S Q)(B:bj V X)(H:bj Z N)(A:Sl P)(z:Sl M)(y:Sl F)(x:Sl U)(w:Sl S)(v:Sl Q)(u:Sl V)(s:Sl X)(W:Sl Z)(J:Sl N)(q:∀i<V.rows.length,Sl (cr 96 V i))(p:∀i<V.rows.length,Sl (cr 96 X i)):
  TB.Ev 15 [.i n,.r P,.r F,.r S,.r V,.r Z,.i n,.r M,.r U,.r Q,.r X,.r N] (.ret [.b true]):=by
 refine gG rfl rfl (.inl rfl) ?_;have G:=rE H W J;simp[Su,bC (atf E A z),bC (ak5 D y x),bC (ak5 C w v),bC (ath B u s q p),W.len,J.len,G];refine di Z.rows.length (λ_ o=>o=[]) ⟨0,rfl,by omega,rfl⟩ ?_;rintro i _ I rfl;simp[W.len,J.len,G,cE H];intro I;simp[dh I W.sm,I]
end
end
section
section
variable{R:aQ->Prop}{s:List LK}{t:T}{O:aa}{L:List PC}
variable(W D A B C n:Int)(a d g j m:RV)
def rS(f:Nat->Int):Prop:=BP (f 0) (f 1) (f 2) (f 3) (f 4) (f 5) (f 6) (f 7) (f 8) (f 9) (f 10) (f 11) (f 12)=0
def R74(o:aQ):Prop:=∃Z X V U Q P N M J I H G F e,o=.ret [.i Z,.i X,.i V,.i U,.i Q,.i P,.i N,.i M,.i J,.i I,.i H,.i G,.i F,.i e]/\(e=0->BP Z X V U Q P N M J I H G F=0)
def L4(Z X V U Q P N M J I H G F e:Int):R74 (.ret [.i Z,.i X,.i V,.i U,.i Q,.i P,.i N,.i M,.i J,.i I,.i H,.i G,.i F,.i e])<->(e=0->BP Z X V U Q P N M J I H G F=0):=⟨λ⟨_,_,_,_,_,_,_,_,_,_,_,_,_,_,h,k⟩=>by cases h;exact k,λk=>⟨_,_,_,_,_,_,_,_,_,_,_,_,_,_,rfl,k⟩⟩
def atj:Prop:=∀(Z X V U Q P N M J I H G F:Int)(c:Nat->Int)(p q r:Int)(b:Bool),∃o,TB.Ev 227 ([.i Z,.i X,.i V,.i U,.i Q,.i P,.i N,.i M,.i J,.i I,.i H,.i G,.i F]++ja c++[.i p,.i q,.i r,.b b]) o/\R74 o
set_option maxHeartbeats 4000000 in
def atk:atj:=by
 intro G F E z y x w v u s o n m c p q r b;refine eS rfl rfl (.inl rfl) ?_;by_cases Z:c 4=1\/c 4=2\/c 4=3\/c 4=4\/c 4=5\/c 4=6\/c 4=7\/c 4=8\/c 4=9
 ·rcases Z with h|h|h|h|h|h|h|h|h
  all_goals
   simp(config:={maxSteps:=10000000}) [H5,ja,h,L4]
   try
    (repeat'(first|intro _|split)
     all_goals
      have X:aP .sub .i64 (c 5) 1=c 5-1:=by simp only[aP];exact ef (by omega) (by omega)
      have V:aP .add .i64 (c 5) 1=c 5+1:=by simp only[aP];exact ef (by omega) (by omega)
      simp only[X,V] at*
      first|assumption|omega|(exfalso;omega)|(intro;first|assumption|omega))
 ·simp only[not_or] at Z;obtain⟨U,Q,P,N,M,J,k7,I,H⟩:=Z;simp(config:={maxSteps:=10000000}) [H5,ja,U,Q,P,N,M,J,k7,I,H,L4]
  repeat'(first|intro _|split)
  all_goals first|assumption|omega
def atl(h:gH a d g j m)(be ai:Int)(V U Q P N M J I H G F E z:Int)(r:RV)(hr:Sl r):∃o,TB.Ev 89 (wk W D A B C n a d g j m++[.i be,.i ai,.i V,.i U,.i Q,.i P,.i N,.i M,.i J,.i I,.i H,.i G,.i F,.i E,.i z,.r r]) o/\R74 o:=by
 refine eS rfl rfl (.inl rfl) ?_;have Z:=Ib W D A B C n a d g j m lJ h be ai;have w:=(xo W D A B C n a d g j m lJ h).2;have hl:=LL W D A B C n a d g j m (be:=be) (ai:=ai) w;have hk:=LJ W D A B C n a d g j m (be:=be) (ai:=ai) w;simp only[wk,ayP,ayU] at Z;generalize ep W D A B C n a d g j m be ai=l at*;generalize kW W D A B C n a d g j m be ai=e at*;obtain⟨o,X,v,b,rfl,h3,h4⟩:=SE l r hr hl hk;simp[Ss,wk,bC Z,bC X,L4];refine cY (λ_=>cY (λu hb=> ?_) (λZ X=>absurd X Z)) (λZ X=>absurd X Z);have hv:v.length<=4096:=by have:=(h4 hb).1;omega
 refine di v.length (λi s=>∃f:Nat->Int,s=(ayQ 26).map (λk=>.i (f k))/\rS f/\rS (λk=>f (13+k))) ⟨0,rfl,by omega,λk=>[V,U,Q,P,N,M,J,I,H,G,F,E,z,V,U,Q,P,N,M,J,I,H,G,F,E,z].getD k 0,rfl,u,u⟩ ?_;rintro i s y ⟨f,rfl,q1,q2⟩;rw[show ayQ 26=[0,1,2,3,4,5,6,7,8,9,10,11,12,13,14,15,16,17,18,19,20,21,22,23,24,25] from rfl];simp[L4];refine cY (λy=> ?_) (λ_=>q1);obtain⟨o,q,p,c,y2,y3,y4,y5,y6,y7,y8,y9,ab,af,ag,ee,rfl,g2⟩:=atk (f 13) (f 14) (f 15) (f 16) (f 17) (f 18) (f 19) (f 20) (f 21) (f 22) (f 23) (f 24) (f 25) (eh v i) (eh v i 14) (eh v i 15) (eh v i 16) (gv (cellAt v i 17).val);simp only[ja,eh,ayP,ayU] at q;simp[bC q,dh y (show v.length<=140737488355328 by omega),y,L4];refine cY (λx=> ?_) (λZ X=>absurd X Z);rw[if_pos x];exact⟨λk=>[p,c,y2,y3,y4,y5,y6,y7,y8,y9,ab,af,ag,p,c,y2,y3,y4,y5,y6,y7,y8,y9,ab,af,ag].getD k 0,by simp,g2 x,g2 x⟩
end
end
section
def ak6:∀{a b c d:List XV},jD a b->jD c d->jD (a++c) (b++d)
 |[],[],_,_,_,h=>h
 |[],_::_,_,_,h,_=>h.elim
 |_::_,[],_,_,h,_=>h.elim
 |_::_,_::_,_,_,h,Z=>⟨h.1,ak6 h.2 Z⟩
def atm{U:List (List RV)}(R:Z.length=U.length)(P:∀(i:Nat)(X V:List RV),Z[i]?=some X->U[i]?=some V->X.length=V.length)(O:∀(i j:Nat)(X V:List RV)(c Q:RV),Z[i]?=some X->U[i]?=some V->X[j]?=some c->V[j]?=some Q->bj c Q):bj (aC Z) (aC U):=by
 unfold aC;rw[R];exact bj.sl _ _ _ _ _ _ _ R P O
section
variable{m:List (List RV)}{z F E w p:RV}{n:Nat}
def atn(V:∀k<n,cb E k 0=(cb z k 0&&cb F k 0))(g:Int):xx m F (eJ m z w n) n g<->xx m E w n g:=by
 constructor;rintro⟨k,Z,X,h|h⟩;exact⟨k,Z,X,.inl (by rw[V k Z,h,Bool.and_false])⟩;rw[LZ Z] at h;obtain⟨U,R,Q,P⟩:=LY.1 h;exact⟨U,R,Q.trans X,P.imp (λq=>by rw[V U R,q,Bool.false_and]) id⟩;rintro⟨k,Z,X,h⟩;refine⟨k,Z,X, ?_⟩;rw[LZ Z];cases e:cb F k 0;exact .inl rfl;refine .inr (LY.2 ⟨k,Z,rfl,h.imp (λq=> ?_) id⟩);rw[V k Z,e,aAn] at q;exact q
def abv(Z:∀k<n,cb E k 0=(cb z k 0&&cb F k 0))(k:Nat):gI m F (eJ m z w n) n k=gI m E w n k:=by
 unfold gI;rw[decide_eq_decide.2 (atn Z _)]
def ato(Z:∀k<n,cb E k 0=(cb z k 0&&cb F k 0)):eJ m F (eJ m z w n) n=eJ m E w n:=by
 show aC ((ayQ n).map λk=>[RV.mk (.bool (gI m F (eJ m z w n) n k)) []])=aC ((ayQ n).map λk=>[RV.mk (.bool (gI m E w n k)) []]);exact congrArg aC (LX λk _=>by rw[abv Z k])
def atp(V:∀X<n,cb E X 0=(cb z X 0&&cb F X 0))(Z:X<n)(h:gI m E w n X=true):gI m z w n X=true:=by
 rw[<-abv V] at h;have:=(abo Z h).2
 rwa [LZ Z] at this
def atq(P:∀k<n,cb E k 0=(cb z k 0&&cb F k 0))(N:∀k<n,Sl (cr 96 p k))(M:∀k<n,cr 96 (aC Z) k=aC (cr 96 (j5 m z w p n) k).rows):bj (j5 m F (eJ m z w n) (aC Z) n) (j5 m E w p n):=by
 unfold j5;refine atm ?_ ?_ ?_;rw[azg,azg];intro i L J V U;simp only[ayF,azC] at V U;obtain⟨_,_,rfl⟩:=V;obtain⟨_,_,rfl⟩:=U;rfl;intro i j L J x I V U X R;simp only[ayF,azC] at V U;obtain⟨k,e,rfl⟩:=V;obtain⟨H,O,rfl⟩:=U;rw[e] at O;cases O;have Q:k<n:=azz.1 (ayW e)
 match j,X,R with
 |0,X,R=>
  simp only[azl,ayE] at X R;subst X;subst R;rw[abv P];by_cases h:gI m E w n k=true;rw[if_pos h,if_pos h,M k Q,Ei Q,if_pos (atp P Q h)];exact LW (N k Q);rw[if_neg h,if_neg h];exact bj.refl _
 |j+1,X,R=>simp at X
end
section
variable(W D A B C y:Int)(r s t u v:RV)
def atr(h:gH r s t u v)(ai:Int)(p re':RV)(i:Nat)(Z:Sl (cr 96 p i))(X:cr 96 re' i=aC (cr 96 p i).rows):LQ W D A B C y r s t u v ai re' i=LQ W D A B C y r s t u v ai p i:=by
 have V:=(xk (t85 W D A B C y r s t u v lJ h i ai (cr 96 p i) Z)).1;have U:=(xk (t85 W D A B C y r s t u v lJ h i ai (cr 96 re' i) (by rw[X];exact iB Z.sm))).1;have e:=SU (SZ _ _ (show bj (cr 96 re' i) (cr 96 p i) by rw[X];exact LW Z) (wk W D A B C y r s t u v++[.i i,.i ai])) (by simpa only[azt,ayP,ayU] using U) (by simpa only[azt,ayP,ayU] using V);exact e.1
def ats(h:gH r s t u v)(ai:Int)(f p:RV)(i:Nat)(X:Sl (cr 96 p i))(Z:xt W D A B C y r s t u v ai f p i 13=0):rS (xt W D A B C y r s t u v ai f p i):=by
 obtain⟨o,V,U,R,Q,P,O,N,M,L,J,I,H,G,F,E,rfl,q⟩:=atl W D A B C y r s t u v h i ai (ci f i 0) (ci f i 1) (ci f i 2) (ci f i 3) (ci f i 4) (ci f i 5) (ci f i 6) (ci f i 7) (ci f i 8) (ci f i 9) (ci f i 10) (ci f i 11) (ci f i 12) (cr 96 p i) X;have e:∀k,xt W D A B C y r s t u v ai f p i k=xi [.i U,.i R,.i Q,.i P,.i O,.i N,.i M,.i L,.i J,.i I,.i H,.i G,.i F,.i E] k:=λk=>by simp only[xt,oi,tH V]
 rw[e] at Z;have:=q Z;simp only[rS,e];exact this
variable{ai:Int}{H w f p:RV}{vs G vb:List (List RV)}{n:Nat}
def Ab.cr(k:Ab W D A B C y r s t u v n ai H w f p vs G vb){i:Nat}(Z:i<n):cr 96 (aC G) i=aC (Y.cr 96 p i).rows:=by
 have:=(k.al i Z).1;simp only[Y.cr,H8,this];rfl
def Ab.vg(k:Ab W D A B C y r s t u v n ai H w f p vs G vb)(h:gH r s t u v){i:Nat}(V:i<n)(U:Sl (Y.cr 96 p i))(R:Y.vg f i=0):Y.vg (aC vs) i=0:=by
 obtain⟨_,_,_,X,Q,_⟩:=k.al i V;have Z:∀j<13,ci (aC vs) i j=gS W D A B C y r s t u v ai w f p i j:=Q;simp only[Y.vg,Z 0 (by omega),Z 1 (by omega),Z 2 (by omega),Z 3 (by omega),Z 4 (by omega),Z 5 (by omega),Z 6 (by omega),Z 7 (by omega),Z 8 (by omega),Z 9 (by omega),Z 10 (by omega),Z 11 (by omega),Z 12 (by omega)];unfold iC at X;by_cases c:cb w i 0=true;rw[if_pos c] at X;simp only[gS,if_pos c];exact ats W D A B C y r s t u v h ai f p i U X.1;simp only[gS,if_neg c];exact R
def Ab.vB(k:Ab W D A B C y r s t u v n ai H w f p vs G vb)(h:gH r s t u v){i:Nat}(X:i<n)(V:Sl (Y.cr 96 p i)):Y.vB (aC vb) i=true:=by
 obtain⟨_,_,_,U,_,R⟩:=k.al i X;have Z:∀j<4,ci (aC vb) i j=gB W D A B C y r s t u v ai w f H p i j:=R;have Q:=asO W D A B C y r s t u v h ai w f H p i V U;simp only[Y.vB,Z 0 (by omega),Z 1 (by omega),Z 2 (by omega),Z 3 (by omega)];exact Q.1
def Ab.BW(k:Ab W D A B C y r s t u v n ai H w f p vs G vb)(h:gH r s t u v)(Z:X<n)(V:Sl (Y.cr 96 p X)):iC W D A B C y r s t u v ai w (aC f.rows) H (aC G) X:=by
 have U:=(k.al X Z).2.2.2.1;unfold iC at U⊢;rw[akU W D A B C y r s t u v h ai f (aC f.rows) p (aC G) rfl X V (k.cr W D A B C y r s t u v Z),akV W D A B C y r s t u v h ai f (aC f.rows) H p (aC G) rfl X V (k.cr W D A B C y r s t u v Z)];exact U
end
end
section
section
variable{R:aQ->Prop}{l:List LK}{t:T}{O:aa}{L:List PC}
variable(W D A B C b:Int)(a c d f g:RV)
structure L5(ai:Int)(wg bd mv bf af re bx wo:RV):Prop where
 ex:LR W D A B C b a c d f g ai wg bd mv bf af re bx
 BW:∀i<a.rows.length,iC W D A B C b a c d f g ai mv bf bd re i
 xz:wo.rows.length=a.rows.length
def yP(ai:Int)(Z X N V:RV)(m:List (List RV))(n:Nat)(U Q P:List (List RV)):List XV:=[.i ai,.r (aC (eJ m V Z n).rows),.r (aC X.rows),.r (aC U),.r (aC Q),.r (aC P)]
structure ak7(ai:Int)(bd mv bf re wo:RV)(m vs vr vb:List (List RV)):Prop where
 Ej:TB.Ev 63 (wk W D A B C b a c d f g++[.i ai]) (.ret [.r (aC m),.i 0])
 lm:m.length=a.rows.length
 tK:TB.Ev 39 (wk W D A B C b a c d f g++[.r bd,.i ai,.r (eJ m wo mv a.rows.length),.r bf,.r (j5 m wo mv re a.rows.length)]) (.ret (yP ai mv bf re wo m a.rows.length vs vr vb))
 ab:Ab W D A B C b a c d f g a.rows.length ai bd (eJ m wo mv a.rows.length) bf (j5 m wo mv re a.rows.length) vs vr vb
def R21(ai:Int)(P U Z X N Q M V:RV)(o:aQ):Prop:=(∃e,e≠0/\¬L5 W D A B C b a c d f g ai P U Z X N Q M V/\o=.ret [.i 0,.r (aC []),.r (aC []),.r (aC []),.r (aC []),.r (aC []),.i e])\/
 (L5 W D A B C b a c d f g ai P U Z X N Q M V/\∃m J I H,ak7 W D A B C b a c d f g ai U Z X Q V m J I H/\o=.ret [.i ai,.r (aC (eJ m V Z a.rows.length).rows),.r (aC X.rows),.r (aC J),.r (aC I),.r (aC H),.i 0])
set_option maxHeartbeats 16000000 in
def t21 (h:gH a c d f g) (ai:Int) (F V Q Z E N z H:RV) (J:aba a F V Q Z E N z) (bk:Sl H) (c7:∀i<a.rows.length,True):∃o,TB.Ev 21 (wk W D A B C b a c d f g++[.r F,.r V,.i ai,.r Q,.r Z,.r E,.r N,.r z,.r H]) o/\R21 W D A B C b a c d f g ai F V Q Z E N z H o:=by
 obtain⟨P,hP⟩:∃P:aQ->Prop,∀o,P o<->R21 W D A B C b a c d f g ai F V Q Z E N z H o:=⟨_,λ_=>Iff.rfl⟩
 suffices ch:∃o,TB.Ev 21 (wk W D A B C b a c d f g++[.r F,.r V,.i ai,.r Q,.r Z,.r E,.r N,.r z,.r H]) o/\P o by
  obtain⟨o,g1,g2⟩:=ch;exact⟨o,g1,(hP o).1 g2⟩
 refine eS rfl rfl (.inr λv hv=>by rcases(hP _).1 hv with⟨_,_,_,h⟩|⟨_,_,_,_,_,_,h⟩<;>cases h) ?_;obtain⟨h1,h2⟩:=xo W D A B C b a c d f g lJ h;simp only[wk] at h1;have M:∀{e:Int},e≠0->¬L5 W D A B C b a c d f g ai F V Q Z E N z H->P (.ret [.i 0,.r (aC []),.r (aC []),.r (aC []),.r (aC []),.r (aC []),.i e]):=λ{e} he hn=>(hP _).2 (.inl ⟨e,he,hn,rfl⟩)
 simp[LB,wk,bC h1];simp only[h.rl.len,J.wg.len,J.bd.len,J.mv.len,J.bf.len,J.af.len,J.rsl.len,J.bx.len];refine cY (λh0=> ?_) (λbl=>M bl λK=>bl K.ex.wk);have hw:=h2 h0;have hn:=hw.nr;have bo:a.rows.length<=1000:=by omega
 have cl:a.rows.length<=536870912:=by omega
 refine cY (λh8=>M (by omega) λK=>by have:=K.ex.nw;omega) (λh8=> ?_);refine cY (λc8=> ?_) (λU=>M (by omega) λK=>by have:=K.ex.br;omega);refine cY (λc9=> ?_) (λU=>M (by omega) λK=>by have:=K.ex.br;omega);refine cY (λcp=> ?_) (λU=>M (by omega) λK=>by have:=K.ex.laf;omega);refine cY (λcs=> ?_) (λU=>M (by omega) λK=>by have:=K.ex.lbx;omega);refine cY (λBT=> ?_) (λU=>M (by omega) λK=>by have:=K.ex.BT;omega);refine cY (λBU=> ?_) (λU=>M (by omega) λK=>by have:=K.ex.BU;omega);refine cY (λBV=> ?_) (λU=>M (by omega) λK=>by have:=K.ex.BV;omega);refine cY (λnY=> ?_) (λU=>M (by omega) λK=>by have:=K.ex.nY;omega);have ct:lenOf E.val=(a.rows.length:Int):=by rw[J.af.len];exact cp
 have cv:lenOf z.val=(a.rows.length:Int):=by rw[J.bx.len];exact cs
 have bs:lenOf V.val=(a.rows.length:Int):=by rw[J.bd.len];exact BT
 have a0:lenOf Q.val=(a.rows.length:Int):=by rw[J.mv.len];exact BU
 have bt:lenOf Z.val=(a.rows.length:Int):=by rw[J.bf.len];exact BV
 have a6:lenOf N.val=(a.rows.length:Int):=by rw[J.rsl.len];exact nY
 have y:a.rows.length<=140737488355328:=by omega
 have x:∀i<a.rows.length,Sl (cr 96 N i)/\(cr 96 N i).rows.length<=100:=λi X=>J.fe i (by omega)
 refine di a.rows.length (λi w=>w=[]/\∀k<i,SN V k=0/\vg Z k=0/\(if cb Q k 0 then LQ W D A B C b a c d f g ai N k=0 else(cr 96 N k).rows=[])) ⟨0,rfl,by omega,rfl,by omega⟩ ?_;rintro i _ X ⟨rfl,u⟩;simp[bs,a0,bt,a6];refine cY (λX=> ?_) (λa7=> ?_);have b0:=(xk (t85 W D A B C b a c d f g lJ h i ai (cr 96 N i) (x i X).1)).1;simp only[wk,cr,ayP,ayU] at b0;have b1:=(x i X).1.len;simp only[cr] at b1;simp[dh X y,X,bC b0,b1];refine cY (λa1=> ?_) (λU=>M (by omega) λK=>U (K.ex.dY i X).1);refine cY (λa2=> ?_) (λU=>M (by omega) λK=>U (K.ex.dY i X).2.1);refine cY (λs=> ?_) (λs=> ?_);have I:cb Q i 0=true:=s;refine cY (λq=> ?_) (λU=>M (by omega) λK=>U (by have:=(K.ex.dY i X).2.2;rw[if_pos I] at this;exact this));exact SL u ⟨a1,a2,by rw[if_pos I];exact q⟩;have I:¬cb Q i 0=true:=s;refine cY (λq=> ?_) (λU=>M (by omega) λK=>U (by have:=(K.ex.dY i X).2.2;rw[if_neg I] at this;exact this));exact SL u ⟨a1,a2,by rw[if_neg I];exact q⟩;have p:i=a.rows.length:=by omega
 subst p;refine di a.rows.length (λi w=>w=[]/\∀k<i,vB z k=true/\vg E k=0) ⟨0,rfl,by omega,rfl,by omega⟩ ?_;rintro i _ X ⟨rfl,ag⟩;simp[h.rl.len,ct,cv];refine cY (λX=> ?_) (λa7=> ?_);simp[dh X y,X];refine cY (λa1=>cY (λa2=>SL ag ⟨a1,a2⟩) (λU=>M (by omega) λK=>U (K.ex.box i X).2)) (λU=>M (by omega) λK=>U (K.ex.box i X).1);have p:i=a.rows.length:=by omega
 subst p;refine di F.rows.length (λi w=>w=[]/\∀k<i,nX (ci F k) ai 4=0) ⟨0,rfl,by omega,rfl,by omega⟩ ?_;rintro i _ X ⟨rfl,al⟩;simp[J.wg.len];refine cY (λX=> ?_) (λa7=> ?_);have b2:=f25 (ci F i) ai;simp only[LN,ci,ayP,ayU] at b2;simp[dh X J.wg.sm,X,bC b2];exact cY (λa1=>SL al a1) (λU=>M U λK=>U (K.ex.pth i X));have p:i=F.rows.length:=by omega
 subst p;rw[bC (e86 Q J.mv (by omega))];simp;rw[bC (e87 Z J.bf (by omega))];simp;have ab:LR W D A B C b a c d f g ai F V Q Z E N z:=⟨h0,by omega,by omega,by omega,by omega,by omega,by omega,by omega,by omega,u,ag,al⟩;refine di a.rows.length (λi w=>∃n vr l,w=[.r (aC n),.r (aC vr),.r (aC l)]/\n.length=i/\vr.length=i/\l.length=i/\∀k<i,iC W D A B C b a c d f g ai Q Z V N k/\(∀j<13,bc (cellAt n (k:Int) j).val=gS W D A B C b a c d f g ai Q Z N k j)/\∀j<4,bc (cellAt l (k:Int) j).val=gB W D A B C b a c d f g ai Q Z V N k j) ⟨0,rfl,by omega,[],[],[],rfl,rfl,rfl,rfl,by omega⟩ ?_;rintro i _ X ⟨n,vr,l,rfl,b3,dc,b4,an⟩;simp[bs,a0,bt,a6];refine cY (λX=> ?_) (λa7=> ?_);have b5:=e88 (cr 96 N i) (x i X).1 (by have:=(x i X).2;omega);simp only[cr] at b5;simp[dh X y,X,bC b5];refine⟨by omega,cY (λs=> ?_) (λs=> ?_)⟩;have I:cb Q i 0=true:=s;have b6:=mY _ (SH W D A B C b a c d f g lJ Ie h i ai (ci Z i 0) (ci Z i 1) (ci Z i 2) (ci Z i 3) (ci Z i 4) (ci Z i 5) (ci Z i 6) (ci Z i 7) (ci Z i 8) (ci Z i 9) (ci Z i 10) (ci Z i 11) (ci Z i 12) (cr 96 N i) (x i X).1);simp only[wk,ci,cr,ayP,ayU,Ic,SF,tI] at b6;rw[bC b6];simp;refine cY (λq=> ?_) (λU=>M U λK=>U (by have:=K.BW i X;rw[iC,if_pos I] at this;exact this.1));have b7:=mY _ (SJ W D A B C b a c d f g lJ h i ai (ci Z i 0) (ci Z i 1) (ci Z i 2) (ci Z i 3) (ci Z i 4) (ci Z i 5) (ci Z i 6) (ci Z i 7) (ci Z i 8) (ci Z i 9) (ci Z i 10) (ci Z i 11) (ci Z i 12) _ (zy (cellAt V.rows (i:Int) 0)) (ci V i 1) (ci V i 2) (ci V i 3) (ci V i 4) (ci V i 5) (ci V i 6) (ci V i 7) (ci V i 8) (ci V i 9) (ci V i 10) (ci V i 11) (ci V i 12) (ci V i 13) (ci V i 14) (ci V i 15) (ci V i 16) (cr 96 N i) (x i X).1);simp only[wk,ci,cr,ayP,ayU,Ic,SF,tI] at b7;rw[bC b7];simp[dh X y];refine cY (λa5=> ?_) (λU=>M U λK=>U (by have:=K.BW i X;rw[iC,if_pos I] at this;exact this.2));refine⟨by omega,by omega,_,_,_,⟨rfl,rfl,rfl⟩,by simp;omega,by simp;omega,by simp;omega,λk hk=> ?_⟩;by_cases a8:k=i;subst a8;refine⟨by rw[iC,if_pos I];exact⟨q,a5⟩,λj G=> ?_,λj G=> ?_⟩;rw[xu b3,gS,if_pos I]
 match j,G with
 |0,_|1,_|2,_|3,_|4,_|5,_|6,_|7,_|8,_|9,_|10,_|11,_|12,_=>rfl
 rw[xu b4,gB,if_pos I]
 match j,G with
 |0,_|1,_|2,_|3,_=>rfl
 obtain⟨q1,q2,q3⟩:=an k (by omega);exact⟨q1,λj G=>by rw[xw (by omega)];exact q2 j G,λj G=>by rw[xw (by omega)];exact q3 j G⟩;have I:¬cb Q i 0=true:=s;refine cY (λq=> ?_) (λU=>M U λK=>U (by have:=K.BW i X;rw[iC,if_neg I] at this;exact this));refine⟨by omega,by omega,_,_,_,⟨rfl,rfl,rfl⟩,by simp;omega,by simp;omega,by simp;omega,λk hk=> ?_⟩;by_cases a8:k=i;subst a8;refine⟨by rw[iC,if_neg I];exact q,λj G=> ?_,λj G=> ?_⟩;rw[xu b3,gS,if_neg I]
 match j,G with
 |0,_|1,_|2,_|3,_|4,_|5,_|6,_|7,_|8,_|9,_|10,_|11,_|12,_=>rfl
 rw[xu b4,gB,if_neg I]
 match j,G with
 |0,_|1,_|2,_|3,_=>rfl
 obtain⟨q1,q2,q3⟩:=an k (by omega);exact⟨q1,λj G=>by rw[xw (by omega)];exact q2 j G,λj G=>by rw[xw (by omega)];exact q3 j G⟩;have p:i=a.rows.length:=by omega
 subst p;have nu:=λk hk=>(an k hk).1
 have ab:LR W D A B C b a c d f g ai F V Q Z E N z:=⟨h0,by omega,by omega,by omega,by omega,by omega,by omega,by omega,by omega,u,ag,al⟩;simp only[bk.len,h.rl.len];refine cY (λxz=> ?_) (λU=>M (by omega) λK=>U (by have:=K.xz;omega));have cx:hJ ai 0 (b-1)=true:=by simp;omega
 obtain⟨o,g1,dd,df,rfl,c1,c2,c3⟩:=asH W D A B C b a c d f g h ai;have cy:=c3 h0 cx;subst cy;obtain⟨o,Ej,hr⟩:=t63 W D A B C b a c d f g h ai g1 c2 c1 bo;rcases hr with⟨hz,-⟩|⟨-,m,rfl,gk⟩;exact absurd rfl hz;have b8:=Ej;simp only[wk,ayP,ayU] at b8;rw[bC b8];simp;have s1:∀i<a.rows.length,eI Z V i 4=0:=λi X=>(asL Z V i).2 ⟨(u i X).2.1,(u i X).1⟩
 have ca:=as4 W D A B C b a c d f g (m:=m) (wo:=H) nu s1;obtain⟨cI,tK,cc⟩:=t39 W D A B C b a c d f g h ai V (eJ m H Q a.rows.length) Z (j5 m H Q N a.rows.length) J.bd (iB (by rw[azg,aBv];exact y)) J.bf (iB (by rw[azg,aBv];exact y)) y cl ab.BT ak1 ab.BV ak2 (λi X=>by
  rw[ak2] at X;rw[Ei X];split;exact x i X;exact⟨iB (by simp),by simp⟩)
 obtain⟨a9,bb,bg,rfl,cf⟩:∃n vr l,cI=.ret (yP ai Q Z N H m a.rows.length n vr l)/\Ab W D A B C b a c d f g a.rows.length ai V (eJ m H Q a.rows.length) Z (j5 m H Q N a.rows.length) n vr l:=by
  rcases cc with⟨_,_,⟨k,hk,c0⟩,_⟩|⟨_,_,_,h,h'⟩;exact(c0 (ca k hk)).elim;exact⟨_,_,_,h,h'⟩
 have c4:∀o,o=.ret [.i ai,.r (aC (eJ m H Q a.rows.length).rows),.r (aC Z.rows),.r (aC a9),.r (aC bb),.r (aC bg),.i 0]->P o:=λo ho=>(hP o).2 (.inr ⟨⟨ab,nu,aB3.1 xz⟩,m,a9,bb,bg,⟨Ej,gk.len,tK,cf⟩,ho⟩)
 have c5:lenOf H.val=(a.rows.length:Int):=by rw[bk.len];exact xz
 have c6:=gk.len;clear cc M hP an g1 c1 c2 c3 h1 cf gk ca s1 nu u ag al ab;exact ate W D A B C b a c d f g P ai _ _ _ _ _ _ F V Q Z E N z H _ _ _ _ _ m a9 bb bg a.rows.length _ bo c6 a0 c5 a6 tK c4
end
end
section
section
variable(W D A B C l:Int)(a d f g j:RV)
def rN(Z X:RV)(n i:Nat):List (List RV):=(ayQ n).map λk=>[RV.mk (.bool (decide (k<i)&&(cb Z k 0&&cb X k 0))) []]
def att:rN P M X 0=ayJ X [RV.mk (.bool false) []]:=abq X _ λk _=>by simp
def abx:(rN P M X Q).length=X:=by simp[rN]
def atu(Z:Q<X):cb (aC (rN P M X X)) Q 0=(cb P Q 0&&cb M Q 0):=by
 simp only[cb,H8,rN,abp Z];simp[Z,gv]
def ak9{x:Bool}(h:x=(cb P Q 0&&cb M Q 0)):(rN P M X Q).modify Q (λZ=>dJ Z 0 [RV.mk (.bool x) []])=rN P M X (Q+1):=by
 refine abn X Q _ _ _ λk _=> ?_
 by_cases e:k=Q;subst e;simp[h,dJ];have:(k<Q+1)<->k<Q:=by omega
 simp[e,this]
def atv(h:gH a d f g j){V O E R z Q J:RV}{I N H:List (List RV)}(G:∀i<a.rows.length,Sl (cr 96 R i))(K:L5 W D A B C l a d f g j U P M V O E R z Q)(k:ak7 W D A B C l a d f g j U M V O R Q Z I N H)(y:J.rows.length=a.rows.length):
  L5 W D A B C l a d f g j U P M (eJ Z Q V a.rows.length) (aC O.rows) (aC I) (aC N) (aC H) J:=by
 have L:∀i<a.rows.length,Sl (cr 96 (j5 Z Q V R a.rows.length) i):=λi X=>by
  rw[Ei X];split;exact G i X;exact iB (by simp)
 refine⟨⟨K.ex.wk,K.ex.nw,K.ex.br,k.ab.ls,k.ab.lb,K.ex.BT,ak1,K.ex.BV,k.ab.lr,λi X=> ?_,λi X=> ?_,K.ex.pth⟩,λi X=>k.ab.BW W D A B C l a d f g j h X (L i X),y⟩;obtain⟨x,w,F⟩:=K.ex.dY i X;refine⟨x,w, ?_⟩;rw[LZ X];by_cases c:gI Z Q V a.rows.length i=true;rw[if_pos c];rw[if_pos (abo X c).2] at F;have e:=k.ab.cr W D A B C l a d f g j X;rw[Ei X,if_pos c] at e;rw[atr W D A B C l a d f g j h U R (aC N) i (G i X) e];exact F;rw[if_neg c];rw[k.ab.cr W D A B C l a d f g j X,Ei X,if_neg c];rfl;exact⟨k.ab.vB W D A B C l a d f g j h X (L i X),k.ab.vg W D A B C l a d f g j h X (L i X) (K.ex.dY i X).2.1⟩
set_option maxHeartbeats 8000000 in
def t7 (hS:TB.Ev 11 [] (.ret [.b true])) (h:gH a d f g j) (ai:Int) (J N R Q G U F V P:RV) (h1:Sl J) (h2:Sl N) (h3:Sl R) (E:Sl Q) (h5:Sl G) (u:Sl U) (h7:Sl F) (t:∀i<U.rows.length,Sl (cr 96 U i)) (y:Sl V) (s:Sl P):
  TB.Ev 7 (wk W D A B C l a d f g j++[.r J,.r N,.i ai,.r R,.r Q,.r G,.r U,.r F,.r V,.r P]) (.ret [.b true]):=by
 refine gG rfl rfl (.inl rfl) ?_;obtain⟨a6,al,a7,rfl,p⟩:=t12 W D A B C l a d f g j J N Q U (by rw[u.len];omega);simp only[wk,ayP,ayU] at al;simp[T7,wk,bC hS,bC al,y.len,s.len,h.rl.len];intro hb x lt;have x:=aB3.1 x;have lt:=aB3.1 lt;have p:=p hb;have an:∀i<U.rows.length,Sl (cr 96 U i)/\(cr 96 U i).rows.length<=100:=λi Z=>⟨t i Z,by
  have:=p.fe i (by rw[u.len];omega);rw[(t i Z).len] at this;omega⟩
 have hA:aba a J N R Q G U F:=⟨h1,h2,h3,E,h5,u,h7,an⟩;obtain⟨_,g1,q⟩:=t21 W D A B C l a d f g j h ai J N R Q G U F V hA y (λ_ _=>trivial);simp only[wk,ayP,ayU] at g1;rw[bC g1];rcases q with⟨e,he,-,rfl⟩|⟨K,m,vs,z,vb,k,rfl⟩;simp[he,bC asS];have hn:a.rows.length<=64:=((xo W D A B C l a d f g j lJ h).2 K.ex.wk).nr.2;have O:a.rows.length<=140737488355328:=azF hn (by decide);have w:∀i<a.rows.length,Sl (cr 96 U i):=λi Z=>t i (by rw[K.ex.nY];exact Z)
 have Eg:∀i<a.rows.length,(cr 96 U i).rows.length<=100:=λi Z=>(an i (by rw[K.ex.nY];exact Z)).2
 have a0:∀k<a.rows.length,cb (aC (rN V P a.rows.length a.rows.length)) k 0=(cb V k 0&&cb P k 0):=λk hk=>atu hk
 have sM:∀{w':RV}{mv':RV},Sl (eJ m w' mv' a.rows.length):=iB (by simp;omega);have v:∀{w':RV}{mv' re':RV},(∀i<a.rows.length,Sl (cr 96 re' i)/\(cr 96 re' i).rows.length<=100)->∀i<a.rows.length,Sl (cr 96 (j5 m w' mv' re' a.rows.length) i)/\(cr 96 (j5 m w' mv' re' a.rows.length) i).rows.length<=100:=λ{w' mv' re'} q i Z=>by
  rw[Ei Z];split;exact q i Z;exact⟨iB (by simp),by simp⟩
 have o:∀i<a.rows.length,Sl (cr 96 (aC z) i)/\(cr 96 (aC z) i).rows.length<=100:=λi Z=>by
  rw[k.ab.cr W D A B C l a d f g j Z];have:=v (w':=V) (mv':=R) (re':=U) (λi Z=>⟨w i Z,Eg i Z⟩) i Z;exact⟨iB this.1.sm,this.2⟩
 have X:aba a J N (eJ m V R a.rows.length) (aC Q.rows) (aC vs) (aC z) (aC vb):=⟨h1,h2,sM,iB E.sm,iB (by rw[k.ab.ls];exact O),iB (by rw[k.ab.lr];exact O),iB (by rw[k.ab.lb];exact O),λi Z=>o i (by rw[<-k.ab.lr];exact Z)⟩;obtain⟨_,g2,q⟩:=t21 W D A B C l a d f g j h ai J N (eJ m V R a.rows.length) (aC Q.rows) (aC vs) (aC z) (aC vb) P X s (λ_ _=>trivial);rcases q with⟨_,_,c,_⟩|⟨_,m',a8,a9,bb,M,rfl⟩;exact(c (atv W D A B C l a d f g j h w K k lt)).elim;obtain rfl:m'=m:=by
  have:=Ox M.Ej k.Ej;injection this with this;injection this with this _;injection this with this;exact congrArg RV.rows this
 obtain⟨_,g3,q⟩:=t21 W D A B C l a d f g j h ai J N R Q G U F (aC (rN V P a.rows.length a.rows.length)) hA (iB (by rw[abx];exact O)) (λ_ _=>trivial);rcases q with⟨_,_,c,_⟩|⟨_,L,bg,bk,bl,I,rfl⟩;exact(c ⟨K.ex,K.BW,abx⟩).elim;obtain rfl:L=m':=by
  have:=Ox I.Ej k.Ej;injection this with this;injection this with this _;injection this with this;exact congrArg RV.rows this
 have e:=SU (ak6 (LV (wk W D A B C l a d f g j)) (show jD [.r N,.i ai,.r (eJ L P (eJ L V R a.rows.length) a.rows.length),.r (aC Q.rows),.r (j5 L P (eJ L V R a.rows.length) (aC z) a.rows.length)] [.r N,.i ai,.r (eJ L (aC (rN V P a.rows.length a.rows.length)) R a.rows.length),.r Q,.r (j5 L (aC (rN V P a.rows.length a.rows.length)) R U a.rows.length)] from⟨bj.refl _,rfl,by rw[ato a0];exact bj.refl _,LW E,atq a0 w λi Z=>k.ab.cr W D A B C l a d f g j Z,trivial⟩)) M.tK I.tK;obtain⟨_,e1,e2,e3,e4,e5,_⟩:=e;have ag:=ati (n:=ai) e1 e2 e3 e4 e5 (iB (by simp[eJ];omega)) (iB (by simp[eJ];omega)) (iB E.sm) (iB E.sm) (iB (by rw[M.ab.ls];exact O)) (iB (by rw[I.ab.ls];exact O)) (iB (by rw[M.ab.lr];exact O)) (iB (by rw[I.ab.lr];exact O)) (iB (by rw[M.ab.lb];exact O)) (iB (by rw[I.ab.lb];exact O)) (λi Z=>by
  have Z:i<a.rows.length:=by rw[<-M.ab.lr];exact Z
  rw[M.ab.cr W D A B C l a d f g j Z];exact iB (v o i Z).1.sm) (λi Z=>by
  have Z:i<a.rows.length:=by rw[<-M.ab.lr];exact Z
  rw[I.ab.cr W D A B C l a d f g j Z];exact iB (v (λi Z=>⟨w i Z,Eg i Z⟩) i Z).1.sm)
 clear e1 e2 e3 e4 e5 M I k X v o;simp only[wk,ayP,ayU] at g2 g3;have b0:rN V P a.rows.length 0=ayJ a.rows.length [RV.mk (.bool false) []]:=att;have a2:(a.rows.length:Int)<=536870912:=by omega
 simp[y.len,x,a2];refine di a.rows.length (λi a3=>a3=[.r (aC (rN V P a.rows.length i))]) ⟨0,rfl,aAq _,by simp[b0]⟩ ?_;rintro i _ Z rfl;simp[y.len,s.len,x,lt,abx];refine cY (λZ=>⟨Z, ?_⟩) (λa4=> ?_);rw[dh Z O,dh Z O];refine cY (λH=>⟨Z, ?_⟩) (λH=>⟨Z, ?_⟩);have H:cb V i 0=true:=H;rw[ak9 (by rw[H];rfl)];have H:cb V i 0=false:=aBu.2 H;rw[ak9 (by rw[H];rfl)];have a5:i=a.rows.length:=aBK Z (aA4 a4);subst a5;rw[show aC (eJ L V R a.rows.length).rows=eJ L V R a.rows.length from rfl,bC g2];simp;rw[bC g3];simp;rw[show aC Q.rows=aC (aC Q.rows).rows from rfl] at ag;simp only[H8] at ag⊢;rw[bC ag];simp
end
end
end
end Go.Proofs.YtieaiocljdpebaaGreatDoor.Y
