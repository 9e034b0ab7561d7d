/- Part 25 of the proof; the last part says what is shown. -/
import Derived.Test.YtieaiocljdpebaaGreatDoorQ24
import Derived.Test.YtieaiocljdpebaaGreatDoorQ11
import Derived.Test.YtieaiocljdpebaaGreatDoorRows
import Derived.Carry
import Derived.ProofKit
import Derived.OpenShut
import Derived.LaidMore
import Derived.Stop.Joined
import Derived.Handed
set_option linter.all false
open Bool renaming and_eq_true->axI
open List renaming getElem?_eq_getElem->axK,getD_eq_getElem?_getD->axN,getElem?_map->axO,mem_cons->axT,replicate->axW,all_eq_true->axU,range->ax6,getElem?_take->ayi,getElem?_cons_succ->ayk,getElem?_drop->ayq,length_map->ayA,getElem?_replicate->ayO,mem_range->ayR,getElem_mem->ayT,getElem?_range->ay7,length_drop->ay9,append_nil->azf,length_take->azj,drop_drop->azA,not_mem_nil->azs,all_cons->azx,length_range->aBr
open Option.some renaming injEq->axM,inj->aym
open Nat renaming le_refl->axQ,zero_add->ayg,add_mul->ayN,mul_le_mul_right->ayX
open Option renaming map_some->axR,isSome_iff_exists->ax1,getD_some->ayo
open Array renaming getElem?_toList->azT
open Int renaming toNat_natCast->ayE
namespace Go.Proofs.YtieaiocljdpebaaGreatDoor.Y
open Go.RowKit
noncomputable section
variable{R:List LK}{Q:List XV}{Z:World}{M:Ty}{N:TypeId}{L:RV}{U:Nat}{X:List MemPlace}
def aC4:([32,35,36,3,37,38,39,5,5]:List TypeId).all (ud Tryz.prog (look TT) 9)=true:=by kernel_rfl
def pt9:look PT 9=some [32,35,36,3,37,38,39,5,5]:=by kernel_rfl
def aC6:look SG 9=some [4]:=by kernel_rfl
def q9:fb (look TT) [4]=some [.bool]:=by kernel_rfl
def k9:fb (look TT) [32,35,36,3,37,38,39,5,5]=some [.int .i64,.int .i64,.int .i64,.int .i64,.int .i64,.ref (.sl 173),.int .i64,.ref (.sl 175),.ref (.sl 312),.ref (.sl 314),.ref (.sl 90),.ref (.sl 73),.ref (.sl 79),.int .i64,.ref (.sl 4),.ref (.sl 71),.ref (.sl 82),.int .u8,.int .u8]:=by kernel_rfl
def r82:ba (look TT) (.sl 82)=[.aq (.slice none 0 0) (.sl 96)]:=by kernel_rfl
def EX{k:IntKind}(h:cV (.int k::R) Q):∃n Z,Q=.i n::Z/\cV R Z:=by
 cases Q with
 |nil=>exact h.elim
 |cons x Q=>
  cases x with
  |i n=>exact⟨n,Q,rfl,h.2⟩
  |b n=>exact h.1.elim
  |r n=>exact h.1.elim
def sj{k:RK}(h:cV (.ref k::R) Q):∃n Z,Q=.r n::Z/\cV R Z:=by
 cases Q with
 |nil=>exact h.elim
 |cons x Q=>
  cases x with
  |r n=>exact⟨n,Q,rfl,h.2⟩
  |b n=>exact h.1.elim
  |i n=>exact h.1.elim
def qJ(h:aX Z M (.sl N) L)(X:nR L):Sl L:=by
 cases X with
 |mk L V R=>
 cases h with
 |sl N A Q P O U J I H G F=>
  refine⟨⟨_,_,_,rfl⟩, ?_,V⟩;simp only[RV.kf,RV.jz,lenOf,U]
def avY(h:aX Z (look TT) (.sl 82) L)(O:nR L):∀i<L.rows.length,Sl (cr 96 L i):=by
 intro i V;cases O with
 |mk E D R=>
 cases h with
 |sl e A N M X C B J z y I=>
  rw[RV.jz] at V R;have U:X[i]?=some X[i]:=axK V;have x:(X[i]).length=1:=by have:=(J i _ U).1;rw[r82] at this;exact this
  have Q:(X[i])[0]?=some (X[i])[0]:=axK (by omega);have H:=I i 0 _ _ _ _ U Q (by rw[r82];rfl);have G:=R _ (ayT V) _ (ayT (by omega:0<(X[i]).length));have P:=qJ H G;have e:cr 96 (.mk (.slice A N M) X) i=(X[i])[0]:=by
   unfold cr cellAt;simp only[RV.jz,ayE,axN,U,Q,ayo];obtain⟨a,n,c,F⟩:=P.sl;simp[cd,F]
  rw[e];exact P
def aC7(hS:TB.Ev 11 [] (.ret [.b true])){H:Type}{ag:TypeId×Value->H}{spare:Nat->Bool}{al:Bool}{N:List Value}{l:List (DataW H)}(hG:GW Z)(hT:DataW.TrodAll ag Tryz.prog Z U spare al [32,35,36,3,37,38,39,5,5] N l X)(hw:∀q∈DataW.weightsEach Tryz.prog [32,35,36,3,37,38,39,5,5] l,q<=reachBytes)
  (hv:∀(j:Nat)(t:TypeId)(v:Value)(E:TI),([32,35,36,3,37,38,39,5,5]:List TypeId)[j]?=some t->N[j]?=some v->look TT t=some E->(E.d.isAgg=true/\v=.agg v.cells)\/(E.d.isAgg=false/\v.cells.toList=[v])):
  Calls Tryz.prog 9 N.toArray Z λe k=>e=.returned (.bool true)/\Below Z.heap.size Z k:=by
 obtain⟨ks,xs,g,f,h3,V,R,c⟩:=avq IQ aC4 hT hw hv;rw[k9] at g;cases g;have hf:=f;obtain⟨a,x1,rfl,an⟩:=EX hf;obtain⟨D,x2,rfl,a0⟩:=EX an;obtain⟨A,x3,rfl,a1⟩:=EX a0;obtain⟨B,x4,rfl,a2⟩:=EX a1;obtain⟨C,x5,rfl,a3⟩:=EX a2;obtain⟨M,x6,rfl,a4⟩:=sj a3;obtain⟨ac,x7,rfl,a5⟩:=EX a4;obtain⟨L,x8,rfl,a6⟩:=sj a5;obtain⟨J,x9,rfl,a7⟩:=sj a6;obtain⟨I,b3,rfl,a8⟩:=sj a7;obtain⟨G,b4,rfl,a9⟩:=sj a8;obtain⟨z,b5,rfl,bb⟩:=sj a9;obtain⟨x,b6,rfl,bk⟩:=sj bb;obtain⟨ae,b7,rfl,br⟩:=EX bk;obtain⟨w,b8,rfl,bs⟩:=sj br;obtain⟨u,ca,rfl,bt⟩:=sj bs;obtain⟨F,cc,rfl,bx⟩:=sj bt;obtain⟨Q,cf,rfl,bX⟩:=EX bx;obtain⟨P,b0,rfl,b1⟩:=EX bX;cases b0 with
 |cons _ _=>exact b1.elim
 |nil=>
 have s:=c 17 .u8 Q rfl rfl;have p:=c 18 .u8 P rfl rfl;have s:0<=Q/\Q<=255:=by
  simp[Lit.wf,IntKind.min,IntKind.max,IntKind.bits,IntKind.signed] at s;omega
 have p:0<=P/\P<=255:=by
  simp[Lit.wf,IntKind.min,IntKind.max,IntKind.bits,IntKind.signed] at p;omega
 have s1:fF M L J I G:=⟨qJ (V 5 _ M rfl rfl) (R _ (by simp)),qJ (V 7 _ L rfl rfl) (R _ (by simp)),qJ (V 8 _ J rfl rfl) (R _ (by simp)),qJ (V 9 _ I rfl rfl) (R _ (by simp)),qJ (V 10 _ G rfl rfl) (R _ (by simp))⟩;obtain⟨n,hn⟩:=t9 a D A B C ac M L J I G hS s1 ae z x w u F (qJ (V 11 _ z rfl rfl) (R _ (by simp))) (qJ (V 12 _ x rfl rfl) (R _ (by simp))) (qJ (V 14 _ w rfl rfl) (R _ (by simp))) (qJ (V 15 _ u rfl rfl) (R _ (by simp))) (qJ (V 16 _ F rfl rfl) (R _ (by simp))) (avY (V 16 _ F rfl rfl) (R _ (by simp))) Q P s p;have af:=Th avT n 9 _ _ _ _ pt9 aC6 k9 q9 _ _ _ hn (Tj _) f Z (λ_=>hG) V;have b2:aaA (look TT) [32,35,36,3,37,38,39,5,5] (lS _ (wk a D A B C ac M L J I G++[.r z,.r x,.i ae,.r w,.r u,.r F,.i Q,.i P]))=N:=h3;rw[b2] at af;refine af.mono ?_;intro e k h;cases e with
 |returned v=>
  obtain⟨yh,o,m,O,e3,rfl,hB,_,_⟩:=h;cases m;cases o with
  |nil=>exact O.elim
  |cons y o=>
   cases o with
   |cons _ _=>exact O.2.elim
   |nil=>
    cases y with
    |b q=>
     have:true=q:=O.1;subst this;exact⟨rfl,hB⟩
    |i q=>exact O.1.elim
    |r q=>exact O.1.elim
 |panicked ch=>obtain⟨_,v,m,_⟩:=h;cases m
 |outgrown=>exact h.elim
variable{O:Program}{V:Array Value}
section
open Go.ChangeShapes Go.RowKit
def av0{H:Type}{M:TypeId×Value->H}(I:laidOutB O=true){L:World}(G:Below Z.heap.size Z L):∀{X:List TypeId}{U:List Value}{R:List (DataW H)}{V:List MemPlace},X.all (λt=>O.readableRec t&&decide (t<O.types.size))=true->DataW.TrodAll M O Z 0 (λ_=>true) true X U R V->(∀x∈V,x.block<Z.heap.size)->DataW.TrodAll M O L 0 (λb=>decide (b<Z.heap.size)) true X U R V:=by
 intro X;induction X with
 |nil=>
  intro U R V _ h _;obtain⟨rfl,rfl,rfl⟩:=trodAll_nil h;exact rfl
 |cons t X F=>
  intro U R V Q h J;obtain⟨v,C,d,B,p,q,rfl,rfl,rfl,E,D⟩:=trodAll_cons h;simp only[azx,axI,decide_eq_true_eq] at Q;exact⟨p,q,Go.RowKit.Below.trod I Q.1.1 Q.1.2 E G (λx N=>J x (by simp[N])),F (by simpa using Q.2) D (λx N=>J x (by simp[N])),rfl⟩
def aC8:laidOutB Tryz.prog=true:=by kernel_rfl
def rd9:([32,35,36,3,37,38,39,5,5]:List TypeId).all (λt=>Tryz.prog.readableRec t&&decide (t<Tryz.prog.types.size))=true:=by kernel_rfl
def aDa{H:Type}{Q:TypeId×Value->H}{P:World}{J I:List (DataW H)}(U:DataW.Whole Q Tryz.prog Tryz.f9.params.toList [] false Z V.toList J I X)(O:Below Z.heap.size Z P):
  Go.Proofs.YtieaiocljdpebaaGreatDoor.Rows.certifyMadeSpec.post Q Tryz.prog Tryz.f9 false true false false Z V (.bool true) P:=by
 have G:=U.lt;have F:=U;obtain⟨p,q,N,E,rfl,_,_⟩:=U;obtain⟨rfl,rfl⟩:=trodVars_none E;have R:Tryz.f9.params.toList=[32,35,36,3,37,38,39,5,5]:=by rw[Tryz.params9]
 have M:=N;rw[R] at M;obtain⟨t,s,r,o,n,m,_,rfl,rfl,_,D⟩:=trodAll_cons M;obtain⟨l,k,j,i,g,f,_,rfl,rfl,_,C⟩:=trodAll_cons D;obtain⟨e,d,c,b,a,q3,_,rfl,rfl,_,B⟩:=trodAll_cons C;obtain⟨v4,r4,d4,e4,p4,q4,_,rfl,rfl,_,A⟩:=trodAll_cons B;obtain⟨v5,r5,d5,e5,p5,q5,_,rfl,rfl,_,z⟩:=trodAll_cons A;obtain⟨v6,r6,d6,e6,p6,q6,_,rfl,rfl,_,y⟩:=trodAll_cons z;obtain⟨v7,r7,d7,e7,p7,q7,_,rfl,rfl,_,w⟩:=trodAll_cons y;obtain⟨v8,r8,d8,e8,p8,q8,_,rfl,rfl,_,v⟩:=trodAll_cons w;obtain⟨v9,r9,d9,e9,p9,q9,_,rfl,rfl,_,k9⟩:=trodAll_cons v;obtain⟨_,rfl,rfl⟩:=trodAll_nil k9;have L:=av0 aC8 O rd9 (by rw[<-R];exact N) (λx u=>G x (by simpa using u));rw[<-R] at L;exact⟨_,_,_,[],_,[],F,trodAll_mk1 (shut_bool Tryz.underlying4 _),L,rfl,Below.frame O _,λh=>(by cases h)⟩
end
section
open Go.ChangeShapes Go.RowKit Go.ChangeAt
abbrev gn(k:Nat):String:=Go.Proofs.YtieaiocljdpebaaGreatDoor.Rows.certifyMadeRow.named.getD k ""
abbrev L3{H:Type}:List (String×DataW H):=[(gn 1,Go.Proofs.YtieaiocljdpebaaGreatDoor.Rows.laid_kinesphere_space_flat),(gn 0,Go.Proofs.YtieaiocljdpebaaGreatDoor.Rows.laid_kinesphere_expand_kinds),(gn 2,Go.Proofs.YtieaiocljdpebaaGreatDoor.Rows.laid_kinesphere_motion_kinds)]
def av4(jF:fK O M){L:TI}{v:Value}(h:M N=some L)(V:Value.okWide O Z .any U N v):(L.d.isAgg=true/\v=.agg v.cells)\/(L.d.isAgg=false/\v.cells.toList=[v]):=by
 have X:=(jF N L h).desc;have J:∀d,O.underlying N=some d->(∀F,d≠ .struct F)->(∀n e,d≠ .array n e)->v.cells.toList=[v]:=by
  intro d Q G E;cases v<;>try rfl
  case agg I=>
   exfalso;unfold Value.okWide at V;rw[Q] at V;cases d<;>first|exact G _ rfl|exact E _ _ rfl|simp[Cell.okWide,Cell.ok,Q] at V
 cases D:L.d<;>rw[D] at X
 case one=>
  obtain⟨d,Q,⟨H,_⟩,_⟩:=X;exact .inr ⟨rfl,J d Q (λF e=>by subst e;exact H) (λn e R=>by subst R;exact H)⟩
 case dV=>obtain⟨m,Q⟩:=X;exact .inr ⟨rfl,J _ Q (λF e=>by cases e) (λn e R=>by cases R)⟩
 case str=>exact .inr ⟨rfl,J _ X (λF e=>by cases e) (λn e R=>by cases R)⟩
 case slice e=>exact .inr ⟨rfl,J _ X (λF e=>by cases e) (λn e R=>by cases R)⟩
 case map k e n C=>exact .inr ⟨rfl,J _ X (λF e=>by cases e) (λn e R=>by cases R)⟩
 case arr n e=>
  have X:O.underlying N=some (.array n e):=X;unfold Value.okWide at V;rw[X] at V;obtain⟨I,rfl,_⟩:=V;exact .inl ⟨rfl,rfl⟩
 case struct B=>
  obtain⟨F,Q,_⟩:=X;unfold Value.okWide at V;rw[Q] at V;obtain⟨I,rfl,_⟩:=V;exact .inl ⟨rfl,rfl⟩
def av5:ownKnob Tryz.prog.godebug=none:=by kernel_rfl
set_option maxRecDepth 100000 in
def aDb (I:TB.Ev 11 [] (.ret [.b true])) {H:Type} {Q:TypeId×Value->H} {P O:List (DataW H)} (G:GW Z)
  (F:∀(j:Nat) t v,Tryz.f9.params[j]?=some t->V[j]?=some v->Value.okWide Tryz.prog Z .any U t v) (N:DataW.Whole Q Tryz.prog Tryz.f9.params.toList [] false Z V.toList P O X)
  (R:(DataW.weightsEach Tryz.prog (Tryz.f9.params.toList++[]) (P++O)).all (·<=reachBytes)=true):
  Calls Tryz.prog 9 V Z λe M=>∃v,e=.returned v/\Go.Proofs.YtieaiocljdpebaaGreatDoor.Rows.certifyMadeSpec.post Q Tryz.prog Tryz.f9 false true false false Z V v M:=by
 have E:=N;obtain⟨p,q,L,D,rfl,_,_⟩:=N;obtain⟨rfl,rfl⟩:=trodVars_none D;have J:Tryz.f9.params.toList=[32,35,36,3,37,38,39,5,5]:=by rw[Tryz.params9]
 rw[J] at L R;simp only[azf,axU,decide_eq_true_eq] at R;have C:=aC7 I G L R (λj t v u B A z=>by
  have y:Tryz.f9.params[j]?=some t:=by rw[<-azT,J];exact B
  have x:=F j t v y (by rw[<-azT];exact A);exact av4 IQ z x)
 refine C.mono ?_;rintro e M ⟨rfl,w⟩;exact⟨_,rfl,aDa E w⟩
end
section
open Go.ChangeShapes Go.RowKit Go.ChangeAt
def av7(Z:Os)(X:Array Value):laidMetH Tryz.prog L3 ((World.doorLaid Tryz.prog 400 Z).forCall (λ_ _=>0) ⟨#[],X,[]⟩).memory:=
 laidMetH_of_parts3 (fuel:=8) (laidMet_of_run' 8 (by kernel_rfl) (by kernel_rfl)) (by kernel_rfl) (by kernel_rfl)
set_option maxHeartbeats 4000000 in
set_option maxRecDepth 100000 in
def aDc (R:TB.Ev 11 [] (.ret [.b true])) (Q:∀W,laidMetH Tryz.prog L3 W->GW W) (Z:Os) (started:Z.Started) (H:Type) (V:TypeId×Value->H):
  ReturnsInHanded {} Tryz.checked Z 9 .any (λw U=>(Go.Proofs.YtieaiocljdpebaaGreatDoor.Rows.certifyMadeSpec.pre V Tryz.prog Tryz.f9 [] false w U/\laidMetH Tryz.prog L3 w)/\sizedMet V Tryz.prog Tryz.f9 (OpenSpec.ofChange Go.Proofs.YtieaiocljdpebaaGreatDoor.Rows.certifyMadeSpec) false w U)
   (Go.Proofs.YtieaiocljdpebaaGreatDoor.Rows.certifyMadeSpec.post V Tryz.prog Tryz.f9 false true false false):=by
 refine returnsInHanded_of_change_and (C:=Tryz.checked) (X:=λw _=>laidMetH Tryz.prog L3 w) (λ_ _ _ P h=>h.of_heap P) av5 started (by kernel_rfl) Tryz.func9
  (ChangeSpec.witness_shaped (enc:=V) (C:=Tryz.checked) (os:=Z) (X:=λw _=>laidMetH Tryz.prog L3 w) false (World.doorLaid Tryz.prog 400 Z) #[.agg #[.int .i64 0,.int .i64 0,.int .i64 0,.int .i64 0,.int .i64 0,.slice none 0 0,.int .i64 0,.slice none 0 0,.slice none 0 0,.slice none 0 0,.slice none 0 0],.agg #[.slice none 0 0],.slice none 0 0,.int .i64 0,.slice none 0 0,.slice none 0 0,.slice none 0 0,.int .u8 0,.int .u8 0] 8 rfl (World.shaped_of_RefB (by kernel_rfl) (by kernel_rfl)) (by kernel_rfl) (by kernel_rfl) (by kernel_rfl) (av7 Z _)) ?_
 intro W J U I G before O N _ M L _;exact aDb R (Q W L) O N M
end
section
section
variable{P:Program}{ty:Ty}{W:World}
def ue{Z:Type}(w:Nat):Nat->List Z->List (List Z)
 |0,_=>[]
 |n+1,l=>l.take w::ue w n (l.drop w)
def MG{Z:Type}{w:Nat}:∀{n:Nat}{l:List Z},(ue w n l).length=n
 |0,_=>rfl
 |n+1,l=>by simp[ue,MG (n:=n)]
def TN{Z:Type}{w:Nat}:∀{n:Nat}{l r:List Z}{i:Nat},(ue w n l)[i]?=some r->i<n/\r=(l.drop (i*w)).take w
 |0,l,r,i,h=>by simp[ue] at h
 |n+1,l,r,0,h=>by simp[ue] at h;exact⟨by omega,by simp[h]⟩
 |n+1,l,r,i+1,h=>by
  simp only[ue,ayk] at h;obtain⟨V,X⟩:=TN h;refine⟨by omega, ?_⟩;rw[X,azA];congr 2;rw[ayN];omega
def I1{X:Type}{n:Nat}{l r:List X}{i j:Nat}{c:X}(h:(ue U n l)[i]?=some r)(Z:r[j]?=some c):i<n/\j<U/\l[i*U+j]?=some c:=by
 obtain⟨V,rfl⟩:=TN h;rw[ayi] at Z;split at Z;rename_i R;rw[ayq] at Z;exact⟨V,R,Z⟩;cases Z
def MH{H:Type}(P:Program)(t:TypeId)(d:DataW H)(w n:Nat):List (List RV):=ue w n ((ax6 (n*w)).map λj=>(kU P 9 t d j).getD default)
def abO{g n w:Nat}{e t:TypeId}{L J:TI}{d:DataW Unit}(o:ty e=some L)(m:ty t=some J)(l:L.ab.length=w)(G:J.ab.length=n*w)(b:(ax6 n).map (λi=>(J.ab.drop (i*w)).take w)=axW n L.ab)(a:ud P ty 9 t=true)
  (ac:DataW.trod (λ_=>()) P W 0 (λ_=>true) false U t V.toList=some (d,X))(af:(DataW.weights P t d).all (·<=reachBytes)=true)(ag:∀i,W.cell? ⟨g,i,none⟩=V[i]?)(hE:((ax6 (n*w)).all λj=>(kU P 9 t d j).isSome)=true)(an:0<w):
  ∃D,aX W ty (.sl e) (.mk (.slice (some ⟨g,0,none⟩) n n) D)/\bW (uL g (MH P t d w n)) (.mk (.slice (some ⟨g,0,none⟩) n n) D):=by
 obtain⟨C,h2⟩:=ME U 9 t J _ _ m a ac (λq hq=>of_decide_eq_true (axU.1 af q hq));obtain⟨I,B,r2,r3,r4,r5,r6⟩:=abK C h2;have al:I.length=n*w:=by rw[<-ayA (f:=RV.val),B,C,G]
 have F:∀i j,i<n->j<w->J.ab[i*w+j]?=L.ab[j]?:=λi j A hj=>by
  have h:=congrArg (·[i]?) b;simp only[axO,ay7 A,ayO,if_pos A,axR,axM] at h;rw[<-h,ayi,if_pos hj,ayq]
 have H:ba ty (.sl e)=L.ab:=by simp[ba,o]
 have bi:∀(i j:Nat)(r:List RV)(c:RV),(ue w n I)[i]?=some r->r[j]?=some c->W.cell? ⟨g,0+i*w+j,none⟩=some c.val:=λi j r c Z R=>by
  obtain⟨_,_,Q⟩:=I1 Z R;have E:V.toList[i*w+j]?=some c.val:=by rw[<-B,axO,Q];rfl
  rw[ayg,ag,<-azT];exact E
 have y:∀(i:Nat)(r:List RV),(ue w n I)[i]?=some r->r.length=w:=λi r Z=>by
  obtain⟨R,rfl⟩:=TN Z;have:(i+1)*w<=n*w:=ayX w R;rw[ayN] at this;rw[azj,ay9,al];omega
 refine⟨ue w n I,.sl e _ n n _ MG (axQ _) (λi r Z=> ?_) (λi j r c k Z R Q=> ?_) (λi j r c Z R Q=> ?_) (λi j r c z k Z R Q=> ?_), ?_⟩;rw[H,l];have G:=y i r Z;refine⟨G,g,0,rfl, ?_,λj c R=>bi i j r c Z R⟩;obtain⟨c,hc⟩:∃c,r[0]?=some c:=⟨_,axK (by omega)⟩;exact amh (bi i 0 r c Z hc);rw[H] at Q;obtain⟨N,M,O⟩:=I1 Z R;exact r2 _ c k O (by rw[F i j N M];exact Q);rw[H] at Q;obtain⟨N,M,O⟩:=I1 Z R;exact r3 _ c O (by rw[F i j N M];exact Q);rw[H] at Q;obtain⟨N,M,O⟩:=I1 Z R;exact r4 _ c z k O (by rw[F i j N M];exact Q);unfold uL MH;rw[MG];refine bW.sl _ _ _ _ _ _ _ (by rw[MG,MG]) (λi r v Z R=> ?_) (λi j r v c c' Z R Q E=> ?_);obtain⟨N,rfl⟩:=TN Z;have:(i+1)*w<=n*w:=ayX w N;rw[ayN] at this;rw[y i v R,azj,ay9,ayA,aBr];omega;obtain⟨N,M,O⟩:=I1 Z Q;obtain⟨_,_,q4⟩:=I1 R E;rw[axO] at O;have u:i*w+j<n*w:=by
  have:(i+1)*w<=n*w:=ayX w N;rw[ayN] at this;omega
 rw[ay7 u] at O;simp only[axR,axM] at O;obtain⟨x,s⟩:=ax1.1 (axU.1 hE _ (ayR.2 u));rw[s,ayo] at O;subst O;exact r6 _ c' x q4 s
end
def av9:Tryz.prog.globalNamed (gn 1)=some 2:=by kernel_rfl
def awa:Tryz.prog.globalNamed (gn 0)=some 0:=by kernel_rfl
def awb:Tryz.prog.globalNamed (gn 2)=some 1:=by kernel_rfl
def awc:(Tryz.prog.globals[2]?).map (·.type)=some 301:=by kernel_rfl
def awd:(Tryz.prog.globals[0]?).map (·.type)=some 246:=by kernel_rfl
def awe:(Tryz.prog.globals[1]?).map (·.type)=some 260:=by kernel_rfl
def abP{n:String}(X:Tryz.prog.globalNamed n=some U)(R:Z.var? Tryz.prog n=some V)(i:Nat):Z.cell? ⟨U,i,none⟩=V[i]?:=World.var?_cell X R i
def amt:∀(Z:List XV)(O:aa),∃l,(O.ext Z).r=O.r++l
 |[],O=>⟨[],by simp[aa.ext]⟩
 |x::Z,O=>by
  obtain⟨l,h⟩:=amt Z (O.add x);simp only[aa.ext,h];cases x<;>simp[aa.add]
def amu:lX=[uL 0 (MH Tryz.prog 246 (Go.Proofs.YtieaiocljdpebaaGreatDoor.Rows.laid_kinesphere_expand_kinds:DataW Unit) 6 10),uL 1 (MH Tryz.prog 260 (Go.Proofs.YtieaiocljdpebaaGreatDoor.Rows.laid_kinesphere_motion_kinds:DataW Unit) 2 10),uL 2 (MH Tryz.prog 301 (Go.Proofs.YtieaiocljdpebaaGreatDoor.Rows.laid_kinesphere_space_flat:DataW Unit) 2 8)]:=by kernel_rfl
def amv{Z:Type}{p:Nat->Z->Prop}{a b c:Z}(X:p 0 a)(V:p 1 b)(U:p 2 c):∀(k:Nat)(x:Z),[a,b,c][k]?=some x->p k x
 |0,_,h=>aym h▸X
 |1,_,h=>aym h▸V
 |2,_,h=>aym h▸U
 |k+3,_,h=>(by simp at h)
def awf(h:laidMetH Tryz.prog L3 Z):GW Z:=by
 rw[MakeChecks.laidMetH_plain _ _ _ (by kernel_rfl)] at h;obtain⟨i,⟨f,d,c,b,a,q0,M,H,G,F,⟨g1,t1,ac,f1,p1,q1,L,E,D,C,⟨g2,t2,af,f2,p2,q2,J,B,A,z,_,_⟩,_⟩,_⟩,_,_⟩:=h;obtain rfl:=aym (av9.symm.trans M);obtain rfl:=aym (awa.symm.trans L);obtain rfl:=aym (awb.symm.trans J);obtain rfl:=aym (awc.symm.trans H);obtain rfl:=aym (awd.symm.trans E);obtain rfl:=aym (awe.symm.trans B);obtain⟨V,y,u⟩:=abO (P:=Tryz.prog) (ty:=look TT) (W:=Z) (g:=0) (n:=10) (w:=6) (e:=245) (t:=246) rfl rfl rfl rfl rfl (by kernel_rfl) C (by kernel_rfl) (abP L D) (by kernel_rfl) (by decide);obtain⟨U,s,r⟩:=abO (P:=Tryz.prog) (ty:=look TT) (W:=Z) (g:=1) (n:=10) (w:=2) (e:=259) (t:=260) rfl rfl rfl rfl rfl (by kernel_rfl) z (by kernel_rfl) (abP J A) (by kernel_rfl) (by decide);obtain⟨R,q,o⟩:=abO (P:=Tryz.prog) (ty:=look TT) (W:=Z) (g:=2) (n:=8) (w:=2) (e:=142) (t:=301) rfl rfl rfl rfl rfl (by kernel_rfl) F (by kernel_rfl) (abP M G) (by kernel_rfl) (by decide);refine⟨[.mk (.slice (some ⟨0,0,none⟩) 10 10) V,.mk (.slice (some ⟨1,0,none⟩) 10 10) U,.mk (.slice (some ⟨2,0,none⟩) 8 8) R],by rw[amu];rfl,λk v X Q N=> ?_,λk e O Q N=> ?_,λm x I=> ?_⟩;rw[amu] at Q;exact amv (p:=λk v=>∀X,[RV.mk (.slice (some ⟨0,0,none⟩) 10 10) V,.mk (.slice (some ⟨1,0,none⟩) 10 10) U,.mk (.slice (some ⟨2,0,none⟩) 8 8) R][k]?=some X->bW v X) (λX h=>aym h▸u) (λX h=>aym h▸r) (λX h=>aym h▸o) k v Q X N;exact amv (p:=λk e=>∀O,[RV.mk (.slice (some ⟨0,0,none⟩) 10 10) V,.mk (.slice (some ⟨1,0,none⟩) 10 10) U,.mk (.slice (some ⟨2,0,none⟩) 8 8) R][k]?=some O->aX Z (look TT) e O) (λX h=>aym h▸y) (λX h=>aym h▸s) (λX h=>aym h▸q) k e Q O N;obtain⟨l,j⟩:=amt m ⟨[],[],[RV.mk (.slice (some ⟨0,0,none⟩) 10 10) V,.mk (.slice (some ⟨1,0,none⟩) 10 10) U,.mk (.slice (some ⟨2,0,none⟩) 8 8) R],[]⟩;simp only[GL,axT,azs,or_false] at I;unfold de aa.rv;rw[j];rcases I with rfl|rfl|rfl;exact⟨by simp,10,10,rfl⟩;exact⟨by simp,10,10,rfl⟩;exact⟨by simp,8,8,rfl⟩
end
end
end Go.Proofs.YtieaiocljdpebaaGreatDoor.Y
