/- Part 26 of the proof; the last part says what is shown. -/
import Derived.Test.YtieaiocljdpebaaGreatDoorQ25
import Derived.Test.YtieaiocljdpebaaGreatDoorQ12
import Derived.Test.YtieaiocljdpebaaGreatDoorRows
import Derived.Carry
import Derived.ProofKit
import Derived.OpenShut
import Derived.LaidMore
import Derived.Stop.Joined
import Derived.Handed
set_option linter.all false
open Bool renaming and_eq_true->ayz
open List renaming getElem?_eq_getElem->ayB,getD_eq_getElem?_getD->ayC,getElem?_map->ayF,replicate->ayJ,mem_cons->ayK,all_eq_true->ayM,range->ayQ,getElem?_take->ay7,getElem?_cons_succ->azb,length_map->azg,getElem?_drop->azj,mem_range->azz,getElem?_replicate->azE,getElem?_range->azM,getElem_mem->azR,length_drop->az2,length_take->az6,append_nil->aAc,drop_drop->aAr,not_mem_nil->aAs,all_cons->aAv,length_range->aBv
open Option.some renaming injEq->ayE,inj->azd
open Nat renaming le_refl->ayH,zero_add->ay9,add_mul->azD,mul_le_mul_right->azP
open Option renaming map_some->ayI,isSome_iff_exists->ayT,getD_some->azf
open Array renaming getElem?_toList->aAh
open Int renaming toNat_natCast->azN
namespace Go.Proofs.YtieaiocljdpebaaGreatDoor.Y
open Go.RowKit
noncomputable section
variable{R:List LK}{Q:List XV}{Z:World}{M:Ty}{N:TypeId}{L:RV}{U:Nat}{X:List MemPlace}
def awA:([32,35,36,44,37,37]:List TypeId).all (tR Tryz.prog (look TT) 9)=true:=by kernel_rfl
def pt7:look PT 7=some [32,35,36,44,37,37]:=by kernel_rfl
def awC:look SG 7=some [4]:=by kernel_rfl
def q7:eV (look TT) [4]=some [.bool]:=by kernel_rfl
def k7:eV (look TT) [32,35,36,44,37,37]=some [.int .i64,.int .i64,.int .i64,.int .i64,.int .i64,.ref (.sl 173),.int .i64,.ref (.sl 175),.ref (.sl 312),.ref (.sl 314),.ref (.sl 90),.ref (.sl 73),.ref (.sl 79),.int .i64,.ref (.sl 4),.ref (.sl 71),.ref (.sl 71),.ref (.sl 82),.ref (.sl 65),.ref (.sl 4),.ref (.sl 4)]:=by kernel_rfl
def r82:aV (look TT) (.sl 82)=[.ax (.slice none 0 0) (.sl 96)]:=by kernel_rfl
def ED{k:IntKind}(h:cR (.int k::R) Q):∃n Z,Q=.i n::Z/\cR R Z:=by
 cases Q with
 |nil=>exact h.elim
 |cons x Q=>
  cases x with
  |i n=>exact⟨n,Q,rfl,h.2⟩
  |b n=>exact h.1.elim
  |r n=>exact h.1.elim
def qp{k:RK}(h:cR (.ref k::R) Q):∃n Z,Q=.r n::Z/\cR R Z:=by
 cases Q with
 |nil=>exact h.elim
 |cons x Q=>
  cases x with
  |r n=>exact⟨n,Q,rfl,h.2⟩
  |b n=>exact h.1.elim
  |i n=>exact h.1.elim
def pi(h:aW Z M (.sl N) L)(X:m7 L):Sl L:=by
 cases X with
 |mk L V R=>
 cases h with
 |sl N A Q P O U J I H G F=>
  refine⟨⟨_,_,_,rfl⟩, ?_,V⟩;simp only[RV.ji,RV.jk,lenOf,U]
def awD(h:aW Z (look TT) (.sl 82) L)(O:m7 L):∀i<L.rows.length,Sl (cr 96 L i):=by
 intro i V;cases O with
 |mk E D R=>
 cases h with
 |sl e A N M X C B J z y I=>
  rw[RV.jk] at V R;have U:X[i]?=some X[i]:=ayB V;have x:(X[i]).length=1:=by have:=(J i _ U).1;rw[r82] at this;exact this
  have Q:(X[i])[0]?=some (X[i])[0]:=ayB (by omega);have H:=I i 0 _ _ _ _ U Q (by rw[r82];rfl);have G:=R _ (azR V) _ (azR (by omega:0<(X[i]).length));have P:=pi H G;have e:cr 96 (.mk (.slice A N M) X) i=(X[i])[0]:=by
   unfold cr cellAt;simp only[RV.jk,azN,ayC,U,Q,azf];obtain⟨a,n,c,F⟩:=P.sl;simp[cN,F]
  rw[e];exact P
def awE(hS:TB.Ev 11 [] (.ret [.b true])){H:Type}{ag:TypeId×Value->H}{spare:Nat->Bool}{al:Bool}{P:List Value}{l:List (DataW H)}(hG:GW Z)(hT:DataW.TrodAll ag Tryz.prog Z U spare al [32,35,36,44,37,37] P l X)(hw:∀q∈DataW.weightsEach Tryz.prog [32,35,36,44,37,37] l,q<=reachBytes)
  (hv:∀(j:Nat)(t:TypeId)(v:Value)(G:TI),([32,35,36,44,37,37]:List TypeId)[j]?=some t->P[j]?=some v->look TT t=some G->(G.d.isAgg=true/\v=.agg v.cells)\/(G.d.isAgg=false/\v.cells.toList=[v])):
  Calls Tryz.prog 7 P.toArray Z λe k=>e=.returned (.bool true)/\Below Z.heap.size Z k:=by
 obtain⟨ks,xs,g,f,h3,V,R,h6⟩:=av8 Ir awA hT hw hv;rw[k7] at g;cases g;have hf:=f;obtain⟨c,x1,rfl,an⟩:=ED hf;obtain⟨D,x2,rfl,a0⟩:=ED an;obtain⟨A,x3,rfl,a1⟩:=ED a0;obtain⟨B,x4,rfl,a2⟩:=ED a1;obtain⟨C,x5,rfl,a3⟩:=ED a2;obtain⟨O,x6,rfl,a4⟩:=qp a3;obtain⟨a,x7,rfl,a5⟩:=ED a4;obtain⟨N,x8,rfl,a6⟩:=qp a5;obtain⟨M,x9,rfl,a7⟩:=qp a6;obtain⟨L,b4,rfl,a8⟩:=qp a7;obtain⟨J,b5,rfl,a9⟩:=qp a8;obtain⟨F,b6,rfl,bb⟩:=qp a9;obtain⟨E,b7,rfl,bg⟩:=qp bb;obtain⟨ai,b8,rfl,bk⟩:=ED bg;obtain⟨z,ca,rfl,bl⟩:=qp bk;obtain⟨x,cc,rfl,bo⟩:=qp bl;obtain⟨w,cf,rfl,br⟩:=qp bo;obtain⟨I,cl,rfl,bs⟩:=qp br;obtain⟨u,cp,rfl,bt⟩:=qp bs;obtain⟨s,cs,rfl,b0⟩:=qp bt;obtain⟨p,b1,rfl,b2⟩:=qp b0;cases b1 with
 |cons _ _=>exact b2.elim
 |nil=>
 have s1:gH O N M L J:=⟨pi (V 5 _ O rfl rfl) (R _ (by simp)),pi (V 7 _ N rfl rfl) (R _ (by simp)),pi (V 8 _ M rfl rfl) (R _ (by simp)),pi (V 9 _ L rfl rfl) (R _ (by simp)),pi (V 10 _ J rfl rfl) (R _ (by simp))⟩;obtain⟨n,hn⟩:=t7 c D A B C a O N M L J hS s1 ai F E z x w I u s p (pi (V 11 _ F rfl rfl) (R _ (by simp))) (pi (V 12 _ E rfl rfl) (R _ (by simp))) (pi (V 14 _ z rfl rfl) (R _ (by simp))) (pi (V 15 _ x rfl rfl) (R _ (by simp))) (pi (V 16 _ w rfl rfl) (R _ (by simp))) (pi (V 17 _ I rfl rfl) (R _ (by simp))) (pi (V 18 _ u rfl rfl) (R _ (by simp))) (awD (V 17 _ I rfl rfl) (R _ (by simp))) (pi (V 19 _ s rfl rfl) (R _ (by simp))) (pi (V 20 _ p rfl rfl) (R _ (by simp)));have ab:=Te awz n 7 _ _ _ _ pt7 awC k7 q7 _ _ _ hn (Tg _) f Z (λ_=>hG) V;have b3:qL (look TT) [32,35,36,44,37,37] (lq _ (wk c D A B C a O N M L J++[.r F,.r E,.i ai,.r z,.r x,.r w,.r I,.r u,.r s,.r p]))=P:=h3;rw[b3] at ab;refine ab.mono ?_;intro e k h;cases e with
 |returned v=>
  obtain⟨yh,o,m,Q,e3,rfl,hB,_,_⟩:=h;cases m;cases o with
  |nil=>exact Q.elim
  |cons y o=>
   cases o with
   |cons _ _=>exact Q.2.elim
   |nil=>
    cases y with
    |b q=>
     have:true=q:=Q.1;subst this;exact⟨rfl,hB⟩
    |i q=>exact Q.1.elim
    |r q=>exact Q.1.elim
 |panicked ch=>obtain⟨_,v,m,_⟩:=h;cases m
 |outgrown=>exact h.elim
variable{O:Program}{V:Array Value}
section
open Go.ChangeShapes Go.RowKit
def awF{H:Type}{M:TypeId×Value->H}(I:laidOutB O=true){L:World}(G:Below Z.heap.size Z L):∀{X:List TypeId}{U:List Value}{R:List (DataW H)}{V:List MemPlace},X.all (λt=>O.readableRec t&&decide (t<O.types.size))=true->DataW.TrodAll M O Z 0 (λ_=>true) true X U R V->(∀x∈V,x.block<Z.heap.size)->DataW.TrodAll M O L 0 (λb=>decide (b<Z.heap.size)) true X U R V:=by
 intro X;induction X with
 |nil=>
  intro U R V _ h _;obtain⟨rfl,rfl,rfl⟩:=trodAll_nil h;exact rfl
 |cons t X F=>
  intro U R V Q h J;obtain⟨v,C,d,B,p,q,rfl,rfl,rfl,E,D⟩:=trodAll_cons h;simp only[aAv,ayz,decide_eq_true_eq] at Q;exact⟨p,q,Go.RowKit.Below.trod I Q.1.1 Q.1.2 E G (λx N=>J x (by simp[N])),F (by simpa using Q.2) D (λx N=>J x (by simp[N])),rfl⟩
def awG:laidOutB Tryz.prog=true:=by kernel_rfl
def rd7:([32,35,36,44,37,37]:List TypeId).all (λt=>Tryz.prog.readableRec t&&decide (t<Tryz.prog.types.size))=true:=by kernel_rfl
def awI{H:Type}{Q:TypeId×Value->H}{P:World}{J I:List (DataW H)}(U:DataW.Whole Q Tryz.prog Tryz.f7.params.toList [] false Z V.toList J I X)(O:Below Z.heap.size Z P):
  Go.Proofs.YtieaiocljdpebaaGreatDoor.Rows.certifyPartsSpec.post Q Tryz.prog Tryz.f7 false true false false Z V (.bool true) P:=by
 have G:=U.lt;have F:=U;obtain⟨p,q,N,E,rfl,_,_⟩:=U;obtain⟨rfl,rfl⟩:=trodVars_none E;have R:Tryz.f7.params.toList=[32,35,36,44,37,37]:=by rw[Tryz.params7]
 have M:=N;rw[R] at M;obtain⟨v,u,t,s,r,o,_,rfl,rfl,_,D⟩:=trodAll_cons M;obtain⟨n,m,l,k,j,i,_,rfl,rfl,_,C⟩:=trodAll_cons D;obtain⟨g,f,e,d,c,b,_,rfl,rfl,_,B⟩:=trodAll_cons C;obtain⟨a,r4,d4,e4,p4,q4,_,rfl,rfl,_,A⟩:=trodAll_cons B;obtain⟨v5,r5,d5,e5,p5,q5,_,rfl,rfl,_,z⟩:=trodAll_cons A;obtain⟨v6,r6,d6,e6,p6,q6,_,rfl,rfl,_,y⟩:=trodAll_cons z;obtain⟨_,rfl,rfl⟩:=trodAll_nil y;have L:=awF awG O rd7 (by rw[<-R];exact N) (λx w=>G x (by simpa using w));rw[<-R] at L;exact⟨_,_,_,[],_,[],F,trodAll_mk1 (shut_bool Tryz.underlying4 _),L,rfl,Below.frame O _,λh=>(by cases h)⟩
end
section
open Go.ChangeShapes Go.RowKit Go.ChangeAt
abbrev gn(k:Nat):String:=Go.Proofs.YtieaiocljdpebaaGreatDoor.Rows.certifyPartsRow.named.getD k ""
abbrev L3{H:Type}:List (String×DataW H):=[(gn 1,Go.Proofs.YtieaiocljdpebaaGreatDoor.Rows.laid_kinesphere_space_flat),(gn 0,Go.Proofs.YtieaiocljdpebaaGreatDoor.Rows.laid_kinesphere_expand_kinds),(gn 2,Go.Proofs.YtieaiocljdpebaaGreatDoor.Rows.laid_kinesphere_motion_kinds)]
def awJ(jo:fz O M){L:TI}{v:Value}(h:M N=some L)(V:Value.okWide O Z .any U N v):(L.d.isAgg=true/\v=.agg v.cells)\/(L.d.isAgg=false/\v.cells.toList=[v]):=by
 have X:=(jo N L h).desc;have J:∀d,O.underlying N=some d->(∀F,d≠ .struct F)->(∀n e,d≠ .array n e)->v.cells.toList=[v]:=by
  intro d Q G E;cases v<;>try rfl
  case agg I=>
   exfalso;unfold Value.okWide at V;rw[Q] at V;cases d<;>first|exact G _ rfl|exact E _ _ rfl|simp[Cell.okWide,Cell.ok,Q] at V
 cases D:L.d<;>rw[D] at X
 case one=>
  obtain⟨d,Q,⟨H,_⟩,_⟩:=X;exact .inr ⟨rfl,J d Q (λF e=>by subst e;exact H) (λn e R=>by subst R;exact H)⟩
 case dD=>obtain⟨m,Q⟩:=X;exact .inr ⟨rfl,J _ Q (λF e=>by cases e) (λn e R=>by cases R)⟩
 case str=>exact .inr ⟨rfl,J _ X (λF e=>by cases e) (λn e R=>by cases R)⟩
 case slice e=>exact .inr ⟨rfl,J _ X (λF e=>by cases e) (λn e R=>by cases R)⟩
 case map k e n C=>exact .inr ⟨rfl,J _ X (λF e=>by cases e) (λn e R=>by cases R)⟩
 case arr n e=>
  have X:O.underlying N=some (.array n e):=X;unfold Value.okWide at V;rw[X] at V;obtain⟨I,rfl,_⟩:=V;exact .inl ⟨rfl,rfl⟩
 case struct B=>
  obtain⟨F,Q,_⟩:=X;unfold Value.okWide at V;rw[Q] at V;obtain⟨I,rfl,_⟩:=V;exact .inl ⟨rfl,rfl⟩
def awK:ownKnob Tryz.prog.godebug=none:=by kernel_rfl
set_option maxRecDepth 100000 in
def awL (I:TB.Ev 11 [] (.ret [.b true])) {H:Type} {Q:TypeId×Value->H} {P O:List (DataW H)} (G:GW Z)
  (F:∀(j:Nat) t v,Tryz.f7.params[j]?=some t->V[j]?=some v->Value.okWide Tryz.prog Z .any U t v) (N:DataW.Whole Q Tryz.prog Tryz.f7.params.toList [] false Z V.toList P O X)
  (R:(DataW.weightsEach Tryz.prog (Tryz.f7.params.toList++[]) (P++O)).all (·<=reachBytes)=true):
  Calls Tryz.prog 7 V Z λe M=>∃v,e=.returned v/\Go.Proofs.YtieaiocljdpebaaGreatDoor.Rows.certifyPartsSpec.post Q Tryz.prog Tryz.f7 false true false false Z V v M:=by
 have E:=N;obtain⟨p,q,L,D,rfl,_,_⟩:=N;obtain⟨rfl,rfl⟩:=trodVars_none D;have J:Tryz.f7.params.toList=[32,35,36,44,37,37]:=by rw[Tryz.params7]
 rw[J] at L R;simp only[aAc,ayM,decide_eq_true_eq] at R;have C:=awE I G L R (λj t v u B A z=>by
  have y:Tryz.f7.params[j]?=some t:=by rw[<-aAh,J];exact B
  have x:=F j t v y (by rw[<-aAh];exact A);exact awJ Ir z x)
 refine C.mono ?_;rintro e M ⟨rfl,w⟩;exact⟨_,rfl,awI E w⟩
end
section
open Go.ChangeShapes Go.RowKit Go.ChangeAt
def awM(Z:Os)(X:Array Value):laidMetH Tryz.prog L3 ((World.doorLaid Tryz.prog 400 Z).forCall (λ_ _=>0) ⟨#[],X,[]⟩).memory:=
 laidMetH_of_parts3 (fuel:=8) (laidMet_of_run' 8 (by kernel_rfl) (by kernel_rfl)) (by kernel_rfl) (by kernel_rfl)
set_option maxHeartbeats 4000000 in
set_option maxRecDepth 100000 in
def awN (R:TB.Ev 11 [] (.ret [.b true])) (Q:∀W,laidMetH Tryz.prog L3 W->GW W) (Z:Os) (started:Z.Started) (H:Type) (V:TypeId×Value->H):
  ReturnsInHanded {} Tryz.checked Z 7 .any (λw U=>(Go.Proofs.YtieaiocljdpebaaGreatDoor.Rows.certifyPartsSpec.pre V Tryz.prog Tryz.f7 [] false w U/\laidMetH Tryz.prog L3 w)/\sizedMet V Tryz.prog Tryz.f7 (OpenSpec.ofChange Go.Proofs.YtieaiocljdpebaaGreatDoor.Rows.certifyPartsSpec) false w U)
   (Go.Proofs.YtieaiocljdpebaaGreatDoor.Rows.certifyPartsSpec.post V Tryz.prog Tryz.f7 false true false false):=by
 refine returnsInHanded_of_change_and (C:=Tryz.checked) (X:=λw _=>laidMetH Tryz.prog L3 w) (λ_ _ _ P h=>h.of_heap P) awK started (by kernel_rfl) Tryz.func7
  (ChangeSpec.witness_shaped (enc:=V) (C:=Tryz.checked) (os:=Z) (X:=λw _=>laidMetH Tryz.prog L3 w) false (World.doorLaid Tryz.prog 400 Z) #[.agg #[.int .i64 0,.int .i64 0,.int .i64 0,.int .i64 0,.int .i64 0,.slice none 0 0,.int .i64 0,.slice none 0 0,.slice none 0 0,.slice none 0 0,.slice none 0 0],.agg #[.slice none 0 0],.slice none 0 0,.agg #[.int .i64 0,.slice none 0 0,.slice none 0 0,.slice none 0 0,.slice none 0 0,.slice none 0 0],.slice none 0 0,.slice none 0 0] 7 rfl (World.shaped_of_RefB (by kernel_rfl) (by kernel_rfl)) (by kernel_rfl) (by kernel_rfl) (by kernel_rfl) (awM Z _)) ?_
 intro W J U I G before O N _ M L _;exact awL R (Q W L) O N M
end
section
section
variable{P:Program}{ty:Ty}{W:World}
def tS{Z:Type}(w:Nat):Nat->List Z->List (List Z)
 |0,_=>[]
 |n+1,l=>l.take w::tS w n (l.drop w)
def Mr{Z:Type}{w:Nat}:∀{n:Nat}{l:List Z},(tS w n l).length=n
 |0,_=>rfl
 |n+1,l=>by simp[tS,Mr (n:=n)]
def TK{Z:Type}{w:Nat}:∀{n:Nat}{l r:List Z}{i:Nat},(tS w n l)[i]?=some r->i<n/\r=(l.drop (i*w)).take w
 |0,l,r,i,h=>by simp[tS] at h
 |n+1,l,r,0,h=>by simp[tS] at h;exact⟨by omega,by simp[h]⟩
 |n+1,l,r,i+1,h=>by
  simp only[tS,azb] at h;obtain⟨V,X⟩:=TK h;refine⟨by omega, ?_⟩;rw[X,aAr];congr 2;rw[azD];omega
def IA{X:Type}{n:Nat}{l r:List X}{i j:Nat}{c:X}(h:(tS U n l)[i]?=some r)(Z:r[j]?=some c):i<n/\j<U/\l[i*U+j]?=some c:=by
 obtain⟨V,rfl⟩:=TK h;rw[ay7] at Z;split at Z;rename_i R;rw[azj] at Z;exact⟨V,R,Z⟩;cases Z
def Ms{H:Type}(P:Program)(t:TypeId)(d:DataW H)(w n:Nat):List (List RV):=tS w n ((ayQ (n*w)).map λj=>(ku P 9 t d j).getD default)
def aci{g n w:Nat}{e t:TypeId}{L J:TI}{d:DataW Unit}(o:ty e=some L)(m:ty t=some J)(l:L.ae.length=w)(G:J.ae.length=n*w)(b:(ayQ n).map (λi=>(J.ae.drop (i*w)).take w)=ayJ n L.ae)(a:tR P ty 9 t=true)
  (ab:DataW.trod (λ_=>()) P W 0 (λ_=>true) false U t V.toList=some (d,X))(af:(DataW.weights P t d).all (·<=reachBytes)=true)(ag:∀i,W.cell? ⟨g,i,none⟩=V[i]?)(hE:((ayQ (n*w)).all λj=>(ku P 9 t d j).isSome)=true)(an:0<w):
  ∃D,aW W ty (.sl e) (.mk (.slice (some ⟨g,0,none⟩) n n) D)/\bj (ux g (Ms P t d w n)) (.mk (.slice (some ⟨g,0,none⟩) n n) D):=by
 obtain⟨C,h2⟩:=Mp U 9 t J _ _ m a ab (λq hq=>of_decide_eq_true (ayM.1 af q hq));obtain⟨I,B,r2,r3,r4,r5,r6⟩:=ace C h2;have al:I.length=n*w:=by rw[<-azg (f:=RV.val),B,C,G]
 have F:∀i j,i<n->j<w->J.ae[i*w+j]?=L.ae[j]?:=λi j A hj=>by
  have h:=congrArg (·[i]?) b;simp only[ayF,azM A,azE,if_pos A,ayI,ayE] at h;rw[<-h,ay7,if_pos hj,azj]
 have H:aV ty (.sl e)=L.ae:=by simp[aV,o]
 have bZ:∀(i j:Nat)(r:List RV)(c:RV),(tS w n I)[i]?=some r->r[j]?=some c->W.cell? ⟨g,0+i*w+j,none⟩=some c.val:=λi j r c Z R=>by
  obtain⟨_,_,Q⟩:=IA Z R;have E:V.toList[i*w+j]?=some c.val:=by rw[<-B,ayF,Q];rfl
  rw[ay9,ag,<-aAh];exact E
 have y:∀(i:Nat)(r:List RV),(tS w n I)[i]?=some r->r.length=w:=λi r Z=>by
  obtain⟨R,rfl⟩:=TK Z;have:(i+1)*w<=n*w:=azP w R;rw[azD] at this;rw[az6,az2,al];omega
 refine⟨tS w n I,.sl e _ n n _ Mr (ayH _) (λi r Z=> ?_) (λi j r c k Z R Q=> ?_) (λi j r c Z R Q=> ?_) (λi j r c z k Z R Q=> ?_), ?_⟩;rw[H,l];have G:=y i r Z;refine⟨G,g,0,rfl, ?_,λj c R=>bZ i j r c Z R⟩;obtain⟨c,hc⟩:∃c,r[0]?=some c:=⟨_,ayB (by omega)⟩;exact amO (bZ i 0 r c Z hc);rw[H] at Q;obtain⟨N,M,O⟩:=IA Z R;exact r2 _ c k O (by rw[F i j N M];exact Q);rw[H] at Q;obtain⟨N,M,O⟩:=IA Z R;exact r3 _ c O (by rw[F i j N M];exact Q);rw[H] at Q;obtain⟨N,M,O⟩:=IA Z R;exact r4 _ c z k O (by rw[F i j N M];exact Q);unfold ux Ms;rw[Mr];refine bj.sl _ _ _ _ _ _ _ (by rw[Mr,Mr]) (λi r v Z R=> ?_) (λi j r v c c' Z R Q E=> ?_);obtain⟨N,rfl⟩:=TK Z;have:(i+1)*w<=n*w:=azP w N;rw[azD] at this;rw[y i v R,az6,az2,azg,aBv];omega;obtain⟨N,M,O⟩:=IA Z Q;obtain⟨_,_,q4⟩:=IA R E;rw[ayF] at O;have u:i*w+j<n*w:=by
  have:(i+1)*w<=n*w:=azP w N;rw[azD] at this;omega
 rw[azM u] at O;simp only[ayI,ayE] at O;obtain⟨x,s⟩:=ayT.1 (ayM.1 hE _ (azz.2 u));rw[s,azf] at O;subst O;exact r6 _ c' x q4 s
end
def awO:Tryz.prog.globalNamed (gn 1)=some 2:=by kernel_rfl
def awP:Tryz.prog.globalNamed (gn 0)=some 0:=by kernel_rfl
def awQ:Tryz.prog.globalNamed (gn 2)=some 1:=by kernel_rfl
def awR:(Tryz.prog.globals[2]?).map (·.type)=some 301:=by kernel_rfl
def awS:(Tryz.prog.globals[0]?).map (·.type)=some 246:=by kernel_rfl
def awT:(Tryz.prog.globals[1]?).map (·.type)=some 260:=by kernel_rfl
def acj{n:String}(X:Tryz.prog.globalNamed n=some U)(R:Z.var? Tryz.prog n=some V)(i:Nat):Z.cell? ⟨U,i,none⟩=V[i]?:=World.var?_cell X R i
def amZ:∀(Z:List XV)(O:aa),∃l,(O.ext Z).r=O.r++l
 |[],O=>⟨[],by simp[aa.ext]⟩
 |x::Z,O=>by
  obtain⟨l,h⟩:=amZ Z (O.add x);simp only[aa.ext,h];cases x<;>simp[aa.add]
def am0:oE=[ux 0 (Ms Tryz.prog 246 (Go.Proofs.YtieaiocljdpebaaGreatDoor.Rows.laid_kinesphere_expand_kinds:DataW Unit) 6 10),ux 1 (Ms Tryz.prog 260 (Go.Proofs.YtieaiocljdpebaaGreatDoor.Rows.laid_kinesphere_motion_kinds:DataW Unit) 2 10),ux 2 (Ms Tryz.prog 301 (Go.Proofs.YtieaiocljdpebaaGreatDoor.Rows.laid_kinesphere_space_flat:DataW Unit) 2 8)]:=by kernel_rfl
def am1{Z:Type}{p:Nat->Z->Prop}{a b c:Z}(X:p 0 a)(V:p 1 b)(U:p 2 c):∀(k:Nat)(x:Z),[a,b,c][k]?=some x->p k x
 |0,_,h=>azd h▸X
 |1,_,h=>azd h▸V
 |2,_,h=>azd h▸U
 |k+3,_,h=>(by simp at h)
def awU(h:laidMetH Tryz.prog L3 Z):GW Z:=by
 rw[MakeChecks.laidMetH_plain _ _ _ (by kernel_rfl)] at h;obtain⟨i,⟨f,d,c,b,a,q0,M,H,G,F,⟨g1,t1,ab,f1,p1,q1,L,E,D,C,⟨g2,t2,af,f2,p2,q2,J,B,A,z,_,_⟩,_⟩,_⟩,_,_⟩:=h;obtain rfl:=azd (awO.symm.trans M);obtain rfl:=azd (awP.symm.trans L);obtain rfl:=azd (awQ.symm.trans J);obtain rfl:=azd (awR.symm.trans H);obtain rfl:=azd (awS.symm.trans E);obtain rfl:=azd (awT.symm.trans B);obtain⟨V,y,u⟩:=aci (P:=Tryz.prog) (ty:=look TT) (W:=Z) (g:=0) (n:=10) (w:=6) (e:=245) (t:=246) rfl rfl rfl rfl rfl (by kernel_rfl) C (by kernel_rfl) (acj L D) (by kernel_rfl) (by decide);obtain⟨U,s,r⟩:=aci (P:=Tryz.prog) (ty:=look TT) (W:=Z) (g:=1) (n:=10) (w:=2) (e:=259) (t:=260) rfl rfl rfl rfl rfl (by kernel_rfl) z (by kernel_rfl) (acj J A) (by kernel_rfl) (by decide);obtain⟨R,q,o⟩:=aci (P:=Tryz.prog) (ty:=look TT) (W:=Z) (g:=2) (n:=8) (w:=2) (e:=142) (t:=301) rfl rfl rfl rfl rfl (by kernel_rfl) F (by kernel_rfl) (acj M G) (by kernel_rfl) (by decide);refine⟨[.mk (.slice (some ⟨0,0,none⟩) 10 10) V,.mk (.slice (some ⟨1,0,none⟩) 10 10) U,.mk (.slice (some ⟨2,0,none⟩) 8 8) R],by rw[am0];rfl,λk v X Q N=> ?_,λk e O Q N=> ?_,λm x I=> ?_⟩;rw[am0] at Q;exact am1 (p:=λk v=>∀X,[RV.mk (.slice (some ⟨0,0,none⟩) 10 10) V,.mk (.slice (some ⟨1,0,none⟩) 10 10) U,.mk (.slice (some ⟨2,0,none⟩) 8 8) R][k]?=some X->bj v X) (λX h=>azd h▸u) (λX h=>azd h▸r) (λX h=>azd h▸o) k v Q X N;exact am1 (p:=λk e=>∀O,[RV.mk (.slice (some ⟨0,0,none⟩) 10 10) V,.mk (.slice (some ⟨1,0,none⟩) 10 10) U,.mk (.slice (some ⟨2,0,none⟩) 8 8) R][k]?=some O->aW Z (look TT) e O) (λX h=>azd h▸y) (λX h=>azd h▸s) (λX h=>azd h▸q) k e Q O N;obtain⟨l,j⟩:=amZ m ⟨[],[],[RV.mk (.slice (some ⟨0,0,none⟩) 10 10) V,.mk (.slice (some ⟨1,0,none⟩) 10 10) U,.mk (.slice (some ⟨2,0,none⟩) 8 8) R],[]⟩;simp only[GL,ayK,aAs,or_false] at I;unfold dB aa.rv;rw[j];rcases I with rfl|rfl|rfl;exact⟨by simp,10,10,rfl⟩;exact⟨by simp,10,10,rfl⟩;exact⟨by simp,8,8,rfl⟩
end
end
end Go.Proofs.YtieaiocljdpebaaGreatDoor.Y
