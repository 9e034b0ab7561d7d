/- Part 25 of the proof; the last part says what is shown. -/
import Derived.Test.YtieaiocljdpebaaGreatDoorQ24
import Derived.Test.YtieaiocljdpebaaGreatDoorQ10
import Derived.Test.YtieaiocljdpebaaGreatDoorRows
import Derived.Carry
import Derived.ProofKit
import Derived.OpenShut
import Derived.LaidMore
import Derived.Stop.Joined
import Derived.Handed
set_option linter.defProp false
set_option linter.unusedVariables false
set_option linter.unusedSimpArgs false
set_option linter.unnecessarySimpa false
open Bool renaming and_eq_true→awF
open List renaming getElem?_eq_getElem→awH,getD_eq_getElem?_getD→awK,getElem?_map→awL,mem_cons→awP,replicate→awS,all_eq_true→awU,range→aw3,getElem?_take→axc,getElem?_cons_succ→axh,getElem?_drop→axl,length_map→axB,length_take→axJ,getElem?_replicate→axK,mem_range→axR,length_drop→axW,getElem?_range→ax3,getElem_mem→ax6,append_nil→aya,drop_drop→ayw,not_mem_nil→ayA,all_cons→ayF,length_range→aAn
open Option.some renaming injEq→awJ,inj→axj
open Nat renaming le_refl→awN,zero_add→axf,add_mul→axI,mul_le_mul_right→axU
open Option renaming map_some→awO,isSome_iff_exists→awZ,getD_some→axi
open Array renaming getElem?_toList→ayS
open Int renaming toNat_natCast→axy
namespace Go.Proofs.YtieaiocljdpebaaGreatDoor.Y
open Go.RowKit
noncomputable section
def auT:([32,35,36,44,5]:List TypeId).all (tJ Tryz.prog (look TT) 9)=true:=by kernel_rfl
def pt8:look PT 8=some [32,35,36,44,5]:=by kernel_rfl
def auV:look SG 8=some [4]:=by kernel_rfl
def q8:eZ (look TT) [4]=some [.bool]:=by kernel_rfl
def k8:eZ (look TT) [32,35,36,44,5]=some [.int .i64,.int .i64,.int .i64,.int .i64,.int .i64,.ref (.sl 173),.int .i64,.ref (.sl 175),.ref (.sl 312),.ref (.sl 314),.ref (.sl 90),.ref (.sl 73),.ref (.sl 79),.int .i64,.ref (.sl 4),.ref (.sl 71),.ref (.sl 71),.ref (.sl 82),.ref (.sl 65),.int .u8]:=by kernel_rfl
def r82:aW (look TT) (.sl 82)=[.ar (.slice none 0 0) (.sl 96)]:=by kernel_rfl
def BU{k:IntKind}{ks:List LK}{xs:List XV}(h:cR (.int k::ks) xs):∃n Z,xs=.i n::Z/\cR ks Z:=by
 cases xs with
 |nil=>exact h.elim
 |cons x xs=>
  cases x with
  |i n=>exact⟨n,xs,rfl,h.2⟩
  |b n=>exact h.1.elim
  |r n=>exact h.1.elim
def tK{k:RK}{ks:List LK}{xs:List XV}(h:cR (.ref k::ks) xs):∃n Z,xs=.r n::Z/\cR ks Z:=by
 cases xs with
 |nil=>exact h.elim
 |cons x xs=>
  cases x with
  |r n=>exact⟨n,xs,rfl,h.2⟩
  |b n=>exact h.1.elim
  |i n=>exact h.1.elim
def rL{W:World}{ty:Ty}{e:TypeId}{rv:RV}(h:aT W ty (.sl e) rv)(Z:nf rv):Sl rv:=by
 cases Z with
 |mk rv X U=>
 cases h with
 |sl e A R cap rows V Q P O N M=>
  refine⟨⟨_,_,_,rfl⟩, ?_,X⟩;simp only[RV.jZ,RV.jl,lenOf,V]
def auW{W:World}{Z:RV}(h:aT W (look TT) (.sl 82) Z)(Q:nf Z):∀i<Z.rows.length,Sl (cr 96 Z i):=by
 intro i hi;cases Q with
 |mk rv I V=>
 cases h with
 |sl e A P cap rows H G O F E N=>
  rw[RV.jl] at hi V;have X:rows[i]?=some rows[i]:=awH hi;have D:(rows[i]).length=1:=by have:=(O i _ X).1;rw[r82] at this;exact this
  have U:(rows[i])[0]?=some (rows[i])[0]:=awH (by omega);have M:=N i 0 _ _ _ _ X U (by rw[r82];rfl);have L:=V _ (ax6 hi) _ (ax6 (by omega:0<(rows[i]).length));have R:=rL M L;have e:cr 96 (.mk (.slice A P cap) rows) i=(rows[i])[0]:=by
   unfold cr cellAt;simp only[RV.jl,axy,awK,X,U,axi];obtain⟨a,n,c,J⟩:=R.sl;simp[dv,J]
  rw[e];exact R
def alx:∀xs:List XV,wa xs xs
 |[]=>trivial
 |x::xs=>⟨by cases x with
  |i n=>rfl
  |b n=>rfl
  |r v=>exact bQ.refl v,alx xs⟩
def auX(u:TB.Ev 11 [] (.ret [.b true])){H:Type}{enc:TypeId×Value->H}{base:Nat}{spare:Nat->Bool}{s:Bool}{W:World}{vs:List Value}{ds:List (DataW H)}{ps:List MemPlace}(p:GW W)(o:DataW.TrodAll enc Tryz.prog W base spare s [32,35,36,44,5] vs ds ps)(m:∀q∈DataW.weightsEach Tryz.prog [32,35,36,44,5] ds,q<=reachBytes)
  (l:∀(j:Nat)(t:TypeId)(v:Value)(N:TI),([32,35,36,44,5]:List TypeId)[j]?=some t->vs[j]?=some v->look TT t=some N->(N.d.isAgg=true/\v=.agg v.cells)\/(N.d.isAgg=false/\v.cells.toList=[v])):
  Calls Tryz.prog 8 vs.toArray W λe W'=>e=.returned (.bool true)/\Below W.heap.size W W':=by
 obtain⟨ks,xs,E,z,k,Z,X,g⟩:=aur Ij auT o m l;rw[k8] at E;cases E;have f:=z;obtain⟨x,x1,rfl,c⟩:=BU f;obtain⟨D,x2,rfl,ag⟩:=BU c;obtain⟨A,x3,rfl,an⟩:=BU ag;obtain⟨B,x4,rfl,a0⟩:=BU an;obtain⟨C,x5,rfl,a1⟩:=BU a0;obtain⟨U,x6,rfl,a2⟩:=tK a1;obtain⟨w,x7,rfl,a3⟩:=BU a2;obtain⟨R,x8,rfl,a4⟩:=tK a3;obtain⟨Q,x9,rfl,a5⟩:=tK a4;obtain⟨sp,b4,rfl,a6⟩:=tK a5;obtain⟨P,b5,rfl,a7⟩:=tK a6;obtain⟨M,b6,rfl,a8⟩:=tK a7;obtain⟨L,b7,rfl,a9⟩:=tK a8;obtain⟨ae,b8,rfl,bb⟩:=BU a9;obtain⟨J,ca,rfl,bk⟩:=tK bb;obtain⟨I,cc,rfl,br⟩:=tK bk;obtain⟨G,cf,rfl,bs⟩:=tK br;obtain⟨O,cl,rfl,bt⟩:=tK bs;obtain⟨bx,cp,rfl,b0⟩:=tK bt;obtain⟨a,b1,rfl,b2⟩:=BU b0;cases b1 with
 |cons _ _=>exact b2.elim
 |nil=>
 have F:=g 19 .u8 a rfl rfl;have F:0<=a/\a<=255:=by
  simp[Lit.wf,IntKind.min,IntKind.max,IntKind.bits,IntKind.signed] at F;omega
 have s1:iL U R Q sp P:=⟨rL (Z 5 _ U rfl rfl) (X _ (by simp)),rL (Z 7 _ R rfl rfl) (X _ (by simp)),rL (Z 8 _ Q rfl rfl) (X _ (by simp)),rL (Z 9 _ sp rfl rfl) (X _ (by simp)),rL (Z 10 _ P rfl rfl) (X _ (by simp))⟩;obtain⟨n,hn⟩:=t8 x D A B C w U R Q sp P u s1 ae M L J I G O bx (rL (Z 11 _ M rfl rfl) (X _ (by simp))) (rL (Z 12 _ L rfl rfl) (X _ (by simp))) (rL (Z 14 _ J rfl rfl) (X _ (by simp))) (rL (Z 15 _ I rfl rfl) (X _ (by simp))) (rL (Z 16 _ G rfl rfl) (X _ (by simp))) (rL (Z 17 _ O rfl rfl) (X _ (by simp))) (rL (Z 18 _ bx rfl rfl) (X _ (by simp))) (auW (Z 17 _ O rfl rfl) (X _ (by simp))) a F;have key:=akn auS n 8 _ _ _ _ pt8 auV k8 q8 _ _ _ hn (alx _) z W p Z;have b3:qB (look TT) [32,35,36,44,5] (lL _ (wk x D A B C w U R Q sp P++[.r M,.r L,.i ae,.r J,.r I,.r G,.r O,.r bx,.i a]))=vs:=k;rw[b3] at key;refine key.mono ?_;intro e W' h;cases e with
 |returned v=>
  obtain⟨yh,ys,e1,V,e3,rfl,hB,_,_⟩:=h;cases e1;cases ys with
  |nil=>exact V.elim
  |cons y ys=>
   cases ys with
   |cons _ _=>exact V.2.elim
   |nil=>
    cases y with
    |b q=>
     have:true=q:=V.1;subst this;exact⟨rfl,hB⟩
    |i q=>exact V.1.elim
    |r q=>exact V.1.elim
 |panicked ch=>obtain⟨_,v,e1,_⟩:=h;cases e1
 |outgrown=>exact h.elim
section
open Go.ChangeShapes Go.RowKit
def auY{H:Type}{enc:TypeId×Value->H}{P:Program}(R:laidOutB P=true){W W':World}(Q:Below W.heap.size W W'):∀{Z:List TypeId}{vs:List Value}{ds:List (DataW H)}{ps:List MemPlace},Z.all (λt=>P.readableRec t&&decide (t<P.types.size))=true->DataW.TrodAll enc P W 0 (λ_=>true) true Z vs ds ps->(∀x∈ps,x.block<W.heap.size)->DataW.TrodAll enc P W' 0 (λb=>decide (b<W.heap.size)) true Z vs ds ps:=by
 intro Z;induction Z with
 |nil=>
  intro vs ds ps _ h _;obtain⟨rfl,rfl,rfl⟩:=trodAll_nil h;exact rfl
 |cons t Z O=>
  intro vs ds ps X h U;obtain⟨v,L,d,J,p,q,rfl,rfl,rfl,N,M⟩:=trodAll_cons h;simp only[ayF,awF,decide_eq_true_eq] at X;exact⟨p,q,Go.RowKit.Below.trod R X.1.1 X.1.2 N Q (λx V=>U x (by simp[V])),O (by simpa using X.2) M (λx V=>U x (by simp[V])),rfl⟩
def auZ:laidOutB Tryz.prog=true:=by kernel_rfl
def rd8:([32,35,36,44,5]:List TypeId).all (λt=>Tryz.prog.readableRec t&&decide (t<Tryz.prog.types.size))=true:=by kernel_rfl
def au1{H:Type}{enc:TypeId×Value->H}{W W':World}{args:Array Value}{ds P:List (DataW H)}{before:List MemPlace}(Z:DataW.Whole enc Tryz.prog Tryz.f8.params.toList [] false W args.toList ds P before)(V:Below W.heap.size W W'):
  Go.Proofs.YtieaiocljdpebaaGreatDoor.Rows.certifyWagonSpec.post enc Tryz.prog Tryz.f8 false true false false W args (.bool true) W':=by
 have O:=Z.lt;have N:=Z;obtain⟨p,q,U,M,rfl,_,_⟩:=Z;obtain⟨rfl,rfl⟩:=trodVars_none M;have X:Tryz.f8.params.toList=[32,35,36,44,5]:=by rw[Tryz.params8]
 have R:=U;rw[X] at R;obtain⟨D,C,B,e1,A,z,_,rfl,rfl,_,L⟩:=trodAll_cons R;obtain⟨y,w,v,u,t,s,_,rfl,rfl,_,J⟩:=trodAll_cons L;obtain⟨v3,r,o,n,m,l,_,rfl,rfl,_,I⟩:=trodAll_cons J;obtain⟨v4,k,j,i,g,f,_,rfl,rfl,_,G⟩:=trodAll_cons I;obtain⟨v5,e,d,c,b,a,_,rfl,rfl,_,F⟩:=trodAll_cons G;obtain⟨_,rfl,rfl⟩:=trodAll_nil F;have Q:=auY auZ V rd8 (by rw[<-X];exact U) (λx E=>O x (by simpa using E));rw[<-X] at Q;exact⟨_,_,_,[],_,[],N,trodAll_mk1 (shut_bool Tryz.underlying4 _),Q,rfl,Below.frame V _,λh=>(by cases h)⟩
end
section
open Go.ChangeShapes Go.RowKit Go.ChangeAt
abbrev gn(k:Nat):String:=Go.Proofs.YtieaiocljdpebaaGreatDoor.Rows.certifyWagonRow.named.getD k ""
abbrev L3{H:Type}:List (String×DataW H):=[(gn 1,Go.Proofs.YtieaiocljdpebaaGreatDoor.Rows.laid_kinesphere_space_flat),(gn 0,Go.Proofs.YtieaiocljdpebaaGreatDoor.Rows.laid_kinesphere_expand_kinds),(gn 2,Go.Proofs.YtieaiocljdpebaaGreatDoor.Rows.laid_kinesphere_motion_kinds)]
def au2{P:Program}{ty:Ty}(jt:fA P ty){W:World}{base:Nat}{t:TypeId}{R:TI}{v:Value}(h:ty t=some R)(X:Value.okWide P W .any base t v):(R.d.isAgg=true/\v=.agg v.cells)\/(R.d.isAgg=false/\v.cells.toList=[v]):=by
 have Z:=(jt t R h).desc;have Q:∀d,P.underlying t=some d->(∀F,d≠ .struct F)->(∀n e,d≠ .array n e)->v.cells.toList=[v]:=by
  intro d U N M;cases v<;>try rfl
  case agg cs=>
   exfalso;unfold Value.okWide at X;rw[U] at X;cases d<;>first|exact N _ rfl|exact M _ _ rfl|simp[Cell.okWide,Cell.ok,U] at X
 cases L:R.d<;>rw[L] at Z
 case one=>
  obtain⟨d,U,⟨O,_⟩,_⟩:=Z;exact .inr ⟨rfl,Q d U (λF e=>by subst e;exact O) (λn e V=>by subst V;exact O)⟩
 case dH=>obtain⟨m,U⟩:=Z;exact .inr ⟨rfl,Q _ U (λF e=>by cases e) (λn e V=>by cases V)⟩
 case str=>exact .inr ⟨rfl,Q _ Z (λF e=>by cases e) (λn e V=>by cases V)⟩
 case slice e=>exact .inr ⟨rfl,Q _ Z (λF e=>by cases e) (λn e V=>by cases V)⟩
 case map k e n ag=>exact .inr ⟨rfl,Q _ Z (λF e=>by cases e) (λn e V=>by cases V)⟩
 case arr n e=>
  have Z:P.underlying t=some (.array n e):=Z;unfold Value.okWide at X;rw[Z] at X;obtain⟨cs,rfl,_⟩:=X;exact .inl ⟨rfl,rfl⟩
 case struct J=>
  obtain⟨F,U,_⟩:=Z;unfold Value.okWide at X;rw[U] at X;obtain⟨cs,rfl,_⟩:=X;exact .inl ⟨rfl,rfl⟩
def au3:ownKnob Tryz.prog.godebug=none:=by kernel_rfl
set_option maxRecDepth 100000 in
def au4 (Q:TB.Ev 11 [] (.ret [.b true])) {H:Type} {enc:TypeId×Value->H} {W:World} {base:Nat} {args:Array Value} {ds X:List (DataW H)} {before:List MemPlace} (P:GW W)
  (O:∀(j:Nat) t v,Tryz.f8.params[j]?=some t->args[j]?=some v->Value.okWide Tryz.prog W .any base t v) (V:DataW.Whole enc Tryz.prog Tryz.f8.params.toList [] false W args.toList ds X before)
  (Z:(DataW.weightsEach Tryz.prog (Tryz.f8.params.toList++[]) (ds++X)).all (·<=reachBytes)=true):
  Calls Tryz.prog 8 args W λe W'=>∃v,e=.returned v/\Go.Proofs.YtieaiocljdpebaaGreatDoor.Rows.certifyWagonSpec.post enc Tryz.prog Tryz.f8 false true false false W args v W':=by
 have N:=V;obtain⟨p,q,U,M,rfl,_,_⟩:=V;obtain⟨rfl,rfl⟩:=trodVars_none M;have R:Tryz.f8.params.toList=[32,35,36,44,5]:=by rw[Tryz.params8]
 rw[R] at U Z;simp only[aya,awU,decide_eq_true_eq] at Z;have key:=auX Q P U Z (λj t v D L J I=>by
  have G:Tryz.f8.params[j]?=some t:=by rw[<-ayS,R];exact L
  have F:=O j t v G (by rw[<-ayS];exact J);exact au2 Ij I F)
 refine key.mono ?_;rintro e W' ⟨rfl,E⟩;exact⟨_,rfl,au1 N E⟩
end
section
open Go.ChangeShapes Go.RowKit Go.ChangeAt
def au5(os:Os)(args:Array Value):laidMetH Tryz.prog L3 ((World.doorLaid Tryz.prog 400 os).forCall (λ_ _=>0) ⟨#[],args,[]⟩).memory:=
 laidMetH_of_parts3 (fuel:=8) (laidMet_of_run' 8 (by kernel_rfl) (by kernel_rfl)) (by kernel_rfl) (by kernel_rfl)
set_option maxHeartbeats 4000000 in
set_option maxRecDepth 100000 in
def au6 (Z:TB.Ev 11 [] (.ret [.b true])) (V:∀W,laidMetH Tryz.prog L3 W->GW W) (os:Os) (started:os.Started) (H:Type) (enc:TypeId×Value->H):
  ReturnsInHanded {} Tryz.checked os 8 .any (λw args=>(Go.Proofs.YtieaiocljdpebaaGreatDoor.Rows.certifyWagonSpec.pre enc Tryz.prog Tryz.f8 [] false w args/\laidMetH Tryz.prog L3 w)/\sizedMet enc Tryz.prog Tryz.f8 (OpenSpec.ofChange Go.Proofs.YtieaiocljdpebaaGreatDoor.Rows.certifyWagonSpec) false w args)
   (Go.Proofs.YtieaiocljdpebaaGreatDoor.Rows.certifyWagonSpec.post enc Tryz.prog Tryz.f8 false true false false):=by
 refine returnsInHanded_of_change_and (C:=Tryz.checked) (X:=λw _=>laidMetH Tryz.prog L3 w) (λ_ _ _ U h=>h.of_heap U) au3 started (by kernel_rfl) Tryz.func8
  (ChangeSpec.witness_shaped (enc:=enc) (C:=Tryz.checked) (os:=os) (X:=λw _=>laidMetH Tryz.prog L3 w) false (World.doorLaid Tryz.prog 400 os) #[.agg #[.int .i64 0,.int .i64 0,.int .i64 0,.int .i64 0,.int .i64 0,.slice none 0 0,.int .i64 0,.slice none 0 0,.slice none 0 0,.slice none 0 0,.slice none 0 0],.agg #[.slice none 0 0],.slice none 0 0,.agg #[.int .i64 0,.slice none 0 0,.slice none 0 0,.slice none 0 0,.slice none 0 0,.slice none 0 0],.int .u8 0] 8 rfl (World.shaped_of_RefB (by kernel_rfl) (by kernel_rfl)) (by kernel_rfl) (by kernel_rfl) (by kernel_rfl) (au5 os _)) ?_
 intro W base args ds N before R Q _ P O _;exact au4 Z (V W O) R Q P
end
section
section
variable{P:Program}{ty:Ty}{W:World}
def tL{α:Type}(w:Nat):Nat->List α->List (List α)
 |0,_=>[]
 |n+1,l=>l.take w::tL w n (l.drop w)
def Mb{α:Type}{w:Nat}:∀{n:Nat}{l:List α},(tL w n l).length=n
 |0,_=>rfl
 |n+1,l=>by simp[tL,Mb (n:=n)]
def SE{α:Type}{w:Nat}:∀{n:Nat}{l r:List α}{i:Nat},(tL w n l)[i]?=some r->i<n/\r=(l.drop (i*w)).take w
 |0,l,r,i,h=>by simp[tL] at h
 |n+1,l,r,0,h=>by simp[tL] at h;exact⟨by omega,by simp[h]⟩
 |n+1,l,r,i+1,h=>by
  simp only[tL,axh] at h;obtain⟨X,Z⟩:=SE h;refine⟨by omega, ?_⟩;rw[Z,ayw];congr 2;rw[axI];omega
def Iv{α:Type}{w n:Nat}{l r:List α}{i j:Nat}{c:α}(h:(tL w n l)[i]?=some r)(Z:r[j]?=some c):i<n/\j<w/\l[i*w+j]?=some c:=by
 obtain⟨X,rfl⟩:=SE h;rw[axc] at Z;split at Z;rename_i V;rw[axl] at Z;exact⟨X,V,Z⟩;cases Z
def Mc{H:Type}(P:Program)(t:TypeId)(d:DataW H)(w n:Nat):List (List RV):=tL w n ((aw3 (n*w)).map λj=>(kN P 9 t d j).getD default)
def aaT{g n w:Nat}{e t:TypeId}{O N:TI}{d:DataW Unit}{p:List MemPlace}{cs:Array Value}{fuel:Nat}(B:ty e=some O)(A:ty t=some N)(y:O.ab.length=w)(L:N.ab.length=n*w)(v:(aw3 n).map (λi=>(N.ab.drop (i*w)).take w)=awS n O.ab)(u:tJ P ty 9 t=true)
  (s:DataW.trod (λ_=>()) P W 0 (λ_=>true) false fuel t cs.toList=some (d,p))(o:(DataW.weights P t d).all (·<=reachBytes)=true)(m:∀i,W.cell? ⟨g,i,none⟩=cs[i]?)(l:((aw3 (n*w)).all λj=>(kN P 9 t d j).isSome)=true)(ag:0<w):
  ∃rows,aT W ty (.sl e) (.mk (.slice (some ⟨g,0,none⟩) n n) rows)/\bQ (uo g (Mc P t d w n)) (.mk (.slice (some ⟨g,0,none⟩) n n) rows):=by
 obtain⟨H,b⟩:=L9 fuel 9 t N _ _ A u s (λq a=>of_decide_eq_true (awU.1 o q a));obtain⟨row,G,r2,r3,r4,r5,r6⟩:=aaP H b;have af:row.length=n*w:=by rw[<-axB (f:=RV.val),G,H,L]
 have J:∀i j,i<n->j<w->N.ab[i*w+j]?=O.ab[j]?:=λi j hi hj=>by
  have h:=congrArg (·[i]?) v;simp only[awL,ax3 hi,axK,if_pos hi,awO,awJ] at h;rw[<-h,axc,if_pos hj,axl]
 have M:aW ty (.sl e)=O.ab:=by simp[aW,B]
 have bg:∀(i j:Nat)(r:List RV)(c:RV),(tL w n row)[i]?=some r->r[j]?=some c->W.cell? ⟨g,0+i*w+j,none⟩=some c.val:=λi j r c Z X=>by
  obtain⟨_,_,V⟩:=Iv Z X;have I:cs.toList[i*w+j]?=some c.val:=by rw[<-G,awL,V];rfl
  rw[axf,m,<-ayS];exact I
 have F:∀(i:Nat)(r:List RV),(tL w n row)[i]?=some r->r.length=w:=λi r Z=>by
  obtain⟨X,rfl⟩:=SE Z;have:(i+1)*w<=n*w:=axU w X;rw[axI] at this;rw[axJ,axW,af];omega
 refine⟨tL w n row,.sl e _ n n _ Mb (awN _) (λi r Z=> ?_) (λi j r c k Z X V=> ?_) (λi j r c Z X V=> ?_) (λi j r c z k Z X V=> ?_), ?_⟩;rw[M,y];have L:=F i r Z;refine⟨L,g,0,rfl, ?_,λj c X=>bg i j r c Z X⟩;obtain⟨c,hc⟩:∃c,r[0]?=some c:=⟨_,awH (by omega)⟩;exact ali (bg i 0 r c Z hc);rw[M] at V;obtain⟨R,Q,U⟩:=Iv Z X;exact r2 _ c k U (by rw[J i j R Q];exact V);rw[M] at V;obtain⟨R,Q,U⟩:=Iv Z X;exact r3 _ c U (by rw[J i j R Q];exact V);rw[M] at V;obtain⟨R,Q,U⟩:=Iv Z X;exact r4 _ c z k U (by rw[J i j R Q];exact V);unfold uo Mc;rw[Mb];refine bQ.sl _ _ _ _ _ _ _ (by rw[Mb,Mb]) (λi r E Z X=> ?_) (λi j r E c c' Z X V I=> ?_);obtain⟨R,rfl⟩:=SE Z;have:(i+1)*w<=n*w:=axU w R;rw[axI] at this;rw[F i E X,axJ,axW,axB,aAn];omega;obtain⟨R,Q,U⟩:=Iv Z V;obtain⟨_,_,q4⟩:=Iv X I;rw[awL] at U;have D:i*w+j<n*w:=by
  have:(i+1)*w<=n*w:=axU w R;rw[axI] at this;omega
 rw[ax3 D] at U;simp only[awO,awJ] at U;obtain⟨x,C⟩:=awZ.1 (awU.1 l _ (axR.2 D));rw[C,axi] at U;subst U;exact r6 _ c' x q4 C
end
def au7:Tryz.prog.globalNamed (gn 1)=some 2:=by kernel_rfl
def au8:Tryz.prog.globalNamed (gn 0)=some 0:=by kernel_rfl
def au9:Tryz.prog.globalNamed (gn 2)=some 1:=by kernel_rfl
def ava:(Tryz.prog.globals[2]?).map (·.type)=some 301:=by kernel_rfl
def avb:(Tryz.prog.globals[0]?).map (·.type)=some 246:=by kernel_rfl
def avc:(Tryz.prog.globals[1]?).map (·.type)=some 260:=by kernel_rfl
def aaU{g:Nat}{n:String}{W:World}{cs:Array Value}(Z:Tryz.prog.globalNamed n=some g)(X:W.var? Tryz.prog n=some cs)(i:Nat):W.cell? ⟨g,i,none⟩=cs[i]?:=World.var?_cell Z X i
def aly:∀(xs:List XV)(ρ:aa),∃l,(ρ.ext xs).r=ρ.r++l
 |[],ρ=>⟨[],by simp[aa.ext]⟩
 |x::xs,ρ=>by
  obtain⟨l,h⟩:=aly xs (ρ.add x);simp only[aa.ext,h];cases x<;>simp[aa.add]
def alz:py=[uo 0 (Mc Tryz.prog 246 (Go.Proofs.YtieaiocljdpebaaGreatDoor.Rows.laid_kinesphere_expand_kinds:DataW Unit) 6 10),uo 1 (Mc Tryz.prog 260 (Go.Proofs.YtieaiocljdpebaaGreatDoor.Rows.laid_kinesphere_motion_kinds:DataW Unit) 2 10),uo 2 (Mc Tryz.prog 301 (Go.Proofs.YtieaiocljdpebaaGreatDoor.Rows.laid_kinesphere_space_flat:DataW Unit) 2 8)]:=by kernel_rfl
def alA{α:Type}{p:Nat->α->Prop}{a b c:α}(Z:p 0 a)(X:p 1 b)(V:p 2 c):∀(k:Nat)(x:α),[a,b,c][k]?=some x->p k x
 |0,_,h=>axj h▸Z
 |1,_,h=>axj h▸X
 |2,_,h=>axj h▸V
 |k+3,_,h=>(by simp at h)
def avd{W:World}(h:laidMetH Tryz.prog L3 W):GW W:=by
 rw[MakeChecks.laidMetH_plain _ _ _ (by kernel_rfl)] at h;obtain⟨ps,⟨o,t0,m,j,i,f,O,J,I,H,⟨d,c,b,a,p1,q1,N,G,F,E,⟨g2,t2,af,f2,p2,q2,M,D,C,B,_,_⟩,_⟩,_⟩,_,_⟩:=h;obtain rfl:=axj (au7.symm.trans O);obtain rfl:=axj (au8.symm.trans N);obtain rfl:=axj (au9.symm.trans M);obtain rfl:=axj (ava.symm.trans J);obtain rfl:=axj (avb.symm.trans G);obtain rfl:=axj (avc.symm.trans D);obtain⟨X,A,z⟩:=aaT (P:=Tryz.prog) (ty:=look TT) (W:=W) (g:=0) (n:=10) (w:=6) (e:=245) (t:=246) rfl rfl rfl rfl rfl (by kernel_rfl) E (by kernel_rfl) (aaU N F) (by kernel_rfl) (by decide);obtain⟨V,y,u⟩:=aaT (P:=Tryz.prog) (ty:=look TT) (W:=W) (g:=1) (n:=10) (w:=2) (e:=259) (t:=260) rfl rfl rfl rfl rfl (by kernel_rfl) B (by kernel_rfl) (aaU M C) (by kernel_rfl) (by decide);obtain⟨U,s,r⟩:=aaT (P:=Tryz.prog) (ty:=look TT) (W:=W) (g:=2) (n:=8) (w:=2) (e:=142) (t:=301) rfl rfl rfl rfl rfl (by kernel_rfl) H (by kernel_rfl) (aaU O I) (by kernel_rfl) (by decide);refine⟨[.mk (.slice (some ⟨0,0,none⟩) 10 10) X,.mk (.slice (some ⟨1,0,none⟩) 10 10) V,.mk (.slice (some ⟨2,0,none⟩) 8 8) U],by rw[alz];rfl,λk v Z R Q=> ?_,λk e rv R Q=> ?_,λxs x L=> ?_⟩;rw[alz] at R;exact alA (p:=λk v=>∀Z,[RV.mk (.slice (some ⟨0,0,none⟩) 10 10) X,.mk (.slice (some ⟨1,0,none⟩) 10 10) V,.mk (.slice (some ⟨2,0,none⟩) 8 8) U][k]?=some Z->bQ v Z) (λZ h=>axj h▸z) (λZ h=>axj h▸u) (λZ h=>axj h▸r) k v R Z Q;exact alA (p:=λk e=>∀rv,[RV.mk (.slice (some ⟨0,0,none⟩) 10 10) X,.mk (.slice (some ⟨1,0,none⟩) 10 10) V,.mk (.slice (some ⟨2,0,none⟩) 8 8) U][k]?=some rv->aT W (look TT) e rv) (λZ h=>axj h▸A) (λZ h=>axj h▸y) (λZ h=>axj h▸s) k e R rv Q;obtain⟨l,q⟩:=aly xs ⟨[],[],[RV.mk (.slice (some ⟨0,0,none⟩) 10 10) X,.mk (.slice (some ⟨1,0,none⟩) 10 10) V,.mk (.slice (some ⟨2,0,none⟩) 8 8) U],[]⟩;simp only[GL,awP,ayA,or_false] at L;unfold dY aa.rv;rw[q];rcases L with rfl|rfl|rfl;exact⟨by simp,10,10,rfl⟩;exact⟨by simp,10,10,rfl⟩;exact⟨by simp,8,8,rfl⟩
end
end
end Go.Proofs.YtieaiocljdpebaaGreatDoor.Y
