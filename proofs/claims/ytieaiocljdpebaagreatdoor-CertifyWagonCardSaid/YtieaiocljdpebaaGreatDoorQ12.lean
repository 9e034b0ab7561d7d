/- Part 12 of the proof; the last part says what is shown. -/
import Derived.Test.YtieaiocljdpebaaGreatDoorQ4
import Derived.Test.YtieaiocljdpebaaGreatDoorQ2
import Derived.Test.YtieaiocljdpebaaGreatDoorQ1
import Derived.Test.YtieaiocljdpebaaGreatDoorQ11
set_option linter.defProp false
set_option linter.unusedVariables false
set_option linter.unusedSimpArgs false
set_option linter.unnecessarySimpa false
open Bool renaming and_eq_true→awF,not_eq_true'→awY,false_eq_true→aw0
open List renaming getElem?_eq_some_iff→awG,getElem?_eq_getElem→awH,getElem?_append_left→awI,getD_eq_getElem?_getD→awK,getElem?_map→awL,getElem?_append_right→awM,mem_cons→awP,length_append→awQ,mem_append→awR,replicate→awS,map_cons→awT,all_eq_true→awU,cons_append→awV,nil_append→awX,mem_of_getElem?→aw1,pairwise_cons→aw2,mem_map→aw7,pairwise_append→aw8,eq_nil_of_length_eq_zero→axa,getElem?_take→axc,ext_getElem?→axd,getElem?_drop→axl,length_cons→axm,map_map→axu,getElem?_of_mem→axv,getElem?_cons_zero→axz,getElem?_eq_none_iff→axA,length_map→axB,getElem?_set→axC,drop_eq_getElem_cons→axE,nodup_append→axF,mem_of_mem_drop→axG,length_take→axJ,mem_of_mem_take→axL,mem_or_eq_of_mem_set→axM,length_drop→axW,take_of_length_le→axX,getD_cons_zero→axY,map_nil→ax0,foldl_cons→ax4,take_append_drop→ax5,getElem_mem→ax6,append_assoc→ax9,append_nil→aya,getD_cons_succ→ayb,pairwise_iff_getElem→ayh,length_nil→ayj,set_append_right→ays,drop_drop→ayw,map→ayy,take_append_of_le_length→ayP,all_map→ayT,length→ayW,drop_left'→ay2,pairwise_singleton→azL,getElem?_modify→az1,set_cons_zero→aAe,take_add_one→aAm
open Option.some renaming injEq→awJ,inj→axj
open Nat renaming le_refl→awN,add_sub_cancel_left→ayE,sub_self→azl,min_eq_left→azm
open Option renaming map_eq_some_iff→ayd
open List.Pairwise renaming nil→axt
open Int renaming toNat_natCast→axy,mul_le_mul_of_nonneg_right→azq,mul_lt_mul_of_pos_right→azx,fdiv_eq_ediv_of_nonneg→azB
open List.Perm renaming refl→azu,swap→aAr
namespace Go.Proofs.YtieaiocljdpebaaGreatDoor.Y
open Go.RowKit
noncomputable section
section
def S.bare(s:S):S:=⟨[],[],s.ni,s.nb,s.rs,0,0,s.pd⟩
def Sc:XE->S->T:=λe s=>.out e s.bare
section
variable{S0:List Nat}{w0:World}{D:bw}{β:List Nat}{ρ:aa}{s:S}{a:Act}{W:World}{ty:Ty}{cf:bc}{p:Sp}
def ao.bare(R:ao S0 w0 D ty β ρ s a W):ao S0 w0 D ty [] ρ s.bare ⟨#[],a.defers⟩ W where
 mem:=⟨R.mem.base,λi h=>by simp[S.bare,aA,bA] at h,λi j h=>by simp[S.bare,aA,bA] at h,λi t cs h=>by simp[S.bare,bA] at h,λk e rv Z X=>⟨(R.mem.ref k e rv Z X).1,λb U i h=>by simp[S.bare,aA,bA] at h⟩⟩
 dX:=rfl
 ei:=R.ei
 eb:=R.eb
 er:=R.er
 bT:=R.bT
 size:=rfl
 tmps:=λt Q h=>by simp[S.bare] at h
 cO:=λk e rv b Z X V=>⟨(R.cO k e rv b Z X V).own,(R.cO k e rv b Z X V).mem,λi h=>by simp[S.bare,aA,bA] at h,(R.cO k e rv b Z X V).alone,(R.cO k e rv b Z X V).inner⟩
def arI(X:jr p cf){f:FuncId}{fn:Func}{c:Code}(L:p.P.funcs[f]?=some fn)(F:fn.body=some c)(E:fn.results.toList=[])(C:p.D=bw.none){n:Nat}{args:List SV}{s:S}{ρ:aa}{β:List Nat}{t:T}
  (B:dJ cf n f c {s with tmps:=args++awS (fn.ntmps-args.length) (.bj [])} fK Sc=t)(O:t.aD p ρ [])(A:dA cf.gl ρ)(R:ao p.S0 p.w0 bw.none cf.ty β ρ {s with tmps:=[]} ⟨#[],[]⟩ p.w0)
  (z:∀e a W,p.Q e a W->(e=.normal\/e=.ret)/\p.R (.returned (.tuple #[])) W):
  Calls p.P f (SV.ap ρ β args).toArray p.w0 p.R:=by
 subst B;refine JE L F ?_;have RE:=R.enter args fn.ntmps R.bT;refine(NR X n).1 bw.none ⟨{s with tmps:=args++awS (fn.ntmps-args.length) (.bj [])},ρ,β,[]⟩ fK none f c _ _ [] ρ β _ p.w0 _ (CJ _ _) (jq.here _ _ _ _) rfl (λx=>by cases x) ⟨fn,L⟩ O RE A ?_ ?_;intro J a' W' pd y w u;obtain⟨r,V,q,N,U⟩:=w.j6;show LeavesInM Fence.wide 0 p.P fn a'.tmps p.R a'.defers (.panicking J) W';rw[V];exact po (by simp) (axF.1 N).1 (λd Z=>(U d (by simp[Z])).1) (JH (X.Nu J) (λd Z=>(U d (by simp[Z])).2) u);intro e s' ρ' o a' W' m k j I O;obtain⟨r,V,q,N,U⟩:=I.bT.j6;have H:=I.nC V;have M:=z _ _ _ (O ρ'.y [] _ _ (by rw[X.pt,C];exact H.bare));have G:LeavesInM Fence.wide 0 p.P fn a'.tmps p.R a'.defers .returning (W'):=by
  rw[V];refine po (by simp) (axF.1 N).1 (λd Z=>(U d (by simp[Z])).1) ⟨_,Js (l:=[]) H X.jt (by rw[E];rfl), ?_⟩;exact M.2
 cases e with
 |normal=>exact G
 |ret=>exact G
 |aS v=>have:=M.1;simp[XE.to] at this
 |exit id=>have:=M.1;simp[XE.to] at this
def arJ{k:Nat}{e:TypeId}{A:Option Addr}{n cap:Nat}{ay:List (List RV)}(R:ao (jp A cap).toList w0 D cf.ty β ρ s a W)(N:s.rs[k]?=some (.own e))(M:ρ.rv k=.mk (.slice A n cap) ay):
  w0.grownBy W (jp A cap)/\Fg w0 W e (aW cf.ty (.sl e)).length (jp A cap) ay A cap:=by
 obtain⟨F,n',E,Z,V,Q⟩:=M6 R N;rw[M] at Z V;simp only[RV.jl] at Z V;injection Z with Z _;injection Z with L P J;subst L;subst P;subst J;obtain⟨P,C⟩:=qr V;have X:=R.mem.base;refine⟨⟨X.os,X.tape,X.output,X.size,λi hi I=>X.block i hi (λU=>I ?_)⟩,⟨by omega,Q.nil, ?_⟩⟩;exact((by simpa[Option.mem_toList] using U:jp A cap=some i)).symm;rcases Q.mem with h|⟨b,H,rfl,O,U,G⟩;exact .inl h;cases cap with
 |zero=>exact .inl rfl
 |succ c=>exact .inr ⟨b,H,rfl,O,U,G,TN V O,.inr rfl⟩
end
end
section
section
variable{lt:List RV->List RV->Bool}{p:List RV->Prop}
structure jd(lt:List RV->List RV->Bool)(p:List RV->Prop):Prop where
 Sd:∀x,p x->lt x x=false
 tr:∀x y z,p x->p y->p z->lt x y=true->lt y z=true->lt x z=true
 nt:∀x y z,p x->p y->p z->lt x y=false->lt y z=false->lt x z=false
def jd.asym(h:jd lt p){x y:List RV}(Z:p x)(X:p y)(W:lt x y=true):lt y x=false:=by
 cases V:lt y x;rfl;have:=h.tr x y x Z X Z W V;rw[h.Sd x Z] at this;cases this
def ako(h:jd lt p){x y:List RV}(X:p x)(W:p y)(Z:lt y x=true):∀{l:List (List RV)},(∀z∈l,p z)->cQ lt y (cQ lt x l)=cQ lt x (cQ lt y l)
 |[],_=>by
  have V:=h.asym W X Z;simp[cQ,Z,V]
 |z::r,Q=>by
  have P:=Q z (by simp);have O:=ako h X W Z (l:=r) (λw N=>Q w (by simp[N]));have V:=h.asym W X Z;cases U:lt x z;cases R:lt y z;simp[cQ,U,R,O];simp[cQ,U,R,V];have R:lt y z=true:=h.tr y x z W X P Z U;simp[cQ,U,R,Z,V]
inductive dQ(lt:List RV->List RV->Bool)(l:List (List RV)):List (List RV)->Prop
 |refl:dQ lt l l
 |step {P Q:List (List RV)} {x y:List RV}:lt y x=true->dQ lt l (P++x::y::Q)->dQ lt l (P++y::x::Q)
def dQ.trans{a b c:List (List RV)}(Z:dQ lt a b)(X:dQ lt b c):dQ lt a c:=by
 induction X with
 |refl=>exact Z
 |step h _ W=>exact .step h W
def dQ.Ik{a b:List (List RV)}(A B:List (List RV))(h:dQ lt a b):dQ lt (A++a++B) (A++b++B):=by
 induction h with
 |refl=>exact .refl
 | @step P Q x y h _ Z=>
  have e1:A++(P++x::y::Q)++B=(A++P)++x::y::(Q++B):=by simp
  have X:A++(P++y::x::Q)++B=(A++P)++y::x::(Q++B):=by simp
  rw[e1] at Z;rw[X];exact .step h Z
def dQ.perm{a b:List (List RV)}(h:dQ lt a b):b.Perm a:=by
 induction h with
 |refl=>exact azu _
 |step _ _ Z=>exact((aAr _ _ _).append_left _).trans Z
def dQ.akp(P:List (List RV))(b:List RV):∀(A Q:List (List RV)),(∀a∈A,lt b a=true)->dQ lt (P++A.reverse++b::Q) (P++b::(A.reverse++Q))
 |[],Q,_=>by simpa using dQ.refl
 |a::A,Q,h=>by
  have Z:dQ lt (P++(a::A).reverse++b::Q) ((P++A.reverse)++b::a::Q):=by
   have:P++(a::A).reverse++b::Q=(P++A.reverse)++a::b::Q:=by simp
   rw[this];exact .step (h a (by simp)) .refl
  have X:=dQ.akp P b A (a::Q) (λx W=>h x (by simp[W]));have e:P++b::((a::A).reverse++Q)=P++b::(A.reverse++a::Q):=by simp
  rw[e];exact Z.trans X
def dQ.one(P Q:List (List RV))(b:List RV)(A:List (List RV))(h:∀a∈A,lt b a=true):dQ lt (P++A++b::Q) (P++b::(A++Q)):=by
 have:=dQ.akp (lt:=lt) P b A.reverse Q (λa Z=>h a (by simpa using Z));simpa using this
def dQ.block(Q:List (List RV))(A:List (List RV)):∀(B P:List (List RV)),(∀a∈A,∀b∈B,lt b a=true)->dQ lt (P++A++(B++Q)) (P++B++(A++Q))
 |[],P,_=>by simpa using dQ.refl
 |b::B,P,h=>by
  have X:=dQ.one P (B++Q) b A (λa Z=>h a Z b (by simp));have W:=dQ.block Q A B (P++[b]) (λa Z V U=>h a Z V (by simp[U]));have e1:P++b::(A++(B++Q))=P++[b]++A++(B++Q):=by simp
  have R:P++b::B++(A++Q)=P++[b]++B++(A++Q):=by simp
  rw[e1] at X;rw[R];exact X.trans W
def tE(lt:List RV->List RV->Bool)(acc l:List (List RV)):List (List RV):=l.foldl (λacc x=>cQ lt x acc) acc
def arK{acc l:List (List RV)}(W:∀z∈acc,p z)(V:∀z∈l,p z):∀z∈tE lt acc l,p z:=by
 induction l generalizing acc with
 |nil=>exact W
 |cons x l Z=>
  refine Z (acc:=cQ lt x acc) (λz X=> ?_) (λz X=>V z (by simp[X]));have cT:∀{l:List (List RV)},z∈cQ lt x l->z=x\/z∈l:=by
   intro l;induction l with
   |nil=>intro h;simpa[cQ] using h
   |cons y r Z=>
    intro h;simp only[cQ] at h;split at h;simpa using h;rcases awP.1 h with h|h;exact .inr (by simp[h]);rcases Z h with h|h;exact .inl h;exact .inr (by simp[h])
  rcases cT X with rfl|h;exact V _ (by simp);exact W z h
def dQ.fold(h:jd lt p){l V:List (List RV)}(Z:dQ lt l V){acc:List (List RV)}(R:∀z∈l,p z)(O:∀z∈acc,p z):tE lt acc V=tE lt acc l:=by
 induction Z with
 |refl=>rfl
 | @step P Q x y N Z M=>
  rw[<-M];have X:=λz(W:z∈P++x::y::Q)=>R z (Z.perm.mem_iff.1 W)
  have U:∀z∈tE lt acc P,p z:=arK O λz W=>X z (by simp[W])
  simp only[tE,List.foldl_append,ax4] at U⊢;rw[ako h (X x (by simp)) (X y (by simp)) N U]
def eh(lt:List RV->List RV->Bool)(l:List (List RV)):Prop:=l.Pairwise λa b=>lt b a=false
def akq{x:List RV}:∀{l:List (List RV)},(∀y∈l,lt x y=false)->cQ lt x l=l++[x]
 |[],_=>rfl
 |y::r,h=>by
  have Z:=h y (by simp);simp[cQ,Z,akq (l:=r) λz X=>h z (by simp[X])]
def arL{l:List (List RV)}:∀{acc:List (List RV)},eh lt (acc++l)->tE lt acc l=acc++l:=by
 induction l with
 |nil=>intro acc _;simp[tE]
 |cons x l Z=>
  intro acc h;have X:∀y∈acc,lt x y=false:=λy W=>(aw8.1 h).2.2 y W x (by simp)
  have e:acc++x::l=(acc++[x])++l:=by simp
  rw[e] at h⊢;rw[<-Z h];simp only[tE,ax4];rw[akq X]
def Se{l:List (List RV)}(h:eh lt l):be lt l=l:=arL (acc:=[]) h
def LO{x z:List RV}:∀{l:List (List RV)},z∈cQ lt x l->z=x\/z∈l
 |[],h=>by simpa[cQ] using h
 |y::r,h=>by
  simp only[cQ] at h;split at h;simpa using h;rcases awP.1 h with h|h;exact .inr (by simp[h]);rcases LO h with h|h;exact .inl h;exact .inr (by simp[h])
def eh.ins(h:jd lt p){x:List RV}(X:p x):∀{l:List (List RV)},(∀z∈l,p z)->eh lt l->eh lt (cQ lt x l)
 |[],_,_=>azL _ _
 |y::r,W,U=>by
  have R:=W y (by simp);have V:=aw2.1 U;simp only[cQ];cases Q:lt x y;refine aw2.2 ⟨λz Z=> ?_,eh.ins h X (λz Z=>W z (by simp[Z])) V.2⟩;rcases LO Z with rfl|Z;exact Q;exact V.1 z Z;refine aw2.2 ⟨λz Z=> ?_,U⟩;have P:=h.asym X R Q;rcases awP.1 Z with rfl|Z;exact P;exact h.nt z y x (W z (by simp[Z])) R X (V.1 z Z) P
def eh.fold(h:jd lt p){l:List (List RV)}:∀{acc:List (List RV)},(∀z∈acc,p z)->(∀z∈l,p z)->eh lt acc->eh lt (tE lt acc l):=by
 induction l with
 |nil=>intro acc _ _ h;exact h
 |cons x l V=>
  intro acc W X U;refine V (acc:=cQ lt x acc) (λz Z=> ?_) (λz Z=>X z (by simp[Z])) (U.ins h (X x (by simp)) W);rcases LO Z with rfl|Z;exact X _ (by simp);exact W z Z
def Ej(h:jd lt p){l:List (List RV)}(Z:∀z∈l,p z):eh lt (be lt l):=eh.fold h (acc:=[]) (by simp) Z axt
def dQ.ins(h:jd lt p){x:List RV}(W:p x):∀{l:List (List RV)},(∀z∈l,p z)->eh lt l->dQ lt (l++[x]) (cQ lt x l)
 |[],_,_=>.refl
 |y::r,X,R=>by
  have Q:=X y (by simp);have V:=aw2.1 R;simp only[cQ];cases U:lt x y;have:=(dQ.ins h W (l:=r) (λz Z=>X z (by simp[Z])) V.2).Ik [y] [];simpa using this;have:=dQ.one (lt:=lt) [] [] x (y::r) (λz Z=>by
   rcases awP.1 Z with rfl|Z;exact U;cases P:lt x z;have:=h.nt x z y W (X z (by simp[Z])) Q P (V.1 z Z);rw[U] at this;cases this;rfl)
  simpa using this
def dQ.arM(h:jd lt p){l:List (List RV)}:∀{acc:List (List RV)},(∀z∈acc,p z)->(∀z∈l,p z)->eh lt acc->dQ lt (acc++l) (tE lt acc l):=by
 induction l with
 |nil=>intro acc _ _ _;simpa[tE] using dQ.refl
 |cons x l U=>
  intro acc W X V;have R:=(dQ.ins h (X x (by simp)) W V).Ik [] l;have Q:=U (acc:=cQ lt x acc) (λz Z=>by
   rcases LO Z with rfl|Z;exact X _ (by simp);exact W z Z) (λz Z=>X z (by simp[Z])) (V.ins h (X x (by simp)) W)
  have e:acc++x::l=[]++(acc++[x])++l:=by simp
  rw[e];refine R.trans ?_;rw[awX];exact Q
def dQ.Sf(h:jd lt p){l:List (List RV)}(Z:∀z∈l,p z):dQ lt l (be lt l):=by
 exact dQ.arM h (acc:=[]) (by simp) Z axt
def aan(h:jd lt p){l Z:List (List RV)}(X:∀z∈l,p z)(W:dQ lt l Z)(V:eh lt Z):be lt l=Z:=by
 rw[<-Se V];exact(W.fold h (acc:=[]) X (by simp)).symm
def Ek{l:List (List RV)}{z:List RV}(h:z∈be lt l):z∈l:=by
 have:∀(l acc:List (List RV)),z∈tE lt acc l->z∈acc\/z∈l:=by
  intro l;induction l with
  |nil=>intro acc h;exact .inl h
  |cons x l Z=>
   intro acc h;rcases Z (cQ lt x acc) h with h|h;rcases LO h with rfl|h;exact .inr (by simp);exact .inl h;exact .inr (by simp[h])
 rcases this l [] h with h|h;cases h;exact h
def arN(h:jd lt p){x:List RV}{Z X:List (List RV)}(U:∀z∈x::(Z++X),p z)(P:eh lt (Z++X))(Q:∀y∈Z,lt y x=true)(O:∀y∈X,lt y x=false):be lt (x::(Z++X))=Z++x::X:=by
 refine aan h U ?_ ?_;have:=dQ.block (lt:=lt) X [x] Z [] (λa W b V=>by simp at W;subst W;exact Q b V);simpa using this;have R:=aw8.1 P;refine aw8.2 ⟨R.1,aw2.2 ⟨O,R.2.1⟩,λa W b V=> ?_⟩;rcases awP.1 V with rfl|V;exact h.asym (U a (by simp[W])) (U b (by simp)) (Q a W);exact R.2.2 a W b V
def arO(h:jd lt p){y:List RV}{Z X:List (List RV)}(V:∀z∈Z++X++[y],p z)(P:eh lt (Z++X))(O:∀x∈Z,lt y x=false)(R:∀x∈X,lt y x=true):be lt (Z++X++[y])=Z++y::X:=by
 refine aan h V ?_ ?_;have:=dQ.one (lt:=lt) Z [] y X R;simpa using this;have U:=aw8.1 P;refine aw8.2 ⟨U.1,aw2.2 ⟨λb W=>h.asym (V y (by simp)) (V b (by simp[W])) (R b W),U.2.1⟩,λa Q b W=> ?_⟩;rcases awP.1 W with rfl|W;exact O a Q;exact U.2.2 a Q b W
def arP(h:jd lt p){W V U R:List (List RV)}(Q:∀z∈W++V++(U++R),p z)(I:eh lt (W++V))(H:eh lt (U++R))(G:∀x∈W,∀y∈R,lt y x=false)(M:∀x∈V,∀y∈U,lt y x=true):
  be lt (W++V++(U++R))=be lt (W++U)++be lt (V++R):=by
 have F:=aw8.1 I;have E:=aw8.1 H;have P:∀z∈W++U,p z:=λz O=>Q z (by rcases awR.1 O with h|h<;>simp[h])
 have N:∀z∈V++R,p z:=λz O=>Q z (by rcases awR.1 O with h|h<;>simp[h])
 refine aan h Q ?_ ?_;have D:=dQ.block (lt:=lt) R V U W M;have L:=(dQ.Sf h P).Ik [] (V++R);have J:=(dQ.Sf h N).Ik (be lt (W++U)) [];simp only[awX,aya] at L J;exact(D.trans L).trans J;refine aw8.2 ⟨Ej h P,Ej h N,λa X b Z=> ?_⟩;have X:=Ek X;have Z:=Ek Z;have C:=P a X;have B:=N b Z;rcases awR.1 X with X|X;rcases awR.1 Z with Z|Z;exact F.2.2 a X b Z;exact G a X b Z;rcases awR.1 Z with Z|Z;exact h.asym C B (M b Z a X);exact E.2.2 a X b Z
def akr(h:jd lt p){A B:List (List RV)}(Z:∀z∈A,p z)(X:∀z∈B,p z):be lt (be lt A++be lt B)=be lt (A++B):=by
 have W:=(dQ.Sf h Z).Ik [] B;have V:=(dQ.Sf h X).Ik (be lt A) [];simp only[awX,aya] at W V;exact(W.trans V).fold h (acc:=[]) (λz U=>by exact(awR.1 U).elim (Z z) (X z)) (by simp)
end
end
section
section
def aks(d:Bool):∀(cs:List Nat)(x y z:List RV),fz d cs x y=false->fz d cs y z=false->fz d cs x z=false
 |[],_,_,_,_,_=>rfl
 |c::cs,x,y,z,W,Z=>by
  simp only[fz] at W Z⊢;by_cases e1:aK c x=aK c y;rw[if_pos e1] at W;by_cases X:aK c y=aK c z;rw[if_pos X] at Z;rw[if_pos (e1.trans X)];exact aks d cs x y z W Z;rw[if_neg X] at Z;rw[if_neg (by rw[e1];exact X),e1];exact Z;rw[if_neg e1] at W;by_cases X:aK c y=aK c z;rw[if_neg (by rw[<-X];exact e1),<-X];exact W;rw[if_neg X] at Z;cases d;simp only[aw0,if_false,decide_eq_false_iff_not] at W Z⊢;rw[if_neg (by omega)];simp only[decide_eq_false_iff_not];omega;simp only[if_true,decide_eq_false_iff_not] at W Z⊢;rw[if_neg (by omega)];simp only[decide_eq_false_iff_not];omega
def akt(d:Bool):∀(cs:List Nat)(x:List RV),fz d cs x x=false
 |[],_=>rfl
 |c::cs,x=>by simp[fz,akt d cs x]
def aku(d:Bool):∀(cs:List Nat)(x y z:List RV),fz d cs x y=true->fz d cs y z=true->fz d cs x z=true
 |[],_,_,_,h,_=>by simp[fz] at h
 |c::cs,x,y,z,W,Z=>by
  simp only[fz] at W Z⊢;by_cases e1:aK c x=aK c y;rw[if_pos e1] at W;by_cases X:aK c y=aK c z;rw[if_pos X] at Z;rw[if_pos (e1.trans X)];exact aku d cs x y z W Z;rw[if_neg X] at Z;rw[if_neg (by rw[e1];exact X),e1];exact Z;rw[if_neg e1] at W;by_cases X:aK c y=aK c z;rw[if_neg (by rw[<-X];exact e1),<-X];exact W;rw[if_neg X] at Z;cases d;simp only[aw0,if_false,decide_eq_true_eq] at W Z⊢;rw[if_neg (by omega)];simp only[decide_eq_true_eq];omega;simp only[if_true,decide_eq_true_eq] at W Z⊢;rw[if_neg (by omega)];simp only[decide_eq_true_eq];omega
def Sg(cs:List Nat)(d:Bool):jd (aJ.lex cs d).lt (λx=>(aJ.lex cs d).ok x=true):=
 ⟨λx _=>akt d cs x,λx y z _ _ _=>aku d cs x y z,λx y z _ _ _=>aks d cs x y z⟩
def Il{n d:Int}(h:jL n d=true):0<d:=by
 simp only[jL,awF,decide_eq_true_eq] at h;omega
def aao(n d:Nat):jd (aJ.ratio n d).lt (λx=>(aJ.ratio n d).ok x=true):=by
 refine⟨λx _=> ?_,λx y z W V U Z X=> ?_,λx y z W V U Z X=> ?_⟩;simp[aJ.lt];have dx:=Il W;have Q:=Il V;have R:=Il U;simp only[aJ.lt,decide_eq_true_eq] at Z X⊢;have P:=azx Z R;have O:=azx X dx;refine Int.lt_of_mul_lt_mul_left (a:=aK d y) ?_ (by omega);have e1:aK n x*aK d y*aK d z=aK d y*(aK n x*aK d z):=by ac_rfl
 have N:aK n y*aK d x*aK d z=aK n y*aK d z*aK d x:=by ac_rfl
 have M:aK n z*aK d y*aK d x=aK d y*(aK n z*aK d x):=by ac_rfl
 omega;have dx:=Il W;have Q:=Il V;have R:=Il U;simp only[aJ.lt,decide_eq_false_iff_not,Int.not_lt] at Z X⊢;have P:=azq Z (show 0<=aK d z by omega);have O:=azq X (show 0<=aK d x by omega);refine Int.le_of_mul_le_mul_left (a:=aK d y) ?_ (by omega);have e1:aK n x*aK d y*aK d z=aK d y*(aK n x*aK d z):=by ac_rfl
 have N:aK n y*aK d x*aK d z=aK n y*aK d z*aK d x:=by ac_rfl
 have M:aK n z*aK d y*aK d x=aK d y*(aK n z*aK d x):=by ac_rfl
 omega
end
section
variable{lt:List RV->List RV->Bool}{p:List RV->Prop}
def l9(rows:List (List RV)){a m b:Nat}(Z:a<=m)(X:m<=b):aF rows a b=aF rows a m++aF rows m b:=by
 simp only[aF];have e:b-a=(m-a)+(b-m):=by omega
 rw[e,List.take_add,ayw,show a+(m-a)=m by omega]
def Im(rows:List (List RV)){a b:Nat}(Z:a<=b):rows.take a++(aF rows a b++rows.drop b)=rows:=by
 simp only[aF];have e:rows.drop b=(rows.drop a).drop (b-a):=by rw[ayw];congr 1;omega
 rw[e,ax5,ax5]
def LP(rows:List (List RV)){a b i:Nat}(h:i<b-a):(aF rows a b)[i]?=rows[a+i]?:=by
 simp only[aF,axc,h,if_true,axl]
def nc(rows:List (List RV)){a b:Nat}(h:b<=rows.length):(aF rows a b).length=b-a:=by simp[aF];omega
def BQ{rows:List (List RV)}{a b:Nat}{x:List RV}(h:x∈aF rows a b):∃i,a<=i/\i<b/\i<rows.length/\rows.getD i []=x:=by
 obtain⟨i,hi⟩:=axv h;have Z:=(awG.1 hi).1;simp only[aF,axJ,axW] at Z;rw[LP rows (by omega)] at hi;exact⟨a+i,by omega,by omega,by omega,by simp[awK,hi]⟩
def In{rows:List (List RV)}{a b:Nat}(Z:b<=rows.length)(h:eh lt (aF rows a b)){i j:Nat}(W:a<=i)(U:i<j)(V:j<b):lt (rows.getD j []) (rows.getD i [])=false:=by
 have:=ayh.1 h (i-a) (j-a) (by rw[nc rows Z];omega) (by rw[nc rows Z];omega) (by omega);have e:∀k(X:k-a<(aF rows a b).length),a<=k->k<b->(aF rows a b)[k-a]=rows.getD k []:=λk X R Q=>by
  have q:=LP rows (a:=a) (b:=b) (i:=k-a) (by omega);rw[awH X,show a+(k-a)=k by omega] at q;simp[awK,<-q]
 rw[e i _ W (by omega),e j _ (by omega) V] at this;exact this
def akv{l:List (List RV)}:rY lt l=true<->eh lt l:=by
 induction l with
 |nil=>exact⟨λ_=>axt,λ_=>rfl⟩
 |cons x r Z=>
  simp only[rY,awF,Z,awU,awY,eh,aw2]
def arQ(h:jd lt p){rows:List (List RV)}(P:∀z∈rows,p z){a s m e b:Nat}(O:a<=s)(N:s<=m)(M:m<=e)(L:e<=b)(F:b<=rows.length)(J:eh lt (aF rows a m))(I:eh lt (aF rows m b))
  (H:∀i j,a<=i->i<s->e<=j->j<b->lt (rows.getD j []) (rows.getD i [])=false)(G:∀i j,s<=i->i<m->m<=j->j<e->lt (rows.getD j []) (rows.getD i [])=true):
  be lt (aF rows a b)=be lt (aF rows a s++aF rows m e)++be lt (aF rows s m++aF rows e b):=by
 rw[l9 rows (show a<=m by omega) (show m<=b by omega),l9 rows O N,l9 rows M L] at*;refine arP h (λz Z=>P z ?_) J I (λx X y W=> ?_) (λx X y W=> ?_);simp only[awR] at Z;rcases Z with(Z|Z)|(Z|Z)<;>exact pm Z;obtain⟨i,V,U,_,rfl⟩:=BQ X;obtain⟨j,R,Q,_,rfl⟩:=BQ W;exact H i j V U R Q;obtain⟨i,V,U,_,rfl⟩:=BQ X;obtain⟨j,R,Q,_,rfl⟩:=BQ W;exact G i j V U R Q
end
end
def fU:List Bool->List RV->Prop
 |[],x=>x=[]
 |b::Z,c::r=>(if b then∃n,c=.mk (.int .i64 n) [] else∃q,c=.mk (.bool q) [])/\fU Z r
 |_::_,[]=>False
def zD(b:Bool):CT:=if b then .int .i64 else .bool
def qb(c:RV):RV:=.mk c.val []
def de(rows:List (List RV)):List (List RV):=rows.map λrow=>row.map qb
def aap(c:Nat)(x:List RV):aK c (x.map qb)=aK c x:=by
 simp only[aK,awK,awL];cases x[c]?<;>rfl
def akw(d:Bool)(x y:List RV):∀cs,fz d cs (x.map qb) (y.map qb)=fz d cs x y
 |[]=>rfl
 |c::cs=>by simp only[fz,aap,akw d x y cs]
def aaq(o:aJ)(x y:List RV):o.lt (x.map qb) (y.map qb)=o.lt x y:=by
 cases o with
 |lex cs d=>exact akw d x y cs
 |ratio n d=>simp only[aJ.lt,aap]
 |co k o Z=>rfl
def arR(o:aJ)(x:List RV):o.ok (x.map qb)=o.ok x:=by
 cases o with
 |lex cs d=>rfl
 |ratio n d=>simp only[aJ.ok,aap]
 |co k o Z=>rfl
def akx(o:aJ)(x:List RV):∀l,cQ o.lt (x.map qb) (de l)=de (cQ o.lt x l)
 |[]=>rfl
 |y::r=>by
  have Z:=akx o x r;simp only[de,awT,cQ,aaq] at Z⊢;split;rfl;rw[Z];rfl
def aky(o:aJ)(l:List (List RV)):be o.lt (de l)=de (be o.lt l):=by
 have:∀l acc,(de l).foldl (λacc x=>cQ o.lt x acc) (de acc)=de (l.foldl (λacc x=>cQ o.lt x acc) acc):=by
  intro l;induction l with
  |nil=>intro acc;rfl
  |cons x l Z=>
   intro acc;have:=Z (cQ o.lt x acc);rw[<-akx] at this;exact this
 exact this l []
def akz(o:aJ)(l:List (List RV)):(de l).all o.ok=l.all o.ok:=by
 simp only[de,ayT];congr 1;funext x;exact arR o x
def arS(l:List (List RV))(a b:Nat):aF (de l) a b=de (aF l a b):=by simp[aF,de]
def akA(o:aJ):∀l,rY o.lt (de l)=rY o.lt l
 |[]=>rfl
 |x::r=>by
  have Z:=akA o r;simp only[de,awT,rY,ayT] at Z⊢;rw[Z];congr 2;funext y;simp only[Function.comp,aaq]
def arT(l:List (List RV))(a:Nat):(de l).take a=de (l.take a):=by simp[de]
def arU(l:List (List RV))(a:Nat):(de l).drop a=de (l.drop a):=by simp[de]
def arV(l m:List (List RV)):de (l++m)=de l++de m:=by simp[de]
def vp(l:List (List RV)):(de l).length=l.length:=by simp[de]
def arW{k:Nat}{o:aJ}{Z:List Int}{rows ay:List (List RV)}(h:jM k o Z rows=some ay):jM k o Z (de rows)=some (de ay):=by
 unfold jM at h⊢;split at h
 all_goals first|(split at h<;>first|(cases h;done)|skip)|skip
 all_goals first|(cases h;done)|skip
 all_goals
  rename_i X;cases h;simp only[vp,akz,arS,akA,arT,arU,aky,<-arV];rw[if_pos X]
def arX{k:Nat}{o:aJ}{Z:List Int}{rows ay:List (List RV)}(h:lH k o Z rows=some ay):lH k o Z (de rows)=some (de ay):=by
 obtain⟨X,W⟩:=vY h;unfold lH;rw[vp,if_pos X];exact arW W
def akB(l:List (List RV)):cH (de l)=cH l:=by
 simp only[cH,de,List.flatMap_map];congr 1;funext x;simp only[axu];rfl
def akC:∀(K:List Bool)(row:List RV),row.length=K.length->(∀(j:Nat)(c:RV)(k:IntKind),row[j]?=some c->(K.map zD)[j]?=some (.int k)->∃n,c.val=.int k n)->(∀(j:Nat)(c:RV),row[j]?=some c->(K.map zD)[j]?=some .bool->∃x,c.val=.bool x)->fU K (row.map qb)
 |[],[],_,_,_=>rfl
 |[],_::_,h,_,_=>by simp at h
 |_::_,[],h,_,_=>by simp at h
 |b::R,c::r,Q,V,U=>by
  refine⟨?_,akC R r (by simpa using Q) (λj c k Z X=>V (j+1) c k (by simpa using Z) (by simpa using X)) (λj c Z X=>U (j+1) c (by simpa using Z) (by simpa using X))⟩;cases b with
  |true=>
   obtain⟨n,W⟩:=V 0 c .i64 rfl rfl;exact⟨n,by simp[qb,W]⟩
  |false=>
   obtain⟨n,W⟩:=U 0 c rfl rfl;exact⟨n,by simp[qb,W]⟩
def akD{ty:Ty}{e:TypeId}{K:List Bool}{W:World}{rows:List (List RV)}(Z:aW ty (.sl e)=K.map zD)(h:dB W ty e rows):∀x∈de rows,fU K x:=by
 intro x U;obtain⟨row,R,rfl⟩:=aw7.1 U;obtain⟨i,hi⟩:=axv R;refine akC K row ?_ (λj c k X V=>h.int i j row c k hi X (by rw[Z];exact V)) (λj c X V=>h.bool i j row c hi X (by rw[Z];exact V));have:=h.len i row hi;rw[Z,axB] at this;exact this
def akE{ty:Ty}{e:TypeId}{W:World}{A:Option Addr}{n cap:Nat}{rows:List (List RV)}(I:∀(j:Nat)(z:Value)(k:RK),(aW ty (.sl e))[j]?≠some (.ar z k))(h:aT W ty (.sl e) (.mk (.slice A n cap) rows)):aT W ty (.sl e) (.mk (.slice A n cap) (de rows)):=by
 have M:∀{i:Nat}{row:List RV},(de rows)[i]?=some row->∃Z,rows[i]?=some Z/\row=Z.map qb:=by
  intro i row hi;simp only[de,awL,ayd] at hi;obtain⟨Z,R,Q⟩:=hi;exact⟨Z,R,Q.symm⟩
 have L:∀{Z:List RV}{j:Nat}{c:RV},(Z.map qb)[j]?=some c->∃X,Z[j]?=some X/\c=qb X:=by
  intro Z j c J;simp only[awL,ayd] at J;obtain⟨X,R,Q⟩:=J;exact⟨X,R,Q.symm⟩
 cases h with
 |sl e A B cap rows R Q H hi G y=>
  refine aT.sl e A n cap (de rows) (by rw[vp];exact R) Q (λi row V=> ?_) (λi j row c k V U P=> ?_) (λi j row c V U P=> ?_) (λi j row c z k V U P=>(I j z k P).elim);obtain⟨Z,O,rfl⟩:=M V;obtain⟨F,b,off,E,D,C⟩:=H i Z O;refine⟨by simpa using F,b,off,E,D,λj c U=> ?_⟩;obtain⟨X,N,rfl⟩:=L U;exact C j X N;obtain⟨Z,O,rfl⟩:=M V;obtain⟨X,N,rfl⟩:=L U;exact hi i j Z X k O N P;obtain⟨Z,O,rfl⟩:=M V;obtain⟨X,N,rfl⟩:=L U;exact G i j Z X O N P
def Tgt(p:Sp)(e:TypeId)(v:Value)(ay:List (List RV)):Prop:=∀(ex:Exit)(s:S)(ρ:aa)(β:List Nat)(a:Act)(W:World)(k:Nat),(ex=.normal\/ex=.ret)->ao p.S0 p.w0 p.D p.ty β ρ s a W->s.rs[k]?=some (.own e)->ρ.rv k=.mk v ay->p.Q ex a W
def El(P:Program)(K:List Bool)(g:FuncId)(o:aJ):Prop:=∀(W:World)(x y:List RV),fU K x->fU K y->o.ok x=true->o.ok y=true->
 Calls P g #[.agg (x.map RV.val).toArray,.agg (y.map RV.val).toArray] W λZ W'=>Below W.heap.size W W'/\∃c:Int,Z=.returned (.int .i64 c)/\(c<0<->o.lt x y=true)
def Si(K:List Bool)(e g:Nat)(o:aJ)(F:List Int->List (List RV)->Option (List (List RV)))(N:Nat)(t:T):Prop:=∀(p:Sp)(v:Value)(rows ay:List (List RV))(Z:List Int),p.P=Tryz.prog->El Tryz.prog K g o->(∃A n cap,v=.slice A n cap/\rows.length=n/\n<=1099511627776)->(∀x∈rows,fU K x)->Z.length=N->F Z rows=some ay->Tgt p e v ay->t.aD p ⟨Z,[],[.mk v rows],[]⟩ []
abbrev LQ(K:List Bool)(e g:Nat)(o:aJ)(k N:Nat)(t:T):Prop:=Si K e g o (lH k o) N t
def aar{f:FuncId}{fn:Func}{c:Code}{g e N n:Nat}{o:aJ}{F:List Int->List (List RV)->Option (List (List RV))}{K:List Bool}{t:T}{args:List SV}{inl:List Nat}{loops:List (Nat×Nat×du)}{srts:List (FuncId×FuncId×TypeId×aJ×Bool)}{chs:List (Nat×Nat)}
  (m:Tryz.prog.funcs[f]?=some fn)(O:fn.body=some c)(k:fn.results.toList=[])(hi:inl.all (qz Tryz.prog)=true)(hsr:rE srts)(E:aW (look TT) (.sl e)=K.map zD)(d:El Tryz.prog K g o)
  (ht:dJ (mj Tryz.prog TT SG [] inl loops srts false chs) n f c ⟨args++awS (fn.ntmps-args.length) (.bj []),[],N,0,[.own e],0,0,[]⟩ fK Sc=t)(hh:Si K e g o F N t)
  (af:∀(Z:List Int)(rv:RV),Z.length=N->SV.ap ⟨Z,[],[rv],[]⟩ [] args=rv.val::(Z.map (Value.int .i64)++[.func (.func g) #[] #[]]))
  (jV:∀(Z:List Int)(rows ay:List (List RV)),F Z rows=some ay->F Z (de rows)=some (de ay))
  (D:∀(Z:List Int)(rows ay:List (List RV)),F Z rows=some ay->Z.length=N/\rows.length<=1099511627776){W:World}{A:Option Addr}{n' cap:Nat}{rows ay:List (List RV)}{Q:List Int}(C:aT W (look TT) (.sl e) (.mk (.slice A n' cap) rows))(B:Ji W e (aW (look TT) (.sl e)).length A cap)(y:F Q rows=some ay):
  Calls Tryz.prog f (Jq (.slice A n' cap) Q g) W λM W'=>M=.returned (.tuple #[])/\W.grownBy W' (jp A cap)/\Fg W W' e (aW (look TT) (.sl e)).length (jp A cap) ay A cap:=by
 have L:=(D _ _ _ y).1;have w:∀(j:Nat)(z:Value)(q:RK),(aW (look TT) (.sl e))[j]?≠some (.ar z q):=by
  intro j z q V;rw[E,awL] at V;cases O:K[j]? with
  |none=>rw[O] at V;cases V
  |some b=>rw[O] at V;cases b<;>simp[zD] at V
 have v:=akE w C;have u:=jV _ _ _ y;obtain⟨ag,an⟩:=qr v;let ρ0:aa:=⟨Q,[],[.mk (.slice A n' cap) (de rows)],[]⟩;let R:Ending->World->Prop:=λM W'=>M=.returned (.tuple #[])/\W.grownBy W' (jp A cap)/\Fg W W' e (aW (look TT) (.sl e)).length (jp A cap) ay A cap
 let p:Sp:=⟨Tryz.prog,look TT,(jp A cap).toList,W,bw.none,R,λex a W'=>(ex=.normal\/ex=.ret)/\R (.returned (.tuple #[])) W'⟩;have ok:jr p (mj Tryz.prog TT SG [] inl loops srts false chs):=NS Ij R7 hi R8 (λch W' b ob _ h=>by have:=h.1;cases this) hsr;have a0:(SV.ap ρ0 [] args).toArray=Jq (.slice A n' cap) Q g:=by rw[af Q _ L];rfl
 rw[<-a0];have a1:∀b,(RV.mk (.slice A n' cap) (de rows)).iC=some b->jp A cap=some b:=λb h=>by rw[Jh] at h;exact h
 have a2:ao p.S0 p.w0 bw.none (look TT) [] ρ0 {(⟨[],[],N,0,[.own e],0,0,[]⟩:S) with tmps:=[]} ⟨#[],[]⟩ p.w0:=by
  refine⟨⟨bS.refl _ _,λi h=>by simp[aA,bA] at h,λi j h=>by simp[aA,bA] at h,λi t cs h=>by simp[bA] at h,λq r rv X U=> ?_⟩,rfl,L,rfl,rfl,N0 _ _,rfl,λt sv h=>by simp at h,λq r rv b X U h3=> ?_⟩;cases q with
  |succ q=>simp at X
  |zero=>
   simp only[axz,awJ] at X;have U:rv=.mk (.slice A n' cap) (de rows):=(axj U).symm;subst X;subst U;refine⟨aT.own e _ v λl c J=> ?_,λb _ i h=>by simp[aA,bA] at h⟩;simp only[RV.jZ,Value.slice.injEq] at J;rw[<-J.2.2];exact B.nil J.1
  cases q with
  |succ q=>simp at X
  |zero=>
   simp only[axz,awJ] at X;have U:rv=.mk (.slice A n' cap) (de rows):=(axj U).symm;injection X with X;subst X;subst U;have P:=a1 b h3;refine⟨.inr (by show b∈(jp A cap).toList;rw[P];simp), ?_,λi h=>by simp[aA,bA] at h,λI r a9 H h=> ?_, ?_⟩;rcases B.mem with V|⟨b',a3,rfl,hg,hm,a4⟩
   ·subst V;unfold jp at P;split at P<;>first|(cases P;done)|omega|skip
    all_goals simp_all
   have a5:b'=b:=by
    cases cap with
    |zero=>cases P
    |succ c=>exact axj P
   subst a5;exact⟨n',cap,a3,rfl,hg,an,hm,a4⟩;cases I with
   |zero=>exact absurd rfl H
   |succ I=>simp at h
   rintro⟨i,j,row,c,z,q,_,_,hq,_⟩;exact w j z q hq
 have a6:n'<=1099511627776:=by
  have:=(D _ _ _ u).2;omega
 have a7:=hh p (.slice A n' cap) (de rows) (de ay) Q rfl d ⟨A,n',cap,rfl,ag,a6⟩ (akD E (dB.t7 C)) L u (λex s ρ1 β a W' I a8 RR H hr=>by
  refine⟨a8,rfl, ?_⟩;obtain⟨g1,G⟩:=arJ (cf:=mj Tryz.prog TT SG [] inl loops srts false chs) RR H hr;exact⟨g1,⟨by have:=G.le;rwa [vp] at this,G.nil,by have:=G.mem;rwa [akB,vp] at this⟩⟩)
 exact arI ok m O k rfl ht a7 (λx hx=>by simp[mj] at hx) a2 (λex a W' h=>h)
def arY{f:FuncId}{fn:Func}{c:Code}{g e N n:Nat}{o sp:aJ}{F:List Int->List (List RV)->Option (List (List RV))}{V:Bool}{K:List Bool}{t:T}{args:List SV}{loops:List (Nat×Nat×du)}{srts:List (FuncId×FuncId×TypeId×aJ×Bool)}{chs:List (Nat×Nat)}
  (U:Tryz.prog.funcs[f]?=some fn)(R:fn.body=some c)(Q:fn.results.toList=[])(P:qz Tryz.prog f=true)(hsr:rE srts)(O:aW (look TT) (.sl e)=K.map zD)(M:El Tryz.prog K g o)
  (L:dJ (mj Tryz.prog TT SG [] [] loops srts false chs) n f c ⟨args++awS (fn.ntmps-args.length) (.bj []),[],N,0,[.own e],0,0,[]⟩ fK Sc=t)(J:Si K e g o F N t)
  (I:∀(Z:List Int)(rv:RV),Z.length=N->SV.ap ⟨Z,[],[rv],[]⟩ [] args=rv.val::(Z.map (Value.int .i64)++[.func (.func g) #[] #[]]))
  (H:∀(Z:List IE)(X:aJ)(ρ:aa)(rows ay:List (List RV)),sp.fill Z=some X->kR ρ X V rows=some ay->F (Z.map (IE.den ρ)) rows=some ay)(jV:∀(Z:List Int)(rows ay:List (List RV)),F Z rows=some ay->F Z (de rows)=some (de ay))
  (G:∀(Z:List Int)(rows ay:List (List RV)),F Z rows=some ay->Z.length=N/\rows.length<=1099511627776):lJ Tryz.prog (look TT) f g e sp V:=
 ⟨ui P,λW A n' cap rows ay ρ Z X E D C B=>aar (inl:=[]) U R Q rfl hsr O M L J I jV G D C (H Z X ρ rows ay E B)⟩
def Em{k:Nat}{o:aJ}{Z:List Int}{rows ay:List (List RV)}(X:k≠2)(h:jM k o Z rows=some ay):Z.length=3:=by
 unfold jM at h;split at h
 all_goals first|rfl|(exact absurd rfl X)|cases h
def akG{o:aJ}{Z:List Int}{rows ay:List (List RV)}(h:jM 2 o Z rows=some ay):Z.length=2:=by
 unfold jM at h;split at h
 all_goals first|rfl|cases h|(rename_i X;cases X)
def BR{f:FuncId}{fn:Func}{c:Code}{g e k N n:Nat}{o:aJ}{W:Bool}{K:List Bool}{t:T}{args:List SV}{loops:List (Nat×Nat×du)}{srts:List (FuncId×FuncId×TypeId×aJ×Bool)}{chs:List (Nat×Nat)}
  (V:Tryz.prog.funcs[f]?=some fn)(U:fn.body=some c)(R:fn.results.toList=[])(Q:qz Tryz.prog f=true)(hsr:rE srts)(P:aW (look TT) (.sl e)=K.map zD)(O:El Tryz.prog K g o)
  (M:dJ (mj Tryz.prog TT SG [] [] loops srts false chs) n f c ⟨args++awS (fn.ntmps-args.length) (.bj []),[],N,0,[.own e],0,0,[]⟩ fK Sc=t)(L:LQ K e g o k N t)
  (J:∀(Z:List Int)(rv:RV),Z.length=N->SV.ap ⟨Z,[],[rv],[]⟩ [] args=rv.val::(Z.map (Value.int .i64)++[.func (.func g) #[] #[]]))
  (I:∀(Z:List Int)(rows ay:List (List RV)),jM k o Z rows=some ay->Z.length=N):lJ Tryz.prog (look TT) f g e (.co k o []) W:=
 arY (F:=lH k o) V U R Q hsr P O M L J (λZ G ρ rows ay X H=>by
  simp only[aJ.fill,awJ] at X;subst X;exact H) (λZ rows ay h=>arX h) (λZ rows ay h=>⟨I Z rows ay (vY h).2,(vY h).1⟩)
section
section
variable(e g I H J u N:Nat)(o:aJ)(cs:RE->IE->List SV)
def Sj:T:=(.loop 0 [.ref (.own e),.int .i64] [(.ref (.v 0)),(.int .i64 (.c 0))]
 (.node (.cmp .lss (.v 3) (.v 2))
 (.az (.and (.cmp .leq (.c 0) (.bin .add .i64 (.v 1) (.v 3))) (.cmp .lss (.bin .add .i64 (.v 1) (.v 3)) (.len (.v 1))))
 (.az (.and (.cmp .leq (.c 0) (.bin .add .i64 (.v 1) (.v 3))) (.cmp .lss (.bin .add .i64 (.v 1) (.v 3)) (.len (.v 1))))
 (.az (.and (.cmp .leq (.c 0) (.bin .add .i64 (.v 0) (.v 3))) (.cmp .lss (.bin .add .i64 (.v 0) (.v 3)) (.len (.v 1))))
 (.az (.and (.cmp .leq (.c 0) (.bin .add .i64 (.v 0) (.v 3))) (.cmp .lss (.bin .add .i64 (.v 0) (.v 3)) (.len (.v 1))))
 (.az (.and (.cmp .leq (.c 0) (.bin .add .i64 (.v 0) (.v 3))) (.cmp .lss (.bin .add .i64 (.v 0) (.v 3)) (.len (.v 1))))
 (.az (.and (.cmp .leq (.c 0) (.bin .add .i64 (.v 0) (.v 3))) (.cmp .lss (.bin .add .i64 (.v 0) (.v 3)) (.len (.v 1))))
 (.new e (.set (.ref (.v 1)) (.bin .add .i64 (.v 0) (.v 3)) 0 (cs (.v 1) (.bin .add .i64 (.v 1) (.v 3)))) [.dead,(.own e)] [.dead,.dead,(.own e)]
 (.az (.and (.cmp .leq (.c 0) (.bin .add .i64 (.v 1) (.v 3))) (.cmp .lss (.bin .add .i64 (.v 1) (.v 3)) (.len (.v 2))))
 (.az (.and (.cmp .leq (.c 0) (.bin .add .i64 (.v 1) (.v 3))) (.cmp .lss (.bin .add .i64 (.v 1) (.v 3)) (.len (.v 2))))
 (.new e (.set (.ref (.v 2)) (.bin .add .i64 (.v 1) (.v 3)) 0 (cs (.v 1) (.bin .add .i64 (.v 0) (.v 3)))) [.dead,.dead,(.own e)] [.dead,.dead,.dead,(.own e)]
 (.back 0 [(.ref (.v 3)),(.int .i64 (.bin .add .i64 (.v 3) (.c 1)))])))))))))))
 (.out .normal ⟨[],[],4,0,[.dead,(.own e)],0,0,[]⟩)))
def Sk:T:=(.loop 0 [.ref (.own e),.int .i64,.int .i64] [(.ref (.v 0)),(.int .i64 (.bin .sub .i64 (.v 1) (.v 0))),(.int .i64 (.bin .sub .i64 (.v 2) (.v 1)))]
 (.node (.cmp .neq (.v 3) (.v 4))
 (.node (.cmp .gtr (.v 3) (.v 4))
  (.dl I g e (.co 0 o [(.bin .sub .i64 (.v 1) (.v 3)),(.v 1),(.v 4)]) false (.v 1) [.dead,(.own e)]
  (.back 0 [(.ref (.v 2)),(.int .i64 (.bin .sub .i64 (.v 3) (.v 4))),(.int .i64 (.v 4))]))
  (.dl I g e (.co 0 o [(.bin .sub .i64 (.v 1) (.v 3)),(.bin .sub .i64 (.bin .add .i64 (.v 1) (.v 4)) (.v 3)),(.v 3)]) false (.v 1) [.dead,(.own e)]
  (.back 0 [(.ref (.v 2)),(.int .i64 (.v 3)),(.int .i64 (.bin .sub .i64 (.v 4) (.v 3)))])))
 (.dl I g e (.co 0 o [(.bin .sub .i64 (.v 1) (.v 3)),(.v 1),(.v 3)]) false (.v 1) [.dead,(.own e)]
 (.out .normal ⟨[],[],5,0,[.dead,.dead,(.own e)],0,0,[]⟩))))
def Sm:T:=(.loop 0 [.ref (.own e),.int .i64] [(.ref (.v 0)),(.int .i64 (.bin .add .i64 (.v 0) (.c 1)))]
 (.node (.cmp .lss (.v 2) (.v 1))
 (.loop 1 [.ref (.own e),.int .i64] [(.ref (.v 1)),(.int .i64 (.v 2))]
  (.node (.cmp .gtr (.v 3) (.v 0))
  (.az (.and (.cmp .leq (.c 0) (.v 3)) (.cmp .lss (.v 3) (.len (.v 2))))
  (.az (.and (.cmp .leq (.c 0) (.v 3)) (.cmp .lss (.v 3) (.len (.v 2))))
  (.az (.and (.cmp .leq (.c 0) (.bin .sub .i64 (.v 3) (.c 1))) (.cmp .lss (.bin .sub .i64 (.v 3) (.c 1)) (.len (.v 2))))
  (.az (.and (.cmp .leq (.c 0) (.bin .sub .i64 (.v 3) (.c 1))) (.cmp .lss (.bin .sub .i64 (.v 3) (.c 1)) (.len (.v 2))))
  (.call g [(.agg (cs (.v 2) (.v 3))),(.agg (cs (.v 2) (.bin .sub .i64 (.v 3) (.c 1))))] [] [.dead,.dead,.dead] [.int .i64] (.int .i64 (.v 4))
  (.node (.cmp .lss (.v 4) (.c 0))
   (.az (.and (.cmp .leq (.c 0) (.bin .sub .i64 (.v 3) (.c 1))) (.cmp .lss (.bin .sub .i64 (.v 3) (.c 1)) (.len (.v 2))))
   (.az (.and (.cmp .leq (.c 0) (.bin .sub .i64 (.v 3) (.c 1))) (.cmp .lss (.bin .sub .i64 (.v 3) (.c 1)) (.len (.v 2))))
   (.az (.and (.cmp .leq (.c 0) (.v 3)) (.cmp .lss (.v 3) (.len (.v 2))))
   (.az (.and (.cmp .leq (.c 0) (.v 3)) (.cmp .lss (.v 3) (.len (.v 2))))
   (.az (.and (.cmp .leq (.c 0) (.v 3)) (.cmp .lss (.v 3) (.len (.v 2))))
   (.az (.and (.cmp .leq (.c 0) (.v 3)) (.cmp .lss (.v 3) (.len (.v 2))))
   (.new e (.set (.ref (.v 2)) (.v 3) 0 (cs (.v 2) (.bin .sub .i64 (.v 3) (.c 1)))) [.dead,.dead,(.own e)] [.dead,.dead,.dead,(.own e)]
   (.az (.and (.cmp .leq (.c 0) (.bin .sub .i64 (.v 3) (.c 1))) (.cmp .lss (.bin .sub .i64 (.v 3) (.c 1)) (.len (.v 3))))
   (.az (.and (.cmp .leq (.c 0) (.bin .sub .i64 (.v 3) (.c 1))) (.cmp .lss (.bin .sub .i64 (.v 3) (.c 1)) (.len (.v 3))))
   (.new e (.set (.ref (.v 3)) (.bin .sub .i64 (.v 3) (.c 1)) 0 (cs (.v 2) (.v 3))) [.dead,.dead,.dead,(.own e)] [.dead,.dead,.dead,.dead,(.own e)]
   (.back 1 [(.ref (.v 4)),(.int .i64 (.bin .sub .i64 (.v 3) (.c 1)))])))))))))))
   (.back 0 [(.ref (.v 2)),(.int .i64 (.bin .add .i64 (.v 2) (.c 1)))])))))))
  (.back 0 [(.ref (.v 2)),(.int .i64 (.bin .add .i64 (.v 2) (.c 1)))])))
 (.out .normal ⟨[],[],3,0,[.dead,(.own e)],0,0,[]⟩)))
abbrev iO:IE:=(.conv .i64 (.bin .shr .u64 (.conv .u64 (.bin .add .i64 (.v 3) (.v 4))) (.c 1)))
abbrev cg:IE:=(.conv .i64 (.bin .shr .u64 (.conv .u64 (.bin .add .i64 (.v 0) (.v 2))) (.c 1)))
def LR:T:=(.node (.cmp .lss (.v 3) (.v 1))
   (.node (.cmp .lss (.v 1) (.bin .sub .i64 (.bin .add .i64 cg (.v 1)) (.v 3)))
    (.dl H g e (.co 1 o [(.v 3),(.v 1),(.bin .sub .i64 (.bin .add .i64 cg (.v 1)) (.v 3))]) false (.v 1) [.dead,(.own e)]
    (.node (.cmp .lss (.v 0) (.v 3))
    (.node (.cmp .lss (.v 3) cg)
     (.dl u g e (.co (N+3) o [(.v 0),(.v 3),cg]) false (.v 2) [.dead,.dead,(.own e)]
     (.node (.cmp .lss cg (.bin .sub .i64 (.bin .add .i64 cg (.v 1)) (.v 3)))
     (.node (.cmp .lss (.bin .sub .i64 (.bin .add .i64 cg (.v 1)) (.v 3)) (.v 2))
      (.dl u g e (.co (N+3) o [cg,(.bin .sub .i64 (.bin .add .i64 cg (.v 1)) (.v 3)),(.v 2)]) false (.v 3) [.dead,.dead,.dead,(.own e)]
      (.out .normal ⟨[],[],5,0,[.dead,.dead,.dead,.dead,(.own e)],0,0,[]⟩))
      (.out .normal ⟨[],[],5,0,[.dead,.dead,.dead,(.own e)],0,0,[]⟩))
     (.out .normal ⟨[],[],5,0,[.dead,.dead,.dead,(.own e)],0,0,[]⟩)))
     (.node (.cmp .lss cg (.bin .sub .i64 (.bin .add .i64 cg (.v 1)) (.v 3)))
     (.node (.cmp .lss (.bin .sub .i64 (.bin .add .i64 cg (.v 1)) (.v 3)) (.v 2))
      (.dl u g e (.co (N+3) o [cg,(.bin .sub .i64 (.bin .add .i64 cg (.v 1)) (.v 3)),(.v 2)]) false (.v 2) [.dead,.dead,(.own e)]
      (.out .normal ⟨[],[],5,0,[.dead,.dead,.dead,(.own e)],0,0,[]⟩))
      (.out .normal ⟨[],[],5,0,[.dead,.dead,(.own e)],0,0,[]⟩))
     (.out .normal ⟨[],[],5,0,[.dead,.dead,(.own e)],0,0,[]⟩)))
    (.node (.cmp .lss cg (.bin .sub .i64 (.bin .add .i64 cg (.v 1)) (.v 3)))
     (.node (.cmp .lss (.bin .sub .i64 (.bin .add .i64 cg (.v 1)) (.v 3)) (.v 2))
     (.dl u g e (.co (N+3) o [cg,(.bin .sub .i64 (.bin .add .i64 cg (.v 1)) (.v 3)),(.v 2)]) false (.v 2) [.dead,.dead,(.own e)]
     (.out .normal ⟨[],[],5,0,[.dead,.dead,.dead,(.own e)],0,0,[]⟩))
     (.out .normal ⟨[],[],5,0,[.dead,.dead,(.own e)],0,0,[]⟩))
     (.out .normal ⟨[],[],5,0,[.dead,.dead,(.own e)],0,0,[]⟩))))
    (.node (.cmp .lss (.v 0) (.v 3))
    (.node (.cmp .lss (.v 3) cg)
     (.dl u g e (.co (N+3) o [(.v 0),(.v 3),cg]) false (.v 1) [.dead,(.own e)]
     (.node (.cmp .lss cg (.bin .sub .i64 (.bin .add .i64 cg (.v 1)) (.v 3)))
     (.node (.cmp .lss (.bin .sub .i64 (.bin .add .i64 cg (.v 1)) (.v 3)) (.v 2))
      (.dl u g e (.co (N+3) o [cg,(.bin .sub .i64 (.bin .add .i64 cg (.v 1)) (.v 3)),(.v 2)]) false (.v 2) [.dead,.dead,(.own e)]
      (.out .normal ⟨[],[],5,0,[.dead,.dead,.dead,(.own e)],0,0,[]⟩))
      (.out .normal ⟨[],[],5,0,[.dead,.dead,(.own e)],0,0,[]⟩))
     (.out .normal ⟨[],[],5,0,[.dead,.dead,(.own e)],0,0,[]⟩)))
     (.node (.cmp .lss cg (.bin .sub .i64 (.bin .add .i64 cg (.v 1)) (.v 3)))
     (.node (.cmp .lss (.bin .sub .i64 (.bin .add .i64 cg (.v 1)) (.v 3)) (.v 2))
      (.dl u g e (.co (N+3) o [cg,(.bin .sub .i64 (.bin .add .i64 cg (.v 1)) (.v 3)),(.v 2)]) false (.v 1) [.dead,(.own e)]
      (.out .normal ⟨[],[],5,0,[.dead,.dead,(.own e)],0,0,[]⟩))
      (.out .normal ⟨[],[],5,0,[.dead,(.own e)],0,0,[]⟩))
     (.out .normal ⟨[],[],5,0,[.dead,(.own e)],0,0,[]⟩)))
    (.node (.cmp .lss cg (.bin .sub .i64 (.bin .add .i64 cg (.v 1)) (.v 3)))
     (.node (.cmp .lss (.bin .sub .i64 (.bin .add .i64 cg (.v 1)) (.v 3)) (.v 2))
     (.dl u g e (.co (N+3) o [cg,(.bin .sub .i64 (.bin .add .i64 cg (.v 1)) (.v 3)),(.v 2)]) false (.v 1) [.dead,(.own e)]
     (.out .normal ⟨[],[],5,0,[.dead,.dead,(.own e)],0,0,[]⟩))
     (.out .normal ⟨[],[],5,0,[.dead,(.own e)],0,0,[]⟩))
     (.out .normal ⟨[],[],5,0,[.dead,(.own e)],0,0,[]⟩))))
   (.node (.cmp .lss (.v 0) (.v 3))
    (.node (.cmp .lss (.v 3) cg)
    (.dl u g e (.co (N+3) o [(.v 0),(.v 3),cg]) false (.v 1) [.dead,(.own e)]
    (.node (.cmp .lss cg (.bin .sub .i64 (.bin .add .i64 cg (.v 1)) (.v 3)))
     (.node (.cmp .lss (.bin .sub .i64 (.bin .add .i64 cg (.v 1)) (.v 3)) (.v 2))
     (.dl u g e (.co (N+3) o [cg,(.bin .sub .i64 (.bin .add .i64 cg (.v 1)) (.v 3)),(.v 2)]) false (.v 2) [.dead,.dead,(.own e)]
     (.out .normal ⟨[],[],5,0,[.dead,.dead,.dead,(.own e)],0,0,[]⟩))
     (.out .normal ⟨[],[],5,0,[.dead,.dead,(.own e)],0,0,[]⟩))
     (.out .normal ⟨[],[],5,0,[.dead,.dead,(.own e)],0,0,[]⟩)))
    (.node (.cmp .lss cg (.bin .sub .i64 (.bin .add .i64 cg (.v 1)) (.v 3)))
     (.node (.cmp .lss (.bin .sub .i64 (.bin .add .i64 cg (.v 1)) (.v 3)) (.v 2))
     (.dl u g e (.co (N+3) o [cg,(.bin .sub .i64 (.bin .add .i64 cg (.v 1)) (.v 3)),(.v 2)]) false (.v 1) [.dead,(.own e)]
     (.out .normal ⟨[],[],5,0,[.dead,.dead,(.own e)],0,0,[]⟩))
     (.out .normal ⟨[],[],5,0,[.dead,(.own e)],0,0,[]⟩))
     (.out .normal ⟨[],[],5,0,[.dead,(.own e)],0,0,[]⟩)))
    (.node (.cmp .lss cg (.bin .sub .i64 (.bin .add .i64 cg (.v 1)) (.v 3)))
    (.node (.cmp .lss (.bin .sub .i64 (.bin .add .i64 cg (.v 1)) (.v 3)) (.v 2))
     (.dl u g e (.co (N+3) o [cg,(.bin .sub .i64 (.bin .add .i64 cg (.v 1)) (.v 3)),(.v 2)]) false (.v 1) [.dead,(.own e)]
     (.out .normal ⟨[],[],5,0,[.dead,.dead,(.own e)],0,0,[]⟩))
     (.out .normal ⟨[],[],5,0,[.dead,(.own e)],0,0,[]⟩))
    (.out .normal ⟨[],[],5,0,[.dead,(.own e)],0,0,[]⟩))))
def aas:T:=(.loop 0 [.ref (.own e),.int .i64,.int .i64] [(.ref (.v 0)),(.int .i64 (.v 1)),(.int .i64 (.v 2))]
 (.node (.cmp .lss (.v 3) (.v 4))
  (.az (.and (.cmp .leq (.c 0) iO) (.cmp .lss iO (.len (.v 1))))
  (.az (.and (.cmp .leq (.c 0) iO) (.cmp .lss iO (.len (.v 1))))
  (.az (.and (.cmp .leq (.c 0) (.v 0)) (.cmp .lss (.v 0) (.len (.v 1))))
  (.az (.and (.cmp .leq (.c 0) (.v 0)) (.cmp .lss (.v 0) (.len (.v 1))))
  (.call g [(.agg (cs (.v 1) iO)),(.agg (cs (.v 1) (.v 0)))] [] [.dead,.dead] [.int .i64] (.int .i64 (.v 5))
  (.az (.c true)
  (.node (.cmp .lss (.v 5) (.c 0))
  (.back 0 [(.ref (.v 1)),(.int .i64 (.bin .add .i64 iO (.c 1))),(.int .i64 (.v 4))])
  (.back 0 [(.ref (.v 1)),(.int .i64 (.v 3)),(.int .i64 iO)]))))))))
  (.loop 1 [.ref (.own e),.int .i64] [(.ref (.v 1)),(.int .i64 (.v 0))]
  (.node (.cmp .lss (.v 5) (.bin .sub .i64 (.v 3) (.c 1)))
   (.az (.and (.cmp .leq (.c 0) (.bin .add .i64 (.v 5) (.c 1))) (.cmp .lss (.bin .add .i64 (.v 5) (.c 1)) (.len (.v 2))))
   (.az (.and (.cmp .leq (.c 0) (.bin .add .i64 (.v 5) (.c 1))) (.cmp .lss (.bin .add .i64 (.v 5) (.c 1)) (.len (.v 2))))
   (.az (.and (.cmp .leq (.c 0) (.v 5)) (.cmp .lss (.v 5) (.len (.v 2))))
   (.az (.and (.cmp .leq (.c 0) (.v 5)) (.cmp .lss (.v 5) (.len (.v 2))))
   (.az (.and (.cmp .leq (.c 0) (.v 5)) (.cmp .lss (.v 5) (.len (.v 2))))
   (.az (.and (.cmp .leq (.c 0) (.v 5)) (.cmp .lss (.v 5) (.len (.v 2))))
   (.new e (.set (.ref (.v 2)) (.v 5) 0 (cs (.v 2) (.bin .add .i64 (.v 5) (.c 1)))) [.dead,.dead,(.own e)] [.dead,.dead,.dead,(.own e)]
   (.az (.and (.cmp .leq (.c 0) (.bin .add .i64 (.v 5) (.c 1))) (.cmp .lss (.bin .add .i64 (.v 5) (.c 1)) (.len (.v 3))))
   (.az (.and (.cmp .leq (.c 0) (.bin .add .i64 (.v 5) (.c 1))) (.cmp .lss (.bin .add .i64 (.v 5) (.c 1)) (.len (.v 3))))
   (.new e (.set (.ref (.v 3)) (.bin .add .i64 (.v 5) (.c 1)) 0 (cs (.v 2) (.v 5))) [.dead,.dead,.dead,(.own e)] [.dead,.dead,.dead,.dead,(.own e)]
   (.back 1 [(.ref (.v 4)),(.int .i64 (.bin .add .i64 (.v 5) (.c 1)))])))))))))))
   (.out .ret ⟨[],[],6,0,[.dead,.dead,(.own e)],0,0,[]⟩)))))
def aat:T:=(.loop 0 [.ref (.own e),.int .i64,.int .i64] [(.ref (.v 0)),(.int .i64 (.v 0)),(.int .i64 (.v 1))]
  (.node (.cmp .lss (.v 3) (.v 4))
  (.az (.and (.cmp .leq (.c 0) (.v 1)) (.cmp .lss (.v 1) (.len (.v 1))))
  (.az (.and (.cmp .leq (.c 0) (.v 1)) (.cmp .lss (.v 1) (.len (.v 1))))
  (.az (.and (.cmp .leq (.c 0) iO) (.cmp .lss iO (.len (.v 1))))
  (.az (.and (.cmp .leq (.c 0) iO) (.cmp .lss iO (.len (.v 1))))
  (.call g [(.agg (cs (.v 1) (.v 1))),(.agg (cs (.v 1) iO))] [] [.dead,.dead] [.int .i64] (.int .i64 (.v 5))
  (.az (.c true)
  (.az (.c true)
  (.node (.not (.cmp .lss (.v 5) (.c 0)))
   (.back 0 [(.ref (.v 1)),(.int .i64 (.bin .add .i64 iO (.c 1))),(.int .i64 (.v 4))])
   (.back 0 [(.ref (.v 1)),(.int .i64 (.v 3)),(.int .i64 iO)])))))))))
  (.loop 1 [.ref (.own e),.int .i64] [(.ref (.v 1)),(.int .i64 (.v 1))]
   (.node (.cmp .gtr (.v 5) (.v 3))
   (.az (.and (.cmp .leq (.c 0) (.bin .sub .i64 (.v 5) (.c 1))) (.cmp .lss (.bin .sub .i64 (.v 5) (.c 1)) (.len (.v 2))))
   (.az (.and (.cmp .leq (.c 0) (.bin .sub .i64 (.v 5) (.c 1))) (.cmp .lss (.bin .sub .i64 (.v 5) (.c 1)) (.len (.v 2))))
   (.az (.and (.cmp .leq (.c 0) (.v 5)) (.cmp .lss (.v 5) (.len (.v 2))))
   (.az (.and (.cmp .leq (.c 0) (.v 5)) (.cmp .lss (.v 5) (.len (.v 2))))
   (.az (.and (.cmp .leq (.c 0) (.v 5)) (.cmp .lss (.v 5) (.len (.v 2))))
   (.az (.and (.cmp .leq (.c 0) (.v 5)) (.cmp .lss (.v 5) (.len (.v 2))))
   (.new e (.set (.ref (.v 2)) (.v 5) 0 (cs (.v 2) (.bin .sub .i64 (.v 5) (.c 1)))) [.dead,.dead,(.own e)] [.dead,.dead,.dead,(.own e)]
   (.az (.and (.cmp .leq (.c 0) (.bin .sub .i64 (.v 5) (.c 1))) (.cmp .lss (.bin .sub .i64 (.v 5) (.c 1)) (.len (.v 3))))
   (.az (.and (.cmp .leq (.c 0) (.bin .sub .i64 (.v 5) (.c 1))) (.cmp .lss (.bin .sub .i64 (.v 5) (.c 1)) (.len (.v 3))))
   (.new e (.set (.ref (.v 3)) (.bin .sub .i64 (.v 5) (.c 1)) 0 (cs (.v 2) (.v 5))) [.dead,.dead,.dead,(.own e)] [.dead,.dead,.dead,.dead,(.own e)]
   (.back 1 [(.ref (.v 4)),(.int .i64 (.bin .sub .i64 (.v 5) (.c 1)))])))))))))))
   (.out .ret ⟨[],[],6,0,[.dead,.dead,(.own e)],0,0,[]⟩)))))
def Sn:T:=(.az (.and (.cmp .leq (.c 0) (.bin .sub .i64 (.bin .sub .i64 (.bin .add .i64 cg (.v 1)) (.c 1)) iO)) (.cmp .lss (.bin .sub .i64 (.bin .sub .i64 (.bin .add .i64 cg (.v 1)) (.c 1)) iO) (.len (.v 1))))
   (.az (.and (.cmp .leq (.c 0) (.bin .sub .i64 (.bin .sub .i64 (.bin .add .i64 cg (.v 1)) (.c 1)) iO)) (.cmp .lss (.bin .sub .i64 (.bin .sub .i64 (.bin .add .i64 cg (.v 1)) (.c 1)) iO) (.len (.v 1))))
   (.az (.and (.cmp .leq (.c 0) iO) (.cmp .lss iO (.len (.v 1))))
   (.az (.and (.cmp .leq (.c 0) iO) (.cmp .lss iO (.len (.v 1))))
   (.call g [(.agg (cs (.v 1) (.bin .sub .i64 (.bin .sub .i64 (.bin .add .i64 cg (.v 1)) (.c 1)) iO))),(.agg (cs (.v 1) iO))] [] [.dead,.dead] [.int .i64] (.int .i64 (.v 5))
   (.az (.c true)
   (.az (.c true)
   (.node (.not (.cmp .lss (.v 5) (.c 0)))
   (.back 0 [(.ref (.v 1)),(.int .i64 (.bin .add .i64 iO (.c 1))),(.int .i64 (.v 4))])
   (.back 0 [(.ref (.v 1)),(.int .i64 (.v 3)),(.int .i64 iO)])))))))))
def arZ:T:=(.loop 0 [.ref (.own e),.int .i64,.int .i64] [(.ref (.v 0)),(.int .i64 (.bin .sub .i64 (.bin .add .i64 cg (.v 1)) (.v 2))),(.int .i64 cg)]
 (.node (.cmp .lss (.v 3) (.v 4)) (Sn g cs) (LR e g H u N o)))
def ar0:T:=(.loop 0 [.ref (.own e),.int .i64,.int .i64] [(.ref (.v 0)),(.int .i64 (.v 0)),(.int .i64 (.v 1))]
 (.node (.cmp .lss (.v 3) (.v 4)) (Sn g cs) (LR e g H u N o)))
def Sq:T:=(.node (.cmp .eql (.bin .sub .i64 (.v 1) (.v 0)) (.c 1)) (aas e g cs) (.node (.cmp .eql (.bin .sub .i64 (.v 2) (.v 1)) (.c 1)) (aat e g cs) (.node (.cmp .gtr (.v 1) cg) (arZ e g H u N o cs) (ar0 e g H u N o cs))))
def Sr:T:=(.loop 0 [.ref (.own e),.int .i64,.int .i64] [(.ref (.v 0)),(.int .i64 (.c 20)),(.int .i64 (.c 0))]
 (.node (.cmp .leq (.v 0) (.len (.v 0)))
 (.dl J g e (.co 2 o [(.v 1),(.v 0)]) false (.v 1) [.dead,(.own e)]
 (.back 0 [(.ref (.v 2)),(.int .i64 (.bin .add .i64 (.v 0) (.c 20))),(.int .i64 (.v 0))]))
 (.dl J g e (.co 2 o [(.v 1),(.len (.v 0))]) false (.v 1) [.dead,(.own e)]
 (.loop 1 [.ref (.own e),.int .i64] [(.ref (.v 2)),(.int .i64 (.c 20))]
  (.node (.cmp .lss (.v 2) (.len (.v 0)))
  (.loop 2 [.ref (.own e),.int .i64,.int .i64] [(.ref (.v 3)),(.int .i64 (.bin .mul .i64 (.c 2) (.v 2))),(.int .i64 (.c 0))]
   (.node (.cmp .leq (.v 3) (.len (.v 0)))
   (.dl u g e (.co (N+3) o [(.v 4),(.bin .add .i64 (.v 4) (.v 2)),(.v 3)]) false (.v 4) [.dead,.dead,.dead,.dead,(.own e)]
   (.back 2 [(.ref (.v 5)),(.int .i64 (.bin .add .i64 (.v 3) (.bin .mul .i64 (.c 2) (.v 2)))),(.int .i64 (.v 3))]))
   (.node (.cmp .lss (.bin .add .i64 (.v 4) (.v 2)) (.len (.v 0)))
    (.dl u g e (.co (N+3) o [(.v 4),(.bin .add .i64 (.v 4) (.v 2)),(.len (.v 0))]) false (.v 4) [.dead,.dead,.dead,.dead,(.own e)]
    (.back 1 [(.ref (.v 5)),(.int .i64 (.bin .mul .i64 (.v 2) (.c 2)))]))
    (.back 1 [(.ref (.v 4)),(.int .i64 (.bin .mul .i64 (.v 2) (.c 2)))]))))
  (.out .normal ⟨[],[],3,0,[.dead,.dead,.dead,(.own e)],0,0,[]⟩))))))
end
end
section
structure HP where
 K:List Bool
 g:Nat
 o:aJ
 e:TypeId
 v:Value
 ay:List (List RV)
def aau(ρ:aa)(l:List SV)(x:List RV):Prop:=∀y β,SV.ap (ρ.at y) β l=x.map RV.val
def Io(c:Option LC)(xs:List XV):Prop:=match c with
 |some c=>c.I xs/\c.μ xs<c.m
 |none=>False
def ar1(h:HP)(f:FuncId)(args:List SV)(ks:List LK)(fp:SV)(ρ:aa)(k:Int->Prop):Prop:=f=h.g/\ks=[.int .i64]/\fp=.int .i64 (.v ρ.i.length)/\∃l1 Z x y,args=[.agg l1,.agg Z]/\aau ρ l1 x/\aau ρ Z y/\fU h.K x/\fU h.K y/\h.o.ok x=true/\h.o.ok y=true/\∀c:Int,(c<0<->h.o.lt x y=true)->k c
def T.hw(h:HP):T->aa->List LC->Prop
 |.out ex s,ρ,_=>(ex=.normal\/ex=.ret)/\∃k,s.rs[k]?=some (.own h.e)/\ρ.rv k=.mk h.v h.ay
 |.node b t f,ρ,L=>if b.den ρ=true then t.hw h ρ L else f.hw h ρ L
 |.az b t,ρ,L=>b.den ρ=true/\t.hw h ρ L
 |.call f args _ _ ks fp t,ρ,L=>ar1 h f args ks fp ρ λc=>t.hw h (ρ.add (.i c)) L
 |.loop al _ X t,ρ,L=>∃I Z,I (X.map (SV.xv ρ))/\∀xs,I xs->t.hw h (ρ.ext xs) (⟨al,I,Z,Z xs⟩::L)
 |.back al x,ρ,L=>Io (kQ al L) (x.map (SV.xv ρ))
 |.new _ (.set (.ref (.v k)) i off cs) _ _ t,ρ,L=>t.hw h (ρ.add (.r (.mk (ρ.rv k).val (LE.rows ρ (.set (.ref (.v k)) i off cs))))) L
 |.dl _ _ _ sp W r _ t,ρ,L=>∃rows,kR ρ sp W (r.rv ρ).rows=some rows/\t.hw h (ρ.add (.r (.mk (r.rv ρ).val rows))) L
 |_,_,_=>False
def tF(h:HP){p:Sp}(V:El p.P h.K h.g h.o)(U:Tgt p h.e h.v h.ay):∀(t:T)(ρ:aa)(L:List LC),t.hw h ρ L->t.aD p ρ L
 |.out ex s,ρ,L,Z=>by
  obtain⟨Q,k,O,M⟩:=Z;intro y β a W R;refine U _ s (ρ.at y) β a W k ?_ R O M;rcases Q with rfl|rfl;exact .inl rfl;exact .inr rfl
 |.node b t f,ρ,L,Z=>by
  simp only[T.hw] at Z;refine⟨λJ=>tF h V U t ρ L ?_,λJ=>tF h V U f ρ L ?_⟩
  rwa [if_pos J] at Z
  rwa [if_neg (by simp[J])] at Z
 |.az b t,ρ,L,Z=>⟨Z.1,tF h V U t ρ L Z.2⟩
 |.call f args bx rs ks fp t,ρ,L,Z=>by
  obtain⟨rfl,rfl,rfl,l1,F,x,y,rfl,Q,O,M,E,D,C,B⟩:=Z;intro H β W R;have e:(SV.ap (ρ.at H) β [.agg l1,.agg F]).toArray= #[.agg (x.map RV.val).toArray,.agg (y.map RV.val).toArray]:=by
   simp only[SV.ap,SV.den,Q H β,O H β]
  rw[e];refine(V W x y M E D C).mono ?_;rintro j W' ⟨z,c,rfl,w⟩;refine⟨[.i c],⟨trivial,trivial⟩, ?_,z,⟨trivial,trivial⟩, ?_⟩;simp[SV.den,IE.den,aa.ext,aa.add,aa.at];exact tF h V U t (ρ.add (.i c)) L (B c w)
 |.loop al ks d t,ρ,L,Z=>by
  obtain⟨I,u,Q,O⟩:=Z;exact⟨I,u,Q,λxs _ q=>tF h V U t _ _ (O xs q)⟩
 |.back al x,ρ,L,Z=>by
  simp only[T.hw,Io] at Z;simp only[T.aD];cases G:kQ al L with
  |none=>rw[G] at Z;exact Z
  |some c=>rw[G] at Z;exact Z
 |.new e (.set (.ref (.v k)) i off cs) rs X t,ρ,L,Z=>by
  intro rv m;obtain⟨⟨A,n,c,rfl,hl⟩,_,N⟩:=m;have N:=N k i off cs rfl;refine tF h V U t _ L ?_;simp only[RV.jZ] at N;rw[N];exact Z
 |.new e (.ref r) rs X t,ρ,L,Z=>by simp[T.hw] at Z
 |.new e (.lit l) rs X t,ρ,L,Z=>by simp[T.hw] at Z
 |.new e (.jG a b) rs X t,ρ,L,Z=>by simp[T.hw] at Z
 |.new e (.oc n row) rs X t,ρ,L,Z=>by simp[T.hw] at Z
 |.new e (.sub a lo hi) rs X t,ρ,L,Z=>by simp[T.hw] at Z
 |.new e (.ins a n cs) rs X t,ρ,L,Z=>by simp[T.hw] at Z
 |.new e (.set (.ref (.k _)) i off cs) rs X t,ρ,L,Z=>by simp[T.hw] at Z
 |.new e (.set (.lit _) i off cs) rs X t,ρ,L,Z=>by simp[T.hw] at Z
 |.new e (.set (.jG _ _) i off cs) rs X t,ρ,L,Z=>by simp[T.hw] at Z
 |.new e (.set (.oc _ _) i off cs) rs X t,ρ,L,Z=>by simp[T.hw] at Z
 |.new e (.set (.set _ _ _ _) i off cs) rs X t,ρ,L,Z=>by simp[T.hw] at Z
 |.new e (.set (.sub _ _ _) i off cs) rs X t,ρ,L,Z=>by simp[T.hw] at Z
 |.new e (.set (.ins _ _ _) i off cs) rs X t,ρ,L,Z=>by simp[T.hw] at Z
 |.new e (.set (.ref (.cell _ _ _ _)) i off cs) rs X t,ρ,L,Z=>by simp[T.hw] at Z
 |.dl f g e sp st r rs t,ρ,L,Z=>by
  obtain⟨rows,Q,O⟩:=Z;exact⟨rows,Q,tF h V U t _ L O⟩
 |.ret ..,_,_,Z=>by simp[T.hw] at Z
 |.aS ..,_,_,Z=>by simp[T.hw] at Z
 |.rows ..,_,_,Z=>by simp[T.hw] at Z
 |.eC ..,_,_,Z=>by simp[T.hw] at Z
 |.pick ..,_,_,Z=>by simp[T.hw] at Z
 |.stuck _,_,_,Z=>by simp[T.hw] at Z
section
variable{h:HP}{ρ:aa}{L:List LC}
def aaa{t:T}{ρ':aa}(e:ρ=ρ'):T.hw h t ρ L=T.hw h t ρ' L:=by rw[e]
def rF(b:BE)(t f:T):T.hw h (.node b t f) ρ L=(if b.den ρ=true then t.hw h ρ L else f.hw h ρ L):=rfl
def aai(b:BE)(t:T):T.hw h (.az b t) ρ L=(b.den ρ=true/\t.hw h ρ L):=rfl
def aaj(al:Nat)(x:List SV):T.hw h (.back al x) ρ L=Io (kQ al L) (x.map (SV.xv ρ)):=rfl
def aal(e:TypeId)(k:Nat)(i:IE)(off:Nat)(cs:List SV)(rs Z:List RK)(t:T):T.hw h (.new e (.set (.ref (.v k)) i off cs) rs Z t) ρ L=t.hw h (ρ.add (.r (.mk (ρ.rv k).val (LE.rows ρ (.set (.ref (.v k)) i off cs))))) L:=rfl
def xp(f g:FuncId)(e:TypeId)(sp:aJ)(Z:Bool)(r:RE)(rs:List RK)(t:T):T.hw h (.dl f g e sp Z r rs t) ρ L=(∃rows,kR ρ sp Z (r.rv ρ).rows=some rows/\t.hw h (ρ.add (.r (.mk (r.rv ρ).val rows))) L):=rfl
def xq(ex:XE)(s:S):T.hw h (.out ex s) ρ L=((ex=.normal\/ex=.ret)/\∃k,s.rs[k]?=some (.own h.e)/\ρ.rv k=.mk h.v h.ay):=rfl
def tG{al:Nat}{ks:List LK}{X:List SV}{t:T}(I:List XV->Prop)(Z:List XV->Nat)(W:I (X.map (SV.xv ρ)))(V:∀xs,I xs->t.hw h (ρ.ext xs) (⟨al,I,Z,Z xs⟩::L)):T.hw h (.loop al ks X t) ρ L:=⟨I,Z,W,V⟩
end
end
section
attribute[local simp] IE.den BE.den RE.rv RE.den ew aa.rv aa.ext aa.add SV.xv rF aai aaj aal xp xq LE.rows kQ
attribute[local congr] aaa
structure zE(K:List Bool)(cs:RE->IE->List SV):Prop where
 bp:∀(ρ:aa)(r:RE)(i:IE)(x:List RV),(r.rv ρ).rows[(i.den ρ).toNat]?=some x->fU K x->(cs r i).map (SV.bp ρ)=x
 den:∀(ρ:aa)(r:RE)(i:IE)(x:List RV),(r.rv ρ).rows[(i.den ρ).toNat]?=some x->fU K x->aau ρ (cs r i) x
def aav:∀{K:List Bool}{x:List RV},fU K x->x.length=K.length
 |[],_,h=>by cases h;rfl
 |_::_,[],h=>h.elim
 |_::_,_::_,h=>by simp[aav h.2]
def akH:∀(x row Z:List RV),row.length=x.length->eR (Z++row) Z.length x=Z++x
 |[],row,Z,h=>by
  have:row=[]:=axa h;subst this;rfl
 |v::r,[],Z,h=>by simp at h
 |v::r,c::row,Z,h=>by
  have X:=akH r row (Z++[v]) (by simpa using h);simp only[awQ,axm,ayj,ax9,awV,awX] at X;simp only[eR];rw[ays _ _ (awN _),azl,aAe];exact X
def BS{K:List Bool}{rows:List (List RV)}{I:Nat}{x:List RV}(W:∀y∈rows,fU K y)(V:fU K x):(rows.modify I λrow=>eR row 0 x)=rows.set I x:=by
 apply axd;intro k;rw[az1,axC];by_cases X:I=k;subst X;simp only[if_true];cases Z:rows[I]? with
 |none=>
  have:=axA.1 Z;rw[if_neg (by omega)];rfl
 |some row=>
  obtain⟨U,_⟩:=awG.1 Z;rw[if_pos U];have:=akH x row [] (by rw[aav (W row (aw1 Z)),aav V]);simpa using this
 simp[X]
def LS{n:Int}(Z:-9223372036854775808<=n)(X:n<9223372036854775808):IntKind.i64.wrap n=n:=by
 rw[IntKind.wrap_i64];omega
def vq{a b:Nat}(h:a+b<=4398046511104):bh .add .i64 (a:Int) (b:Int)=((a+b:Nat):Int):=by
 simp only[bh];rw[LS (by omega) (by omega)];omega
def tH{a b:Nat}(h:b<=a)(Z:a<=4398046511104):bh .sub .i64 (a:Int) (b:Int)=((a-b:Nat):Int):=by
 simp only[bh];rw[LS (by omega) (by omega)];omega
def zF{a:Nat}(h:a<=4398046511103):bh .add .i64 (a:Int) 1=((a+1:Nat):Int):=vq (b:=1) (by omega)
def Ss{a:Nat}(h:1<=a)(Z:a<=4398046511104):bh .sub .i64 (a:Int) 1=((a-1:Nat):Int):=tH (b:=1) h Z
def ar2(rows:List (List RV)){a b m:Nat}(R:a+m<=b)(Z:b+m<=rows.length)(k:Nat):
  (rows.take a++(aF rows b (b+m)++(aF rows (a+m) b++(aF rows a (a+m)++rows.drop (b+m)))))[k]?=if a<=k/\k<a+m then rows[k-a+b]? else if b<=k/\k<b+m then rows[k-b+a]? else rows[k]?:=by
 have l1:(rows.take a).length=a:=by simp;omega
 have X:(aF rows b (b+m)).length=m:=by rw[nc rows Z];omega
 have W:(aF rows (a+m) b).length=b-(a+m):=nc rows (by omega);have V:(aF rows a (a+m)).length=m:=by rw[nc rows (by omega)];omega
 by_cases U:k<a;rw[awI (by omega),if_neg (by omega),if_neg (by omega),axc,if_pos U];rw[awM (by omega),l1];by_cases Q:k<a+m;rw[awI (by omega),if_pos (by omega),LP rows (by omega)];congr 1;omega;rw[awM (by omega),X,if_neg (by omega)];by_cases P:k<b;rw[awI (by omega),if_neg (by omega),LP rows (by omega)];congr 1;omega;rw[awM (by omega),W];by_cases O:k<b+m;rw[awI (by omega),if_pos (by omega),LP rows (by omega)];congr 1;omega;rw[awM (by omega),V,if_neg (by omega),axl];congr 1;omega
def xt{Z:List Int}(h:Z.length=3):∃a b c,Z=[a,b,c]:=by
 match Z,h with
 |[a,b,c],_=>exact⟨a,b,c,rfl⟩
def two{Z:List Int}(h:Z.length=2):∃a b,Z=[a,b]:=by
 match Z,h with
 |[a,b],_=>exact⟨a,b,rfl⟩
def vu{a:Int}(h:0<=a):∃n:Nat,a=n:=⟨a.toNat,by omega⟩
section
variable{K:List Bool}{e g:Nat}{o:aJ}{cs:RE->IE->List SV}
set_option maxHeartbeats 2000000 in
def akI (N:zE K cs):LQ K e g o 0 3 (Sj e cs):=by
 rintro p _ rows ay ns D C ⟨A,n,cap,rfl,B,hn⟩ w u Z t;obtain⟨a,b,m,rfl⟩:=xt u;obtain⟨_,Z⟩:=vY Z;simp only[jM] at Z;split at Z;rename_i V;simp only[awF,decide_eq_true_eq] at V;obtain⟨a,rfl⟩:=vu V.1.1.1;obtain⟨m,rfl⟩:=vu V.1.1.2;obtain⟨b,rfl⟩:=vu (a:=b) (by omega);have s:a+m<=b:=by omega
 have q:b+m<=rows.length:=by omega
 simp only[awJ] at Z;have e1:((a:Int)).toNat=a:=rfl;have l:((b:Int)).toNat=b:=rfl;have f:((b:Int)+(m:Int)).toNat=b+m:=by omega
 have d:((a:Int)+(m:Int)).toNat=a+m:=by omega
 rw[e1,l,f,d] at Z;have M:=ar2 rows s q;rw[Z] at M;clear Z;refine tF ⟨K,g,o,e,.slice A n cap,ay⟩ (D▸C) t _ _ _ ?_;unfold Sj;refine tG (λxs=>∃(i:Nat)(rs:List (List RV)),xs=[.r (.mk (.slice A n cap) rs),.i i]/\i<=m/\rs.length=n/\(∀x∈rs,fU K x)/\∀k:Nat,rs[k]?=if a<=k/\k<a+i then rows[k-a+b]? else if b<=k/\k<b+i then rows[k-b+a]? else rows[k]?) (λxs=>match xs with|[_,.i j]=>m-j.toNat|_=>0) ⟨0,rows,rfl,by omega,B,w,λk=>by rw[if_neg (by omega),if_neg (by omega)]⟩ ?_;rintro _ ⟨i,rs,rfl,hi,c,X,W⟩;by_cases af:i<m;obtain⟨x,U⟩:∃x,rs[a+i]?=some x:=awG.2 ⟨by omega,rfl⟩|>λh=>⟨_,h⟩
 obtain⟨y,R⟩:∃y,rs[b+i]?=some y:=awG.2 ⟨by omega,rfl⟩|>λh=>⟨_,h⟩
 have Q:=X x (aw1 U);have P:=X y (aw1 R);have L:=vq (a:=a) (b:=i) (by omega);have J:=vq (a:=b) (b:=i) (by omega);have c1:ayy (SV.bp ⟨[(a:Int),b,m,i],[],[.mk (.slice A n cap) rows,.mk (.slice A n cap) rs],[]⟩) (cs (.v 1) (.bin .add .i64 (.v 1) (.v 3)))=y:=N.bp _ _ _ y (by simp only[RE.rv,aa.rv,IE.den,ayb,axY,RV.jl,J,axy];exact R) P;have c2:∀rv,ayy (SV.bp ⟨[(a:Int),b,m,i],[],[.mk (.slice A n cap) rows,.mk (.slice A n cap) rs,rv],[]⟩) (cs (.v 1) (.bin .add .i64 (.v 0) (.v 3)))=x:=λrv=>N.bp _ _ _ x (by simp only[RE.rv,aa.rv,IE.den,ayb,axY,RV.jl,L,axy];exact U) Q
 have m1:(rs.modify (a+i) λrow=>eR row 0 y)=rs.set (a+i) y:=BS X P;have I:∀z∈rs.set (a+i) y,fU K z:=λz O=>by
  rcases axM O with h|rfl;exact X z h;exact P
 have m2:((rs.set (a+i) y).modify (b+i) λrow=>eR row 0 x)=(rs.set (a+i) y).set (b+i) x:=BS I Q;have t1:((a:Int)+(i:Int)).toNat=a+i:=by omega
 have t2:((b:Int)+(i:Int)).toNat=b+i:=by omega
 simp[L,J,zF (a:=i) (by omega),af,c1,c2,t1,t2,m1,m2,lenOf];refine⟨by omega,by omega,by omega,⟨i+1,_,rfl,by omega,by simp[c],λz O=> ?_,λk=> ?_⟩,show m-((i:Int)+1).toNat<m-i by omega⟩;rcases axM O with h|rfl;exact I z h;exact Q;have ag:rows[a+i]?=some x:=by
  have:=W (a+i);rw[if_neg (by omega),if_neg (by omega)] at this;rw[<-this];exact U
 have an:rows[b+i]?=some y:=by
  have:=W (b+i);rw[if_neg (by omega),if_neg (by omega)] at this;rw[<-this];exact R
 rw[axC,axC];by_cases H:b+i=k;subst H;rw[if_pos rfl,if_pos (by simp;omega),if_neg (by omega),if_pos (by omega),<-ag];congr 1;omega;rw[if_neg H];by_cases G:a+i=k;subst G;rw[if_pos rfl,if_pos (by omega),if_pos (by omega),<-an];congr 1;omega;rw[if_neg G,W k];by_cases F:a<=k/\k<a+i;rw[if_pos F,if_pos (by omega)];rw[if_neg F];by_cases E:b<=k/\k<b+i;rw[if_pos E,if_neg (by omega),if_pos (by omega)];rw[if_neg E,if_neg (by omega),if_neg (by omega)];have a0:i=m:=by omega
 subst a0;have a1:rs=ay:=axd λk=>by rw[W k,M k]
 subst a1;simp;exact⟨1,rfl,rfl⟩;cases Z
end
end
section
attribute[local simp] IE.den BE.den RE.rv RE.den ew aa.rv aa.ext aa.add SV.xv rF aai aaj aal xp xq LE.rows kQ kR
attribute[local congr] aaa
def LU(P S Q:List (List RV)):aF (P++(S++Q)) P.length (P.length+S.length)=S:=by simp[aF]
def LV{rows P S Q:List (List RV)}{a b:Nat}(h:rows=P++(S++Q))(Z:a=P.length)(X:b=a+S.length):aF rows a b=S:=by
 subst h;subst Z;subst X;exact LU P S Q
def aaw{o:aJ}{P X M Y Q:List (List RV)}{a b n:Int}(Z:a=P.length)(W:b=P.length+X.length+M.length)(V:n=X.length)(F:Y.length=X.length)(U:(P++(X++(M++(Y++Q)))).length<=1099511627776):
  lH 0 o [a,b,n] (P++(X++(M++(Y++Q))))=some (P++(Y++(M++(X++Q)))):=by
 subst Z;subst W;subst V;unfold lH;rw[if_pos U];simp only[jM];rw[if_pos (by simp only[awF,decide_eq_true_eq,awQ];omega)];have e1:((P.length:Int)).toNat=P.length:=rfl;have R:((P.length:Int)+X.length+M.length).toNat=P.length+X.length+M.length:=by omega
 have O:((P.length:Int)+X.length+M.length+X.length).toNat=P.length+X.length+M.length+X.length:=by omega
 have N:((P.length:Int)+X.length).toNat=P.length+X.length:=by omega
 rw[e1,R,O,N];have L:(P++(X++(M++(Y++Q)))).take P.length=P:=by simp
 have J:aF (P++(X++(M++(Y++Q)))) (P.length+X.length+M.length) (P.length+X.length+M.length+X.length)=Y:=LV (P:=P++(X++M)) (Q:=Q) (by simp) (by simp;omega) (by omega);have I:aF (P++(X++(M++(Y++Q)))) (P.length+X.length) (P.length+X.length+M.length)=M:=LV (P:=P++X) (Q:=Y++Q) (by simp) (by simp) rfl;have H:aF (P++(X++(M++(Y++Q)))) P.length (P.length+X.length)=X:=LU P X _;have G:(P++(X++(M++(Y++Q)))).drop (P.length+X.length+M.length+X.length)=Q:=by
  have:P++(X++(M++(Y++Q)))=(P++(X++(M++Y)))++Q:=by simp
  rw[this,ay2 (by simp;omega)]
 rw[L,J,I,H,G]
def akJ(rows:List (List RV)){a m b:Nat}(Z:a<=m)(X:m<=b):rows.take a++(aF rows a m++(aF rows m b++rows.drop b))=rows:=by
 rw[<-ax9 (aF rows a m),<-l9 rows Z X,Im rows (by omega)]
def oV{c:Prop}[Decidable c]{A B:Prop}(Z:c->A)(X:¬c->B):if c then A else B:=by
 by_cases h:c;rw[if_pos h];exact Z h;rw[if_neg h];exact X h
section
variable{K:List Bool}{e g u:Nat}{o:aJ}{cs:RE->IE->List SV}
set_option maxHeartbeats 2000000 in
def akK:LQ K e g o 1 3 (Sk e g u o):=by
 rintro p _ rows ay k E D ⟨I,n,cap,rfl,C,h⟩ f z R y;obtain⟨a,m,b,rfl⟩:=xt z;obtain⟨_,R⟩:=vY R;simp only[jM] at R;split at R;rename_i H;simp only[awF,decide_eq_true_eq] at H;obtain⟨a,rfl⟩:=vu H.1.1.1;obtain⟨m,rfl⟩:=vu (a:=m) (by omega);obtain⟨b,rfl⟩:=vu (a:=b) (by omega);simp only[awJ,axy] at R;have G:b<=rows.length:=by omega
 refine tF ⟨K,g,o,e,.slice I n cap,ay⟩ (E▸D) y _ _ _ ?_;unfold Sk;refine tG (λxs=>∃(P A B Q:List (List RV)),xs=[.r (.mk (.slice I n cap) (P++(A++(B++Q)))),.i A.length,.i B.length]/\1<=A.length/\1<=B.length/\P.length+A.length=m/\m+B.length<=b/\(P++(A++(B++Q))).length=n/\P++(B++(A++Q))=ay) (λxs=>match xs with|[_,.i i,.i j]=>i.toNat+j.toNat|_=>0) ⟨rows.take a,aF rows a m,aF rows m b,rows.drop b, ?_, ?_⟩ ?_;have e0:rows.take a++(aF rows a m++(aF rows m b++rows.drop b))=rows:=by
  exact akJ rows (by omega) (by omega)
 have l1:(aF rows a m).length=m-a:=nc rows (by omega);have F:(aF rows m b).length=b-m:=nc rows G;simp only[awT,ax0,SV.xv,RE.rv,aa.rv,axY,ayb,IE.den,e0,l1,F];rw[tH (a:=m) (b:=a) (by omega) (by omega),tH (a:=b) (b:=m) (by omega) (by omega)];have l1:(aF rows a m).length=m-a:=nc rows (by omega);have F:(aF rows m b).length=b-m:=nc rows G;refine⟨by omega,by omega,by simp;omega,by omega, ?_,R⟩;rw[akJ rows (by omega) (by omega)];exact C;rintro _ ⟨P,A,B,Q,rfl,d,c,af,ag,x,L⟩;have w:=tH (a:=m) (b:=A.length) (by omega) (by omega);have v:((m-A.length:Nat):Int)=P.length:=by omega
 simp only[awQ] at x;simp[w,v];refine oV (λt=> ?_) (λt=>oV (λs=> ?_) (λs=> ?_));have O:=aaw (o:=o) (P:=P) (X:=A) (M:=[]) (Y:=B) (Q:=Q) (a:=P.length) (b:=m) (n:=A.length) rfl (by simp;omega) rfl (by omega) (by simp;omega);refine⟨P++(B++(A++Q)),by simpa using O,2,rfl, ?_⟩;simp[L];obtain⟨V,U,rfl,J⟩:∃V U,A=V++U/\V.length=B.length:=⟨A.take B.length,A.drop B.length,(ax5 _ _).symm,by simp;omega⟩;simp only[awQ] at*;have N:=tH (a:=V.length+U.length) (b:=B.length) (by omega) (by omega);have O:=aaw (o:=o) (P:=P) (X:=V) (M:=U) (Y:=B) (Q:=Q) (a:=P.length) (b:=m) (n:=B.length) rfl (by omega) (by omega) (by omega) (by simp;omega);refine⟨P++(B++(U++(V++Q))),by simpa using O,⟨P++B,U,V,Q, ?_,by omega,by omega,by simp;omega,by omega,by simp;omega, ?_⟩, ?_⟩;rw[N,J];simp;rw[<-L];simp;rw[N];show((V.length+U.length-B.length:Nat):Int).toNat+((B.length:Int)).toNat<V.length+U.length+B.length;omega;obtain⟨W,Z,rfl,J⟩:∃W Z,B=W++Z/\Z.length=A.length:=⟨B.take (B.length-A.length),B.drop (B.length-A.length),(ax5 _ _).symm,by simp;omega⟩;simp only[awQ] at*;have q:=vq (a:=m) (b:=W.length+Z.length) (by omega);have N:=tH (a:=m+(W.length+Z.length)) (b:=A.length) (by omega) (by omega);have l:=tH (a:=W.length+Z.length) (b:=A.length) (by omega) (by omega);have O:=aaw (o:=o) (P:=P) (X:=A) (M:=W) (Y:=Z) (Q:=Q) (a:=P.length) (b:=((m+(W.length+Z.length)-A.length:Nat):Int)) (n:=A.length) rfl (by omega) rfl (by omega) (by simp;omega);rw[q,N,l];refine⟨P++(Z++(W++(A++Q))),by simpa using O,⟨P,Z,W,A++Q, ?_,by omega,by omega,by omega,by omega,by simp;omega, ?_⟩, ?_⟩;rw[J];simp;rw[<-L];simp;show((A.length:Int)).toNat+((W.length+Z.length-A.length:Nat):Int).toNat<A.length+(W.length+Z.length);omega;cases R
end
end
section
attribute[local simp] IE.den BE.den RE.rv RE.den ew aa.rv aa.ext aa.add SV.xv rF aai aaj aal xp xq LE.rows kQ kR
attribute[local congr] aaa
def ar3{lt:List RV->List RV->Bool}(l:List (List RV))(x:List RV):be lt (l++[x])=cQ lt x (be lt l):=by simp[be]
def akL{lt:List RV->List RV->Bool}{x:List RV}:∀{L G:List (List RV)},(∀l∈L,lt x l=false)->(∀g∈G,lt x g=true)->cQ lt x (L++G)=L++x::G
 |[],[],_,_=>rfl
 |[],g::G,_,h=>by simp[cQ,h g (by simp)]
 |l::L,G,Z,X=>by
  have W:=akL (L:=L) (G:=G) (λy V=>Z y (by simp[V])) X;simp only[awV,cQ,Z l (by simp)];rw[W];simp
def akM(A R:List (List RV))(l x:List RV){j:Nat}(Z:j=A.length):((A++(l::x::R)).set (j+1) l).set j x=A++(x::l::R):=by
 subst Z;rw[ays _ _ (by omega),ayE,ays _ _ (by omega),azl];rfl
def St{h:HP}{ρ:aa}{L:List LC}{cs:RE->IE->List SV}(U:zE h.K cs){Z X:RE}{W V:IE}{bx:aX}{rs:List RK}{n:Nat}{t:T}(Q:n=ρ.i.length)(x y:List RV)(P:(Z.rv ρ).rows[(W.den ρ).toNat]?=some x)(O:(X.rv ρ).rows[(V.den ρ).toNat]?=some y)(R:fU h.K x)(t2:fU h.K y)(N:h.o.ok x=true)(M:h.o.ok y=true)
  (J:∀c:Int,(c<0<->h.o.lt x y=true)->t.hw h (ρ.add (.i c)) L):T.hw h (.call h.g [.agg (cs Z W),.agg (cs X V)] bx rs [.int .i64] (.int .i64 (.v n)) t) ρ L:=by
 subst Q;exact⟨rfl,rfl,rfl,_,_,x,y,rfl,U.den ρ Z W x P R,U.den ρ X V y O t2,R,t2,N,M,J⟩
section
variable{K:List Bool}{e g:Nat}{o:aJ}{cs:RE->IE->List SV}
set_option maxHeartbeats 4000000 in
def akN (E:zE K cs) (s:jd o.lt (λx=>o.ok x=true)):LQ K e g o 2 2 (Sm e g cs):=by
 rintro p _ rows ay ns hP a2 ⟨W,n,cap,rfl,b2,hn⟩ hT hN V a3;obtain⟨a,b,rfl⟩:=two hN;obtain⟨_,V⟩:=vY V;simp only[jM] at V;split at V;rename_i N;simp only[awF,decide_eq_true_eq,awU] at N;obtain⟨⟨⟨a4,a5⟩,gY⟩,q⟩:=N;obtain⟨a,rfl⟩:=vu a4;obtain⟨b,rfl⟩:=vu (a:=b) (by omega);simp only[awJ,axy] at V;have hb:b<=rows.length:=by omega
 have a5:a<=b:=by omega
 refine tF ⟨K,g,o,e,.slice W n cap,ay⟩ (hP▸a2) a3 _ _ _ ?_;unfold Sm;refine tG (λxs=>∃(i:Nat)(rs:List (List RV)),xs=[.r (.mk (.slice W n cap) rs),.i i]/\a<i/\i<=b+1/\rs=rows.take a++(be o.lt (aF rows a (min i b))++rows.drop (min i b))) (λxs=>match xs with|[_,.i i]=>b+1-i.toNat|_=>0) ⟨a+1,rows, ?_,by omega,by omega, ?_⟩ ?_;simp only[awT,ax0,SV.xv,RE.rv,aa.rv,axY,IE.den];rw[zF (by omega)];by_cases h:a+1<=b;rw[azm h];have:aF rows a (a+1)=[rows[a]'(by omega)]:=by
  simp only[aF,show a+1-a=1 by omega];rw[axE (by omega)];rfl
 rw[this];show rows=_++([rows[a]'(by omega)]++_);rw[<-this,Im rows (by omega)];have:b=a:=by omega
 subst this;rw[Nat.min_eq_right (by omega)];have:aF rows b b=[]:=by simp[aF]
 rw[this];show rows=rows.take b++([]++rows.drop b);simp;rintro _ ⟨i,rs,rfl,b3,b4,aM⟩;by_cases m:i<b;rw[azm (by omega)] at aM;obtain⟨x,k⟩:∃x,x=rows[i]'(by omega):=⟨_,rfl⟩;have C:rows.drop i=x::rows.drop (i+1):=by rw[k,axE (by omega)]
 have f:(be o.lt (aF rows a i)).length=i-a:=by rw[kC,nc rows (by omega)]
 have a6:aF rows a (i+1)=aF rows a i++[x]:=by
  rw[l9 rows (show a<=i by omega) (show i<=i+1 by omega)];congr 1;simp only[aF,ayE,C];rfl
 have U:∀y,y∈rows.take a\/y∈be o.lt (aF rows a i)\/y=x\/y∈rows.drop (i+1)->fU K y/\o.ok y=true:=by
  intro y X;have:y∈rows:=by
   rcases X with h|h|rfl|h;exact axL h;exact pm (Ek h);rw[k];exact ax6 _;exact axG h
  exact⟨hT y this,q y this⟩
 have B:eh o.lt (be o.lt (aF rows a i)):=Ej s λz d=>q z (pm d)
 have a7:(rows.take a).length=a:=by simp;omega
 have a8:(rows.drop (i+1)).length=n-(i+1):=by simp;omega
 generalize a9:be o.lt (aF rows a i)=S at aM f U B;generalize b5:rows.take a=P at aM U a7 V;generalize bb:rows.drop (i+1)=D at C U a8;rw[C] at aM;have af:∀L G,S=L++G->(∀l∈L,o.lt x l=false)->(∀g∈G,o.lt x g=true)->P++(L++x::(G++D))=P++(be o.lt (aF rows a (min (i+1) b))++rows.drop (min (i+1) b)):=by
  intro L G M J h3;rw[azm (by omega),a6,ar3,a9,M,akL J h3,bb];simp
 simp[m];refine tG (λxs=>∃(L G:List (List RV)),xs=[.r (.mk (.slice W n cap) (P++(L++x::(G++D)))),.i ((a+L.length:Nat):Int)]/\S=L++G/\∀g∈G,o.lt x g=true) (λxs=>match xs with|[_,.i j]=>j.toNat|_=>0) ⟨S,[], ?_,by simp,by simp⟩ ?_;simp[aM,f];omega;rintro _ ⟨L,G,rfl,Z,A⟩;rcases List.eq_nil_or_concat L with rfl|⟨L,l,rfl⟩;simp;rw[zF (by omega)];refine⟨⟨i+1,_,rfl,by omega,by omega, ?_⟩, ?_⟩;exact af [] G Z (by simp) A;show b+1-((i+1:Nat):Int).toNat<b+1-i;omega;simp only[List.concat_eq_append] at Z⊢;have b6:a+L.length+1<=i:=by
  have:=congrArg ayW Z;simp only[awQ,axm,ayj] at this;omega
 have R:bh .sub .i64 (((a+(L.length+1):Nat)):Int) 1=((a+L.length:Nat):Int):=by rw[Ss (by omega) (by omega)];omega
 have I:=U x (by simp);have Q:=U l (.inr (.inl (by rw[Z];simp)));have e0:P++(L++[l]++x::(G++D))=(P++L)++(l::x::(G++D)):=by simp
 have u:((P++L)++(l::x::(G++D)))[a+(L.length+1)]?=some x:=by
  rw[awM (by simp;omega)];simp[show a+(L.length+1)-(P.length+L.length)=1 by omega]
 have gl:((P++L)++(l::x::(G++D)))[a+L.length]?=some l:=by
  rw[awM (by simp;omega)];simp[show a+L.length-(P.length+L.length)=0 by omega]
 have t:∀y∈(P++L)++(l::x::(G++D)),fU K y/\o.ok y=true:=by
  intro y X;refine U y ?_;simp only[awR,awP] at X;rcases X with(h|h)|h|h|h|h;exact .inl h;exact .inr (.inl (by rw[Z];simp[h]));subst h;exact .inr (.inl (by rw[Z];simp));exact .inr (.inr (.inl h));exact .inr (.inl (by rw[Z];simp[h]));exact .inr (.inr (.inr h))
 have ag:((P++L)++(l::x::(G++D))).length=n:=by
  have:=congrArg ayW Z;simp only[awQ,axm,ayj] at this;simp only[awQ,axm];omega
 rw[e0];have bd:(((a+(L++[l]).length:Nat):Int))=((a+(L.length+1):Nat):Int):=by simp
 rw[bd];have H:((a+(L.length+1):Nat):Int).toNat=a+(L.length+1):=rfl;have F:((a+L.length:Nat):Int).toNat=a+L.length:=rfl;have an:((a+(L.length+1):Nat):Int)=((a+L.length:Nat):Int)+1:=by omega
 have bf:((a+(L.length+1):Nat):Int)<n:=by
  have:=ag;simp only[awQ,axm] at this;omega
 have a0:(a:Int)<((a+(L.length+1):Nat):Int):=by omega
 have bk:(0:Int)<=((a+L.length:Nat):Int):=by omega
 generalize d:((a+(L.length+1):Nat):Int)=z at R H an bf a0⊢;generalize hw:((a+L.length:Nat):Int)=w at R F an bk⊢;generalize hR:(P++L)++(l::x::(G++D))=O at u gl t ag⊢;simp[R,a0];refine⟨⟨by omega,by simp[lenOf];omega⟩,⟨by omega,by simp[lenOf];omega⟩, ?_⟩;refine St E rfl x l ?_ ?_ I.1 Q.1 I.2 Q.2 (λc N=> ?_);simp[H];exact u;simp[R,F];exact gl;have c1:∀ρ:aa,ρ.r=[.mk (.slice W n cap) rows,.mk (.slice W n cap) rs,.mk (.slice W n cap) O]->ρ.i=[(a:Int),b,i,z,c]->ayy (SV.bp ρ) (cs (.v 2) (.bin .sub .i64 (.v 3) (.c 1)))=l:=λρ M J=>E.bp ρ _ _ l (by simp[M,J,R,F];exact gl) Q.1
 have c2:∀(ρ:aa) rv,ρ.r=[.mk (.slice W n cap) rows,.mk (.slice W n cap) rs,.mk (.slice W n cap) O,rv]->ρ.i=[(a:Int),b,i,z,c]->ayy (SV.bp ρ) (cs (.v 2) (.v 3))=x:=λρ rv M J=>E.bp ρ _ _ x (by simp[M,J,H];exact u) I.1
 simp[R];refine oV (λbr=> ?_) (λbs=> ?_);rw[c1 _ rfl rfl,c2 _ _ rfl rfl];have m1:(O.modify z.toNat λrow=>eR row 0 l)=O.set (a+L.length+1) l:=by rw[H];exact BS (λy X=>(t y X).1) Q.1
 have m2:((O.set (a+L.length+1) l).modify w.toNat λrow=>eR row 0 x)=(O.set (a+L.length+1) l).set (a+L.length) x:=by
  rw[F];refine BS (λy X=> ?_) I.1;rcases axM X with h|rfl;exact(t y h).1;exact Q.1
 rw[m1,m2,<-hR,akM (P++L) (G++D) l x (by simp;omega)];refine⟨⟨by omega,by simp[lenOf];omega⟩,⟨by omega,by simp[lenOf];omega⟩,⟨by omega,by simp[lenOf];omega⟩,⟨L,l::G, ?_,by rw[Z];simp,λg' bt=> ?_⟩, ?_⟩;simp;omega;rcases awP.1 bt with rfl|h;exact N.1 br;exact A g' h;show w.toNat<z.toNat;omega;have a1:o.lt x l=false:=by
  cases h:o.lt x l;rfl;exact absurd (N.2 h) bs
 have bx:∀y∈L++[l],o.lt x y=false:=by
  intro y X;rcases awR.1 X with h|h;have:o.lt l y=false:=by
   rw[Z] at B;exact(aw8.1 (aw8.1 B).1).2.2 y h l (by simp)
  have b0:=U y (.inr (.inl (by rw[Z];simp[h])));exact s.nt x l y I.2 Q.2 b0.2 a1 this;simp at h;subst h;exact a1
 rw[zF (by omega)];refine⟨⟨i+1,_,rfl,by omega,by omega, ?_⟩, ?_⟩;rw[<-af (L++[l]) G Z bx A,<-hR];simp;show b+1-((i+1:Nat):Int).toNat<b+1-i;omega;have b1:min i b=b:=Nat.min_eq_right (by omega);rw[b1,V] at aM;simp[m];exact⟨1,rfl,by rw[aM];rfl⟩;cases V
end
end
section
attribute[local simp] IE.den BE.den RE.rv RE.den ew aa.rv aa.ext aa.add SV.xv rF aai aaj aal xp xq LE.rows kQ kR
attribute[local congr] aaa
def ar4{x:Nat}(h:x<=4398046511104):IntKind.i64.wrap (bh .shr .u64 (IntKind.u64.wrap (x:Int)) 1)=((x/2:Nat):Int):=by
 have e1:IntKind.u64.wrap (x:Int)=(x:Int):=by
  rw[IntKind.wrap_u64];omega
 rw[e1];simp only[bh];have Z:(2:Int)^min (Int.toNat 1) IntKind.u64.bits=2:=rfl;rw[Z,azB _ (by omega),LS (by omega) (by omega)];omega
def Su{o:aJ}{N:Nat}{P X Y Q:List (List RV)}{a m b:Int}(Z:a=P.length)(W:m=P.length+X.length)(V:b=P.length+X.length+Y.length)(C:1<=X.length)(B:1<=Y.length)(A:X.length+Y.length<N)(U:(P++(X++(Y++Q))).length<=1099511627776)(R:∀z∈P++(X++(Y++Q)),o.ok z=true)(O:eh o.lt X)(M:eh o.lt Y):
  lH (N+3) o [a,m,b] (P++(X++(Y++Q)))=some (P++(be o.lt (X++Y)++Q)):=by
 subst Z;subst W;subst V;unfold lH;rw[if_pos U];simp only[jM];have e1:((P.length:Int)).toNat=P.length:=rfl;have J:((P.length:Int)+X.length).toNat=P.length+X.length:=by omega
 have I:((P.length:Int)+X.length+Y.length).toNat=P.length+X.length+Y.length:=by omega
 rw[e1,J,I];have H:(P++(X++(Y++Q))).take P.length=P:=by simp
 have G:aF (P++(X++(Y++Q))) P.length (P.length+X.length)=X:=LU P X _;have F:aF (P++(X++(Y++Q))) (P.length+X.length) (P.length+X.length+Y.length)=Y:=LV (P:=P++X) (Q:=Q) (by simp) (by simp) rfl;have E:aF (P++(X++(Y++Q))) P.length (P.length+X.length+Y.length)=X++Y:=LV (P:=P) (Q:=Q) (by simp) rfl (by simp;omega);have D:(P++(X++(Y++Q))).drop (P.length+X.length+Y.length)=Q:=by
  have:P++(X++(Y++Q))=(P++(X++Y))++Q:=by simp
  rw[this,ay2 (by simp;omega)]
 rw[H,G,F,E,D,if_pos];simp only[awF,decide_eq_true_eq,awU,akv];refine⟨⟨⟨⟨⟨⟨⟨by omega,by omega⟩,by omega⟩, ?_⟩,by omega⟩,R⟩,O⟩,M⟩;simp only[awQ];omega
def Sv{lt:List RV->List RV->Bool}{X Y:List (List RV)}(h:X=[]\/Y=[])(Z:eh lt X)(W:eh lt Y):be lt (X++Y)=X++Y:=by
 rcases h with rfl|rfl;simpa using Se W;simpa using Se Z
def ar5{o:aJ}{P A B Q:List (List RV)}{a m b:Int}(Z:a=P.length)(X:m=P.length+A.length)(W:b=P.length+A.length+B.length)(H:1<=A.length)(G:1<=B.length)(V:(P++(A++(B++Q))).length<=1099511627776):
  lH 1 o [a,m,b] (P++(A++(B++Q)))=some (P++(B++(A++Q))):=by
 subst Z;subst X;subst W;unfold lH;rw[if_pos V];simp only[jM];have e1:((P.length:Int)).toNat=P.length:=rfl;have U:((P.length:Int)+A.length).toNat=P.length+A.length:=by omega
 have R:((P.length:Int)+A.length+B.length).toNat=P.length+A.length+B.length:=by omega
 rw[e1,U,R];have O:(P++(A++(B++Q))).take P.length=P:=by simp
 have M:aF (P++(A++(B++Q))) P.length (P.length+A.length)=A:=LU P A _;have J:aF (P++(A++(B++Q))) (P.length+A.length) (P.length+A.length+B.length)=B:=LV (P:=P++A) (Q:=Q) (by simp) (by simp) rfl;have I:(P++(A++(B++Q))).drop (P.length+A.length+B.length)=Q:=by
  have:P++(A++(B++Q))=(P++(A++B))++Q:=by simp
  rw[this,ay2 (by simp;omega)]
 rw[O,M,J,I,if_pos];simp only[awF,decide_eq_true_eq,awQ];omega
abbrev Iq:IE:=.bin .sub .i64 (.bin .add .i64 cg (.v 1)) (.v 3)
section
variable{u I g e N:Nat}{o:aJ}{h:HP}{ρ:aa}{L:List LC}{a m b s r mid e1:Nat}
structure En(ρ:aa)(a m b s:Nat)(mid e1:Nat):Prop where
 va:ρ.i.getD 0 0=a
 vm:ρ.i.getD 1 0=m
 vb:ρ.i.getD 2 0=b
 vs:ρ.i.getD 3 0=s
 LW:cg.den ρ=mid
 ve:Iq.den ρ=e1
def En.add{rv:RV}(H:En ρ a m b s mid e1):En (ρ.add (.r rv)) a m b s mid e1:=by
 have Z:∀(x:Nat),IE.den (ρ.add (.r rv)) (.v x)=IE.den ρ (.v x):=λx=>rfl
 exact⟨H.va,H.vm,H.vb,H.vs,by rw[<-H.LW];rfl,by rw[<-H.ve];rfl⟩
def zG(H:En ρ a m b s mid e1)(W:h.e=e){c:Nat}{rs:List RK}{M J I:S}{v:Value}{P X Y Q:List (List RV)}(Z:ρ.rv c=.mk v (P++(X++(Y++Q))))(bg:c+1=ρ.r.length)(V:h.v=v)(U:h.ay=P++(be o.lt (X++Y)++Q))
  (w:P.length=mid)(t:X.length=e1-mid)(q:Y.length=b-e1)(p:mid<=e1)(n:e1<=b)(l:b-mid<N)(F:(P++(X++(Y++Q))).length<=1099511627776)(E:∀z∈P++(X++(Y++Q)),o.ok z=true)(R:eh o.lt X)(O:eh o.lt Y)
  (D:M.rs[c+1]?=some (.own e))(C:J.rs[c]?=some (.own e))(B:I.rs[c]?=some (.own e)):
  T.hw h (.node (.cmp .lss cg Iq) (.node (.cmp .lss Iq (.v 2)) (.dl u g e (.co (N+3) o [cg,Iq,.v 2]) false (.v c) rs (.out .normal M)) (.out .normal J)) (.out .normal I)) ρ L:=by
 have G:IE.den ρ (.v 2)=b:=H.vb;rw[rF];simp only[BE.den,ew,H.LW,H.ve,decide_eq_true_eq];refine oV (λA=> ?_) (λA=> ?_);rw[rF];simp only[BE.den,ew,H.ve,G,decide_eq_true_eq];refine oV (λy=> ?_) (λy=> ?_);rw[xp];refine⟨P++(be o.lt (X++Y)++Q), ?_, ?_⟩;simp only[kR,awT,ax0,H.LW,H.ve,G,RE.rv,Z,RV.jl];exact Su (by omega) (by omega) (by omega) (by omega) (by omega) (by omega) F E R O;rw[xq];refine⟨.inl rfl,c+1,by rw[W];exact D, ?_⟩;have x:(ρ.rv c).val=v:=by rw[Z];rfl
 rw[show(RE.v c).rv ρ=ρ.rv c from rfl,x,V,U];simp[aa.add,aa.rv,bg];rw[xq];refine⟨.inl rfl,c,by rw[W];exact C, ?_⟩;rw[Z,V,U,Sv (.inr (axa (by omega))) R O];simp;rw[xq];refine⟨.inl rfl,c,by rw[W];exact B, ?_⟩;rw[Z,V,U,Sv (.inl (axa (by omega))) R O];simp
def aax(H:En ρ a m b s mid e1){c:Nat}{rs:List RK}{Q O M:T}{v:Value}{P X Y R:List (List RV)}(Z:ρ.rv c=.mk v (P++(X++(Y++R))))
  (A:P.length=a)(y:X.length=s-a)(x:Y.length=mid-s)(w:a<=s)(t:s<=mid)(q:mid-a<N)(I:(P++(X++(Y++R))).length<=1099511627776)(G:∀z∈P++(X++(Y++R)),o.ok z=true)(W:eh o.lt X)(V:eh o.lt Y)
  (F:T.hw h Q (ρ.add (.r (.mk v (P++(be o.lt (X++Y)++R))))) L)(E:ρ.rv c=.mk v (P++(be o.lt (X++Y)++R))->T.hw h O ρ L)(D:ρ.rv c=.mk v (P++(be o.lt (X++Y)++R))->T.hw h M ρ L):
  T.hw h (.node (.cmp .lss (.v 0) (.v 3)) (.node (.cmp .lss (.v 3) cg) (.dl u g e (.co (N+3) o [.v 0,.v 3,cg]) false (.v c) rs Q) O) M) ρ L:=by
 have J:IE.den ρ (.v 0)=a:=H.va;have U:IE.den ρ (.v 3)=s:=H.vs;rw[rF];simp only[BE.den,ew,J,U,decide_eq_true_eq];refine oV (λC=> ?_) (λC=> ?_);rw[rF];simp only[BE.den,ew,H.LW,U,decide_eq_true_eq];refine oV (λB=> ?_) (λB=> ?_);rw[xp];refine⟨P++(be o.lt (X++Y)++R), ?_, ?_⟩;simp only[kR,awT,ax0,H.LW,J,U,RE.rv,Z,RV.jl];exact Su (by omega) (by omega) (by omega) (by omega) (by omega) (by omega) I G W V;simp only[RE.rv,Z,RV.jZ];exact F;refine E ?_;rw[Z,Sv (.inr (axa (by omega))) W V];simp;refine D ?_;rw[Z,Sv (.inl (axa (by omega))) W V];simp
def ar6(H:En ρ a m b s mid e1){c:Nat}{rs:List RK}{W V U:T}{v:Value}{P A B R:List (List RV)}(Z:ρ.rv c=.mk v (P++(A++(B++R))))
  (D:P.length=s)(C:A.length=m-s)(z:B.length=e1-m)(y:s<=m)(x:m<=e1)(O:(P++(A++(B++R))).length<=1099511627776)
  (M:T.hw h W (ρ.add (.r (.mk v (P++(B++(A++R)))))) L)(J:ρ.rv c=.mk v (P++(B++(A++R)))->T.hw h V ρ L)(G:ρ.rv c=.mk v (P++(B++(A++R)))->T.hw h U ρ L):
  T.hw h (.node (.cmp .lss (.v 3) (.v 1)) (.node (.cmp .lss (.v 1) Iq) (.dl I g e (.co 1 o [.v 3,.v 1,Iq]) false (.v c) rs W) V) U) ρ L:=by
 have X:IE.den ρ (.v 1)=m:=H.vm;have Q:IE.den ρ (.v 3)=s:=H.vs;rw[rF];simp only[BE.den,ew,X,Q,decide_eq_true_eq];refine oV (λF=> ?_) (λF=> ?_);rw[rF];simp only[BE.den,ew,H.ve,X,decide_eq_true_eq];refine oV (λE=> ?_) (λE=> ?_);rw[xp];refine⟨P++(B++(A++R)), ?_, ?_⟩;simp only[kR,awT,ax0,H.ve,X,Q,RE.rv,Z,RV.jl];exact ar5 (by omega) (by omega) (by omega) (by omega) (by omega) O;simp only[RE.rv,Z,RV.jZ];exact M;refine J ?_;have:B=[]:=axa (by omega);rw[Z,this];simp;refine G ?_;have:A=[]:=axa (by omega);rw[Z,this];simp
end
section
variable{u I e g N:Nat}{o:aJ}{ρ:aa}{L:List LC}{a m b s mid e1:Nat}{K:List Bool}
def Sw{ρ:aa}{v:RV}{c:Nat}(h:c=ρ.r.length):(ρ.add (.r v)).rv c=v:=by subst h;simp[aa.rv,aa.add]
def ar7(a6:jd o.lt (λx=>o.ok x=true))(H:En ρ a m b s mid e1){v:Value}{rows ay:List (List RV)}(p:ρ.r.length=2)(hc:ρ.rv 1=.mk v rows)
  (n:a<=s)(k:s<=m)(f:m<=e1)(U:e1<=b)(hb:b<=rows.length)(ag:s<=mid)(bd:mid+m=e1+s)(an:mid-a<N)(G:b-mid<N)(hl:rows.length<=1099511627776)(a3:∀z∈rows,o.ok z=true)(d:eh o.lt (aF rows a m))(c:eh o.lt (aF rows m b))
  (q1:∀i j,a<=i->i<s->e1<=j->j<b->o.lt (rows.getD j []) (rows.getD i [])=false)(q2:∀i j,s<=i->i<m->m<=j->j<e1->o.lt (rows.getD j []) (rows.getD i [])=true)
  (a4:ay=rows.take a++(be o.lt (aF rows a b)++rows.drop b)):T.hw ⟨K,g,o,e,v,ay⟩ (LR e g I u N o) ρ L:=by
 have a7:=arQ a6 a3 n k f U hb d c q1 q2;have e0:rows=rows.take a++(aF rows a s++(aF rows s m++(aF rows m e1++(aF rows e1 b++rows.drop b)))):=by
  have:=Im rows (show a<=b by omega);rw[l9 rows (show a<=s by omega) (show s<=b by omega),l9 rows k (show m<=b by omega),l9 rows f U] at this;simpa using this.symm
 have l1:(aF rows a s).length=s-a:=nc rows (by omega);have l2:(aF rows s m).length=m-s:=nc rows (by omega);have l3:(aF rows m e1).length=e1-m:=nc rows (by omega);have F:(aF rows e1 b).length=b-e1:=nc rows (by omega);have lP:(rows.take a).length=a:=by simp;omega
 rw[l9 rows n k] at d;rw[l9 rows f U] at c;have a0:eh o.lt (aF rows a s):=(aw8.1 d).1;have E:eh o.lt (aF rows s m):=(aw8.1 d).2.1;have a1:eh o.lt (aF rows m e1):=(aw8.1 c).1;have D:eh o.lt (aF rows e1 b):=(aw8.1 c).2.1;rw[a7] at a4;have a8:∀x,(x∈rows.take a\/x∈aF rows a s\/x∈aF rows s m\/x∈aF rows m e1\/x∈aF rows e1 b\/x∈rows.drop b)->o.ok x=true:=λx hx=>a3 x (by
  rcases hx with h|h|h|h|h|h;exact axL h;exact pm h;exact pm h;exact pm h;exact pm h;exact axG h)
 rw[e0] at hc hl;generalize rows.take a=P at*;generalize aF rows a s=Z at*;generalize aF rows s m=O at*;generalize aF rows m e1=X at*;generalize aF rows e1 b=J at*;generalize rows.drop b=Q at*;have C:ay=(P++be o.lt (Z++X))++(be o.lt (O++J)++Q):=by rw[a4];simp
 have a9:∀x∈be o.lt (Z++X),x∈Z\/x∈X:=λx hx=>by simpa using Ek hx
 have a5:(be o.lt (Z++X)).length=mid-a:=by rw[kC];simp;omega
 have bf:P.length+(Z.length+(O.length+(X.length+(J.length+Q.length))))<=1099511627776:=by simpa using hl
 have af:∀z∈P++(Z++(X++(O++(J++Q)))),o.ok z=true:=λz l=>a8 z (by
  simp only[awR] at l;rcases l with h|h|h|h|h|h;exact .inl h;exact .inr (.inl h);exact .inr (.inr (.inr (.inl h)));exact .inr (.inr (.inl h));exact .inr (.inr (.inr (.inr (.inl h))));exact .inr (.inr (.inr (.inr (.inr h)))))
 have B:∀z∈(P++be o.lt (Z++X))++(O++(J++Q)),o.ok z=true:=λz l=>af z (by
  simp only[awR] at l⊢;rcases l with(h|h)|h|h|h;exact .inl h;rcases a9 z h with h|h;exact .inr (.inl h);exact .inr (.inr (.inl h));exact .inr (.inr (.inr (.inl h)));exact .inr (.inr (.inr (.inr (.inl h))));exact .inr (.inr (.inr (.inr (.inr h)))))
 have lU:(P++(Z++(X++(O++(J++Q))))).length<=1099511627776:=by simp;omega
 have A:((P++be o.lt (Z++X))++(O++(J++Q))).length<=1099511627776:=by simp only[awQ,a5];omega
 have y:(P++be o.lt (Z++X)).length=mid:=by simp only[awQ,a5];omega
 have w:O.length=e1-mid:=by omega
 have bb:ρ.rv 1=.mk v ((P++Z)++(O++(X++(J++Q)))):=by rw[hc];simp
 have a2:∀R:List (List RV),(P++Z)++(X++R)=P++(Z++(X++R)):=λR=>by simp
 have t:∀R:List (List RV),P++(be o.lt (Z++X)++R)=(P++be o.lt (Z++X))++R:=λR=>by simp
 unfold LR;refine ar6 H bb (by simp;omega) l2 l3 k f (by simp;omega) ?_ (λq=> ?_) (λq=> ?_);have q:=Sw (v:=.mk v ((P++Z)++(X++(O++(J++Q))))) (show 2=ρ.r.length by omega);rw[a2] at q⊢;have W:=H.add (rv:=.mk v (P++(Z++(X++(O++(J++Q))))));have V:(ρ.add (.r (.mk v (P++(Z++(X++(O++(J++Q)))))))).r.length=3:=by simp[aa.add,p]
 refine aax W q lP l1 (by omega) n ag an lU af a0 a1 ?_ (λM=> ?_) (λM=> ?_);refine zG W.add rfl ((Sw (show 3=_ from V.symm)).trans (by rw[t])) (by simp[aa.add,V,p]) rfl C y w F (by omega) U G A B E D rfl rfl rfl;refine zG W rfl (M.trans (by rw[t])) (show 2+1=_ from V.symm) rfl C y w F (by omega) U G A B E D rfl rfl rfl;refine zG W rfl (M.trans (by rw[t])) (show 2+1=_ from V.symm) rfl C y w F (by omega) U G A B E D rfl rfl rfl;rw[a2] at q;have W:=H;have V:=p;refine aax W q lP l1 (by omega) n ag an lU af a0 a1 ?_ (λM=> ?_) (λM=> ?_);refine zG W.add rfl ((Sw (show 2=_ from V.symm)).trans (by rw[t])) (by simp[aa.add,V,p]) rfl C y w F (by omega) U G A B E D rfl rfl rfl;refine zG W rfl (M.trans (by rw[t])) (show 1+1=_ from V.symm) rfl C y w F (by omega) U G A B E D rfl rfl rfl;refine zG W rfl (M.trans (by rw[t])) (show 1+1=_ from V.symm) rfl C y w F (by omega) U G A B E D rfl rfl rfl;rw[a2] at q;have W:=H;have V:=p;refine aax W q lP l1 (by omega) n ag an lU af a0 a1 ?_ (λM=> ?_) (λM=> ?_);refine zG W.add rfl ((Sw (show 2=_ from V.symm)).trans (by rw[t])) (by simp[aa.add,V,p]) rfl C y w F (by omega) U G A B E D rfl rfl rfl;refine zG W rfl (M.trans (by rw[t])) (show 1+1=_ from V.symm) rfl C y w F (by omega) U G A B E D rfl rfl rfl;refine zG W rfl (M.trans (by rw[t])) (show 1+1=_ from V.symm) rfl C y w F (by omega) U G A B E D rfl rfl rfl
end
end
section
attribute[local simp] IE.den BE.den RE.rv RE.den ew aa.rv aa.ext aa.add SV.xv rF aai aaj aal xp xq LE.rows kQ kR
attribute[local congr] aaa
def getD_some{rows:List (List RV)}{k:Nat}(h:k<rows.length):rows[k]?=some (rows.getD k []):=by
 rw[awK,awH h];rfl
def LX{i j:Nat}(h:i+j<=4398046511104):IntKind.i64.wrap (bh .shr .u64 (IntKind.u64.wrap (bh .add .i64 (i:Int) (j:Int))) 1)=(((i+j)/2:Nat):Int):=by
 rw[vq h];exact ar4 h
def LY{rows:List (List RV)}{a:Nat}(h:a<rows.length):aF rows a (a+1)=[rows.getD a []]:=by
 have e:rows.getD a []=rows[a]:=by rw[awK,awH h];rfl
 simp only[aF,ayE];rw[axE h,e];rfl
def ar8(A R:List (List RV))(y x:List RV){j:Nat}(Z:j=A.length):((A++(x::y::R)).set j y).set (j+1) x=A++(y::x::R):=by
 subst Z;rw[ays _ _ (by omega),azl,ays _ _ (by omega),ayE];rfl
def bD(rows:List (List RV))(k:Nat):List RV:=rows.getD k []
def akO{rows:List (List RV)}{k:Nat}(h:k<rows.length):rows.drop k=bD rows k::rows.drop (k+1):=by
 rw[axE h,bD,awK,awH h];rfl
section
variable{K:List Bool}{e g:Nat}{o:aJ}{cs:RE->IE->List SV}
set_option maxHeartbeats 4000000 in
def ar9 (G:zE K cs) (F:jd o.lt (λx=>o.ok x=true)) {Z:Option Addr} {n cap:Nat} {rows ay:List (List RV)} {a m b:Nat} (br:rows.length=n) (hn:n<=1099511627776) (O:∀x∈rows,fU K x) (t:∀x∈rows,o.ok x=true)
  (hm:m=a+1) (bs:m<b) (s:b<=rows.length) (E:eh o.lt (aF rows m b)) (a3:ay=rows.take a++(be o.lt (aF rows a b)++rows.drop b)):
  T.hw ⟨K,g,o,e,.slice Z n cap,ay⟩ (aas e g cs) ⟨[(a:Int),m,b],[],[.mk (.slice Z n cap) rows],[]⟩ []:=by
 subst hm;have W:a<rows.length:=by omega
 have p:∀k,k<rows.length->bD rows k∈rows:=λk X=>aw1 (getD_some X)
 have N:∀k,k<rows.length->fU K (bD rows k):=λk X=>O _ (p k X)
 have V:∀k,k<rows.length->o.ok (bD rows k)=true:=λk X=>t _ (p k X)
 unfold aas;refine tG (λxs=>∃(i j:Nat),xs=[.r (.mk (.slice Z n cap) rows),.i i,.i j]/\a+1<=i/\i<=j/\j<=b/\(∀k,a+1<=k->k<i->o.lt (bD rows k) (bD rows a)=true)/\∀k,j<=k->k<b->o.lt (bD rows k) (bD rows a)=false) (λxs=>match xs with|[_,.i i,.i j]=>j.toNat-i.toNat|_=>0) ⟨a+1,b,rfl,by omega,by omega,by omega,by omega,by omega⟩ ?_;rintro _ ⟨i,j,rfl,l,bt,M,f,d⟩;by_cases af:i<j;have L:=LX (i:=i) (j:=j) (by omega);have a4:i<=(i+j)/2:=by omega
 have a5:(i+j)/2<j:=by omega
 generalize hq:(i+j)/2=q at L a4 a5;simp[af,L,lenOf];refine⟨by omega,by omega, ?_⟩;refine St G rfl (bD rows q) (bD rows a) ?_ ?_ (N q (by omega)) (N a W) (V q (by omega)) (V a W) (λc hc=> ?_);simp[L];exact getD_some (by omega);simp;exact getD_some W;simp[L];refine oV (λa6=> ?_) (λa7=> ?_);rw[zF (by omega)];refine⟨⟨q+1,j,rfl,by omega,by omega,M,λk R Q=> ?_,d⟩, ?_⟩;have P:=hc.1 a6;by_cases X:k=q;subst X;exact P;have D:=In s E (i:=k) (j:=q) (by omega) (by omega) (by omega);cases h:o.lt (bD rows k) (bD rows a);have:=F.nt _ _ _ (V q (by omega)) (V k (by omega)) (V a W) D h;rw[P] at this;cases this;rfl;show(j:Int).toNat-((q+1:Nat):Int).toNat<j-i;omega;have P:o.lt (bD rows q) (bD rows a)=false:=by
  cases h:o.lt (bD rows q) (bD rows a);rfl;exact absurd (hc.2 h) a7
 refine⟨⟨i,q,rfl,by omega,by omega,by omega,f,λk R Q=> ?_⟩, ?_⟩;by_cases X:k=q;subst X;exact P;have D:=In s E (i:=q) (j:=k) (by omega) (by omega) (by omega);exact F.nt _ _ _ (V k (by omega)) (V q (by omega)) (V a W) D P;show((q:Nat):Int).toNat-(i:Int).toNat<j-i;omega;have a8:i=j:=by omega
 subst a8;simp[af];have ag:be o.lt (aF rows a b)=aF rows (a+1) i++bD rows a::aF rows i b:=by
  have e0:aF rows a b=bD rows a::(aF rows (a+1) i++aF rows i b):=by
   rw[<-l9 rows l M,l9 rows (show a<=a+1 by omega) (show a+1<=b by omega)];have:aF rows a (a+1)=[bD rows a]:=LY W;rw[this];rfl
  rw[e0];refine arN F (λz U=> ?_) (by rw[<-l9 rows l M];exact E) (λy C=> ?_) (λy C=> ?_);rw[<-e0] at U;exact t z (pm U);obtain⟨k,B,A,_,rfl⟩:=BQ C;exact f k B A;obtain⟨k,B,A,_,rfl⟩:=BQ C;exact d k B A
 have a9:(rows.take a).length=a:=by simp;omega
 refine tG (λxs=>∃(k:Nat)(rs:List (List RV)),xs=[.r (.mk (.slice Z n cap) rs),.i k]/\a<=k/\k+1<=i/\rs=(rows.take a++aF rows (a+1) (k+1))++bD rows a::rows.drop (k+1)) (λxs=>match xs with|[_,.i k]=>i-k.toNat|_=>0) ⟨a,rows,by simp,by omega,by omega, ?_⟩ ?_;have e1:aF rows (a+1) (a+1)=[]:=by simp[aF]
 have:=Im rows (show a<=a+1 by omega);rw[LY W] at this;rw[e1,aya];exact this.symm;rintro _ ⟨k,rs,rfl,bx,b0,aM⟩;have an:bh .sub .i64 (i:Int) 1=((i-1:Nat):Int):=Ss (by omega) (by omega);have J:(rows.take a++aF rows (a+1) (k+1)).length=k:=by rw[awQ,a9,nc rows (by omega)];omega
 by_cases X:k<i-1;have hd:rows.drop (k+1)=bD rows (k+1)::rows.drop (k+1+1):=by
  exact akO (by omega)
 have fT:aF rows (a+1) (k+1+1)=aF rows (a+1) (k+1)++[bD rows (k+1)]:=by
  rw[l9 rows (show a+1<=k+1 by omega) (show k+1<=k+1+1 by omega),LY (by omega)];rfl
 have I:=N a W;have H:=N (k+1) (by omega);have a0:∀z∈rs,fU K z:=λz U=>by
  rw[aM] at U;simp only[awR,awP] at U;rcases U with(h|h)|h|h;exact O z (axL h);exact O z (pm h);subst h;exact I;exact O z (axG h)
 rw[hd] at aM;generalize bD rows a=x at I aM ag;generalize bD rows (k+1)=y at H aM fT;have b1:rs.length=n:=by
  rw[aM,awQ,J];simp;omega
 have gx:rs[k]?=some x:=by rw[aM,awM (by omega),J];simp
 have gy:rs[k+1]?=some y:=by rw[aM,awM (by omega),J];simp
 have c1:∀ρ:aa,ρ.r=[.mk (.slice Z n cap) rows,.mk (.slice Z n cap) rows,.mk (.slice Z n cap) rs]->ρ.i=[(a:Int),((a+1:Nat):Int),b,i,i,k]->ayy (SV.bp ρ) (cs (.v 2) (.bin .add .i64 (.v 5) (.c 1)))=y:=λρ R Q=>G.bp ρ _ _ y (by simp only[RE.rv,aa.rv,IE.den,R,Q,ayb,axY,RV.jl,zF (a:=k) (by omega)];exact gy) H
 have c2:∀(ρ:aa) rv,ρ.r=[.mk (.slice Z n cap) rows,.mk (.slice Z n cap) rows,.mk (.slice Z n cap) rs,rv]->ρ.i=[(a:Int),((a+1:Nat):Int),b,i,i,k]->ayy (SV.bp ρ) (cs (.v 2) (.v 5))=x:=λρ rv R Q=>G.bp ρ _ _ x (by simp only[RE.rv,aa.rv,IE.den,R,Q,ayb,axY,RV.jl];exact gx) I
 have m1:(rs.modify k λrow=>eR row 0 y)=rs.set k y:=BS a0 H;have m2:((rs.set k y).modify (k+1) λrow=>eR row 0 x)=(rs.set k y).set (k+1) x:=BS (λz U=>by
  rcases axM U with h|rfl;exact a0 z h;exact H) I
 have u:(k:Int)<((i-1:Nat):Int):=by omega
 have a1:=zF (a:=k) (by omega);generalize hw:((k+1:Nat):Int)=w at a1;have bb:w.toNat=k+1:=by omega
 have a2:=ar8 (rows.take a++aF rows (a+1) (k+1)) (rows.drop (k+1+1)) y x J.symm;rw[<-aM] at a2;simp[an,u,a1,lenOf];rw[c1 _ rfl rfl,c2 _ _ rfl rfl,bb,m1,m2,a2];refine⟨by omega,by omega,by omega,⟨k+1,_,by rw[hw],by omega,by omega, ?_⟩, ?_⟩;rw[fT];simp;show i-w.toNat<i-k;omega;have u:¬(k:Int)<((i-1:Nat):Int):=by omega
 have bd:k+1=i:=by omega
 rw[bd] at aM;have hd:=Im (rows.drop 0) (show i<=i by omega);have bf:rows.drop i=aF rows i b++rows.drop b:=by
  have:=l9 rows M (show b<=b by omega);simp only[aF];have e:rows.drop b=(rows.drop i).drop (b-i):=by rw[ayw];congr 1;omega
  rw[e,ax5]
 have bk:rs=ay:=by
  rw[aM,a3,ag,bf];simp
 simp[an,u];exact⟨2,rfl,by rw[bk];rfl⟩
set_option maxHeartbeats 4000000 in
def asa (G:zE K cs) (F:jd o.lt (λx=>o.ok x=true)) {Z:Option Addr} {n cap:Nat} {rows ay:List (List RV)} {a m b:Nat} (br:rows.length=n) (hn:n<=1099511627776) (N:∀x∈rows,fU K x) (f:∀x∈rows,o.ok x=true)
  (hm:b=m+1) (bs:a<m) (hb:b<=rows.length) (E:eh o.lt (aF rows a m)) (a3:ay=rows.take a++(be o.lt (aF rows a b)++rows.drop b)):
  T.hw ⟨K,g,o,e,.slice Z n cap,ay⟩ (aat e g cs) ⟨[(a:Int),m,b],[],[.mk (.slice Z n cap) rows],[]⟩ []:=by
 subst hm;have W:m<rows.length:=by omega
 have d:∀k,k<rows.length->bD rows k∈rows:=λk X=>aw1 (getD_some X)
 have M:∀k,k<rows.length->fU K (bD rows k):=λk X=>N _ (d k X)
 have V:∀k,k<rows.length->o.ok (bD rows k)=true:=λk X=>f _ (d k X)
 unfold aat;refine tG (λxs=>∃(i j:Nat),xs=[.r (.mk (.slice Z n cap) rows),.i i,.i j]/\a<=i/\i<=j/\j<=m/\(∀k,a<=k->k<i->o.lt (bD rows m) (bD rows k)=false)/\∀k,j<=k->k<m->o.lt (bD rows m) (bD rows k)=true) (λxs=>match xs with|[_,.i i,.i j]=>j.toNat-i.toNat|_=>0) ⟨a,m,rfl,by omega,by omega,by omega,by omega,by omega⟩ ?_;rintro _ ⟨i,j,rfl,D,bt,C,af,ag⟩;by_cases an:i<j;have L:=LX (i:=i) (j:=j) (by omega);have a4:i<=(i+j)/2:=by omega
 have a5:(i+j)/2<j:=by omega
 generalize hq:(i+j)/2=q at L a4 a5;simp[an,L,lenOf];refine⟨by omega,by omega, ?_⟩;refine St G rfl (bD rows m) (bD rows q) ?_ ?_ (M m W) (M q (by omega)) (V m W) (V q (by omega)) (λc hc=> ?_);simp;exact getD_some W;simp[L];exact getD_some (by omega);simp[L];refine oV (λbx=> ?_) (λb0=> ?_);rw[zF (by omega)];have Q:o.lt (bD rows m) (bD rows q)=false:=by
  cases h:o.lt (bD rows m) (bD rows q);rfl;have:=hc.2 h;omega
 refine⟨⟨q+1,j,rfl,by omega,by omega,C,λk P R=> ?_,ag⟩, ?_⟩;by_cases X:k=q;subst X;exact Q;have B:=In (show m<=rows.length by omega) E (i:=k) (j:=q) (by omega) (by omega) (by omega);exact F.nt _ _ _ (V m W) (V q (by omega)) (V k (by omega)) Q B;show(j:Int).toNat-((q+1:Nat):Int).toNat<j-i;omega;have Q:o.lt (bD rows m) (bD rows q)=true:=hc.1 (by omega);refine⟨⟨i,q,rfl,by omega,by omega,by omega,af,λk P R=> ?_⟩, ?_⟩;by_cases X:k=q;subst X;exact Q;have B:=In (show m<=rows.length by omega) E (i:=q) (j:=k) (by omega) (by omega) (by omega);cases h:o.lt (bD rows m) (bD rows k);have:=F.nt _ _ _ (V m W) (V k (by omega)) (V q (by omega)) h B;rw[Q] at this;cases this;rfl;show((q:Nat):Int).toNat-(i:Int).toNat<j-i;omega;have a6:i=j:=by omega
 subst a6;simp[an];have a7:be o.lt (aF rows a (m+1))=aF rows a i++bD rows m::aF rows i m:=by
  have e0:aF rows a (m+1)=aF rows a i++aF rows i m++[bD rows m]:=by
   rw[<-l9 rows D C,l9 rows (show a<=m by omega) (show m<=m+1 by omega),LY W];rfl
  rw[e0];refine arO F (λz U=> ?_) (by rw[<-l9 rows D C];exact E) (λy A=> ?_) (λy A=> ?_);rw[<-e0] at U;exact f z (pm U);obtain⟨k,u,t,_,rfl⟩:=BQ A;exact af k u t;obtain⟨k,u,t,_,rfl⟩:=BQ A;exact ag k u t
 refine tG (λxs=>∃(k:Nat)(rs:List (List RV)),xs=[.r (.mk (.slice Z n cap) rs),.i k]/\i<=k/\k<=m/\rs=rows.take k++bD rows m::(aF rows k m++rows.drop (m+1))) (λxs=>match xs with|[_,.i k]=>k.toNat|_=>0) ⟨m,rows,by simp,by omega,by omega, ?_⟩ ?_;have e1:aF rows m m=[]:=by simp[aF]
 rw[e1,awX,<-akO W,ax5];rintro _ ⟨k,rs,rfl,b1,b2,aM⟩;by_cases X:i<k;obtain⟨q,rfl⟩:∃q,k=q+1:=⟨k-1,by omega⟩;have s:bh .sub .i64 (((q+1:Nat)):Int) 1=(q:Int):=by rw[Ss (by omega) (by omega)];omega
 have J:(rows.take q).length=q:=by simp;omega
 have a8:rows.take (q+1)=rows.take q++[bD rows q]:=by
  rw[aAm,getD_some (show q<rows.length by omega)];rfl
 have fT:aF rows q m=bD rows q::aF rows (q+1) m:=by
  rw[l9 rows (show q<=q+1 by omega) (show q+1<=m by omega),LY (by omega)];rfl
 have p:=M m W;have I:=M q (by omega);have O:rs=rows.take q++(bD rows q::bD rows m::(aF rows (q+1) m++rows.drop (m+1))):=by rw[aM,a8];simp
 have a0:∀z∈rs,fU K z:=λz U=>by
  rw[O] at U;simp only[awR,awP] at U;rcases U with h|h|h|h|h;exact N z (axL h);subst h;exact I;subst h;exact p;exact N z (pm h);exact N z (axG h)
 have a1:=akM (rows.take q) (aF rows (q+1) m++rows.drop (m+1)) (bD rows q) (bD rows m) J.symm;rw[<-O] at a1;have b3:rs.length=n:=by
  rw[O,awQ,J];simp only[axm,awQ,nc rows (show m<=rows.length by omega),axW];omega
 have gx:rs[q+1]?=some (bD rows m):=by rw[O,awM (by omega),J];simp
 have gy:rs[q]?=some (bD rows q):=by rw[O,awM (by omega),J];simp
 have a2:(i:Int)<((q+1:Nat):Int):=by omega
 have a9:((q+1:Nat):Int)<n:=by omega
 have l:((q+1:Nat):Int).toNat=q+1:=rfl;have bb:(0:Int)<=((q+1:Nat):Int):=by omega
 have bd:∀H,H=rows.take q++bD rows m::(aF rows q m++rows.drop (m+1))->Io (some ⟨1,λxs=>∃(k:Nat)(rs:List (List RV)),xs=[.r (.mk (.slice Z n cap) rs),.i k]/\i<=k/\k<=m/\rs=rows.take k++bD rows m::(aF rows k m++rows.drop (m+1)),λxs=>match xs with|[_,.i k]=>k.toNat|_=>0,q+1⟩) [.r (.mk (.slice Z n cap) H),.i q]:=λH R=>⟨⟨q,H,rfl,by omega,by omega,R⟩,show(q:Int).toNat<q+1 by omega⟩
 generalize hw:((q+1:Nat):Int)=w at s a2 a9 l bb⊢;have c1:∀ρ:aa,ρ.r=[.mk (.slice Z n cap) rows,.mk (.slice Z n cap) rows,.mk (.slice Z n cap) rs]->ρ.i=[(a:Int),m,((m+1:Nat):Int),i,i,w]->ayy (SV.bp ρ) (cs (.v 2) (.bin .sub .i64 (.v 5) (.c 1)))=bD rows q:=λρ P R=>G.bp ρ _ _ _ (by simp only[RE.rv,aa.rv,IE.den,P,R,ayb,axY,RV.jl,s];exact gy) I
 have c2:∀(ρ:aa) rv,ρ.r=[.mk (.slice Z n cap) rows,.mk (.slice Z n cap) rows,.mk (.slice Z n cap) rs,rv]->ρ.i=[(a:Int),m,((m+1:Nat):Int),i,i,w]->ayy (SV.bp ρ) (cs (.v 2) (.v 5))=bD rows m:=λρ rv P R=>G.bp ρ _ _ _ (by simp only[RE.rv,aa.rv,IE.den,P,R,ayb,axY,RV.jl,l];exact gx) p
 have m1:(rs.modify (q+1) λrow=>eR row 0 (bD rows q))=rs.set (q+1) (bD rows q):=BS a0 I;have m2:((rs.set (q+1) (bD rows q)).modify q λrow=>eR row 0 (bD rows m))=(rs.set (q+1) (bD rows q)).set q (bD rows m):=BS (λz U=>by
  rcases axM U with h|rfl;exact a0 z h;exact I) p
 simp[s,a2,lenOf];rw[c1 _ rfl rfl,c2 _ _ rfl rfl,l,m1,m2,a1];refine⟨by omega,by omega,by omega, ?_⟩;exact bd _ (by rw[fT];simp);have bf:k=i:=by omega
 subst bf;have bk:rs=ay:=by
  have ht:rows.take k=rows.take a++aF rows a k:=by
   have e1:=Im rows D;have e2:(rows.take a++aF rows a k).length=k:=by rw[awQ,nc rows (by omega)];simp;omega
   calc rows.take k=(rows.take a++aF rows a k++rows.drop k).take k:=by rw[ax9,e1]
    _=_:=by rw[ayP (by omega),axX (by omega)]
  rw[aM,a3,a7,ht];simp
 simp;exact⟨2,rfl,by rw[bk];rfl⟩
end
end
section
attribute[local simp] IE.den BE.den RE.rv RE.den ew aa.rv aa.ext aa.add SV.xv rF aai aaj aal xp xq LE.rows kQ kR
attribute[local congr] aaa
section
variable{K:List Bool}{e g u H N:Nat}{o:aJ}{cs:RE->IE->List SV}
set_option maxHeartbeats 4000000 in
def akP (d:zE K cs) (X:jd o.lt (λx=>o.ok x=true)) {U:Option Addr} {n cap:Nat} {rows ay:List (List RV)} {a m b lo hi:Nat} (a4:rows.length=n) (hn:n<=1099511627776) (hT:∀x∈rows,fU K x) (G:∀x∈rows,o.ok x=true)
  (a5:a<m) (a6:m<b) (F:b<=rows.length) (hN:b-a<N+1) (a7:2<=b-a) (E:eh o.lt (aF rows a m)) (D:eh o.lt (aF rows m b)) (af:ay=rows.take a++(be o.lt (aF rows a b)++rows.drop b))
  (l1:a<=lo) (l2:lo<=hi) (l3:hi<=m) (l4:hi<=(a+b)/2) (l5:(a+b)/2+m<=lo+b) (l6:lo=a\/lo+b=(a+b)/2+m) (l7:hi=m\/hi=(a+b)/2)
  {ks:List LK} {C:List SV} (ag:C.map (SV.xv ⟨[(a:Int),m,b],[],[.mk (.slice U n cap) rows],[]⟩)=[.r (.mk (.slice U n cap) rows),.i lo,.i hi]):
  T.hw ⟨K,g,o,e,.slice U n cap,ay⟩ (.loop 0 ks C (.node (.cmp .lss (.v 3) (.v 4)) (Sn g cs) (LR e g u H N o))) ⟨[(a:Int),m,b],[],[.mk (.slice U n cap) rows],[]⟩ []:=by
 have B:∀k,k<rows.length->bD rows k∈rows:=λk R=>aw1 (getD_some R)
 have A:∀k,k<rows.length->fU K (bD rows k):=λk R=>hT _ (B k R)
 have Z:∀k,k<rows.length->o.ok (bD rows k)=true:=λk R=>G _ (B k R)
 have M:=LX (i:=a) (j:=b) (by omega);have a8:a<(a+b)/2/\(a+b)/2<b:=by omega
 generalize a9:(a+b)/2=mid at*;have L:∀i j,a<=i->i<=j->j<m->o.lt (bD rows j) (bD rows i)=false:=λi j W Q P=>by
  by_cases h:i=j;subst h;exact X.Sd _ (Z i (by omega));exact In (show m<=rows.length by omega) E W (by omega) P
 have J:∀i j,m<=i->i<=j->j<b->o.lt (bD rows j) (bD rows i)=false:=λi j W Q P=>by
  by_cases h:i=j;subst h;exact X.Sd _ (Z i (by omega));exact In F D W (by omega) P
 refine tG (λxs=>∃(s r:Nat),xs=[.r (.mk (.slice U n cap) rows),.i s,.i r]/\lo<=s/\s<=r/\r<=hi/\(∀c,lo<=c->c<s->o.lt (bD rows (mid+m-1-c)) (bD rows c)=false)/\∀c,r<=c->c<hi->o.lt (bD rows (mid+m-1-c)) (bD rows c)=true) (λxs=>match xs with|[_,.i i,.i j]=>j.toNat-i.toNat|_=>0) ⟨lo,hi,ag,by omega,l2,by omega,by omega,by omega⟩ ?_;rintro _ ⟨s,r,rfl,bb,hsr,an,z,y⟩;by_cases w:s<r;have O:=LX (i:=s) (j:=r) (by omega);have a0:s<=(s+r)/2:=by omega
 have a1:(s+r)/2<r:=by omega
 generalize hq:(s+r)/2=q at O a0 a1;have t:=vq (a:=mid) (b:=m) (by omega);have p:=Ss (a:=mid+m) (by omega) (by omega);have l:=tH (a:=mid+m-1) (b:=q) (by omega) (by omega);unfold Sn;simp[w,O,lenOf,M];rw[t,p,l];refine⟨by omega,by omega, ?_⟩;refine St d rfl (bD rows (mid+m-1-q)) (bD rows q) ?_ ?_ (A _ (by omega)) (A q (by omega)) (Z _ (by omega)) (Z q (by omega)) (λc f=> ?_);simp[O,M];rw[t,p,l];exact getD_some (by omega);simp[O];exact getD_some (by omega);simp[O];refine oV (λbd=> ?_) (λbf=> ?_);rw[zF (by omega)];have I:o.lt (bD rows (mid+m-1-q)) (bD rows q)=false:=by
  cases h:o.lt (bD rows (mid+m-1-q)) (bD rows q);rfl;have:=f.2 h;omega
 refine⟨⟨q+1,r,rfl,by omega,by omega,an,λk W Q=> ?_,y⟩, ?_⟩;have V:=L k q (by omega) (by omega) (by omega);have t2:=J (mid+m-1-q) (mid+m-1-k) (by omega) (by omega) (by omega);have t3:=X.nt _ _ _ (Z _ (by omega)) (Z _ (by omega)) (Z q (by omega)) t2 I;exact X.nt _ _ _ (Z _ (by omega)) (Z q (by omega)) (Z k (by omega)) t3 V;show(r:Int).toNat-((q+1:Nat):Int).toNat<r-s;omega;have I:o.lt (bD rows (mid+m-1-q)) (bD rows q)=true:=f.1 (by omega);refine⟨⟨s,q,rfl,by omega,by omega,by omega,z,λk W Q=> ?_⟩, ?_⟩;cases h:o.lt (bD rows (mid+m-1-k)) (bD rows k);have V:=L q k (by omega) (by omega) (by omega);have t2:=J (mid+m-1-k) (mid+m-1-q) (by omega) (by omega) (by omega);have t3:=X.nt _ _ _ (Z _ (by omega)) (Z _ (by omega)) (Z k (by omega)) t2 h;have t4:=X.nt _ _ _ (Z _ (by omega)) (Z k (by omega)) (Z q (by omega)) t3 V;rw[I] at t4;cases t4;rfl;show((q:Nat):Int).toNat-(s:Int).toNat<r-s;omega;have a2:s=r:=by omega
 subst a2;simp[w];refine ar7 X (a:=a) (m:=m) (b:=b) (s:=s) (mid:=mid) (e1:=mid+m-s) ⟨rfl,rfl,rfl,rfl, ?_, ?_⟩ rfl rfl (by omega) (by omega) (by omega) (by omega) F (by omega) (by omega) (by omega) (by omega) (by omega) G E D (λi j W Q P h4=> ?_) (λi j W Q P h4=> ?_) af;simp[M];simp[M];rw[vq (by omega),tH (by omega) (by omega)];have a3:lo<s:=by
  rcases l6 with h|h<;>omega
 have t0:=z (s-1) (by omega) (by omega);rw[show mid+m-1-(s-1)=mid+m-s by omega] at t0;have V:=L i (s-1) (by omega) (by omega) (by omega);have t2:=J (mid+m-s) j (by omega) (by omega) (by omega);have t3:=X.nt _ _ _ (Z j (by omega)) (Z _ (by omega)) (Z (s-1) (by omega)) t2 t0;exact X.nt _ _ _ (Z j (by omega)) (Z (s-1) (by omega)) (Z i (by omega)) t3 V;have a3:s<hi:=by
  rcases l7 with h|h<;>omega
 have t0:=y s (by omega) (by omega);cases h:o.lt (bD rows j) (bD rows i);have V:=L s i (by omega) (by omega) (by omega);have t2:=J j (mid+m-1-s) (by omega) (by omega) (by omega);have t3:=X.nt _ _ _ (Z _ (by omega)) (Z j (by omega)) (Z i (by omega)) t2 h;have t4:=X.nt _ _ _ (Z _ (by omega)) (Z i (by omega)) (Z s (by omega)) t3 V;rw[t0] at t4;cases t4;exact h
def asb{N:Nat}{o:aJ}{a m b:Int}{rows:List (List RV)}:jM (N+4) o [a,m,b] rows=if decide (0<=a)&&decide (a<m)&&decide (m<b)&&decide (b<=rows.length)&&decide (b-a<((N+1:Nat):Int))&&rows.all o.ok&&rY o.lt (aF rows a.toNat m.toNat)&&rY o.lt (aF rows m.toNat b.toNat) then some (rows.take a.toNat++(be o.lt (aF rows a.toNat b.toNat)++rows.drop b.toNat)) else none:=rfl
set_option maxHeartbeats 4000000 in
def akQ (X:zE K cs) (W:jd o.lt (λx=>o.ok x=true)):LQ K e g o (N+4) 3 (Sq e g u H N o cs):=by
 rintro p _ rows ay v G F ⟨E,n,cap,rfl,V,U⟩ R D J C;obtain⟨a,m,b,rfl⟩:=xt D;obtain⟨_,Z⟩:=vY J;clear J;rw[asb] at Z;split at Z;rename_i I;simp only[awF,decide_eq_true_eq,awU,akv] at I;obtain⟨⟨⟨⟨⟨⟨⟨B,t⟩,s⟩,gY⟩,r⟩,Q⟩,P⟩,O⟩:=I;obtain⟨a,rfl⟩:=vu B;obtain⟨m,rfl⟩:=vu (a:=m) (by omega);obtain⟨b,rfl⟩:=vu (a:=b) (by omega);simp only[awJ,axy] at Z P O;have M:b<=rows.length:=by omega
 refine tF ⟨K,g,o,e,.slice E n cap,ay⟩ (G▸F) C _ _ _ ?_;unfold Sq;have L:=LX (i:=a) (j:=b) (by omega);obtain⟨mid,A⟩:∃mid,mid=(a+b)/2:=⟨_,rfl⟩;rw[<-A] at L;simp[tH (a:=m) (b:=a) (by omega) (by omega),tH (a:=b) (b:=m) (by omega) (by omega),L];refine oV (λz=> ?_) (λz=>oV (λy=> ?_) (λy=>oV (λw=> ?_) (λw=> ?_)));exact ar9 X W V U R Q (by omega) (by omega) M O Z.symm;exact asa X W V U R Q (by omega) (by omega) M P Z.symm;refine akP X W V U R Q (lo:=mid+m-b) (hi:=mid) (by omega) (by omega) M (by omega) (by omega) P O Z.symm (by omega) (by omega) (by omega) (by omega) (by omega) (by omega) (by omega) ?_;simp[L];rw[vq (by omega),tH (by omega) (by omega)];refine akP X W V U R Q (lo:=a) (hi:=m) (by omega) (by omega) M (by omega) (by omega) P O Z.symm (by omega) (by omega) (by omega) (by omega) (by omega) (by omega) (by omega) ?_;simp;cases Z
end
end
section
attribute[local simp] IE.den BE.den RE.rv RE.den ew aa.rv aa.ext aa.add SV.xv rF aai aaj aal xp xq LE.rows kQ kR
attribute[local congr] aaa
section
variable{lt:List RV->List RV->Bool}
inductive gV(lt:List RV->List RV->Bool)(s:Nat):List (List RV)->List (List RV)->Prop
 |nil:gV lt s [] []
 |last (X:List (List RV)):1<=X.length->X.length<=s->gV lt s X (be lt X)
 |cons (X R R':List (List RV)):X.length=s->gV lt s R R'->gV lt s (X++R) (be lt X++R')
inductive rG(lt:List RV->List RV->Bool)(s:Nat):List (List RV)->List (List RV)->Prop
 |nil:rG lt s [] []
 |snoc (A A' X:List (List RV)):X.length=s->rG lt s A A'->rG lt s (A++X) (A'++be lt X)
def rG.jG{s:Nat}{A W:List (List RV)}(h:rG lt s A W):∀{R Z:List (List RV)},gV lt s R Z->gV lt s (A++R) (W++Z):=by
 induction h with
 |nil=>intro R Z V;exact V
 |snoc A W X U _ Q=>
  intro R Z V;have:=Q (.cons X R Z U V);simpa using this
def rG.len{s:Nat}{A Z:List (List RV)}(h:rG lt s A Z):Z.length=A.length:=by
 induction h with
 |nil=>rfl
 |snoc A Z X V _ W=>simp[W,kC]
def gV.len{s:Nat}{A Z:List (List RV)}(h:gV lt s A Z):Z.length=A.length:=by
 induction h with
 |nil=>rfl
 |last X _ _=>simp[kC]
 |cons X R V U _ W=>simp[W,kC]
def rG.mem{s:Nat}{A Z:List (List RV)}(h:rG lt s A Z):∀x∈Z,x∈A:=by
 induction h with
 |nil=>simp
 |snoc A Z X W _ V=>
  intro x W;rcases awR.1 W with h|h;simp[V x h];simp[Ek h]
def gV.mem{s:Nat}{A W:List (List RV)}(h:gV lt s A W):∀x∈W,x∈A:=by
 induction h with
 |nil=>simp
 |last X _ _=>intro x Z;exact Ek Z
 |cons X R U Z _ V=>
  intro x Z;rcases awR.1 Z with h|h;simp[Ek h];simp[V x h]
def gV.two{s:Nat}(M:1<=s){R W:List (List RV)}(h:gV lt s R W)(V:2*s<=R.length):∃X Y Q Z,R=X++(Y++Q)/\W=be lt X++(be lt Y++Z)/\X.length=s/\Y.length=s/\gV lt s Q Z:=by
 cases h with
 |nil=>simp at V;omega
 |last _ P O=>omega
 |cons X R W U h=>
  simp only[awQ] at V;cases h with
  |nil=>simp at V;omega
  |last _ P O=>exact⟨X,R,[],[],by simp,by simp,U,by omega,.nil⟩
  |cons Y Q Z N h=>exact⟨X,Y,Q,Z,rfl,rfl,U,N,h⟩
def gV.one{s:Nat}{R V:List (List RV)}(h:gV lt s R V)(Z:s<R.length)(W:R.length<2*s):∃X Y,R=X++Y/\V=be lt X++be lt Y/\X.length=s:=by
 cases h with
 |nil=>simp at Z
 |last _ Z W=>omega
 |cons X R V U h=>
  simp only[awQ] at Z W;cases h with
  |nil=>simp at Z;omega
  |last _ Z W=>exact⟨X,R,rfl,rfl,U⟩
  |cons Y Q P O h=>simp only[awQ] at W;omega
def gV.short{s:Nat}{R Z:List (List RV)}(h:gV lt s R Z)(U:R.length<=s):Z=be lt R:=by
 cases h with
 |nil=>rfl
 |last _ P O=>rfl
 |cons X R Z N h=>
  simp only[awQ] at U;have W:R=[]:=axa (by omega);have V:=h.len;rw[W] at V;have Q:Z=[]:=axa (by simpa using V);rw[W,Q];simp
def gV.aay{s:Nat}{R:List (List RV)}(Z:R.length<=s):gV lt s R (be lt R):=by
 cases R with
 |nil=>exact .nil
 |cons x r=>exact .last _ (by simp) Z
end
def akR{o:aJ}{P X Q:List (List RV)}{a b:Int}(Z:a=P.length)(W:b=P.length+X.length)(V:(P++(X++Q)).length<=1099511627776)(U:∀z∈P++(X++Q),o.ok z=true):
  lH 2 o [a,b] (P++(X++Q))=some (P++(be o.lt X++Q)):=by
 subst Z;subst W;unfold lH;rw[if_pos V];simp only[jM];have e1:((P.length:Int)).toNat=P.length:=rfl;have R:((P.length:Int)+X.length).toNat=P.length+X.length:=by omega
 rw[e1,R];have O:(P++(X++Q)).take P.length=P:=by simp
 have N:aF (P++(X++Q)) P.length (P.length+X.length)=X:=LU P X _;have M:(P++(X++Q)).drop (P.length+X.length)=Q:=by
  have:P++(X++Q)=(P++X)++Q:=by simp
  rw[this,ay2 (by simp)]
 rw[O,N,M,if_pos];simp only[awF,decide_eq_true_eq,awU,awQ];exact⟨⟨⟨by omega,by omega⟩,by omega⟩,U⟩
section
variable{K:List Bool}{e g c u:Nat}{o:aJ}
set_option maxHeartbeats 4000000 in
def akS (G:jd o.lt (λx=>o.ok x=true)) {N:Nat}:Si K e g o (λns rows=>if ns=[]/\rows.length<N then dw o true rows else none) 0 (Sr e g c u N o):=by
 rintro p _ rows ay ns hP a7 ⟨O,n,cap,rfl,a2,hn⟩ hT hN M a8;simp only at M;split at M;rename_i V;obtain⟨rfl,bx⟩:=V;have b0:=Ua M;have a9:(∀x∈rows,o.ok x=true)/\ay=be o.lt rows:=by
  cases o with
  |co k o zs=>simp[dw] at M
  |_=>
   simp only[dw] at M;split at M;rename_i t;simp only[awF,awU] at t;exact⟨t.2.1,(axj M).symm⟩;cases M
 obtain⟨q,bb⟩:=a9;clear M;refine tF ⟨K,g,o,e,.slice O n cap,ay⟩ (hP▸a7) a8 _ _ _ ?_;unfold Sr;refine tG (λxs=>∃(A Z R:List (List RV)),xs=[.r (.mk (.slice O n cap) (Z++R)),.i ((A.length+20:Nat):Int),.i A.length]/\rows=A++R/\rG o.lt 20 A Z) (λxs=>match xs with|[_,_,.i a]=>n-a.toNat|_=>0) ⟨[],[],rows,by simp,rfl,.nil⟩ ?_;rintro _ ⟨A,Z,R,rfl,U,L⟩;have bd:=L.len;have l:A.length+R.length=n:=by rw[<-a2,U];simp
 have F:∀z∈Z++R,o.ok z=true:=λz W=>q z (by
  rw[U];rcases awR.1 W with h|h;simp[L.mem z h];simp[h])
 by_cases bf:A.length+20<=n;obtain⟨X,E,rfl,H⟩:∃X E,R=X++E/\X.length=20:=⟨R.take 20,R.drop 20,(ax5 _ _).symm,by simp;omega⟩;have cT:=akR (o:=o) (P:=Z) (X:=X) (Q:=E) (a:=A.length) (b:=((A.length+20:Nat):Int)) (by omega) (by omega) (by simp at l⊢;omega) F;have V:((A.length+20:Nat):Int)<=n:=by omega
 have j:=vq (a:=A.length+20) (b:=20) (by omega);have D:Io (some ⟨0,λxs=>∃(A Z R:List (List RV)),xs=[.r (.mk (.slice O n cap) (Z++R)),.i ((A.length+20:Nat):Int),.i A.length]/\rows=A++R/\rG o.lt 20 A Z,λxs=>match xs with|[_,_,.i a]=>n-a.toNat|_=>0,n-A.length⟩) [.r (.mk (.slice O n cap) (Z++(be o.lt X++E))),.i (bh .add .i64 ((A.length+20:Nat):Int) 20),.i ((A.length+20:Nat):Int)]:=by
  refine⟨⟨A++X,Z++be o.lt X,E, ?_,by rw[U];simp,.snoc A Z X H L⟩, ?_⟩;rw[show((20:Int))=((20:Nat):Int) from rfl,j];simp[H];show n-((A.length+20:Nat):Int).toNat<n-A.length;omega
 generalize W:((A.length+20:Nat):Int)=z at cT V D⊢;simp[lenOf,V];exact⟨_,cT,D⟩;have V:¬((A.length+20:Nat):Int)<=n:=by omega
 have cT:=akR (o:=o) (P:=Z) (X:=R) (Q:=[]) (a:=A.length) (b:=n) (by omega) (by omega) (by simp;omega) (by simpa using F);simp only[aya] at cT;generalize W:((A.length+20:Nat):Int)=z at V⊢;have hB:gV o.lt 20 rows (Z++be o.lt R):=by rw[U];exact L.jG (.aay (by omega))
 simp[lenOf,V];refine⟨_,cT, ?_⟩;clear cT;generalize b1:Z++be o.lt R=bk at hB⊢;have b2:∀{rs:List (List RV)}{s:Nat},gV o.lt s rows rs->∀z∈rs,o.ok z=true:=λh z W=>q z (h.mem z W)
 refine tG (λxs=>∃(s:Nat)(rs:List (List RV)),xs=[.r (.mk (.slice O n cap) rs),.i s]/\20<=s/\s<=2*1099511627776/\gV o.lt s rows rs) (λxs=>match xs with|[_,.i s]=>4398046511104-s.toNat|_=>0) ⟨20,bk,rfl,by omega,by omega,hB⟩ ?_;rintro _ ⟨s,rs,rfl,b3,b4,a3⟩;by_cases a4:s<n;have af:bh .mul .i64 2 (s:Int)=((2*s:Nat):Int):=by simp only[bh];rw[LS (by omega) (by omega)];omega
 have ag:bh .mul .i64 (s:Int) 2=((2*s:Nat):Int):=by simp only[bh];rw[LS (by omega) (by omega)];omega
 have an:∀f,gV o.lt (2*s) rows f->Io (some ⟨1,λxs=>∃(s:Nat)(rs:List (List RV)),xs=[.r (.mk (.slice O n cap) rs),.i s]/\20<=s/\s<=2*1099511627776/\gV o.lt s rows rs,λxs=>match xs with|[_,.i s]=>4398046511104-s.toNat|_=>0,4398046511104-s⟩) [.r (.mk (.slice O n cap) f),.i ((2*s:Nat):Int)]:=λf h'=>⟨⟨2*s,f,rfl,by omega,by omega,h'⟩,show 4398046511104-((2*s:Nat):Int).toNat<4398046511104-s by omega⟩
 generalize a5:((2*s:Nat):Int)=w at af ag an;simp[a4,lenOf];refine tG (λxs=>∃(A Z R J:List (List RV)),xs=[.r (.mk (.slice O n cap) (Z++J)),.i ((A.length+2*s:Nat):Int),.i A.length]/\rows=A++R/\rG o.lt (2*s) A Z/\gV o.lt s R J) (λxs=>match xs with|[_,_,.i a]=>n-a.toNat|_=>0) ⟨[],[],rows,rs,by simp[af,<-a5],rfl,.nil,a3⟩ ?_;rintro _ ⟨A,Z,R,J,rfl,U,L,C⟩;have bd:=L.len;have a6:=C.len;have l:A.length+R.length=n:=by rw[<-a2,U];simp
 have F:∀z∈Z++J,o.ok z=true:=λz W=>q z (by
  rw[U];rcases awR.1 W with h|h;simp[L.mem z h];simp[C.mem z h])
 have d:∀z∈R,o.ok z=true:=λz W=>q z (by rw[U];simp[W])
 have has:=vq (a:=A.length) (b:=s) (by omega);by_cases bf:A.length+2*s<=n;obtain⟨X,Y,Q,Q',rfl,rfl,H,hy,t⟩:=C.two (by omega) (by omega);have br:(be o.lt X).length=s:=by rw[kC,H]
 have bs:(be o.lt Y).length=s:=by rw[kC,hy]
 have B:∀z∈X,o.ok z=true:=λz W=>d z (by simp[W])
 have y:∀z∈Y,o.ok z=true:=λz W=>d z (by simp[W])
 have I:=Su (o:=o) (N:=N) (P:=Z) (X:=be o.lt X) (Y:=be o.lt Y) (Q:=Q') (a:=A.length) (m:=((A.length+s:Nat):Int)) (b:=((A.length+2*s:Nat):Int)) (by omega) (by omega) (by omega) (by omega) (by omega) (by omega) (by simp only[awQ] at a6 l⊢;omega) F (Ej G B) (Ej G y);rw[akr G B y] at I;have V:((A.length+2*s:Nat):Int)<=n:=by omega
 have j:=vq (a:=A.length+2*s) (b:=2*s) (by omega);rw[a5] at j;have D:Io (some ⟨2,λxs=>∃(A Z R J:List (List RV)),xs=[.r (.mk (.slice O n cap) (Z++J)),.i ((A.length+2*s:Nat):Int),.i A.length]/\rows=A++R/\rG o.lt (2*s) A Z/\gV o.lt s R J,λxs=>match xs with|[_,_,.i a]=>n-a.toNat|_=>0,n-A.length⟩) [.r (.mk (.slice O n cap) (Z++(be o.lt (X++Y)++Q'))),.i (bh .add .i64 ((A.length+2*s:Nat):Int) w),.i ((A.length+2*s:Nat):Int)]:=by
  refine⟨⟨A++(X++Y),Z++be o.lt (X++Y),Q,Q', ?_,by rw[U];simp,.snoc A Z (X++Y) (by simp;omega) L,t⟩, ?_⟩;rw[j];simp[H,hy];omega;show n-((A.length+2*s:Nat):Int).toNat<n-A.length;omega
 generalize W:((A.length+2*s:Nat):Int)=z at I V D⊢;simp[lenOf,V,af,has];exact⟨_,by simpa using I,D⟩;have V:¬((A.length+2*s:Nat):Int)<=n:=by omega
 generalize W:((A.length+2*s:Nat):Int)=z at V⊢;by_cases b5:A.length+s<n;obtain⟨X,Y,rfl,rfl,H⟩:=C.one (by omega) (by omega);simp only[awQ] at l a6;have br:(be o.lt X).length=s:=by rw[kC,H]
 have bs:(be o.lt Y).length=Y.length:=kC;have B:∀z∈X,o.ok z=true:=λz W=>d z (by simp[W])
 have y:∀z∈Y,o.ok z=true:=λz W=>d z (by simp[W])
 have I:=Su (o:=o) (N:=N) (P:=Z) (X:=be o.lt X) (Y:=be o.lt Y) (Q:=[]) (a:=A.length) (m:=((A.length+s:Nat):Int)) (b:=n) (by omega) (by omega) (by omega) (by omega) (by omega) (by omega) (by simp only[awQ,ayj];omega) (by simpa using F) (Ej G B) (Ej G y);rw[akr G B y] at I;simp only[aya] at I;have v:((A.length+s:Nat):Int)<n:=by omega
 have a0:gV o.lt (2*s) rows (Z++be o.lt (X++Y)):=by rw[U];exact L.jG (.aay (by simp;omega))
 generalize bt:((A.length+s:Nat):Int)=z3 at has I v;simp[lenOf,V,has,v,ag];exact⟨_,I,an _ a0⟩;have v:¬((A.length+s:Nat):Int)<n:=by omega
 have a1:=C.short (by omega);have a0:gV o.lt (2*s) rows (Z++J):=by rw[U,a1];exact L.jG (.aay (by omega))
 generalize bt:((A.length+s:Nat):Int)=z3 at has v;simp[lenOf,V,has,v,ag];exact an _ a0;have a1:=a3.short (by omega);simp[a4,lenOf];exact⟨3,rfl,by rw[a1,bb];rfl⟩;cases M
end
end
end
end Go.Proofs.YtieaiocljdpebaaGreatDoor.Y
