/- Part 14 of the proof; the last part says what is shown. -/
import Derived.Test.YtieaiocljdpebaaGreatDoorQ12
import Derived.Test.YtieaiocljdpebaaGreatDoorQ13
import Derived.Test.YtieaiocljdpebaaGreatDoorQ11
import Derived.Test.YtieaiocljdpebaaGreatDoorQ7
import Derived.Shelf.SlSortCmp.WholeK
import Derived.Shelf.SlSortCmp.NoneTotal
import Derived.Shelf.SlicesG.Cmp
import Derived.Deep.RegionHeld3
import Derived.Deep.DrawnRows
set_option linter.defProp false
set_option linter.unusedVariables false
set_option linter.unusedSimpArgs false
set_option linter.unnecessarySimpa false
open Bool renaming and_eq_true→awF,false_eq_true→aw0,or_eq_true→aw9,and_self→axZ
open List renaming getElem?_eq_getElem→awH,getD_eq_getElem?_getD→awK,getElem?_map→awL,mem_cons→awP,replicate→awS,map_cons→awT,all_eq_true→awU,pairwise_cons→aw2,range→aw3,getElem?_eq_none→aw4,map_congr_left→aw5,mem_map→aw7,eq_nil_of_length_eq_zero→axa,getElem?_take→axc,ext_getElem?→axd,map_map→axu,length_map→axB,getElem_mem→ax6,pairwise_iff_getElem→ayh,not_mem_nil→ayA,mem_singleton→ayJ,pairwise_map→ayQ,all_map→ayT,length→ayW
open Option.some renaming injEq→awJ,inj→axj
open Nat renaming le_refl→awN,zero_le→axN,eq_zero_or_pos→axT,mod_lt→ayI,mul_comm→ay3,div_lt_of_lt_mul→azj,div_add_mod→azk
open Option renaming map_eq_some_iff→ayd
open Array renaming getElem?_eq_some_iff→aw6,length_toList→axP,getElem?_modify→aye,getElem?_append_left→azz,getElem_toList→az5,extract_size→aAl
open List.Pairwise renaming nil→axt
namespace Go.Proofs.YtieaiocljdpebaaGreatDoor.Y
open Go.RowKit
noncomputable section
section
set_option maxRecDepth 100000
def ak5{ρ:aa}{o:aJ}{Z:List IE}{X:Bool}{rows ay:List (List RV)}(h:kR ρ (.co (0+3) o Z) X rows=some ay):False:=by
 have h:lH 3 o (Z.map (IE.den ρ)) rows=some ay:=h;obtain⟨_,h⟩:=vY h;obtain⟨a,b,c,W⟩:=xt (Em (by omega) h);rw[W] at h;have e:jM 3 o [a,b,c] rows=if decide (0<=a)&&decide (a<b)&&decide (b<c)&&decide (c<=rows.length)&&decide (c-a<((0:Nat):Int))&&rows.all o.ok&&rY o.lt (aF rows a.toNat b.toNat)&&rY o.lt (aF rows b.toNat c.toNat) then some (rows.take a.toNat++(be o.lt (aF rows a.toNat c.toNat)++rows.drop c.toNat)) else none:=rfl;rw[e] at h;split at h;rename_i V;simp only[awF,decide_eq_true_eq] at V;omega;cases h
def ak6(o:aJ):∀l,pi o.lt (de l)=pi o.lt l
 |[]=>rfl
 |x::r=>by
  have Z:=ak6 o r;simp only[de,awT,pi,ayT] at Z⊢;rw[Z];congr 2;funext y;simp only[Function.comp,aaq]
def aaC{o:aJ}{Z:Bool}{rows ay:List (List RV)}(h:dw o Z rows=some ay):dw o Z (de rows)=some (de ay):=by
 cases o with
 |co k o W=>simp[dw] at h
 |_=>
  simp only[dw] at h⊢;rw[vp,akz,ak6,aky];split at h;rename_i X;rw[if_pos X];cases h;rfl;cases h
def KA:List Bool:=[true,true,true,true,true,true,true,true,true,true,true,true,true,true]
def Is(r:RE)(i:IE):List SV:=[.int .i64 (.cell r i 0),.int .i64 (.cell r i 1),.int .i64 (.cell r i 2),.int .i64 (.cell r i 3),.int .i64 (.cell r i 4),.int .i64 (.cell r i 5),.int .i64 (.cell r i 6),.int .i64 (.cell r i 7),.int .i64 (.cell r i 8),.int .i64 (.cell r i 9),.int .i64 (.cell r i 10),.int .i64 (.cell r i 11),.int .i64 (.cell r i 12),.int .i64 (.cell r i 13)]
def Sz{x:List RV}(h:fU KA x):∃Z X W V U R Q P O N M L J I,x=[.mk (.int .i64 Z) [],.mk (.int .i64 X) [],.mk (.int .i64 W) [],.mk (.int .i64 V) [],.mk (.int .i64 U) [],.mk (.int .i64 R) [],.mk (.int .i64 Q) [],.mk (.int .i64 P) [],.mk (.int .i64 O) [],.mk (.int .i64 N) [],.mk (.int .i64 M) [],.mk (.int .i64 L) [],.mk (.int .i64 J) [],.mk (.int .i64 I) []]:=by
 rcases x with _|⟨s,x⟩;exact h.elim;obtain⟨⟨Z,H⟩,h⟩:=h;subst H;rcases x with _|⟨r,x⟩;exact h.elim;obtain⟨⟨X,G⟩,h⟩:=h;subst G;rcases x with _|⟨q,x⟩;exact h.elim;obtain⟨⟨W,F⟩,h⟩:=h;subst F;rcases x with _|⟨p,x⟩;exact h.elim;obtain⟨⟨V,E⟩,h⟩:=h;subst E;rcases x with _|⟨o,x⟩;exact h.elim;obtain⟨⟨U,D⟩,h⟩:=h;subst D;rcases x with _|⟨n,x⟩;exact h.elim;obtain⟨⟨R,C⟩,h⟩:=h;subst C;rcases x with _|⟨m,x⟩;exact h.elim;obtain⟨⟨Q,B⟩,h⟩:=h;subst B;rcases x with _|⟨l,x⟩;exact h.elim;obtain⟨⟨P,A⟩,h⟩:=h;subst A;rcases x with _|⟨k,x⟩;exact h.elim;obtain⟨⟨O,z⟩,h⟩:=h;subst z;rcases x with _|⟨j,x⟩;exact h.elim;obtain⟨⟨N,y⟩,h⟩:=h;subst y;rcases x with _|⟨i,x⟩;exact h.elim;obtain⟨⟨M,w⟩,h⟩:=h;subst w;rcases x with _|⟨g,x⟩;exact h.elim;obtain⟨⟨L,v⟩,h⟩:=h;subst v;rcases x with _|⟨f,x⟩;exact h.elim;obtain⟨⟨J,u⟩,h⟩:=h;subst u;rcases x with _|⟨e,x⟩;exact h.elim;obtain⟨⟨I,t⟩,h⟩:=h;subst t;cases h;exact⟨Z,X,W,V,U,R,Q,P,O,N,M,L,J,I,rfl⟩
def aaD:zE KA Is:=by
 refine⟨λρ r i x Z X=> ?_,λρ r i x Z X y β=> ?_⟩;obtain⟨W,V,U,R,Q,P,O,N,M,L,J,I,H,G,rfl⟩:=Sz X;simp[Is,SV.bp,IE.den,BE.den,cellAt,awK,Z,ba,jm];obtain⟨W,V,U,R,Q,P,O,N,M,L,J,I,H,G,rfl⟩:=Sz X;have e:∀(q:RE),q.rv (ρ.at y)=q.rv ρ:=λq=>RE.ju ρ y q
 have F:∀(q:IE),q.den (ρ.at y)=q.den ρ:=λq=>IE.cP ρ y q
 simp[Is,SV.ap,SV.den,IE.den,BE.den,cellAt,awK,e,F,Z,ba,jm]
def KB:List Bool:=[true,true,true,false,true]
def It(r:RE)(i:IE):List SV:=[.int .i64 (.cell r i 0),.int .i64 (.cell r i 1),.int .i64 (.cell r i 2),.bool (.cell r i 3),.int .i64 (.cell r i 4)]
def SA{x:List RV}(h:fU KB x):∃Z X W V U,x=[.mk (.int .i64 Z) [],.mk (.int .i64 X) [],.mk (.int .i64 W) [],.mk (.bool V) [],.mk (.int .i64 U) []]:=by
 rcases x with _|⟨M,x⟩;exact h.elim;obtain⟨⟨Z,R⟩,h⟩:=h;subst R;rcases x with _|⟨L,x⟩;exact h.elim;obtain⟨⟨X,Q⟩,h⟩:=h;subst Q;rcases x with _|⟨J,x⟩;exact h.elim;obtain⟨⟨W,P⟩,h⟩:=h;subst P;rcases x with _|⟨I,x⟩;exact h.elim;obtain⟨⟨V,O⟩,h⟩:=h;subst O;rcases x with _|⟨H,x⟩;exact h.elim;obtain⟨⟨U,N⟩,h⟩:=h;subst N;cases h;exact⟨Z,X,W,V,U,rfl⟩
def aaE:zE KB It:=by
 refine⟨λρ r i x Z X=> ?_,λρ r i x Z X y β=> ?_⟩;obtain⟨W,V,U,R,Q,rfl⟩:=SA X;simp[It,SV.bp,IE.den,BE.den,cellAt,awK,Z,ba,jm];obtain⟨W,V,U,R,Q,rfl⟩:=SA X;have e:∀(q:RE),q.rv (ρ.at y)=q.rv ρ:=λq=>RE.ju ρ y q
 have P:∀(q:IE),q.den (ρ.at y)=q.den ρ:=λq=>IE.cP ρ y q
 simp[It,SV.ap,SV.den,IE.den,BE.den,cellAt,awK,e,P,Z,ba,jm]
def ak7{p:Sp}{ρ:aa}{L:List LC}{bx:aX}{rs:List RK}{Z:IE}(h:∀W,bS p.S0 p.w0 W->p.R (.returned (.int .i64 (Z.den ρ))) W):(T.ret (.int .i64 Z) bx rs).aD p ρ L:=by
 intro y β W R;have:=h W R.base;simpa[SV.den,IE.cP] using this
def N1(P:Program)(ty:Ty)(w0:World)(X:List Int)(W:List Bool):ao [] w0 bw.none ty [] ⟨X,W,[],[]⟩ {(⟨[],[],X.length,W.length,[],0,0,[]⟩:S) with tmps:=[]} ⟨#[],[]⟩ w0:=
 ⟨⟨bS.refl _ _,λi h=>by simp[aA,bA] at h,λi j h=>by simp[aA,bA] at h,λi t cs h=>by simp[bA] at h,λq V rv Z U=>by simp at Z⟩,rfl,rfl,rfl,rfl,N0 _ _,rfl,λt R h=>by simp at h,λq V rv b Z U Q=>by simp at Z⟩
def aaF(P:Program)(o:aJ)(W:World)(x y:List RV):Ending->World->Prop:=λZ W'=>Below W.heap.size W W'/\∃c:Int,Z=.returned (.int .i64 c)/\(c<0<->o.lt x y=true)
def ak8{g:FuncId}{fn:Func}{c:Code}{n:Nat}{args:List SV}{t:T}(U:Tryz.prog.funcs[g]?=some fn)(Q:fn.body=some c){o:aJ}{x y:List RV}(Z:List Int)(X:List Bool)
  (O:I1 (mj Tryz.prog TT SG [] [] [] [] false []) n g c fn.ntmps fn.results.toList args ⟨[],[],Z.length,X.length,[],0,0,[]⟩=t)(W:World)(N:(SV.ap ⟨Z,X,[],[]⟩ [] args).toArray= #[.agg (x.map RV.val).toArray,.agg (y.map RV.val).toArray])
  (M:∀p:Sp,p.P=Tryz.prog->p.S0=[]->p.w0=W->p.R=aaF Tryz.prog o W x y->t.aD p ⟨Z,X,[],[]⟩ []):Calls Tryz.prog g #[.agg (x.map RV.val).toArray,.agg (y.map RV.val).toArray] W (aaF Tryz.prog o W x y):=by
 let p:Sp:=⟨Tryz.prog,look TT,[],W,bw.none,aaF Tryz.prog o W x y,λ_ _ _=>False⟩;have L:jr p (mj Tryz.prog TT SG [] [] [] [] false []):=NS Ij R7 rfl R8 (λI W' b ob _ h=>by obtain⟨_,c,J,_⟩:=h;cases J) (λx V=>by cases V);rw[<-N];exact ad6 (p:=p) L U Q O (M p rfl rfl rfl rfl) (λx V=>by simp[mj] at V) (N1 Tryz.prog _ W Z X)
def ak9(x y:Int):K.fJ x y<0<->x<y:=by
 unfold K.fJ;split;omega;split<;>omega
def asG:T:=(.call 142 [(.agg [(.int .i64 (.v 10)),(.int .i64 (.v 11))]),(.agg [(.int .i64 (.v 24)),(.int .i64 (.v 25))])] [] [] [.int .i64,.int .i64] (.bj [(.int .i64 (.v 28)),(.int .i64 (.v 29))])
 (.ret (.int .i64 (.v 28)) [] []))
def asH:T:=(.call 110 [(.int .i64 (.v 7)),(.int .i64 (.v 3))] [] [] [.int .i64] (.int .i64 (.v 8))
 (.ret (.int .i64 (.v 8)) [] []))
def L5:El Tryz.prog KA 141 (.ratio 10 11):=by
 intro W x y J I H G;obtain⟨F,E,D,C,B,A,z,w,u,s,V,Z,r,q,rfl⟩:=Sz J;obtain⟨o,m,l,k,j,h,g,f,e,d,U,X,c,b,rfl⟩:=Sz I;refine ak8 (t:=asG) (n:=100) (args:=[(.agg [(.int .i64 (.v 0)),(.int .i64 (.v 1)),(.int .i64 (.v 2)),(.int .i64 (.v 3)),(.int .i64 (.v 4)),(.int .i64 (.v 5)),(.int .i64 (.v 6)),(.int .i64 (.v 7)),(.int .i64 (.v 8)),(.int .i64 (.v 9)),(.int .i64 (.v 10)),(.int .i64 (.v 11)),(.int .i64 (.v 12)),(.int .i64 (.v 13))]),(.agg [(.int .i64 (.v 14)),(.int .i64 (.v 15)),(.int .i64 (.v 16)),(.int .i64 (.v 17)),(.int .i64 (.v 18)),(.int .i64 (.v 19)),(.int .i64 (.v 20)),(.int .i64 (.v 21)),(.int .i64 (.v 22)),(.int .i64 (.v 23)),(.int .i64 (.v 24)),(.int .i64 (.v 25)),(.int .i64 (.v 26)),(.int .i64 (.v 27))])]) rfl rfl [F,E,D,C,B,A,z,w,u,s,V,Z,r,q,o,m,l,k,j,h,g,f,e,d,U,X,c,b] [] (by kernel_rfl) W rfl ?_;rintro p a hS hW hR;have h1:K.lx.ok ⟨V,Z⟩=true:=by
  have:=H;simp[aJ.ok,aK,ba,jL] at this;obtain⟨⟨⟨⟨Q,P⟩,O⟩,N⟩,M⟩:=this;simp only[K.lx.ok,Q,P,O,N,show Z.natAbs=Z.toNat by omega,M,decide_true,axZ,beq_self_eq_true]
 have h2:K.lx.ok ⟨U,X⟩=true:=by
  have:=G;simp[aJ.ok,aK,ba,jL] at this;obtain⟨⟨⟨⟨Q,P⟩,O⟩,N⟩,M⟩:=this;simp only[K.lx.ok,Q,P,O,N,show X.natAbs=X.toNat by omega,M,decide_true,axZ,beq_self_eq_true]
 intro yy β W' R;rw[a];refine(asD ⟨V,Z⟩ ⟨U,X⟩ h1 h2 W').mono ?_;rintro en W2 ⟨rfl,hB⟩;refine⟨[.i (K.lx.cmp ⟨V,Z⟩ ⟨U,X⟩),.i 0],⟨trivial,trivial,trivial⟩,rfl,hB,⟨trivial,trivial,trivial⟩,ak7 λW3 L=> ?_⟩;rw[hS,hW] at L;rw[hR];refine⟨JO L,_,rfl, ?_⟩;simp[IE.den,aa.ext,aa.add,aJ.lt,aK,ba,K.lx.cmp,ak9]
def L6:El Tryz.prog KB 323 (.lex [4] true):=by
 intro W x y U Q C B;obtain⟨P,O,N,M,Z,rfl⟩:=SA U;obtain⟨L,J,I,H,X,rfl⟩:=SA Q;refine ak8 (t:=asH) (n:=100) (args:=[(.agg [(.int .i64 (.v 0)),(.int .i64 (.v 1)),(.int .i64 (.v 2)),(.bool (.v 0)),(.int .i64 (.v 3))]),(.agg [(.int .i64 (.v 4)),(.int .i64 (.v 5)),(.int .i64 (.v 6)),(.bool (.v 1)),(.int .i64 (.v 7))])]) rfl rfl [P,O,N,Z,L,J,I,X] [M,H] (by kernel_rfl) W rfl ?_;rintro p G F E D;intro A β W' R;rw[G];refine(ak3 X Z W').mono ?_;rintro z w ⟨rfl,rfl⟩;refine⟨[.i (K.fJ X Z)],⟨trivial,trivial⟩,rfl,Below.refl _ _,⟨trivial,trivial⟩,ak7 λu V=> ?_⟩;rw[F,E] at V;rw[D];refine⟨JO V,_,rfl, ?_⟩;simp[IE.den,aa.ext,aa.add,aJ.lt,fz,aK,ba,ak9];omega
def asI:lJ Tryz.prog (look TT) 358 141 90 (.co 0 (.ratio 10 11) []) false:=
 BR (K:=KA) (n:=100) (args:=[(.ref (.v 0)),(.int .i64 (.v 0)),(.int .i64 (.v 1)),(.int .i64 (.v 2)),(.fn 141 [])]) (loops:=[(358,1,⟨[(0,.ref (.own 90)),(10,.int .i64)],[]⟩)]) (srts:=[]) (chs:=[(358,3)]) (t:=Sj 90 Is) rfl rfl rfl (by kernel_rfl) (λx Z=>by cases Z) (by kernel_rfl) L5 (by kernel_rfl) (akI aaD) (λX rv h=>by obtain⟨a,b,c,rfl⟩:=xt h;rfl) (λX rows ay h=>Em (by omega) h)
def asJ:lJ Tryz.prog (look TT) 320 141 90 (.co 1 (.ratio 10 11) []) false:=
 BR (K:=KA) (n:=100) (args:=[(.ref (.v 0)),(.int .i64 (.v 0)),(.int .i64 (.v 1)),(.int .i64 (.v 2)),(.fn 141 [])]) (loops:=[(320,2,⟨[(0,.ref (.own 90)),(10,.int .i64),(11,.int .i64)],[]⟩)]) (srts:=[(358,141,90,.co 0 (.ratio 10 11) [],false)]) (chs:=[]) (t:=Sk 90 141 358 (.ratio 10 11)) rfl rfl rfl (by kernel_rfl) (λx Z=>by simp only[ayJ] at Z;subst Z;exact asI) (by kernel_rfl) L5 (by kernel_rfl) (akK) (λX rv h=>by obtain⟨a,b,c,rfl⟩:=xt h;rfl) (λX rows ay h=>Em (by omega) h)
def asK:lJ Tryz.prog (look TT) 273 141 90 (.co 2 (.ratio 10 11) []) false:=
 BR (K:=KA) (n:=100) (args:=[(.ref (.v 0)),(.int .i64 (.v 0)),(.int .i64 (.v 1)),(.fn 141 [])]) (loops:=[(273,1,⟨[(0,.ref (.own 90)),(8,.int .i64)],[]⟩),(273,4,⟨[(0,.ref (.own 90)),(9,.int .i64)],[]⟩)]) (srts:=[]) (chs:=[(273,6)]) (t:=Sm 90 141 Is) rfl rfl rfl (by kernel_rfl) (λx Z=>by cases Z) (by kernel_rfl) L5 (by kernel_rfl) (akN aaD (aao 10 11)) (λX rv h=>by obtain⟨a,b,rfl⟩:=two h;rfl) (λX rows ay h=>akG h)
def ala:∀N:Nat,lJ Tryz.prog (look TT) 274 141 90 (.co (N+3) (.ratio 10 11) []) false
 |0=>⟨ui (by kernel_rfl),λW A n cap rows ay ρ Z R X Q P U=>by
  simp only[aJ.fill,awJ] at X;subst X;exact(ak5 U).elim⟩
 |N+1=>BR (K:=KA) (n:=100) (args:=[(.ref (.v 0)),(.int .i64 (.v 0)),(.int .i64 (.v 1)),(.int .i64 (.v 2)),(.fn 141 [])]) (loops:=[(274,3,⟨[(0,.ref (.own 90)),(10,.int .i64),(11,.int .i64)],[]⟩),(274,9,⟨[(0,.ref (.own 90)),(13,.int .i64)],[]⟩),(274,15,⟨[(0,.ref (.own 90)),(14,.int .i64),(15,.int .i64)],[]⟩),(274,21,⟨[(0,.ref (.own 90)),(17,.int .i64)],[]⟩),(274,33,⟨[(0,.ref (.own 90)),(20,.int .i64),(21,.int .i64)],[]⟩)]) (srts:=[(320,141,90,.co 1 (.ratio 10 11) [],false),(274,141,90,.co (N+3) (.ratio 10 11) [],false)]) (chs:=[(274,11),(274,23)]) (t:=Sq 90 141 320 274 N (.ratio 10 11) Is) rfl rfl rfl (by kernel_rfl) (λx V=>by
   simp only[awP,ayA,or_false] at V;rcases V with rfl|rfl;exact asJ;exact ala N) (by kernel_rfl) L5 (by kernel_rfl) (akQ aaD (aao 10 11)) (λZ rv h=>by obtain⟨a,b,c,rfl⟩:=xt h;rfl) (λZ rows ay h=>Em (by omega) h)
def asL:lJ Tryz.prog (look TT) 140 141 90 (.ratio 10 11) true:=by
 refine⟨ui (by kernel_rfl),λW A n cap rows ay ρ Z L V P O U=> ?_⟩;cases Z with
 |cons _ _=>simp[aJ.fill] at V
 |nil=>
  simp only[aJ.fill,awJ] at V;subst V;have U:dw (.ratio 10 11) true rows=some ay:=U;refine aar (K:=KA) (o:=(.ratio 10 11)) (N:=0) (n:=100) (inl:=[209]) (args:=[(.ref (.v 0)),(.fn 141 [])]) (loops:=[(209,2,⟨[(0,.ref (.own 90)),(8,.int .i64),(7,.int .i64)],[]⟩),(209,7,⟨[(0,.ref (.own 90)),(6,.int .i64)],[]⟩),(209,9,⟨[(0,.ref (.own 90)),(8,.int .i64),(7,.int .i64)],[]⟩)]) (srts:=[(273,141,90,.co 2 (.ratio 10 11) [],false),(274,141,90,.co (rows.length+1+3) (.ratio 10 11) [],false)]) (chs:=[]) (F:=λZ X=>if Z=[]/\X.length<rows.length+1 then dw (.ratio 10 11) true X else none) (t:=Sr 90 141 273 274 (rows.length+1) (.ratio 10 11)) rfl rfl rfl (by kernel_rfl) (λx Q=> ?_) (by kernel_rfl) L5 (by kernel_rfl) (akS (aao 10 11)) (λZ rv h=> ?_) (λZ X M h=> ?_) (λZ X M h=> ?_) P O ?_;simp only[awP,ayA,or_false] at Q;rcases Q with rfl|rfl;exact asK;exact ala _;have:Z=[]:=axa h;subst this;rfl;split at h;rename_i R;rw[if_pos (by rw[vp];exact R)];exact aaC h;cases h;split at h;rename_i R;exact⟨by rw[R.1];rfl,Ua h⟩;cases h;rw[if_pos ⟨rfl,by omega⟩];exact U
def asM:lJ Tryz.prog (look TT) 379 323 393 (.co 0 (.lex [4] true) []) false:=
 BR (K:=KB) (n:=100) (args:=[(.ref (.v 0)),(.int .i64 (.v 0)),(.int .i64 (.v 1)),(.int .i64 (.v 2)),(.fn 323 [])]) (loops:=[(379,1,⟨[(0,.ref (.own 393)),(10,.int .i64)],[]⟩)]) (srts:=[]) (chs:=[(379,3)]) (t:=Sj 393 It) rfl rfl rfl (by kernel_rfl) (λx Z=>by cases Z) (by kernel_rfl) L6 (by kernel_rfl) (akI aaE) (λX rv h=>by obtain⟨a,b,c,rfl⟩:=xt h;rfl) (λX rows ay h=>Em (by omega) h)
def asN:lJ Tryz.prog (look TT) 378 323 393 (.co 1 (.lex [4] true) []) false:=
 BR (K:=KB) (n:=100) (args:=[(.ref (.v 0)),(.int .i64 (.v 0)),(.int .i64 (.v 1)),(.int .i64 (.v 2)),(.fn 323 [])]) (loops:=[(378,2,⟨[(0,.ref (.own 393)),(10,.int .i64),(11,.int .i64)],[]⟩)]) (srts:=[(379,323,393,.co 0 (.lex [4] true) [],false)]) (chs:=[]) (t:=Sk 393 323 379 (.lex [4] true)) rfl rfl rfl (by kernel_rfl) (λx Z=>by simp only[ayJ] at Z;subst Z;exact asM) (by kernel_rfl) L6 (by kernel_rfl) (akK) (λX rv h=>by obtain⟨a,b,c,rfl⟩:=xt h;rfl) (λX rows ay h=>Em (by omega) h)
def asO:lJ Tryz.prog (look TT) 373 323 393 (.co 2 (.lex [4] true) []) false:=
 BR (K:=KB) (n:=100) (args:=[(.ref (.v 0)),(.int .i64 (.v 0)),(.int .i64 (.v 1)),(.fn 323 [])]) (loops:=[(373,1,⟨[(0,.ref (.own 393)),(8,.int .i64)],[]⟩),(373,4,⟨[(0,.ref (.own 393)),(9,.int .i64)],[]⟩)]) (srts:=[]) (chs:=[(373,6)]) (t:=Sm 393 323 It) rfl rfl rfl (by kernel_rfl) (λx Z=>by cases Z) (by kernel_rfl) L6 (by kernel_rfl) (akN aaE (Sg [4] true)) (λX rv h=>by obtain⟨a,b,rfl⟩:=two h;rfl) (λX rows ay h=>akG h)
def alb:∀N:Nat,lJ Tryz.prog (look TT) 374 323 393 (.co (N+3) (.lex [4] true) []) false
 |0=>⟨ui (by kernel_rfl),λW A n cap rows ay ρ Z R X Q P U=>by
  simp only[aJ.fill,awJ] at X;subst X;exact(ak5 U).elim⟩
 |N+1=>BR (K:=KB) (n:=100) (args:=[(.ref (.v 0)),(.int .i64 (.v 0)),(.int .i64 (.v 1)),(.int .i64 (.v 2)),(.fn 323 [])]) (loops:=[(374,3,⟨[(0,.ref (.own 393)),(10,.int .i64),(11,.int .i64)],[]⟩),(374,9,⟨[(0,.ref (.own 393)),(13,.int .i64)],[]⟩),(374,15,⟨[(0,.ref (.own 393)),(14,.int .i64),(15,.int .i64)],[]⟩),(374,21,⟨[(0,.ref (.own 393)),(17,.int .i64)],[]⟩),(374,33,⟨[(0,.ref (.own 393)),(20,.int .i64),(21,.int .i64)],[]⟩)]) (srts:=[(378,323,393,.co 1 (.lex [4] true) [],false),(374,323,393,.co (N+3) (.lex [4] true) [],false)]) (chs:=[(374,11),(374,23)]) (t:=Sq 393 323 378 374 N (.lex [4] true) It) rfl rfl rfl (by kernel_rfl) (λx V=>by
   simp only[awP,ayA,or_false] at V;rcases V with rfl|rfl;exact asN;exact alb N) (by kernel_rfl) L6 (by kernel_rfl) (akQ aaE (Sg [4] true)) (λZ rv h=>by obtain⟨a,b,c,rfl⟩:=xt h;rfl) (λZ rows ay h=>Em (by omega) h)
def asP:lJ Tryz.prog (look TT) 322 323 393 (.lex [4] true) true:=by
 refine⟨ui (by kernel_rfl),λW A n cap rows ay ρ Z L V P O U=> ?_⟩;cases Z with
 |cons _ _=>simp[aJ.fill] at V
 |nil=>
  simp only[aJ.fill,awJ] at V;subst V;have U:dw (.lex [4] true) true rows=some ay:=U;refine aar (K:=KB) (o:=(.lex [4] true)) (N:=0) (n:=100) (inl:=[360]) (args:=[(.ref (.v 0)),(.fn 323 [])]) (loops:=[(360,2,⟨[(0,.ref (.own 393)),(8,.int .i64),(7,.int .i64)],[]⟩),(360,7,⟨[(0,.ref (.own 393)),(6,.int .i64)],[]⟩),(360,9,⟨[(0,.ref (.own 393)),(8,.int .i64),(7,.int .i64)],[]⟩)]) (srts:=[(373,323,393,.co 2 (.lex [4] true) [],false),(374,323,393,.co (rows.length+1+3) (.lex [4] true) [],false)]) (chs:=[]) (F:=λZ X=>if Z=[]/\X.length<rows.length+1 then dw (.lex [4] true) true X else none) (t:=Sr 393 323 373 374 (rows.length+1) (.lex [4] true)) rfl rfl rfl (by kernel_rfl) (λx Q=> ?_) (by kernel_rfl) L6 (by kernel_rfl) (akS (Sg [4] true)) (λZ rv h=> ?_) (λZ X M h=> ?_) (λZ X M h=> ?_) P O ?_;simp only[awP,ayA,or_false] at Q;rcases Q with rfl|rfl;exact asO;exact alb _;have:Z=[]:=axa h;subst this;rfl;split at h;rename_i R;rw[if_pos (by rw[vp];exact R)];exact aaC h;cases h;split at h;rename_i R;exact⟨by rw[R.1];rfl,Ua h⟩;cases h;rw[if_pos ⟨rfl,by omega⟩];exact U
end
section
open Go.Shelf Go.RowKit Go.Lib Go.Sort
def cB{o:Option Func}{a b:Func}(h:o=some a)(e:a=b):o=some b:=h.trans (congrArg some e)
def Tryz.cmpInt_ren:Go.Shelf.Ren:=⟨λ|5=>110|7=>192|n=>n,λ|22=>3|3=>3|4=>4|n=>n,λ|n=>n⟩
def Tryz.cmpInt:Go.Proofs.SlLaysC2.n5 Tryz.prog Tryz.cmpInt_ren:={mixed:=by kernel_rfl,f5:=⟨Tryz.f110.name,by decide,cB Tryz.func110 (by kernel_rfl)⟩,f7:=⟨Tryz.f192.name,by decide,cB Tryz.func192 (by kernel_rfl)⟩,t3:=Tryz.underlying3,a3:=Tryz.isAgg3,z3:=Tryz.sizeOf3,v3:=Tryz.zeroValue3,t4:=Tryz.underlying4,a4:=Tryz.isAgg4,z4:=Tryz.sizeOf4,v4:=Tryz.zeroValue4,t22:=Tryz.underlying3,a22:=Tryz.isAgg3,z22:=Tryz.sizeOf3,v22:=Tryz.zeroValue3}
def Tryz.sortSg_ren:Go.Shelf.Ren:=⟨λ|6=>223|15=>108|14=>283|28=>190|29=>191|20=>273|21=>326|22=>327|23=>328|24=>329|25=>330|26=>331|27=>332|46=>362|47=>254|48=>255|49=>363|50=>364|57=>375|n=>n,λ|22=>30|24=>90|25=>234|3=>3|39=>205|0=>0|53=>287|55=>289|4=>4|46=>280|45=>279|50=>284|5=>5|9=>9|66=>336|70=>166|76=>382|77=>298|n=>n,λ|n=>n⟩
def Tryz.sortSg:Go.Proofs.SlLaysF0.n6 Tryz.prog Tryz.sortSg_ren:={mixed:=by kernel_rfl,f6:=⟨Tryz.f223.name,by decide,cB Tryz.func223 (by kernel_rfl)⟩,f14:=⟨Tryz.f283.name,by decide,cB Tryz.func283 (by kernel_rfl)⟩,f15:=cB Tryz.func108 (by kernel_rfl),f20:=⟨Tryz.f273.name,by decide,cB Tryz.func273 (by kernel_rfl)⟩,f21:=⟨Tryz.f326.name,by decide,cB Tryz.func326 (by kernel_rfl)⟩,f22:=⟨Tryz.f327.name,by decide,cB Tryz.func327 (by kernel_rfl)⟩,f23:=⟨Tryz.f328.name,by decide,cB Tryz.func328 (by kernel_rfl)⟩,f24:=⟨Tryz.f329.name,by decide,cB Tryz.func329 (by kernel_rfl)⟩,f25:=⟨Tryz.f330.name,by decide,cB Tryz.func330 (by kernel_rfl)⟩,f26:=⟨Tryz.f331.name,by decide,cB Tryz.func331 (by kernel_rfl)⟩,f27:=⟨Tryz.f332.name,by decide,cB Tryz.func332 (by kernel_rfl)⟩,f28:=cB Tryz.func190 (by kernel_rfl),f29:=cB Tryz.func191 (by kernel_rfl),f46:=⟨Tryz.f362.name,by decide,cB Tryz.func362 (by kernel_rfl)⟩,f47:=cB Tryz.func254 (by kernel_rfl),f48:=cB Tryz.func255 (by kernel_rfl),f49:=⟨Tryz.f363.name,by decide,cB Tryz.func363 (by kernel_rfl)⟩,f50:=⟨Tryz.f364.name,by decide,cB Tryz.func364 (by kernel_rfl)⟩,f57:=⟨Tryz.f375.name,by decide,cB Tryz.func375 (by kernel_rfl)⟩,t0:=Tryz.underlying0,a0:=Tryz.isAgg0,z0:=Tryz.sizeOf0,v0:=Tryz.zeroValue0,t3:=Tryz.underlying3,a3:=Tryz.isAgg3,z3:=Tryz.sizeOf3,v3:=Tryz.zeroValue3,t4:=Tryz.underlying4,a4:=Tryz.isAgg4,z4:=Tryz.sizeOf4,v4:=Tryz.zeroValue4,t5:=Tryz.underlying5,a5:=Tryz.isAgg5,z5:=Tryz.sizeOf5,v5:=Tryz.zeroValue5,t9:=Tryz.underlying9,a9:=Tryz.isAgg9,z9:=Tryz.sizeOf9,v9:=Tryz.zeroValue9,t22:=Tryz.underlying30,a22:=Tryz.isAgg30,z22:=Tryz.sizeOf30,v22:=Tryz.zeroValue30,t25:=Tryz.underlying234,a25:=Tryz.isAgg234,z25:=Tryz.sizeOf234,v25:=Tryz.zeroValue234,t39:=Tryz.underlying205,a39:=Tryz.isAgg205,z39:=Tryz.sizeOf205,v39:=Tryz.zeroValue205,t45:=Tryz.underlying279,a45:=Tryz.isAgg279,z45:=Tryz.sizeOf279,v45:=Tryz.zeroValue279,t46:=Tryz.underlying280,a46:=Tryz.isAgg280,z46:=Tryz.sizeOf280,v46:=Tryz.zeroValue280,t50:=Tryz.underlying284,a50:=Tryz.isAgg284,z50:=Tryz.sizeOf284,v50:=Tryz.zeroValue284,t53:=Tryz.underlying287,a53:=Tryz.isAgg287,z53:=Tryz.sizeOf287,v53:=Tryz.zeroValue287,t55:=Tryz.underlying289,a55:=Tryz.isAgg289,z55:=Tryz.sizeOf289,v55:=Tryz.zeroValue289,t66:=Tryz.underlying336,a66:=Tryz.isAgg336,z66:=Tryz.sizeOf336,v66:=Tryz.zeroValue336,t70:=Tryz.underlying166,a70:=Tryz.isAgg166,z70:=Tryz.sizeOf166,v70:=Tryz.zeroValue166,t76:=Tryz.underlying382,a76:=Tryz.isAgg382,z76:=Tryz.sizeOf382,v76:=Tryz.zeroValue382,t77:=Tryz.underlying298,a77:=Tryz.isAgg298,z77:=Tryz.sizeOf298,v77:=Tryz.zeroValue298}
set_option maxHeartbeats 1000000 in
def asQ (Z R Q P O N M L J I H G F E X D C B A z y x w v u t s p:Int) (W:World):Calls Tryz.prog 224 #[.agg #[.int .i64 Z,.int .i64 R,.int .i64 Q,.int .i64 P,.int .i64 O,.int .i64 N,.int .i64 M,.int .i64 L,.int .i64 J,.int .i64 I,.int .i64 H,.int .i64 G,.int .i64 F,.int .i64 E],.agg #[.int .i64 X,.int .i64 D,.int .i64 C,.int .i64 B,.int .i64 A,.int .i64 z,.int .i64 y,.int .i64 x,.int .i64 w,.int .i64 v,.int .i64 u,.int .i64 t,.int .i64 s,.int .i64 p]] W λe U=>e=.returned (.int .i64 (Lib.compareInt Z X))/\∃q o,U=grow (W.drewN q) o:=by
 have V:=λW'=>AnyG.cmp_Compare_int Tryz.cmpInt Z X W'
 change∀W',Calls Tryz.prog 110 _ _ _ at V;generalize Lib.compareInt Z X=r at V⊢;go_enter Tryz.func224,Tryz.ntmps224
 go_wp2_with (go_at_call 110;refine(V _).mono ?_;rintro e U ⟨rfl,rfl⟩)
 go_ret;exact⟨rfl,0,_,by rw[alloc_eq_grow,alloc_eq_grow,grow_grow];rfl⟩
end
section
attribute[local go_sem ↓] Go.wp_at_zero Go.wp_at_succ
open Go.Shelf Go.RowKit Go.Lib Go.Sort
def jW:List Int->Int
 |[]=>0
 |a::l=>if a=0 then jW l else a
set_option maxHeartbeats 1000000 in
def or2 (b:Nat) (Z X:Int) (W:World) (O:W.cell? ⟨b,0,none⟩=some (.int .i64 Z)) (N:W.cell? ⟨b,1,none⟩=some (.int .i64 X)):Calls Tryz.prog 109 #[.slice (some ⟨b,0,none⟩) 2 2] W λe R=>e=.returned (.int .i64 (jW [Z,X]))/\R=W:=by
 by_cases z0:Z=0;have Q:(Z !=0)=false:=by simp[z0]
 by_cases U:X=0
 ·have P:(X !=0)=false:=by simp[U]
  have V:jW [Z,X]=0:=by simp[jW,z0,U]
  rw[V];clear V;clear z0 U;go_enter Tryz.func109,Tryz.ntmps109;go_wp2;refine wp_loop_rounds 3 ?_
  iterate 3 (rw[rounds_succ];go_wp2)
  go_ret;exact⟨rfl,rfl⟩
 ·have P:(X !=0)=true:=by simp[U]
  have V:jW [Z,X]=X:=by simp[jW,z0,U]
  rw[V];clear V;clear z0 U;go_enter Tryz.func109,Tryz.ntmps109;go_wp2;refine wp_loop_rounds 3 ?_
  iterate 2 (rw[rounds_succ];go_wp2)
  go_ret;exact⟨rfl,rfl⟩
 ·have Q:(Z !=0)=true:=by simp[z0]
  have V:jW [Z,X]=Z:=by simp[jW,z0]
  rw[V];clear V;clear z0;go_enter Tryz.func109,Tryz.ntmps109;go_wp2;refine wp_loop_rounds 3 ?_
  iterate 1 (rw[rounds_succ];go_wp2)
  go_ret;exact⟨rfl,rfl⟩
def L7(W:World)(Z X:Obj)(cs:Array Value)(t:TypeId)(i:Nat)(v:Value)(h:cs[i]?=some v):(((W.alloc Z).alloc X).alloc (.cells cs t)).drew.cell? ⟨W.heap.size+1+1,i,none⟩=some v:=by
 have e:(((W.alloc Z).alloc X).alloc (.cells cs t)).heap[W.heap.size+1+1]?=some (.cells cs t):=by
  have:=heap_alloc_new ((W.alloc Z).alloc X) (.cells cs t);simpa using this
 show World.cell? _ _=_;simp only[World.cell?,World.drew,e];simpa using h
def alc(W:World)(Z X V:Obj):∃q U,(((W.alloc Z).alloc X).alloc V).drew=grow (W.drewN q) U:=⟨1, #[Z]++ #[X]++ #[V],by rw[alloc_eq_grow,alloc_eq_grow,alloc_eq_grow,grow_grow,grow_grow];rfl⟩
set_option maxHeartbeats 4000000 in
set_option maxRecDepth 100000 in
def asS (X V U R:Int) (W:World):Calls Tryz.prog 178 #[.agg #[.int .i64 X,.int .i64 V],.agg #[.int .i64 U,.int .i64 R]] W λe Z=>e=.returned (.int .i64 (jW [Lib.compareInt V R,Lib.compareInt X U]))/\∃q O,Z=grow (W.drewN q) O:=by
 have Q:=λx y W'=>AnyG.cmp_Compare_int Tryz.cmpInt x y W'
 change∀x y W',Calls Tryz.prog 110 _ _ _ at Q;generalize Lib.compareInt=P at Q⊢;go_enter Tryz.func178,Tryz.ntmps178;go_wp2
 go_region_held3 (λZ=>Z.cell? ⟨W.heap.size,0,none⟩=some (.int .i64 X)/\Z.cell? ⟨W.heap.size,1,none⟩=some (.int .i64 V)/\Z.cell? ⟨W.heap.size+1,0,none⟩=some (.int .i64 U)/\Z.cell? ⟨W.heap.size+1,1,none⟩=some (.int .i64 R)) (go_keep)
  (first|(go_at_call 110;refine(Q _ _ _).mono ?_;rintro e Z ⟨rfl,rfl⟩)|(go_at_call 109;refine Calls.mono (or2 _ (P V R) (P X U) _ (L7 _ _ _ _ _ _ _ rfl) (L7 _ _ _ _ _ _ _ rfl)) ?_;rintro e Z ⟨rfl,rfl⟩))
 all_goals go_wp2
 all_goals go_ret
 exact⟨rfl,alc _ _ _ _⟩
set_option maxHeartbeats 1000000 in
def or3 (b:Nat) (X V U:Int) (W:World) (L:W.cell? ⟨b,0,none⟩=some (.int .i64 X)) (J:W.cell? ⟨b,1,none⟩=some (.int .i64 V)) (I:W.cell? ⟨b,2,none⟩=some (.int .i64 U)):Calls Tryz.prog 109 #[.slice (some ⟨b,0,none⟩) 3 3] W λe P=>e=.returned (.int .i64 (jW [X,V,U]))/\P=W:=by
 by_cases z0:X=0;have O:(X !=0)=false:=by simp[z0]
 by_cases R:V=0;have N:(V !=0)=false:=by simp[R]
 by_cases Q:U=0
 ·have M:(U !=0)=false:=by simp[Q]
  have Z:jW [X,V,U]=0:=by simp[jW,z0,R,Q]
  rw[Z];clear Z;clear z0 R Q;go_enter Tryz.func109,Tryz.ntmps109;go_wp2;refine wp_loop_rounds 4 ?_
  iterate 4 (rw[rounds_succ];go_wp2)
  go_ret;exact⟨rfl,rfl⟩
 ·have M:(U !=0)=true:=by simp[Q]
  have Z:jW [X,V,U]=U:=by simp[jW,z0,R,Q]
  rw[Z];clear Z;clear z0 R Q;go_enter Tryz.func109,Tryz.ntmps109;go_wp2;refine wp_loop_rounds 4 ?_
  iterate 3 (rw[rounds_succ];go_wp2)
  go_ret;exact⟨rfl,rfl⟩
 ·have N:(V !=0)=true:=by simp[R]
  have Z:jW [X,V,U]=V:=by simp[jW,z0,R]
  rw[Z];clear Z;clear z0 R;go_enter Tryz.func109,Tryz.ntmps109;go_wp2;refine wp_loop_rounds 4 ?_
  iterate 2 (rw[rounds_succ];go_wp2)
  go_ret;exact⟨rfl,rfl⟩
 ·have O:(X !=0)=true:=by simp[z0]
  have Z:jW [X,V,U]=X:=by simp[jW,z0]
  rw[Z];clear Z;clear z0;go_enter Tryz.func109,Tryz.ntmps109;go_wp2;refine wp_loop_rounds 4 ?_
  iterate 1 (rw[rounds_succ];go_wp2)
  go_ret;exact⟨rfl,rfl⟩
set_option maxHeartbeats 4000000 in
set_option maxRecDepth 100000 in
def w52 (X V U R Q P:Int) (W:World):Calls Tryz.prog 52 #[.agg #[.int .i64 X,.int .i64 V,.int .i64 U],.agg #[.int .i64 R,.int .i64 Q,.int .i64 P]] W λe Z=>e=.returned (.int .i64 (jW [Lib.compareInt X R,Lib.compareInt V Q,Lib.compareInt U P]))/\∃q M,Z=grow (W.drewN q) M:=by
 have O:=λx y W'=>AnyG.cmp_Compare_int Tryz.cmpInt x y W'
 change∀x y W',Calls Tryz.prog 110 _ _ _ at O;generalize Lib.compareInt=N at O⊢;go_enter Tryz.func52,Tryz.ntmps52;go_wp2
 go_region_held3 (λZ=>Z.cell? ⟨W.heap.size,0,none⟩=some (.int .i64 X)/\Z.cell? ⟨W.heap.size,1,none⟩=some (.int .i64 V)/\Z.cell? ⟨W.heap.size,2,none⟩=some (.int .i64 U)/\Z.cell? ⟨W.heap.size+1,0,none⟩=some (.int .i64 R)/\Z.cell? ⟨W.heap.size+1,1,none⟩=some (.int .i64 Q)/\Z.cell? ⟨W.heap.size+1,2,none⟩=some (.int .i64 P)) (go_keep)
  (first|(go_at_call 110;refine(O _ _ _).mono ?_;rintro e Z ⟨rfl,rfl⟩)|(go_at_call 109;refine Calls.mono (or3 _ (N X R) (N V Q) (N U P) _ (L7 _ _ _ _ _ _ _ rfl) (L7 _ _ _ _ _ _ _ rfl) (L7 _ _ _ _ _ _ _ rfl)) ?_;rintro e Z ⟨rfl,rfl⟩))
 all_goals go_wp2
 all_goals go_ret
 exact⟨rfl,alc _ _ _ _⟩
end
section
open Go.Shelf Go.RowKit
open Go.Sort (flatK get_flatK size_flatK HoldsK putRowK size_putRowK grow)
def IV(k:Nat)(x:List Int):List RV:=(aw3 k).map λi=>RV.mk (.int .i64 (x.getD i 0)) []
def gE(k:Nat)(x:List Int):List Value:=(aw3 k).map λi=>Value.int .i64 (x.getD i 0)
def aaG(k:Nat)(x:List Int):(IV k x).length=k:=by simp[IV]
def aaH{k:Nat}{x:List Int}{i:Nat}(h:i<k):(IV k x)[i]?=some (RV.mk (.int .i64 (x.getD i 0)) []):=by simp[IV,h]
def asV{k c:Nat}{x:List Int}(h:c<k):aK c (IV k x)=x.getD c 0:=by
 unfold aK;rw[awK,aaH h];rfl
def tI(cs:List Nat)(x y:List Int):Int:=jW (cs.map λc=>Lib.compareInt (x.getD c 0) (y.getD c 0))
def aaI{k:Nat}{x y:List Int}:∀{cs:List Nat},(∀c∈cs,c<k)->decide (tI cs x y<0)=fz false cs (IV k x) (IV k y)
 |[],_=>rfl
 |c::cs,h=>by
  have V:=aaI (x:=x) (y:=y) (cs:=cs) (λc X=>h c (by simp[X]));have X:c<k:=h c (by simp);simp only[tI,awT,jW,fz,asV X] at V⊢;generalize x.getD c 0=p;generalize y.getD c 0=q;by_cases W:p=q;rw[if_pos W,if_pos (by simp[Lib.compareInt,W])];exact V;rw[if_neg W];by_cases Z:p<q;have e:Lib.compareInt p q=-1:=by simp[Lib.compareInt,Z]
  simp[e,Z];have U:p>q:=by omega
  have e:Lib.compareInt p q=1:=by simp[Lib.compareInt,Z,U]
  simp[e,Z]
def aaJ{k:Nat}{cs:List Nat}(h:∀c∈cs,c<k):Go.Sort.SWO (ltOf (tI cs)):=by
 have w:=Sg cs false;have e:∀x y,ltOf (tI cs) x y=(aJ.lex cs false).lt (IV k x) (IV k y):=λx y=>aaI h
 exact⟨λx=>by rw[e];exact w.Sd _ rfl,λx y z Z X=>by rw[e] at*;exact w.tr _ _ _ rfl rfl rfl Z X,λx y z Z X=>by rw[e] at*;exact w.nt _ _ _ rfl rfl rfl Z X⟩
def ald:∀{k:Nat}{row:List RV},fU (awS k true) row->row.length=k/\∀c∈row,c=.mk (.int .i64 (ba c.val)) []
 |0,row,h=>by cases h;simp
 |k+1,[],h=>h.elim
 |k+1,c::r,h=>by
  obtain⟨⟨n,rfl⟩,Z⟩:(∃n,c=.mk (.int .i64 n) [])/\fU (awS k true) r:=h;obtain⟨X,W⟩:=ald Z;exact⟨by simp[X],λc V=>(awP.1 V).elim (λe=>by subst e;rfl) (W c)⟩
def unI(row:List RV):List Int:=row.map λc=>ba c.val
def asW{k:Nat}{row:List RV}(h:fU (awS k true) row):IV k (unI row)=row:=by
 obtain⟨W,X⟩:=ald h;apply axd;intro i;by_cases hi:i<k;rw[aaH hi];have Z:i<row.length:=by omega
 rw[awH Z,X _ (ax6 Z)];simp[unI,awK,Z];rw[aw4 (by rw[aaG];omega),aw4 (by omega)]
def asX{k:Nat}{rows:List (List RV)}(h:∀x∈rows,fU (awS k true) x):∃d:Array (List Int),rows=d.toList.map (IV k):=by
 refine⟨(rows.map unI).toArray, ?_⟩;simp only[axu]
 conv=>lhs;rw[<-List.map_id rows]
 exact aw5 λx Z=>(asW (h x Z)).symm
def ale{k:Nat}(d:Array (List Int)){t:Nat}(Z:t<d.size*k):(cH (d.toList.map (IV k)))[t]?=some ((flatK (gE k) k d)[t]!):=by
 have V:0<k:=by
  rcases axT k with rfl|h;omega;exact h
 have U:t/k<d.size:=azj (by rw[ay3];exact Z);have X:t%k<k:=ayI _ V;have e:t=t/k*k+t%k:=by have:=azk t k;rw[ay3] at this;omega
 have:=Jb (w:=k) (rows:=d.toList.map (IV k)) (λi row W=>by
  simp only[awL,ayd] at W;obtain⟨x,_,rfl⟩:=W;exact aaG k x) (i:=t/k) (j:=t%k) (row:=IV k d[t/k]!) (by simp[U]) (aaH X)
 rw[<-e] at this;rw[this,get_flatK _ _ _ _ Z];congr 1;have:(gE k d[t/k]!)[t%k]?=some (.int .i64 ((d[t/k]!).getD (t%k) 0)):=by simp[gE,X]
 rw[List.getElem!_eq_getElem?_getD,this];rfl
def asY{k:Nat}(d:Array (List Int)):(cH (d.toList.map (IV k))).length=d.size*k:=by
 have:=vV (w:=k) (rows:=d.toList.map (IV k)) (λi row Z=>by
  simp only[awL,ayd] at Z;obtain⟨x,_,rfl⟩:=Z;exact aaG k x)
 simpa using this
def asZ{W:World}{b:Nat}{Z:Array Value}{e:TypeId}(X:W.heap[b]?=some (.cells Z e (0,0)))(j:Nat):W.frozen? ⟨b,j,none⟩=false:=by
 simp[World.frozen?,X]
def as0{W:World}{ty:Ty}{e b n cap k:Nat}{X:Array Value}{d:Array (List Int)}(h:aT W ty (.sl e) (.mk (.slice (some ⟨b,0,none⟩) n cap) (d.toList.map (IV k))))(V:W.heap[b]?=some (.cells X e (0,0))):HoldsK (gE k) k W b 0 d:=by
 intro j Z;rw[size_flatK] at Z;obtain⟨Q,off,U,_,R⟩:=Jc h j _ (ale d Z);cases U;exact⟨R,asZ V _⟩
def as1{k b m:Nat}{d Z:Array (List Int)}{os:Array Obj}{W:World}{X:Array Value}{e:TypeId}(U:W.heap[b]?=some (.cells X e (0,0)))(N:HoldsK (gE k) k W b 0 d)(M:Z.size=d.size):
  W.grownBy (sortWorldK (gE k) k W b 0 m Z os) (some b)/\∃R,(sortWorldK (gE k) k W b 0 m Z os).heap[b]?=some (.cells R e (0,0))/\R.size=X.size/\R.toList.take (Z.size*k)=cH (Z.toList.map (IV k)):=by
 have Q:b<W.heap.size:=(aw6.1 U).1;have L:(putRowK (gE k) k (Sort.ahead W m) b 0 Z).heap.size=W.heap.size:=by rw[size_putRowK];rfl
 have P:∀i,i<W.heap.size->(sortWorldK (gE k) k W b 0 m Z os).heap[i]?=(W.heap.modify b (Sort.onCells (Sort.putCells id 0 (flatK (gE k) k Z))))[i]?:=by
  intro i hi;show(_++os)[i]?=_;rw[azz (by rw[L];exact hi)];rfl
 refine⟨⟨rfl,rfl,rfl, ?_,λi hi J=> ?_⟩,Sort.putCells id 0 (flatK (gE k) k Z) X, ?_, ?_, ?_⟩;exact size_sortWorldK_c (gE k) k W b 0 m Z os;rw[P i hi,aye,if_neg (λO=>J (by rw[O]))];rw[P b Q,aye,if_pos rfl,U];rfl;simp[Sort.putCells];have O:=holdsK_sortWorldK_c (gE k) k W b 0 d Z m os N Q M;have I:(sortWorldK (gE k) k W b 0 m Z os).heap[b]?=some (.cells (Sort.putCells id 0 (flatK (gE k) k Z) X) e (0,0)):=by rw[P b Q,aye,if_pos rfl,U];rfl
 apply axd;intro q;rw[axc];by_cases V:q<Z.size*k;rw[if_pos V,ale Z V];have:=(O q (by rw[size_flatK];exact V)).1;simpa[World.cell?,I] using this;rw[if_neg V,aw4 (by rw[asY];omega)]
def alf{lt:List RV->List RV->Bool}:∀{l:List (List RV)},pi lt l=true->l.Pairwise (λx y=>lt x y=true\/lt y x=true)
 |[],_=>axt
 |x::r,h=>by
  simp only[pi,awF,awU,aw9] at h;exact aw2.2 ⟨h.1,alf h.2⟩
def aaL{f g:FuncId}{e:TypeId}{cs:List Nat}{k:Nat}(r:qz Tryz.prog f=true)(O:aW (look TT) (.sl e)=(awS k true).map zD)(o:∀c∈cs,c<k)
  (l:∀p cap a W,Calls Tryz.prog f #[.slice p 0 cap,a] W λV N=>V=.returned (.tuple #[])/\N=W)
  (af:∀(b cap:Nat)(d:Array (List Int))(W:World),HoldsK (gE k) k W b 0 d->b<W.heap.size->d.size<4611686018427387904->Calls Tryz.prog f #[.slice (some ⟨b,0,none⟩) d.size cap,.func (.func g) #[] #[]] W λV N=>V=.returned (.tuple #[])/\∃Z n os,Go.Sort.PermIn 0 d.size d Z/\Go.Sort.SortedIn (ltOf (tI cs)) 0 d.size Z/\N=sortWorldK (gE k) k W b 0 n Z os):
  lJ Tryz.prog (look TT) f g e (.lex cs false) false:=by
 refine⟨ui r,λW A n cap rows ay ρ ns a8 M L Q J=> ?_⟩;cases ns with
 |cons _ _=>simp[aJ.fill] at M
 |nil=>
  simp only[aJ.fill,awJ] at M;subst M;have J:dw (.lex cs false) false rows=some ay:=J;obtain⟨hl,a9⟩:=qr L;have hk:(aW (look TT) (.sl e)).length=k:=by rw[O];simp
  rw[hk] at Q⊢;have X:=aaC J;simp only[dw] at X;split at X
  case isFalse=>cases X
  rename_i G;simp only[awF,decide_eq_true_eq,aw9,aw0,false_or] at G;obtain⟨F,_,E⟩:=G;have X:=axj X;have bb:ay.length=rows.length:=by rw[<-vp ay,<-X,kC,vp]
  by_cases hn:n=0;subst hn;have h0:ay=[]:=axa (by omega);subst h0;refine(l A cap _ W).mono ?_;rintro V W' ⟨rfl,rfl⟩;refine⟨rfl,⟨rfl,rfl,rfl,awN _,λ_ _ _=>rfl⟩,⟨axN _,Q.nil, ?_⟩⟩;rcases Q.mem with h|⟨b,D,rfl,U,I,H⟩;exact .inl h;cases cap with
  |zero=>exact .inl rfl
  |succ c=>exact .inr ⟨b,D,rfl,U,I,H,by simp[cH],.inr rfl⟩
  rcases Q.mem with h|⟨b,D,rfl,U,I,H⟩;omega;have hp:∀(j:Nat)(z:Value)(q:RK),(aW (look TT) (.sl e))[j]?≠some (.ar z q):=by
   intro j z q R;rw[O,awL] at R;cases P:(awS k true)[j]? with
   |none=>rw[P] at R;cases R
   |some b=>rw[P] at R;cases b<;>simp[zD] at R
  have C:=akE hp L;obtain⟨d,B⟩:=asX (akD O (dB.t7 L));have w:d.size=n:=by
   have v:(de rows).length=(d.toList.map (IV k)).length:=congrArg ayW B;rw[vp,axB,axP] at v;exact v.symm.trans hl
  rw[B] at C X E F;have u:=as0 C U;have P:b<W.heap.size:=(aw6.1 U).1;have ag:jp (some ⟨b,0,none⟩) cap=some b:=by
   cases cap with
   |zero=>omega
   |succ c=>rfl
  have key:=af b cap d W u P (by simp at F;omega);rw[w] at key;refine Calls.mono key ?_;rintro V W' ⟨rfl,Z,m,os,t,an,rfl⟩;have s:Z.size=d.size:=t.1;obtain⟨g1,a0,g2,g3,g4⟩:=as1 (m:=m) (os:=os) U u s;have a1:Z.toList.Perm d.toList:=by
   have:=t.2.2;rw[<-w] at this;have e1:Z.extract 0 d.size=Z:=by rw[<-s];exact aAl
   have e2:d.extract 0 d.size=d:=aAl
   rwa [e1,e2] at this
  have a2:eh (aJ.lex cs false).lt (Z.toList.map (IV k)):=by
   refine ayQ.2 (ayh.2 λi j hi hj a3=> ?_);have a4:j<Z.size:=by simpa using hj
   have a5:i<Z.size:=by simpa using hi
   have:=an i j (axN _) a3 (by omega);have e:=aaI (k:=k) (x:=Z[j]) (y:=Z[i]) o;rw[getElem!_pos Z j a4,getElem!_pos Z i a5] at this;show fz false cs (IV k Z.toList[j]) (IV k Z.toList[i])=false;rw[az5,az5,<-e];exact this
  have a6:Z.toList.map (IV k)=de ay:=by
   rw[<-X,<-ajh (lt:=(aJ.lex cs false).lt) (Z5 false cs) (Z6 false cs) (a1.map (IV k)) (alf E)];exact(Se a2).symm
  rw[ag];refine⟨rfl,g1,⟨by omega,λh=>(by cases h),.inr ⟨b,a0,rfl,g2,I,by rw[g3,H], ?_,.inr rfl⟩⟩⟩;have a7:ay.length=Z.size:=by omega
  rw[a7,g4,a6,akB]
end
section
open Go.Shelf Go.RowKit
open Go.Sort (HoldsK)
def Tryz.sortOb_ren:Go.Shelf.Ren:=⟨λ|6=>51|15=>108|14=>107|28=>190|29=>191|20=>182|21=>183|22=>184|23=>185|24=>186|25=>187|26=>188|27=>189|46=>253|47=>254|48=>255|49=>256|50=>257|57=>311|n=>n,λ|22=>121|24=>118|25=>123|3=>3|39=>205|0=>0|53=>287|55=>289|4=>4|46=>280|45=>279|50=>284|5=>5|9=>9|66=>336|70=>166|76=>382|77=>298|n=>n,λ|n=>n⟩
def Tryz.sortOb:Go.Proofs.SlLaysF0.n6 Tryz.prog Tryz.sortOb_ren:={mixed:=by kernel_rfl,f6:=⟨Tryz.f51.name,by decide,cB Tryz.func51 (by kernel_rfl)⟩,f14:=⟨Tryz.f107.name,by decide,cB Tryz.func107 (by kernel_rfl)⟩,f15:=cB Tryz.func108 (by kernel_rfl),f20:=⟨Tryz.f182.name,by decide,cB Tryz.func182 (by kernel_rfl)⟩,f21:=⟨Tryz.f183.name,by decide,cB Tryz.func183 (by kernel_rfl)⟩,f22:=⟨Tryz.f184.name,by decide,cB Tryz.func184 (by kernel_rfl)⟩,f23:=⟨Tryz.f185.name,by decide,cB Tryz.func185 (by kernel_rfl)⟩,f24:=⟨Tryz.f186.name,by decide,cB Tryz.func186 (by kernel_rfl)⟩,f25:=⟨Tryz.f187.name,by decide,cB Tryz.func187 (by kernel_rfl)⟩,f26:=⟨Tryz.f188.name,by decide,cB Tryz.func188 (by kernel_rfl)⟩,f27:=⟨Tryz.f189.name,by decide,cB Tryz.func189 (by kernel_rfl)⟩,f28:=cB Tryz.func190 (by kernel_rfl),f29:=cB Tryz.func191 (by kernel_rfl),f46:=⟨Tryz.f253.name,by decide,cB Tryz.func253 (by kernel_rfl)⟩,f47:=cB Tryz.func254 (by kernel_rfl),f48:=cB Tryz.func255 (by kernel_rfl),f49:=⟨Tryz.f256.name,by decide,cB Tryz.func256 (by kernel_rfl)⟩,f50:=⟨Tryz.f257.name,by decide,cB Tryz.func257 (by kernel_rfl)⟩,f57:=⟨Tryz.f311.name,by decide,cB Tryz.func311 (by kernel_rfl)⟩,t0:=Tryz.underlying0,a0:=Tryz.isAgg0,z0:=Tryz.sizeOf0,v0:=Tryz.zeroValue0,t3:=Tryz.underlying3,a3:=Tryz.isAgg3,z3:=Tryz.sizeOf3,v3:=Tryz.zeroValue3,t4:=Tryz.underlying4,a4:=Tryz.isAgg4,z4:=Tryz.sizeOf4,v4:=Tryz.zeroValue4,t5:=Tryz.underlying5,a5:=Tryz.isAgg5,z5:=Tryz.sizeOf5,v5:=Tryz.zeroValue5,t9:=Tryz.underlying9,a9:=Tryz.isAgg9,z9:=Tryz.sizeOf9,v9:=Tryz.zeroValue9,t22:=Tryz.underlying121,a22:=Tryz.isAgg121,z22:=Tryz.sizeOf121,v22:=Tryz.zeroValue121,t25:=Tryz.underlying123,a25:=Tryz.isAgg123,z25:=Tryz.sizeOf123,v25:=Tryz.zeroValue123,t39:=Tryz.underlying205,a39:=Tryz.isAgg205,z39:=Tryz.sizeOf205,v39:=Tryz.zeroValue205,t45:=Tryz.underlying279,a45:=Tryz.isAgg279,z45:=Tryz.sizeOf279,v45:=Tryz.zeroValue279,t46:=Tryz.underlying280,a46:=Tryz.isAgg280,z46:=Tryz.sizeOf280,v46:=Tryz.zeroValue280,t50:=Tryz.underlying284,a50:=Tryz.isAgg284,z50:=Tryz.sizeOf284,v50:=Tryz.zeroValue284,t53:=Tryz.underlying287,a53:=Tryz.isAgg287,z53:=Tryz.sizeOf287,v53:=Tryz.zeroValue287,t55:=Tryz.underlying289,a55:=Tryz.isAgg289,z55:=Tryz.sizeOf289,v55:=Tryz.zeroValue289,t66:=Tryz.underlying336,a66:=Tryz.isAgg336,z66:=Tryz.sizeOf336,v66:=Tryz.zeroValue336,t70:=Tryz.underlying166,a70:=Tryz.isAgg166,z70:=Tryz.sizeOf166,v70:=Tryz.zeroValue166,t76:=Tryz.underlying382,a76:=Tryz.isAgg382,z76:=Tryz.sizeOf382,v76:=Tryz.zeroValue382,t77:=Tryz.underlying298,a77:=Tryz.isAgg298,z77:=Tryz.sizeOf298,v77:=Tryz.zeroValue298}
def Tryz.sortBr_ren:Go.Shelf.Ren:=⟨λ|6=>243|15=>108|14=>300|28=>190|29=>191|20=>345|21=>346|22=>347|23=>348|24=>349|25=>350|26=>351|27=>352|46=>368|47=>254|48=>255|49=>369|50=>370|57=>377|n=>n,λ|22=>196|24=>200|25=>274|3=>3|39=>205|0=>0|53=>287|55=>289|4=>4|46=>280|45=>279|50=>284|5=>5|9=>9|66=>336|70=>166|76=>382|77=>298|n=>n,λ|n=>n⟩
def Tryz.sortBr:Go.Proofs.SlLaysF0.n6 Tryz.prog Tryz.sortBr_ren:={mixed:=by kernel_rfl,f6:=⟨Tryz.f243.name,by decide,cB Tryz.func243 (by kernel_rfl)⟩,f14:=⟨Tryz.f300.name,by decide,cB Tryz.func300 (by kernel_rfl)⟩,f15:=cB Tryz.func108 (by kernel_rfl),f20:=⟨Tryz.f345.name,by decide,cB Tryz.func345 (by kernel_rfl)⟩,f21:=⟨Tryz.f346.name,by decide,cB Tryz.func346 (by kernel_rfl)⟩,f22:=⟨Tryz.f347.name,by decide,cB Tryz.func347 (by kernel_rfl)⟩,f23:=⟨Tryz.f348.name,by decide,cB Tryz.func348 (by kernel_rfl)⟩,f24:=⟨Tryz.f349.name,by decide,cB Tryz.func349 (by kernel_rfl)⟩,f25:=⟨Tryz.f350.name,by decide,cB Tryz.func350 (by kernel_rfl)⟩,f26:=⟨Tryz.f351.name,by decide,cB Tryz.func351 (by kernel_rfl)⟩,f27:=⟨Tryz.f352.name,by decide,cB Tryz.func352 (by kernel_rfl)⟩,f28:=cB Tryz.func190 (by kernel_rfl),f29:=cB Tryz.func191 (by kernel_rfl),f46:=⟨Tryz.f368.name,by decide,cB Tryz.func368 (by kernel_rfl)⟩,f47:=cB Tryz.func254 (by kernel_rfl),f48:=cB Tryz.func255 (by kernel_rfl),f49:=⟨Tryz.f369.name,by decide,cB Tryz.func369 (by kernel_rfl)⟩,f50:=⟨Tryz.f370.name,by decide,cB Tryz.func370 (by kernel_rfl)⟩,f57:=⟨Tryz.f377.name,by decide,cB Tryz.func377 (by kernel_rfl)⟩,t0:=Tryz.underlying0,a0:=Tryz.isAgg0,z0:=Tryz.sizeOf0,v0:=Tryz.zeroValue0,t3:=Tryz.underlying3,a3:=Tryz.isAgg3,z3:=Tryz.sizeOf3,v3:=Tryz.zeroValue3,t4:=Tryz.underlying4,a4:=Tryz.isAgg4,z4:=Tryz.sizeOf4,v4:=Tryz.zeroValue4,t5:=Tryz.underlying5,a5:=Tryz.isAgg5,z5:=Tryz.sizeOf5,v5:=Tryz.zeroValue5,t9:=Tryz.underlying9,a9:=Tryz.isAgg9,z9:=Tryz.sizeOf9,v9:=Tryz.zeroValue9,t22:=Tryz.underlying196,a22:=Tryz.isAgg196,z22:=Tryz.sizeOf196,v22:=Tryz.zeroValue196,t25:=Tryz.underlying274,a25:=Tryz.isAgg274,z25:=Tryz.sizeOf274,v25:=Tryz.zeroValue274,t39:=Tryz.underlying205,a39:=Tryz.isAgg205,z39:=Tryz.sizeOf205,v39:=Tryz.zeroValue205,t45:=Tryz.underlying279,a45:=Tryz.isAgg279,z45:=Tryz.sizeOf279,v45:=Tryz.zeroValue279,t46:=Tryz.underlying280,a46:=Tryz.isAgg280,z46:=Tryz.sizeOf280,v46:=Tryz.zeroValue280,t50:=Tryz.underlying284,a50:=Tryz.isAgg284,z50:=Tryz.sizeOf284,v50:=Tryz.zeroValue284,t53:=Tryz.underlying287,a53:=Tryz.isAgg287,z53:=Tryz.sizeOf287,v53:=Tryz.zeroValue287,t55:=Tryz.underlying289,a55:=Tryz.isAgg289,z55:=Tryz.sizeOf289,v55:=Tryz.zeroValue289,t66:=Tryz.underlying336,a66:=Tryz.isAgg336,z66:=Tryz.sizeOf336,v66:=Tryz.zeroValue336,t70:=Tryz.underlying166,a70:=Tryz.isAgg166,z70:=Tryz.sizeOf166,v70:=Tryz.zeroValue166,t76:=Tryz.underlying382,a76:=Tryz.isAgg382,z76:=Tryz.sizeOf382,v76:=Tryz.zeroValue382,t77:=Tryz.underlying298,a77:=Tryz.isAgg298,z77:=Tryz.sizeOf298,v77:=Tryz.zeroValue298}
def as2(a:Int):jW [a]=a:=by
 simp only[jW];split<;>omega
def as3(b:Nat)(size:Nat)(w:World):CmpLays Tryz.prog 224 #[] (gE 14) 14 (tI [0]) b 0 size w:=λm os Z X x y=>by
 have h:=asQ (x.getD 0 0) (x.getD 1 0) (x.getD 2 0) (x.getD 3 0) (x.getD 4 0) (x.getD 5 0) (x.getD 6 0) (x.getD 7 0) (x.getD 8 0) (x.getD 9 0) (x.getD 10 0) (x.getD 11 0) (x.getD 12 0) (x.getD 13 0) (y.getD 0 0) (y.getD 1 0) (y.getD 2 0) (y.getD 3 0) (y.getD 4 0) (y.getD 5 0) (y.getD 6 0) (y.getD 7 0) (y.getD 8 0) (y.getD 9 0) (y.getD 10 0) (y.getD 11 0) (y.getD 12 0) (y.getD 13 0) (sortWorldK (gE 14) 14 w b 0 m Z os);have e:tI [0] x y=Lib.compareInt (x.getD 0 0) (y.getD 0 0):=as2 _;rw[e];exact h
def as4(b:Nat)(size:Nat)(w:World):CmpLays Tryz.prog 178 #[] (gE 2) 2 (tI [1,0]) b 0 size w:=λm os Z X x y=>
 asS (x.getD 0 0) (x.getD 1 0) (y.getD 0 0) (y.getD 1 0) (sortWorldK (gE 2) 2 w b 0 m Z os)
def as5(b:Nat)(size:Nat)(w:World):CmpLays Tryz.prog 52 #[] (gE 3) 3 (tI [0,1,2]) b 0 size w:=λm os Z X x y=>
 w52 (x.getD 0 0) (x.getD 1 0) (x.getD 2 0) (y.getD 0 0) (y.getD 1 0) (y.getD 2 0) (sortWorldK (gE 3) 3 w b 0 m Z os)
def aaM(k:Nat)(x:List Int):(gE k x).length=k:=by simp[gE]
def aaN(k:Nat)(x:List Int):∀v∈gE k x,v.oneCell'=true:=by
 intro v Z;simp only[gE,aw7] at Z;obtain⟨i,_,rfl⟩:=Z;rfl
def as6:lJ Tryz.prog (look TT) 223 224 90 (.lex [0] false) false:=by
 have Z:∀c∈[0],c<14:=by simp
 refine aaL (k:=14) (by kernel_rfl) (by kernel_rfl) Z (λp cap X W=> ?_) (λb cap d W V U R=> ?_);have h:=AnyF.slices_SortFunc_none Tryz.sortSg p cap X W;exact h;have h:=AnyQ.slices_SortFunc Tryz.sortSg 14 Tryz.isAgg90 Tryz.sizeOf90 (gE 14) (aaM 14) (aaN 14) (tI [0]) (aaJ Z) 224 #[] b 0 cap d W (enters_of Tryz.func224 (by kernel_rfl) rfl) (as3 b d.size W) V U R;exact h
def as7:lJ Tryz.prog (look TT) 51 52 118 (.lex [0,1,2] false) false:=by
 have Z:∀c∈[0,1,2],c<3:=by simp
 refine aaL (k:=3) (by kernel_rfl) (by kernel_rfl) Z (λp cap X W=> ?_) (λb cap d W V U R=> ?_);have h:=AnyF.slices_SortFunc_none Tryz.sortOb p cap X W;exact h;have h:=AnyQ.slices_SortFunc Tryz.sortOb 3 Tryz.isAgg118 Tryz.sizeOf118 (gE 3) (aaM 3) (aaN 3) (tI [0,1,2]) (aaJ Z) 52 #[] b 0 cap d W (enters_of Tryz.func52 (by kernel_rfl) rfl) (as5 b d.size W) V U R;exact h
def as8:lJ Tryz.prog (look TT) 243 178 200 (.lex [1,0] false) false:=by
 have Z:∀c∈[1,0],c<2:=by simp
 refine aaL (k:=2) (by kernel_rfl) (by kernel_rfl) Z (λp cap X W=> ?_) (λb cap d W V U R=> ?_);have h:=AnyF.slices_SortFunc_none Tryz.sortBr p cap X W;exact h;have h:=AnyQ.slices_SortFunc Tryz.sortBr 2 Tryz.isAgg200 Tryz.sizeOf200 (gE 2) (aaM 2) (aaN 2) (tI [1,0]) (aaJ Z) 178 #[] b 0 cap d W (enters_of Tryz.func178 (by kernel_rfl) rfl) (as4 b d.size W) V U R;exact h
def Iu:rE qa:=by
 intro x Z;simp only[qa,awP,ayA,or_false] at Z;rcases Z with rfl|rfl|rfl|rfl|rfl;exact as7;exact asL;exact as6;exact as8;exact asP
end
end
end Go.Proofs.YtieaiocljdpebaaGreatDoor.Y
