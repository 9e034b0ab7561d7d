/- Part 16 of the proof; the last part says what is shown. -/
import Derived.Test.YtieaiocljdpebaaGreatDoorQ15
import Derived.Test.YtieaiocljdpebaaGreatDoorQ13
import Derived.Test.YtieaiocljdpebaaGreatDoorQ7
import Derived.Shelf.SlSortCmp.WholeK
import Derived.Shelf.SlSortCmp.NoneTotal
import Derived.Shelf.SlicesG.Cmp
import Derived.Deep.RegionHeld3
import Derived.Deep.DrawnRows
set_option linter.all false
open Bool renaming and_eq_true->ayz,false_eq_true->ayV,or_eq_true->ay2
open List renaming getElem?_eq_some_iff->ayA,getElem?_eq_getElem->ayB,getD_eq_getElem?_getD->ayC,getElem?_map->ayF,replicate->ayJ,mem_cons->ayK,all_eq_true->ayM,map_cons->ayO,range->ayQ,mem_of_getElem?->ayW,getElem?_eq_none->ayX,pairwise_cons->ayY,map_congr_left->ayZ,mem_map->ay1,ext_getElem?->ay3,eq_nil_of_length_eq_zero->ay4,getElem?_take->ay7,getElem?_set_ne->azc,length_map->azg,getElem?_of_mem->azh,map_map->azo,mem_cons_of_mem->azG,getElem?_set_self->azI,getElem_mem->azR,mem_cons_self->az9,length_singleton->aAg,pairwise_iff_getElem->aAp,not_mem_nil->aAs,mem_singleton->aAz,flatMap_cons->aAG,all_map->aAH,length->aAM,pairwise_map->aBt,map_set->aBA,length_set->aBH
open Option.some renaming injEq->ayE,inj->azd
open Nat renaming le_refl->ayH,eq_zero_or_pos->azO,zero_le->aAq,mul_comm->aAV,lt_of_le_of_ne->aAX,mod_lt->aAY,div_lt_of_lt_mul->aA9,div_add_mod->aBa,not_lt_zero->aBJ,mul_one->aCj
open Option renaming map_eq_some_iff->azC
open Array renaming getElem?_eq_some_iff->ay0,length_toList->azL,getElem?_modify->az7,getElem?_setIfInBounds_ne->aAa,getElem?_toList->aAh,getElem?_setIfInBounds_self_of_lt->aAL,getElem?_append_left->aBp,getElem_toList->aB1,extract_size->aCg
open List.Pairwise renaming nil->azu
namespace Go.Proofs.YtieaiocljdpebaaGreatDoor.Y
open Go.RowKit
noncomputable section
variable{M:aa}{U:aU}{W:List (List RV)}{V:List RV}
section
set_option maxRecDepth 100000
def amw{Z:List IE}{ar:List (List RV)}(h:gO M (.bN (0+3) U Z) false W=some ar):False:=by
 have h:ln 3 U (Z.map (IE.den M)) W=some ar:=h;obtain⟨_,h⟩:=vZ h;obtain⟨a,b,c,X⟩:=xD (Eu (by omega) h);rw[X] at h;have e:jB 3 U [a,b,c] W=if decide (0<=a)&&decide (a<b)&&decide (b<c)&&decide (c<=W.length)&&decide (c-a<((0:Nat):Int))&&W.all U.ok&&sk U.lt (aK W a.toNat b.toNat)&&sk U.lt (aK W b.toNat c.toNat) then some (W.take a.toNat++(bp U.lt (aK W a.toNat c.toNat)++W.drop c.toNat)) else none:=rfl;rw[e] at h;split at h;rename_i V;simp only[ayz,decide_eq_true_eq] at V;omega;cases h
def amx(o:aU):∀l,sj o.lt (db l)=sj o.lt l
 |[]=>rfl
 |x::r=>by
  have Z:=amx o r;simp only[db,ayO,sj,aAH] at Z⊢;rw[Z];congr 2;funext y;simp only[Function.comp,abQ]
def abZ{Z:Bool}{ar:List (List RV)}(h:fh U Z W=some ar):fh U Z (db W)=some (db ar):=by
 cases U with
 |bN k U V=>simp[fh] at h
 |_=>
  simp only[fh] at h⊢;rw[vu,amc,amx,ama];split at h;rename_i X;rw[if_pos X];cases h;rfl;cases h
def KA:List Bool:=[true,true,true,true,true,true,true,true,true,true,true,true,true,true]
def Iy(r:RE)(i:IE):List SV:=[.int .i64 (.cell r i 0),.int .i64 (.cell r i 1),.int .i64 (.cell r i 2),.int .i64 (.cell r i 3),.int .i64 (.cell r i 4),.int .i64 (.cell r i 5),.int .i64 (.cell r i 6),.int .i64 (.cell r i 7),.int .i64 (.cell r i 8),.int .i64 (.cell r i 9),.int .i64 (.cell r i 10),.int .i64 (.cell r i 11),.int .i64 (.cell r i 12),.int .i64 (.cell r i 13)]
def TE(h:fH KA V):∃Z X W U R Q P O N M L J I H,V=[.mk (.int .i64 Z) [],.mk (.int .i64 X) [],.mk (.int .i64 W) [],.mk (.int .i64 U) [],.mk (.int .i64 R) [],.mk (.int .i64 Q) [],.mk (.int .i64 P) [],.mk (.int .i64 O) [],.mk (.int .i64 N) [],.mk (.int .i64 M) [],.mk (.int .i64 L) [],.mk (.int .i64 J) [],.mk (.int .i64 I) [],.mk (.int .i64 H) []]:=by
 rcases V with _|⟨r,V⟩;exact h.elim;obtain⟨⟨Z,G⟩,h⟩:=h;subst G;rcases V with _|⟨q,V⟩;exact h.elim;obtain⟨⟨X,F⟩,h⟩:=h;subst F;rcases V with _|⟨p,V⟩;exact h.elim;obtain⟨⟨W,E⟩,h⟩:=h;subst E;rcases V with _|⟨o,V⟩;exact h.elim;obtain⟨⟨U,D⟩,h⟩:=h;subst D;rcases V with _|⟨n,V⟩;exact h.elim;obtain⟨⟨R,C⟩,h⟩:=h;subst C;rcases V with _|⟨m,V⟩;exact h.elim;obtain⟨⟨Q,B⟩,h⟩:=h;subst B;rcases V with _|⟨l,V⟩;exact h.elim;obtain⟨⟨P,A⟩,h⟩:=h;subst A;rcases V with _|⟨k,V⟩;exact h.elim;obtain⟨⟨O,z⟩,h⟩:=h;subst z;rcases V with _|⟨j,V⟩;exact h.elim;obtain⟨⟨N,y⟩,h⟩:=h;subst y;rcases V with _|⟨i,V⟩;exact h.elim;obtain⟨⟨M,w⟩,h⟩:=h;subst w;rcases V with _|⟨g,V⟩;exact h.elim;obtain⟨⟨L,v⟩,h⟩:=h;subst v;rcases V with _|⟨f,V⟩;exact h.elim;obtain⟨⟨J,u⟩,h⟩:=h;subst u;rcases V with _|⟨e,V⟩;exact h.elim;obtain⟨⟨I,t⟩,h⟩:=h;subst t;rcases V with _|⟨d,V⟩;exact h.elim;obtain⟨⟨H,s⟩,h⟩:=h;subst s;cases h;exact⟨Z,X,W,U,R,Q,P,O,N,M,L,J,I,H,rfl⟩
def ab0:zI KA Iy:=by
 refine⟨λO r i x Z X=> ?_,λO r i x Z X y V=> ?_⟩;obtain⟨W,U,R,Q,P,N,M,L,J,I,H,G,F,E,rfl⟩:=TE X;simp[Iy,SV.bu,IE.den,cellAt,ayC,Z,bc];obtain⟨W,U,R,Q,P,N,M,L,J,I,H,G,F,E,rfl⟩:=TE X;have e:∀(q:RE),q.rv (O.at y)=q.rv O:=λq=>RE.jp O y q
 have D:∀(q:IE),q.den (O.at y)=q.den O:=λq=>IE.cO O y q
 simp[Iy,SV.au,SV.den,IE.den,cellAt,ayC,e,D,Z,bc]
def KB:List Bool:=[true,true,true,false,true]
def Iz(r:RE)(i:IE):List SV:=[.int .i64 (.cell r i 0),.int .i64 (.cell r i 1),.int .i64 (.cell r i 2),.bool (.cell r i 3),.int .i64 (.cell r i 4)]
def TF(h:fH KB V):∃Z X W U R,V=[.mk (.int .i64 Z) [],.mk (.int .i64 X) [],.mk (.int .i64 W) [],.mk (.bool U) [],.mk (.int .i64 R) []]:=by
 rcases V with _|⟨L,V⟩;exact h.elim;obtain⟨⟨Z,Q⟩,h⟩:=h;subst Q;rcases V with _|⟨J,V⟩;exact h.elim;obtain⟨⟨X,P⟩,h⟩:=h;subst P;rcases V with _|⟨I,V⟩;exact h.elim;obtain⟨⟨W,O⟩,h⟩:=h;subst O;rcases V with _|⟨H,V⟩;exact h.elim;obtain⟨⟨U,N⟩,h⟩:=h;subst N;rcases V with _|⟨G,V⟩;exact h.elim;obtain⟨⟨R,M⟩,h⟩:=h;subst M;cases h;exact⟨Z,X,W,U,R,rfl⟩
def ab1:zI KB Iz:=by
 refine⟨λO r i x Z X=> ?_,λO r i x Z X y V=> ?_⟩;obtain⟨W,U,R,Q,P,rfl⟩:=TF X;simp[Iz,SV.bu,IE.den,BE.den,cellAt,ayC,Z,bc,gv];obtain⟨W,U,R,Q,P,rfl⟩:=TF X;have e:∀(q:RE),q.rv (O.at y)=q.rv O:=λq=>RE.jp O y q
 have N:∀(q:IE),q.den (O.at y)=q.den O:=λq=>IE.cO O y q
 simp[Iz,SV.au,SV.den,IE.den,BE.den,cellAt,ayC,e,N,Z,bc,gv]
def amy{p:Sp}{L:List LC}{X:aX}{U:List RK}{Z:IE}(h:∀W,dI p.S0 p.w0 W->p.R (.returned (.int .i64 (Z.den M))) W):(T.ret (.int .i64 Z) X U).aH p M L:=by
 intro y V W R;have:=h W R.base;simpa[SV.den,IE.cO] using this
def Ol(P:Program)(U:Ty)(X:World)(W:List Int)(V:List Bool):ap [] X bz.none U [] ⟨W,V,[],[]⟩ {(⟨[],[],W.length,V.length,[],0,0,[]⟩:S) with tmps:=[]} ⟨#[],[]⟩ X:=
 ⟨⟨dI.refl _ _,λi h=>by simp[aE,bD] at h,λi j h=>by simp[aE,bD] at h,λi t N h=>by simp[bD] at h,λq R Q Z O=>by simp at Z⟩,rfl,rfl,rfl,rfl,Oj _ _,rfl,λt M h=>by simp at h,λq R Q b Z O L=>by simp at Z⟩
def ab2(P:Program)(o:aU)(W:World)(x y:List RV):Ending->World->Prop:=λZ X=>Below W.heap.size W X/\∃c:Int,Z=.returned (.int .i64 c)/\(c<0<->o.lt x y=true)
def amz{g:FuncId}{Z:Func}{c:Code}{n:Nat}{args:List SV}{t:T}(N:Tryz.prog.funcs[g]?=some Z)(M:Z.body=some c){y:List RV}(X:List Int)(Q:List Bool)
  (L:I5 (lY Tryz.prog TT SG [] [] [] [] false []) n g c Z.ntmps Z.results.toList args ⟨[],[],X.length,Q.length,[],0,0,[]⟩=t)(W:World)(J:(SV.au ⟨X,Q,[],[]⟩ [] args).toArray= #[.agg (V.map RV.val).toArray,.agg (y.map RV.val).toArray])
  (I:∀p:Sp,p.P=Tryz.prog->p.S0=[]->p.w0=W->p.R=ab2 Tryz.prog U W V y->t.aH p ⟨X,Q,[],[]⟩ []):Calls Tryz.prog g #[.agg (V.map RV.val).toArray,.agg (y.map RV.val).toArray] W (ab2 Tryz.prog U W V y):=by
 let p:Sp:=⟨Tryz.prog,look TT,[],W,bz.none,ab2 Tryz.prog U W V y,λ_ _ _=>False⟩;have H:iW p (lY Tryz.prog TT SG [] [] [] [] false []):=N8 Ir Ta rfl Tb (λF E b ob _ h=>by obtain⟨_,c,G,_⟩:=h;cases G) (λV O=>by cases O);rw[<-J];exact afB (p:=p) H N M L (I p rfl rfl rfl rfl) (λV O=>by simp[lY] at O) (Ol Tryz.prog _ W X Q)
def amA(x y:Int):xj x y<0<->x<y:=by
 unfold xj;split;omega;split<;>omega
def auO:T:=(.call 142 [(.agg [(.int .i64 (.v 10)),(.int .i64 (.v 11))]),(.agg [(.int .i64 (.v 24)),(.int .i64 (.v 25))])] [] [] [.int .i64,.int .i64] (.bh [(.int .i64 (.v 28)),(.int .i64 (.v 29))])
 (.ret (.int .i64 (.v 28)) [] []))
def auP:T:=(.call 110 [(.int .i64 (.v 7)),(.int .i64 (.v 3))] [] [] [.int .i64] (.int .i64 (.v 8))
 (.ret (.int .i64 (.v 8)) [] []))
def Mk:Et Tryz.prog KA 141 (.ratio 10 11):=by
 intro W x y O N M L;obtain⟨J,I,H,G,F,E,D,C,B,A,Z,X,z,w,rfl⟩:=TE O;obtain⟨u,s,r,q,o,m,l,k,j,h,U,Q,g,f,rfl⟩:=TE N;refine amz (t:=auO) (n:=100) (args:=[(.agg [(.int .i64 (.v 0)),(.int .i64 (.v 1)),(.int .i64 (.v 2)),(.int .i64 (.v 3)),(.int .i64 (.v 4)),(.int .i64 (.v 5)),(.int .i64 (.v 6)),(.int .i64 (.v 7)),(.int .i64 (.v 8)),(.int .i64 (.v 9)),(.int .i64 (.v 10)),(.int .i64 (.v 11)),(.int .i64 (.v 12)),(.int .i64 (.v 13))]),(.agg [(.int .i64 (.v 14)),(.int .i64 (.v 15)),(.int .i64 (.v 16)),(.int .i64 (.v 17)),(.int .i64 (.v 18)),(.int .i64 (.v 19)),(.int .i64 (.v 20)),(.int .i64 (.v 21)),(.int .i64 (.v 22)),(.int .i64 (.v 23)),(.int .i64 (.v 24)),(.int .i64 (.v 25)),(.int .i64 (.v 26)),(.int .i64 (.v 27))])]) rfl rfl [J,I,H,G,F,E,D,C,B,A,Z,X,z,w,u,s,r,q,o,m,l,k,j,h,U,Q,g,f] [] (by kernel_rfl) W rfl ?_;rintro p e d c b;have a:iG Z X=true:=M;have h2:iG U Q=true:=L;intro yy V W' R;rw[e];refine(aui a h2 W').mono ?_;rintro en W2 ⟨rfl,hB⟩;refine⟨[.i (xj (Z*Q) (U*X)),.i 0],⟨trivial,trivial,trivial⟩,rfl,hB,⟨trivial,trivial,trivial⟩,amy λW3 P=> ?_⟩;rw[d,c] at P;rw[b];refine⟨JS P,_,rfl, ?_⟩;simp[IE.den,aa.ext,aa.add,aU.lt,aD,bc,amA]
def Ml:Et Tryz.prog KB 323 (.lex [4] true):=by
 intro W x y Q P z w;obtain⟨O,N,M,L,Z,rfl⟩:=TF Q;obtain⟨J,I,H,G,X,rfl⟩:=TF P;refine amz (t:=auP) (n:=100) (args:=[(.agg [(.int .i64 (.v 0)),(.int .i64 (.v 1)),(.int .i64 (.v 2)),(.bool (.v 0)),(.int .i64 (.v 3))]),(.agg [(.int .i64 (.v 4)),(.int .i64 (.v 5)),(.int .i64 (.v 6)),(.bool (.v 1)),(.int .i64 (.v 7))])]) rfl rfl [O,N,M,Z,J,I,H,X] [L,G] (by kernel_rfl) W rfl ?_;rintro p F E D C;intro u V B R;rw[F];refine(auj X Z B).mono ?_;rintro s r ⟨rfl,A⟩;refine⟨[.i (xj X Z)],⟨trivial,trivial⟩,rfl,A,⟨trivial,trivial⟩,amy λq U=> ?_⟩;rw[E,D] at U;rw[C];refine⟨JS U,_,rfl, ?_⟩;simp[IE.den,aa.ext,aa.add,aU.lt,fZ,aD,bc,amA];omega
def auQ:lW Tryz.prog (look TT) 358 141 90 (.bN 0 (.ratio 10 11) []) false:=
 B6 (K:=KA) (n:=100) (args:=[(.ref (.v 0)),(.int .i64 (.v 0)),(.int .i64 (.v 1)),(.int .i64 (.v 2)),(.fn 141 [])]) (loops:=[(358,1,⟨[(0,.ref (.own 90)),(10,.int .i64)],[]⟩)]) (srts:=[]) (chs:=[(358,3)]) (t:=Tp 90 Iy) rfl rfl rfl (by kernel_rfl) (λx Z=>by cases Z) (by kernel_rfl) Mk (by kernel_rfl) (aml ab0) (λX W h=>by obtain⟨a,b,c,rfl⟩:=xD h;rfl) (λX V ar h=>Eu (by omega) h)
def auR:lW Tryz.prog (look TT) 320 141 90 (.bN 1 (.ratio 10 11) []) false:=
 B6 (K:=KA) (n:=100) (args:=[(.ref (.v 0)),(.int .i64 (.v 0)),(.int .i64 (.v 1)),(.int .i64 (.v 2)),(.fn 141 [])]) (loops:=[(320,2,⟨[(0,.ref (.own 90)),(10,.int .i64),(11,.int .i64)],[]⟩)]) (srts:=[(358,141,90,.bN 0 (.ratio 10 11) [],false)]) (chs:=[]) (t:=Tq 90 141 358 (.ratio 10 11)) rfl rfl rfl (by kernel_rfl) (λx Z=>by simp only[aAz] at Z;subst Z;exact jm.of (auQ) (by dsimp only;decide)) (by kernel_rfl) Mk (by kernel_rfl) (amn) (λX W h=>by obtain⟨a,b,c,rfl⟩:=xD h;rfl) (λX V ar h=>Eu (by omega) h)
def auS:lW Tryz.prog (look TT) 273 141 90 (.bN 2 (.ratio 10 11) []) false:=
 B6 (K:=KA) (n:=100) (args:=[(.ref (.v 0)),(.int .i64 (.v 0)),(.int .i64 (.v 1)),(.fn 141 [])]) (loops:=[(273,1,⟨[(0,.ref (.own 90)),(8,.int .i64)],[]⟩),(273,4,⟨[(0,.ref (.own 90)),(9,.int .i64)],[]⟩)]) (srts:=[]) (chs:=[(273,6)]) (t:=Ts 90 141 Iy) rfl rfl rfl (by kernel_rfl) (λx Z=>by cases Z) (by kernel_rfl) Mk (by kernel_rfl) (amq ab0 (abO 10 11)) (λX W h=>by obtain⟨a,b,rfl⟩:=two h;rfl) (λX V ar h=>amj h)
def amB:∀N:Nat,lW Tryz.prog (look TT) 274 141 90 (.bN (N+3) (.ratio 10 11) []) false
 |0=>⟨sw (by kernel_rfl),λW A n Q U ar O Z P X M L R=>by
  simp only[aU.fill,ayE] at X;subst X;exact(amw R).elim⟩
 |N+1=>B6 (K:=KA) (n:=100) (args:=[(.ref (.v 0)),(.int .i64 (.v 0)),(.int .i64 (.v 1)),(.int .i64 (.v 2)),(.fn 141 [])]) (loops:=[(274,3,⟨[(0,.ref (.own 90)),(10,.int .i64),(11,.int .i64)],[]⟩),(274,9,⟨[(0,.ref (.own 90)),(13,.int .i64)],[]⟩),(274,15,⟨[(0,.ref (.own 90)),(14,.int .i64),(15,.int .i64)],[]⟩),(274,21,⟨[(0,.ref (.own 90)),(17,.int .i64)],[]⟩),(274,33,⟨[(0,.ref (.own 90)),(20,.int .i64),(21,.int .i64)],[]⟩)]) (srts:=[(320,141,90,.bN 1 (.ratio 10 11) [],false),(274,141,90,.bN (N+3) (.ratio 10 11) [],false)]) (chs:=[(274,11),(274,23)]) (t:=Tu 90 141 320 274 N (.ratio 10 11) Iy) rfl rfl rfl (by kernel_rfl) (λx V=>by
   simp only[ayK,aAs,or_false] at V;rcases V with rfl|rfl;exact jm.of (auR) (by dsimp only;decide);exact jm.of (amB N) (by dsimp only;decide)) (by kernel_rfl) Mk (by kernel_rfl) (amt ab0 (abO 10 11)) (λZ J h=>by obtain⟨a,b,c,rfl⟩:=xD h;rfl) (λZ U ar h=>Eu (by omega) h)
def auT:lW Tryz.prog (look TT) 140 141 90 (.ratio 10 11) true:=by
 refine⟨sw (by kernel_rfl),λW A n I X ar O Z H U M L R=> ?_⟩;cases Z with
 |cons _ _=>simp[aU.fill] at U
 |nil=>
  simp only[aU.fill,ayE] at U;subst U;have R:fh (.ratio 10 11) true X=some ar:=R;refine abR (K:=KA) (o:=(.ratio 10 11)) (N:=0) (n:=100) (inl:=[209]) (args:=[(.ref (.v 0)),(.fn 141 [])]) (loops:=[(209,2,⟨[(0,.ref (.own 90)),(8,.int .i64),(7,.int .i64)],[]⟩),(209,7,⟨[(0,.ref (.own 90)),(6,.int .i64)],[]⟩),(209,9,⟨[(0,.ref (.own 90)),(8,.int .i64),(7,.int .i64)],[]⟩)]) (srts:=[(273,141,90,.bN 2 (.ratio 10 11) [],false),(274,141,90,.bN (X.length+1+3) (.ratio 10 11) [],false)]) (chs:=[]) (F:=λZ V=>if Z=[]/\V.length<X.length+1 then fh (.ratio 10 11) true V else none) (t:=Tv 90 141 273 274 (X.length+1) (.ratio 10 11)) rfl rfl rfl (by kernel_rfl) (λx P=> ?_) (by kernel_rfl) Mk (by kernel_rfl) (amv (abO 10 11)) (λZ G h=> ?_) (λZ V J h=> ?_) (λZ V J h=> ?_) M L ?_;simp only[ayK,aAs,or_false] at P;rcases P with rfl|rfl;exact jm.of (auS) (by dsimp only;decide);exact jm.of (amB _) (by dsimp only;decide);have:Z=[]:=ay4 h;subst this;rfl;split at h;rename_i Q;rw[if_pos (by rw[vu];exact Q)];exact abZ h;cases h;split at h;rename_i Q;exact⟨by rw[Q.1];rfl,Vf h⟩;cases h;rw[if_pos ⟨rfl,by omega⟩];exact R
def auU:lW Tryz.prog (look TT) 379 323 393 (.bN 0 (.lex [4] true) []) false:=
 B6 (K:=KB) (n:=100) (args:=[(.ref (.v 0)),(.int .i64 (.v 0)),(.int .i64 (.v 1)),(.int .i64 (.v 2)),(.fn 323 [])]) (loops:=[(379,1,⟨[(0,.ref (.own 393)),(10,.int .i64)],[]⟩)]) (srts:=[]) (chs:=[(379,3)]) (t:=Tp 393 Iz) rfl rfl rfl (by kernel_rfl) (λx Z=>by cases Z) (by kernel_rfl) Ml (by kernel_rfl) (aml ab1) (λX W h=>by obtain⟨a,b,c,rfl⟩:=xD h;rfl) (λX V ar h=>Eu (by omega) h)
def auV:lW Tryz.prog (look TT) 378 323 393 (.bN 1 (.lex [4] true) []) false:=
 B6 (K:=KB) (n:=100) (args:=[(.ref (.v 0)),(.int .i64 (.v 0)),(.int .i64 (.v 1)),(.int .i64 (.v 2)),(.fn 323 [])]) (loops:=[(378,2,⟨[(0,.ref (.own 393)),(10,.int .i64),(11,.int .i64)],[]⟩)]) (srts:=[(379,323,393,.bN 0 (.lex [4] true) [],false)]) (chs:=[]) (t:=Tq 393 323 379 (.lex [4] true)) rfl rfl rfl (by kernel_rfl) (λx Z=>by simp only[aAz] at Z;subst Z;exact jm.of (auU) (by dsimp only;decide)) (by kernel_rfl) Ml (by kernel_rfl) (amn) (λX W h=>by obtain⟨a,b,c,rfl⟩:=xD h;rfl) (λX V ar h=>Eu (by omega) h)
def auW:lW Tryz.prog (look TT) 373 323 393 (.bN 2 (.lex [4] true) []) false:=
 B6 (K:=KB) (n:=100) (args:=[(.ref (.v 0)),(.int .i64 (.v 0)),(.int .i64 (.v 1)),(.fn 323 [])]) (loops:=[(373,1,⟨[(0,.ref (.own 393)),(8,.int .i64)],[]⟩),(373,4,⟨[(0,.ref (.own 393)),(9,.int .i64)],[]⟩)]) (srts:=[]) (chs:=[(373,6)]) (t:=Ts 393 323 Iz) rfl rfl rfl (by kernel_rfl) (λx Z=>by cases Z) (by kernel_rfl) Ml (by kernel_rfl) (amq ab1 (Tn [4] true)) (λX W h=>by obtain⟨a,b,rfl⟩:=two h;rfl) (λX V ar h=>amj h)
def amC:∀N:Nat,lW Tryz.prog (look TT) 374 323 393 (.bN (N+3) (.lex [4] true) []) false
 |0=>⟨sw (by kernel_rfl),λW A n Q U ar O Z P X M L R=>by
  simp only[aU.fill,ayE] at X;subst X;exact(amw R).elim⟩
 |N+1=>B6 (K:=KB) (n:=100) (args:=[(.ref (.v 0)),(.int .i64 (.v 0)),(.int .i64 (.v 1)),(.int .i64 (.v 2)),(.fn 323 [])]) (loops:=[(374,3,⟨[(0,.ref (.own 393)),(10,.int .i64),(11,.int .i64)],[]⟩),(374,9,⟨[(0,.ref (.own 393)),(13,.int .i64)],[]⟩),(374,15,⟨[(0,.ref (.own 393)),(14,.int .i64),(15,.int .i64)],[]⟩),(374,21,⟨[(0,.ref (.own 393)),(17,.int .i64)],[]⟩),(374,33,⟨[(0,.ref (.own 393)),(20,.int .i64),(21,.int .i64)],[]⟩)]) (srts:=[(378,323,393,.bN 1 (.lex [4] true) [],false),(374,323,393,.bN (N+3) (.lex [4] true) [],false)]) (chs:=[(374,11),(374,23)]) (t:=Tu 393 323 378 374 N (.lex [4] true) Iz) rfl rfl rfl (by kernel_rfl) (λx V=>by
   simp only[ayK,aAs,or_false] at V;rcases V with rfl|rfl;exact jm.of (auV) (by dsimp only;decide);exact jm.of (amC N) (by dsimp only;decide)) (by kernel_rfl) Ml (by kernel_rfl) (amt ab1 (Tn [4] true)) (λZ J h=>by obtain⟨a,b,c,rfl⟩:=xD h;rfl) (λZ U ar h=>Eu (by omega) h)
def auX:lW Tryz.prog (look TT) 322 323 393 (.lex [4] true) true:=by
 refine⟨sw (by kernel_rfl),λW A n I X ar O Z H U M L R=> ?_⟩;cases Z with
 |cons _ _=>simp[aU.fill] at U
 |nil=>
  simp only[aU.fill,ayE] at U;subst U;have R:fh (.lex [4] true) true X=some ar:=R;refine abR (K:=KB) (o:=(.lex [4] true)) (N:=0) (n:=100) (inl:=[360]) (args:=[(.ref (.v 0)),(.fn 323 [])]) (loops:=[(360,2,⟨[(0,.ref (.own 393)),(8,.int .i64),(7,.int .i64)],[]⟩),(360,7,⟨[(0,.ref (.own 393)),(6,.int .i64)],[]⟩),(360,9,⟨[(0,.ref (.own 393)),(8,.int .i64),(7,.int .i64)],[]⟩)]) (srts:=[(373,323,393,.bN 2 (.lex [4] true) [],false),(374,323,393,.bN (X.length+1+3) (.lex [4] true) [],false)]) (chs:=[]) (F:=λZ V=>if Z=[]/\V.length<X.length+1 then fh (.lex [4] true) true V else none) (t:=Tv 393 323 373 374 (X.length+1) (.lex [4] true)) rfl rfl rfl (by kernel_rfl) (λx P=> ?_) (by kernel_rfl) Ml (by kernel_rfl) (amv (Tn [4] true)) (λZ G h=> ?_) (λZ V J h=> ?_) (λZ V J h=> ?_) M L ?_;simp only[ayK,aAs,or_false] at P;rcases P with rfl|rfl;exact jm.of (auW) (by dsimp only;decide);exact jm.of (amC _) (by dsimp only;decide);have:Z=[]:=ay4 h;subst this;rfl;split at h;rename_i Q;rw[if_pos (by rw[vu];exact Q)];exact abZ h;cases h;split at h;rename_i Q;exact⟨by rw[Q.1];rfl,Vf h⟩;cases h;rw[if_pos ⟨rfl,by omega⟩];exact R
end
section
open Go.Shelf Go.RowKit Go.Lib Go.Sort
def cz{o:Option Func}{a b:Func}(h:o=some a)(e:a=b):o=some b:=h.trans (congrArg some e)
def Tryz.cmpInt_ren:Go.Shelf.Ren:=⟨λ|5=>110|7=>192|n=>n,λ|22=>3|3=>3|4=>4|n=>n,λ|n=>n⟩
def Tryz.cmpInt:Go.Proofs.SlLaysC2.n5 Tryz.prog Tryz.cmpInt_ren:={mixed:=by kernel_rfl,f5:=⟨Tryz.f110.name,by decide,cz Tryz.func110 (by kernel_rfl)⟩,f7:=⟨Tryz.f192.name,by decide,cz Tryz.func192 (by kernel_rfl)⟩,t3:=Tryz.underlying3,a3:=Tryz.isAgg3,z3:=Tryz.sizeOf3,v3:=Tryz.zeroValue3,t4:=Tryz.underlying4,a4:=Tryz.isAgg4,z4:=Tryz.sizeOf4,v4:=Tryz.zeroValue4,t22:=Tryz.underlying3,a22:=Tryz.isAgg3,z22:=Tryz.sizeOf3,v22:=Tryz.zeroValue3}
def Tryz.sortSg_ren:Go.Shelf.Ren:=⟨λ|6=>223|15=>108|14=>283|28=>190|29=>191|20=>273|21=>326|22=>327|23=>328|24=>329|25=>330|26=>331|27=>332|46=>362|47=>254|48=>255|49=>363|50=>364|57=>375|n=>n,λ|22=>30|24=>90|25=>234|3=>3|39=>205|0=>0|53=>287|55=>289|4=>4|46=>280|45=>279|50=>284|5=>5|9=>9|66=>336|70=>166|76=>382|77=>298|n=>n,λ|n=>n⟩
def Tryz.sortSg:Go.Proofs.SlLaysF0.n6 Tryz.prog Tryz.sortSg_ren:={mixed:=by kernel_rfl,f6:=⟨Tryz.f223.name,by decide,cz Tryz.func223 (by kernel_rfl)⟩,f14:=⟨Tryz.f283.name,by decide,cz Tryz.func283 (by kernel_rfl)⟩,f15:=cz Tryz.func108 (by kernel_rfl),f20:=⟨Tryz.f273.name,by decide,cz Tryz.func273 (by kernel_rfl)⟩,f21:=⟨Tryz.f326.name,by decide,cz Tryz.func326 (by kernel_rfl)⟩,f22:=⟨Tryz.f327.name,by decide,cz Tryz.func327 (by kernel_rfl)⟩,f23:=⟨Tryz.f328.name,by decide,cz Tryz.func328 (by kernel_rfl)⟩,f24:=⟨Tryz.f329.name,by decide,cz Tryz.func329 (by kernel_rfl)⟩,f25:=⟨Tryz.f330.name,by decide,cz Tryz.func330 (by kernel_rfl)⟩,f26:=⟨Tryz.f331.name,by decide,cz Tryz.func331 (by kernel_rfl)⟩,f27:=⟨Tryz.f332.name,by decide,cz Tryz.func332 (by kernel_rfl)⟩,f28:=cz Tryz.func190 (by kernel_rfl),f29:=cz Tryz.func191 (by kernel_rfl),f46:=⟨Tryz.f362.name,by decide,cz Tryz.func362 (by kernel_rfl)⟩,f47:=cz Tryz.func254 (by kernel_rfl),f48:=cz Tryz.func255 (by kernel_rfl),f49:=⟨Tryz.f363.name,by decide,cz Tryz.func363 (by kernel_rfl)⟩,f50:=⟨Tryz.f364.name,by decide,cz Tryz.func364 (by kernel_rfl)⟩,f57:=⟨Tryz.f375.name,by decide,cz Tryz.func375 (by kernel_rfl)⟩,t0:=Tryz.underlying0,a0:=Tryz.isAgg0,z0:=Tryz.sizeOf0,v0:=Tryz.zeroValue0,t3:=Tryz.underlying3,a3:=Tryz.isAgg3,z3:=Tryz.sizeOf3,v3:=Tryz.zeroValue3,t4:=Tryz.underlying4,a4:=Tryz.isAgg4,z4:=Tryz.sizeOf4,v4:=Tryz.zeroValue4,t5:=Tryz.underlying5,a5:=Tryz.isAgg5,z5:=Tryz.sizeOf5,v5:=Tryz.zeroValue5,t9:=Tryz.underlying9,a9:=Tryz.isAgg9,z9:=Tryz.sizeOf9,v9:=Tryz.zeroValue9,t22:=Tryz.underlying30,a22:=Tryz.isAgg30,z22:=Tryz.sizeOf30,v22:=Tryz.zeroValue30,t25:=Tryz.underlying234,a25:=Tryz.isAgg234,z25:=Tryz.sizeOf234,v25:=Tryz.zeroValue234,t39:=Tryz.underlying205,a39:=Tryz.isAgg205,z39:=Tryz.sizeOf205,v39:=Tryz.zeroValue205,t45:=Tryz.underlying279,a45:=Tryz.isAgg279,z45:=Tryz.sizeOf279,v45:=Tryz.zeroValue279,t46:=Tryz.underlying280,a46:=Tryz.isAgg280,z46:=Tryz.sizeOf280,v46:=Tryz.zeroValue280,t50:=Tryz.underlying284,a50:=Tryz.isAgg284,z50:=Tryz.sizeOf284,v50:=Tryz.zeroValue284,t53:=Tryz.underlying287,a53:=Tryz.isAgg287,z53:=Tryz.sizeOf287,v53:=Tryz.zeroValue287,t55:=Tryz.underlying289,a55:=Tryz.isAgg289,z55:=Tryz.sizeOf289,v55:=Tryz.zeroValue289,t66:=Tryz.underlying336,a66:=Tryz.isAgg336,z66:=Tryz.sizeOf336,v66:=Tryz.zeroValue336,t70:=Tryz.underlying166,a70:=Tryz.isAgg166,z70:=Tryz.sizeOf166,v70:=Tryz.zeroValue166,t76:=Tryz.underlying382,a76:=Tryz.isAgg382,z76:=Tryz.sizeOf382,v76:=Tryz.zeroValue382,t77:=Tryz.underlying298,a77:=Tryz.isAgg298,z77:=Tryz.sizeOf298,v77:=Tryz.zeroValue298}
set_option maxHeartbeats 1000000 in
def auY (Z R Q P O N M L J I H G F E X D C B A z y x w v u t s p:Int) (W:World):Calls Tryz.prog 224 #[.agg #[.int .i64 Z,.int .i64 R,.int .i64 Q,.int .i64 P,.int .i64 O,.int .i64 N,.int .i64 M,.int .i64 L,.int .i64 J,.int .i64 I,.int .i64 H,.int .i64 G,.int .i64 F,.int .i64 E],.agg #[.int .i64 X,.int .i64 D,.int .i64 C,.int .i64 B,.int .i64 A,.int .i64 z,.int .i64 y,.int .i64 x,.int .i64 w,.int .i64 v,.int .i64 u,.int .i64 t,.int .i64 s,.int .i64 p]] W λe w'=>e=.returned (.int .i64 (Lib.compareInt Z X))/\∃q o,w'=grow (W.drewN q) o:=by
 have V:=λU=>AnyG.cmp_Compare_int Tryz.cmpInt Z X U
 change∀U,Calls Tryz.prog 110 _ _ _ at V;generalize Lib.compareInt Z X=r at V⊢;go_enter Tryz.func224,Tryz.ntmps224
 go_wp2_with (go_at_call 110;refine(V _).mono ?_;rintro e w' ⟨rfl,rfl⟩)
 go_ret;exact⟨rfl,0,_,by rw[alloc_eq_grow,alloc_eq_grow,grow_grow];rfl⟩
end
section
attribute[local go_sem ↓] Go.wp_at_zero Go.wp_at_succ
open Go.Shelf Go.RowKit Go.Lib Go.Sort
def m6:Nat->Nat->List Nat->List Nat
 |0,_,g=>g
 |n+1,k,g=>if g.getD k 0=k then g else(m6 n (g.getD k 0) g).set k ((m6 n (g.getD k 0) g).getD (g.getD k 0) 0)
def amD{g:List Nat}:∀n k,(m6 n k g).length=g.length
 |0,_=>rfl
 |n+1,k=>by
  simp only[m6];split;rfl;simp[amD n]
def amE{g:List Nat}(Z:∀q,g.getD q 0<=q):∀n k q,k<q->(m6 n k g).getD q 0=g.getD q 0
 |0,_,_,_=>rfl
 |n+1,k,q,h=>by
  simp only[m6];split;rfl;have:=Z k;rw[ayC,azc (by omega),<-ayC];exact amE Z n _ q (by omega)
def InB(W:World)(b X:Nat)(g:List Nat):Prop:=∃Z,W.heap[b]?=some (.cells Z 3 (0,0))/\Z.size=X/\∀q,q<g.length->Z[q]?=some (.int .i64 ((g.getD q 0:Nat):Int))
set_option maxHeartbeats 2000000 in
set_option maxRecDepth 100000 in
def auZ (W:World) (Z X b n V k:Nat) (U:W.cell? ⟨Z,0,none⟩=some (.slice (some ⟨b,0,none⟩) n V)) (_hl:W.cell? ⟨X,0,none⟩=some (.func (.func 130) #[] #[.pointer (some ⟨Z,0,none⟩),.pointer (some ⟨X,0,none⟩)]))
  (R:(0:Int)<=k) (Q:(k:Int)<(n:Int)) (P:W.cell? ⟨b,k,none⟩=some (.int .i64 k)):Calls Tryz.prog 130 #[.int .i64 k,.pointer (some ⟨Z,0,none⟩),.pointer (some ⟨X,0,none⟩)] W λe w'=>e=.returned (.int .i64 k)/\w'=W:=by
 have O:((k:Int)!=k)=false:=by simp
 go_enter Tryz.func130,Tryz.ntmps130;go_wp2;go_ret;exact⟨rfl,rfl⟩
set_option maxHeartbeats 4000000 in
set_option maxRecDepth 100000 in
def au0 (W:World) (Z X b n V k j:Nat) (L:Z≠b) (G:W.cell? ⟨Z,0,none⟩=some (.slice (some ⟨b,0,none⟩) n V)) (F:W.cell? ⟨X,0,none⟩=some (.func (.func 130) #[] #[.pointer (some ⟨Z,0,none⟩),.pointer (some ⟨X,0,none⟩)]))
  (E:(0:Int)<=k) (D:(k:Int)<(n:Int)) (C:W.cell? ⟨b,k,none⟩=some (.int .i64 j)) (B:j≠k) (r:Int) (Q:World->Prop) (N:∀w',Q w'->w'.cell? ⟨Z,0,none⟩=some (.slice (some ⟨b,0,none⟩) n V)/\w'.cell? ⟨X,0,none⟩=some (.func (.func 130) #[] #[.pointer (some ⟨Z,0,none⟩),.pointer (some ⟨X,0,none⟩)])/\w'.cell? ⟨b,k,none⟩=some (.int .i64 j)/\w'.frozen? ⟨b,k,none⟩=false)
  (J:Calls Tryz.prog 130 #[.int .i64 j,.pointer (some ⟨Z,0,none⟩),.pointer (some ⟨X,0,none⟩)] W.drew λe w'=>e=.returned (.int .i64 r)/\Q w'):
  Calls Tryz.prog 130 #[.int .i64 k,.pointer (some ⟨Z,0,none⟩),.pointer (some ⟨X,0,none⟩)] W λe w'=>e=.returned (.int .i64 r)/\∃U,Q U/\w'=U.setCell ⟨b,k,none⟩ (.int .i64 r):=by
 have A:((j:Int)!=k)=true:=by simp;omega
 have I:∀w',Q w'->w'.cell? ⟨Z,0,none⟩=some (.slice (some ⟨b,0,none⟩) n V)/\w'.cell? ⟨b,k,none⟩=some (.int .i64 j)/\w'.frozen? ⟨b,k,none⟩=false/\(w'.setCell ⟨b,k,none⟩ (.int .i64 r)).cell? ⟨Z,0,none⟩=some (.slice (some ⟨b,0,none⟩) n V)/\(w'.setCell ⟨b,k,none⟩ (.int .i64 r)).cell? ⟨b,k,none⟩=some (.int .i64 r):=λw' R=>by
  obtain⟨P,H,O,M⟩:=N w' R;exact⟨P,O,M,(World.cell?_setCell_far _ _ _ _ (Ne.symm L)).trans P,World.cell?_setCell_same' _ _ _ (by rw[O];rfl)⟩
 clear N;go_enter Tryz.func130,Tryz.ntmps130;go_wp2
 go_region_with (first|(go_at_call 130;refine J.mono ?_;rintro e U ⟨rfl,R⟩;obtain⟨P,H,O,M,z⟩:=I U R))
 all_goals go_wp2
 all_goals go_ret
 all_goals exact⟨rfl,_,R,rfl⟩
def amF(b Z:Nat)(W:World)(g:List Nat)(w':World):Prop:=W.grownBy w' (some b)/\InB w' b Z g
def amG{V U b n H sz:Nat}(G:V≠b)(A:U≠b)(i:(n:Int)<=1099511627776):∀(N k:Nat)(W:World)(g:List Nat),k<N->k<n->g.length=n->(∀q,g.getD q 0<=q)->
  W.cell? ⟨V,0,none⟩=some (.slice (some ⟨b,0,none⟩) n H)->W.cell? ⟨U,0,none⟩=some (.func (.func 130) #[] #[.pointer (some ⟨V,0,none⟩),.pointer (some ⟨U,0,none⟩)])->InB W b sz g->
  Calls Tryz.prog 130 #[.int .i64 k,.pointer (some ⟨V,0,none⟩),.pointer (some ⟨U,0,none⟩)] W λe w'=>e=.returned (.int .i64 (((m6 N k g).getD k 0:Nat):Int))/\amF b sz W (m6 N k g) w'
 |0,k,W,g,h,_,_,_,_,_,_=>absurd h (aBJ _)
 |N+1,k,W,g,hN,z,y,F,O,M,f=>by
  obtain⟨x,E,w,D⟩:=f;have v:∀q,q<n->W.cell? ⟨b,q,none⟩=some (.int .i64 ((g.getD q 0:Nat):Int)):=λq R=>by
   have:=D q (by omega);simp only[World.cell?,E];simpa using this
  by_cases Q:g.getD k 0=k;have P:m6 (N+1) k g=g:=by simp only[m6,if_pos Q]
  rw[P];have:=v k z;rw[Q] at this⊢;refine(auZ W V U b n H k O M (by omega) (by omega) this).mono ?_;rintro e w' ⟨rfl,rfl⟩;exact⟨rfl,World.grownBy.refl _ _,x,E,w,D⟩;have P:m6 (N+1) k g=(m6 N (g.getD k 0) g).set k ((m6 N (g.getD k 0) g).getD (g.getD k 0) 0):=by simp only[m6,if_neg Q]
  have u:g.getD k 0<k:=aAX (F k) Q;generalize t:g.getD k 0=j at Q P u;generalize C:m6 N j g=Z at P;have lT:Z.length=n:=by rw[<-C,amD,y]
  have d:Z.getD k 0=j:=by rw[<-C,amE F N j k u,t]
  rw[P];have s:(Z.set k (Z.getD j 0)).getD k 0=Z.getD j 0:=by
   rw[ayC,azI (by omega)];rfl
  rw[s];have r:=amG G A i N j W.drew g (by omega) (by omega) y F O M ⟨x,E,w,D⟩;rw[C] at r;have p:=v k z;rw[t] at p;refine(au0 W V U b n H k j G O M (by omega) (by omega) p (by omega) ((Z.getD j 0:Nat):Int) (amF b sz W.drew Z) ?_ r).mono ?_;rintro w' ⟨X,L,J,o,I⟩;have c:w'.cell? ⟨b,k,none⟩=some (.int .i64 (j:Int)):=by
   have:=I k (by omega);rw[d] at this;simp only[World.cell?,J];simpa using this
  exact⟨X.cell O (by simpa using G),X.cell M (by simpa using A),c,by simp[World.frozen?,J]⟩;rintro e w' ⟨rfl,m,⟨X,L,J,o,I⟩,rfl⟩;refine⟨rfl,⟨X.os,X.tape,X.output,by rw[World.size_setCell];exact X.size,λq R l=> ?_⟩, ?_⟩;exact(Below.heap_setCell m _ _ q (by intro e;exact l (by rw[e]))).trans (X.block q R l);refine⟨L.setIfInBounds k (.int .i64 ((Z.getD j 0:Nat):Int)), ?_,by simpa using o,λq R=> ?_⟩;exact Bx.set (show Bx m b 3 L from J) _;rw[aBH] at R;have a:k<L.size:=by
   have:=I k (by omega);exact(ay0.1 this).1
  by_cases B:q=k;subst B;rw[s,aAL a];rw[aAa (Ne.symm B),I q R,ayC,ayC,azc (Ne.symm B)]
end
def n8(Z:List (List RV)):List Nat:=Z.map λX=>(aD 0 X).toNat
def Mm(Z:List (List RV))(q:Nat):(n8 Z).getD q 0=(aD 0 (Z.getD q [])).toNat:=by
 simp only[n8,ayC,ayF];cases Z[q]? with
 |none=>rfl
 |some X=>rfl
def amH{Z:List (List RV)}(h:iR Z=true):∀(n:Nat)(i:Int),0<=i->i<Z.length->n8 (mF n i Z)=m6 n i.toNat (n8 Z)
 |0,_,_,_=>rfl
 |n+1,i,W,V=>by
  obtain⟨U,P,R⟩:=Vd h W V;have Q:=amH h n _ U R;simp only[mF,m6,Mm];by_cases X:aD 0 (Z.getD i.toNat [])=i;rw[if_pos X,if_pos (by omega)];rw[if_neg X,if_neg (by omega),<-Q,Mm];simp only[n8,aBA]
def au1:adT Tryz.prog (look TT) 130 3:=by
 refine⟨sw (by kernel_rfl), ?_⟩;intro W b n G V ar i F E tg tl s nu o k O N M;have P:aV (look TT) (.sl 3)=[.int .i64]:=by rfl
 obtain⟨bd,j,g,L,f⟩:=Jt M;obtain⟨d,bf⟩:=ow O;have D:=dt.sr O;rw[P] at N⊢;rcases N.mem with hz|⟨b',J,a,C,ab,af⟩;exfalso;omega;cases a;have B:∀(q:Nat)(Z:List RV),V[q]?=some Z->∃c,Z=[c]/\c.val=.int .i64 (aD 0 Z):=λq Z X=>by
  have z:=D.len q Z X;rw[P] at z
  match Z,z with
  |[c],_=>
   obtain⟨m,hm⟩:=D.int q 0 [c] c .i64 X rfl (by rw[P];rfl);exact⟨c,rfl,by simp[aD,hm,bc]⟩
 have y:∀q:Nat,q<V.length->((n8 V).getD q 0:Int)=aD 0 (V.getD q [])/\(n8 V).getD q 0<=q:=λq X=>by
  have:=Af L X;rw[Mm];omega
 have ag:InB W b J.size (n8 V):=by
  refine⟨J,C,rfl,λq X=> ?_⟩;rw[n8,azg] at X;obtain⟨c,al,an⟩:=B q V[q] (ayB X);have I:W.cell? ⟨b,0+q*1+0,none⟩=some c.val:=by
   cases O with
   |sl e A bk G V g1 g2 g3 gi gb go=>
    obtain⟨-,b2,bo,e2,-,g4⟩:=g3 q V[q] (ayB X);cases e2;have:=g4 0 c (by rw[al];rfl);rw[P] at this;exact this
  rw[an] at I;simp only[World.cell?,C] at I;have e3:((n8 V).getD q 0:Int)=aD 0 V[q]:=by
   rw[(y q X).1,ayC,ayB X];rfl
  rw[e3];simpa using I
 have a0:∀q,(n8 V).getD q 0<=q:=λq=>by
  by_cases X:q<V.length;exact(y q X).2;rw[Mm,ayC,ayX (by omega)];show(0:Int).toNat<=q;simp
 have a1:(n8 V).length=n:=by rw[n8,azg,d]
 have a2:W.cell? ⟨F,0,none⟩=some (.slice (some ⟨b,0,none⟩) n G):=by simp[World.cell?,s]
 have bZ:W.cell? ⟨E,0,none⟩=some (.func (.func 130) #[] #[.pointer (some ⟨F,0,none⟩),.pointer (some ⟨E,0,none⟩)]):=by simp[World.cell?,nu]
 have a3:((i.toNat:Nat):Int)=i:=by omega
 have x:=amG o k (sz:=J.size) (by omega) V.length i.toNat W (n8 V) (by omega) (by omega) a1 a0 a2 bZ ag;rw[a3] at x;refine x.mono ?_;rintro e w' ⟨rfl,a4,a5,a6,a7,w⟩;have v:=amH L V.length i j g;rw[<-f] at v;rw[<-v] at w⊢;have br:ar.length=V.length:=Ve M;have a8:=Nx M;have u:∀(q:Nat)(Z:List RV),ar[q]?=some Z->∃c,Z=[c]/\c.val=.int .i64 (aD 0 Z)/\0<=aD 0 Z:=λq Z X=>by
  obtain⟨p,U⟩:=azh (a8 Z (ayW X));obtain⟨c,R,Q⟩:=B p Z U;have a9:p<V.length:=(ayA.1 U).1;have:=(Af L a9).1;rw[ayC,U] at this;exact⟨c,R,Q,this⟩
 have t:∀q,q<ar.length->(((n8 ar).getD q 0:Nat):Int)=aD 0 (ar.getD q []):=λq X=>by
  obtain⟨c,-,-,c3⟩:=u q ar[q] (ayB X);rw[Mm,ayC,ayB X];show((aD 0 ar[q]).toNat:Int)=aD 0 ar[q];omega
 refine⟨by rw[t _ (by omega)],a4,by omega,N.nil,.inr ⟨b,a5,rfl,a6,ab,by rw[a7];exact af, ?_,.inr rfl⟩⟩;apply ay3;intro q;have bb:cu ar=ar.map λZ=>Value.int .i64 (aD 0 Z):=by
  have:∀l:List (List RV),(∀Z∈l,∃c,Z=[c]/\c.val=.int .i64 (aD 0 Z))->cu l=l.map λZ=>Value.int .i64 (aD 0 Z):=by
   intro l;induction l with
   |nil=>intro _;rfl
   |cons r l ih=>
    intro h;obtain⟨c,R,Q⟩:=h r az9;have:=ih λZ H=>h Z (azG _ H)
    simp only[cu,aAG,ayO] at this⊢;rw[this,<-Q,R];rfl
  refine this ar λZ H=> ?_
  obtain⟨p,U⟩:=azh H;obtain⟨c,R,Q,-⟩:=u p Z U;exact⟨c,R,Q⟩
 rw[bb,ay7,ayF];simp only[aAg,aCj];by_cases X:q<ar.length;rw[if_pos X,aAh,w q (by rw[n8,azg];exact X),t q X,ayB X];simp[ayC,ayB X];rw[if_neg X,ayX (by omega)];rfl
section
attribute[local go_sem ↓] Go.wp_at_zero Go.wp_at_succ
open Go.Shelf Go.RowKit Go.Lib Go.Sort
def jG:List Int->Int
 |[]=>0
 |a::l=>if a=0 then jG l else a
set_option maxHeartbeats 1000000 in
def or2 (b:Nat) (Z X:Int) (W:World) (O:W.cell? ⟨b,0,none⟩=some (.int .i64 Z)) (N:W.cell? ⟨b,1,none⟩=some (.int .i64 X)):Calls Tryz.prog 109 #[.slice (some ⟨b,0,none⟩) 2 2] W λe w'=>e=.returned (.int .i64 (jG [Z,X]))/\w'=W:=by
 by_cases V:Z=0;have Q:(Z !=0)=false:=by simp[V]
 by_cases R:X=0
 ·have P:(X !=0)=false:=by simp[R]
  have U:jG [Z,X]=0:=by simp[jG,V,R]
  rw[U];clear U;clear V R;go_enter Tryz.func109,Tryz.ntmps109;go_wp2;refine wp_loop_rounds 3 ?_
  iterate 3 (rw[rounds_succ];go_wp2)
  go_ret;exact⟨rfl,rfl⟩
 ·have P:(X !=0)=true:=by simp[R]
  have U:jG [Z,X]=X:=by simp[jG,V,R]
  rw[U];clear U;clear V R;go_enter Tryz.func109,Tryz.ntmps109;go_wp2;refine wp_loop_rounds 3 ?_
  iterate 2 (rw[rounds_succ];go_wp2)
  go_ret;exact⟨rfl,rfl⟩
 ·have Q:(Z !=0)=true:=by simp[V]
  have U:jG [Z,X]=Z:=by simp[jG,V]
  rw[U];clear U;clear V;go_enter Tryz.func109,Tryz.ntmps109;go_wp2;refine wp_loop_rounds 3 ?_
  iterate 1 (rw[rounds_succ];go_wp2)
  go_ret;exact⟨rfl,rfl⟩
def Mn(W:World)(X V:Obj)(Z:Array Value)(t:TypeId)(i:Nat)(v:Value)(h:Z[i]?=some v):(((W.alloc X).alloc V).alloc (.cells Z t)).drew.cell? ⟨W.heap.size+1+1,i,none⟩=some v:=by
 have e:(((W.alloc X).alloc V).alloc (.cells Z t)).heap[W.heap.size+1+1]?=some (.cells Z t):=by
  have:=heap_alloc_new ((W.alloc X).alloc V) (.cells Z t);simpa using this
 show World.cell? _ _=_;simp only[World.cell?,World.drew,e];simpa using h
def amI(W:World)(Z X V:Obj):∃q U,(((W.alloc Z).alloc X).alloc V).drew=grow (W.drewN q) U:=⟨1, #[Z]++ #[X]++ #[V],by rw[alloc_eq_grow,alloc_eq_grow,alloc_eq_grow,grow_grow,grow_grow];rfl⟩
set_option maxHeartbeats 4000000 in
set_option maxRecDepth 100000 in
def au3 (Z X V U:Int) (W:World):Calls Tryz.prog 178 #[.agg #[.int .i64 Z,.int .i64 X],.agg #[.int .i64 V,.int .i64 U]] W λe w'=>e=.returned (.int .i64 (jG [Lib.compareInt X U,Lib.compareInt Z V]))/\∃q O,w'=grow (W.drewN q) O:=by
 have R:=λx y Q=>AnyG.cmp_Compare_int Tryz.cmpInt x y Q
 change∀x y Q,Calls Tryz.prog 110 _ _ _ at R;generalize Lib.compareInt=P at R⊢;go_enter Tryz.func178,Tryz.ntmps178;go_wp2
 go_region_held3 (λw'=>w'.cell? ⟨W.heap.size,0,none⟩=some (.int .i64 Z)/\w'.cell? ⟨W.heap.size,1,none⟩=some (.int .i64 X)/\w'.cell? ⟨W.heap.size+1,0,none⟩=some (.int .i64 V)/\w'.cell? ⟨W.heap.size+1,1,none⟩=some (.int .i64 U)) (go_keep)
  (first|(go_at_call 110;refine(R _ _ _).mono ?_;rintro e w' ⟨rfl,rfl⟩)|(go_at_call 109;refine Calls.mono (or2 _ (P X U) (P Z V) _ (Mn _ _ _ _ _ _ _ rfl) (Mn _ _ _ _ _ _ _ rfl)) ?_;rintro e w' ⟨rfl,rfl⟩))
 all_goals go_wp2
 all_goals go_ret
 exact⟨rfl,amI _ _ _ _⟩
set_option maxHeartbeats 1000000 in
def or3 (b:Nat) (X V U:Int) (W:World) (L:W.cell? ⟨b,0,none⟩=some (.int .i64 X)) (J:W.cell? ⟨b,1,none⟩=some (.int .i64 V)) (I:W.cell? ⟨b,2,none⟩=some (.int .i64 U)):Calls Tryz.prog 109 #[.slice (some ⟨b,0,none⟩) 3 3] W λe w'=>e=.returned (.int .i64 (jG [X,V,U]))/\w'=W:=by
 by_cases R:X=0;have O:(X !=0)=false:=by simp[R]
 by_cases Q:V=0;have N:(V !=0)=false:=by simp[Q]
 by_cases P:U=0
 ·have M:(U !=0)=false:=by simp[P]
  have Z:jG [X,V,U]=0:=by simp[jG,R,Q,P]
  rw[Z];clear Z;clear R Q P;go_enter Tryz.func109,Tryz.ntmps109;go_wp2;refine wp_loop_rounds 4 ?_
  iterate 4 (rw[rounds_succ];go_wp2)
  go_ret;exact⟨rfl,rfl⟩
 ·have M:(U !=0)=true:=by simp[P]
  have Z:jG [X,V,U]=U:=by simp[jG,R,Q,P]
  rw[Z];clear Z;clear R Q P;go_enter Tryz.func109,Tryz.ntmps109;go_wp2;refine wp_loop_rounds 4 ?_
  iterate 3 (rw[rounds_succ];go_wp2)
  go_ret;exact⟨rfl,rfl⟩
 ·have N:(V !=0)=true:=by simp[Q]
  have Z:jG [X,V,U]=V:=by simp[jG,R,Q]
  rw[Z];clear Z;clear R Q;go_enter Tryz.func109,Tryz.ntmps109;go_wp2;refine wp_loop_rounds 4 ?_
  iterate 2 (rw[rounds_succ];go_wp2)
  go_ret;exact⟨rfl,rfl⟩
 ·have O:(X !=0)=true:=by simp[R]
  have Z:jG [X,V,U]=X:=by simp[jG,R]
  rw[Z];clear Z;clear R;go_enter Tryz.func109,Tryz.ntmps109;go_wp2;refine wp_loop_rounds 4 ?_
  iterate 1 (rw[rounds_succ];go_wp2)
  go_ret;exact⟨rfl,rfl⟩
set_option maxHeartbeats 4000000 in
set_option maxRecDepth 100000 in
def w52 (Z X V U R Q:Int) (W:World):Calls Tryz.prog 52 #[.agg #[.int .i64 Z,.int .i64 X,.int .i64 V],.agg #[.int .i64 U,.int .i64 R,.int .i64 Q]] W λe w'=>e=.returned (.int .i64 (jG [Lib.compareInt Z U,Lib.compareInt X R,Lib.compareInt V Q]))/\∃q M,w'=grow (W.drewN q) M:=by
 have P:=λx y N=>AnyG.cmp_Compare_int Tryz.cmpInt x y N
 change∀x y N,Calls Tryz.prog 110 _ _ _ at P;generalize Lib.compareInt=O at P⊢;go_enter Tryz.func52,Tryz.ntmps52;go_wp2
 go_region_held3 (λw'=>w'.cell? ⟨W.heap.size,0,none⟩=some (.int .i64 Z)/\w'.cell? ⟨W.heap.size,1,none⟩=some (.int .i64 X)/\w'.cell? ⟨W.heap.size,2,none⟩=some (.int .i64 V)/\w'.cell? ⟨W.heap.size+1,0,none⟩=some (.int .i64 U)/\w'.cell? ⟨W.heap.size+1,1,none⟩=some (.int .i64 R)/\w'.cell? ⟨W.heap.size+1,2,none⟩=some (.int .i64 Q)) (go_keep)
  (first|(go_at_call 110;refine(P _ _ _).mono ?_;rintro e w' ⟨rfl,rfl⟩)|(go_at_call 109;refine Calls.mono (or3 _ (O Z U) (O X R) (O V Q) _ (Mn _ _ _ _ _ _ _ rfl) (Mn _ _ _ _ _ _ _ rfl) (Mn _ _ _ _ _ _ _ rfl)) ?_;rintro e w' ⟨rfl,rfl⟩))
 all_goals go_wp2
 all_goals go_ret
 exact⟨rfl,amI _ _ _ _⟩
end
variable{Z P:Nat}{O:List Int}{N:List Nat}{Q:World}{X:Array Value}{R:TypeId}
section
open Go.Shelf Go.RowKit
open Go.Sort (flatK get_flatK size_flatK HoldsK putRowK size_putRowK grow)
def IV(k:Nat)(x:List Int):List RV:=(ayQ k).map λi=>RV.mk (.int .i64 (x.getD i 0)) []
def gt(k:Nat)(x:List Int):List Value:=(ayQ k).map λi=>Value.int .i64 (x.getD i 0)
def ab4(k:Nat)(x:List Int):(IV k x).length=k:=by simp[IV]
def ab5(h:P<Z):(IV Z O)[P]?=some (RV.mk (.int .i64 (O.getD P 0)) []):=by simp[IV,h]
def au6(h:P<Z):aD P (IV Z O)=O.getD P 0:=by
 unfold aD;rw[ayC,ab5 h];rfl
def tQ(Z:List Nat)(x y:List Int):Int:=jG (Z.map λc=>Lib.compareInt (x.getD c 0) (y.getD c 0))
def ab6{k:Nat}{x y:List Int}:∀{cs:List Nat},(∀c∈cs,c<k)->decide (tQ cs x y<0)=fZ false cs (IV k x) (IV k y)
 |[],_=>rfl
 |c::cs,h=>by
  have V:=ab6 (x:=x) (y:=y) (cs:=cs) (λc X=>h c (by simp[X]));have X:c<k:=h c (by simp);simp only[tQ,ayO,jG,fZ,au6 X] at V⊢;generalize x.getD c 0=p;generalize y.getD c 0=q;by_cases W:p=q;rw[if_pos W,if_pos (by simp[Lib.compareInt,W])];exact V;rw[if_neg W];by_cases Z:p<q;have e:Lib.compareInt p q=-1:=by simp[Lib.compareInt,Z]
  simp[e,Z];have U:p>q:=by omega
  have e:Lib.compareInt p q=1:=by simp[Lib.compareInt,Z,U]
  simp[e,Z]
def ab7(h:∀c∈N,c<Z):Go.Sort.SWO (ltOf (tQ N)):=by
 have w:=Tn N false;have e:∀x y,ltOf (tQ N) x y=(aU.lex N false).lt (IV Z x) (IV Z y):=λx y=>ab6 h
 exact⟨λx=>by rw[e];exact w.Tk _ rfl,λx y z X W=>by rw[e] at*;exact w.tr _ _ _ rfl rfl rfl X W,λx y z X W=>by rw[e] at*;exact w.nt _ _ _ rfl rfl rfl X W⟩
def amJ:∀{k:Nat}{Z:List RV},fH (ayJ k true) Z->Z.length=k/\∀c∈Z,c=.mk (.int .i64 (bc c.val)) []
 |0,Z,h=>by cases h;simp
 |k+1,[],h=>h.elim
 |k+1,c::r,h=>by
  obtain⟨⟨n,rfl⟩,X⟩:(∃n,c=.mk (.int .i64 n) [])/\fH (ayJ k true) r:=h;obtain⟨W,V⟩:=amJ X;exact⟨by simp[W],λc U=>(ayK.1 U).elim (λe=>by subst e;rfl) (V c)⟩
def unI(Z:List RV):List Int:=Z.map λc=>bc c.val
def au7(h:fH (ayJ Z true) V):IV Z (unI V)=V:=by
 obtain⟨R,W⟩:=amJ h;apply ay3;intro i;by_cases U:i<Z;rw[ab5 U];have X:i<V.length:=by omega
 rw[ayB X,W _ (azR X)];simp[unI,ayC,X];rw[ayX (by rw[ab4];omega),ayX (by omega)]
def au8(h:∀x∈W,fH (ayJ Z true) x):∃d:Array (List Int),W=d.toList.map (IV Z):=by
 refine⟨(W.map unI).toArray, ?_⟩;simp only[azo]
 conv=>lhs;rw[<-List.map_id W]
 exact ayZ λx X=>(au7 (h x X)).symm
def amK(d:Array (List Int))(X:P<d.size*Z):(cu (d.toList.map (IV Z)))[P]?=some ((flatK (gt Z) Z d)[P]!):=by
 have U:0<Z:=by
  rcases azO Z with rfl|h;omega;exact h
 have R:P/Z<d.size:=aA9 (by rw[aAV];exact X);have W:P%Z<Z:=aAY _ U;have e:P=P/Z*Z+P%Z:=by have:=aBa P Z;rw[aAV] at this;omega
 have:=Jf (w:=Z) (rows:=d.toList.map (IV Z)) (λi Q V=>by
  simp only[ayF,azC] at V;obtain⟨x,_,rfl⟩:=V;exact ab4 Z x) (i:=P/Z) (j:=P%Z) (row:=IV Z d[P/Z]!) (by simp[R]) (ab5 W)
 rw[<-e] at this;rw[this,get_flatK _ _ _ _ X];congr 1;have:(gt Z d[P/Z]!)[P%Z]?=some (.int .i64 ((d[P/Z]!).getD (P%Z) 0)):=by simp[gt,W]
 rw[List.getElem!_eq_getElem?_getD,this];rfl
def au9(d:Array (List Int)):(cu (d.toList.map (IV Z))).length=d.size*Z:=by
 have:=vW (w:=Z) (rows:=d.toList.map (IV Z)) (λi W X=>by
  simp only[ayF,azC] at X;obtain⟨x,_,rfl⟩:=X;exact ab4 Z x)
 simpa using this
def ava(V:Q.heap[Z]?=some (.cells X R (0,0)))(j:Nat):Q.frozen? ⟨Z,j,none⟩=false:=by
 simp[World.frozen?,V]
def avb{U:Ty}{n R k:Nat}{d:Array (List Int)}(h:aW Q U (.sl Z) (.mk (.slice (some ⟨P,0,none⟩) n R) (d.toList.map (IV k))))(O:Q.heap[P]?=some (.cells X Z (0,0))):HoldsK (gt k) k Q P 0 d:=by
 intro j V;rw[size_flatK] at V;obtain⟨L,J,N,_,M⟩:=Jg h j _ (amK d V);cases N;exact⟨M,ava O _⟩
def avc{m:Nat}{d V:Array (List Int)}{os:Array Obj}(O:Q.heap[P]?=some (.cells X R (0,0)))(H:HoldsK (gt Z) Z Q P 0 d)(G:V.size=d.size):
  Q.grownBy (sortWorldK (gt Z) Z Q P 0 m V os) (some P)/\∃N,(sortWorldK (gt Z) Z Q P 0 m V os).heap[P]?=some (.cells N R (0,0))/\N.size=X.size/\N.toList.take (V.size*Z)=cu (V.toList.map (IV Z)):=by
 have M:P<Q.heap.size:=(ay0.1 O).1;have F:(putRowK (gt Z) Z (Sort.ahead Q m) P 0 V).heap.size=Q.heap.size:=by rw[size_putRowK];rfl
 have L:∀i,i<Q.heap.size->(sortWorldK (gt Z) Z Q P 0 m V os).heap[i]?=(Q.heap.modify P (Sort.onCells (Sort.putCells id 0 (flatK (gt Z) Z V))))[i]?:=by
  intro i J;show(_++os)[i]?=_;rw[aBp (by rw[F];exact J)];rfl
 refine⟨⟨rfl,rfl,rfl, ?_,λi J E=> ?_⟩,Sort.putCells id 0 (flatK (gt Z) Z V) X, ?_, ?_, ?_⟩;exact size_sortWorldK_c (gt Z) Z Q P 0 m V os;rw[L i J,az7,if_neg (λI=>E (by rw[I]))];rw[L P M,az7,if_pos rfl,O];rfl;simp[Sort.putCells];have I:=holdsK_sortWorldK_c (gt Z) Z Q P 0 d V m os H M G;have D:(sortWorldK (gt Z) Z Q P 0 m V os).heap[P]?=some (.cells (Sort.putCells id 0 (flatK (gt Z) Z V) X) R (0,0)):=by rw[L P M,az7,if_pos rfl,O];rfl
 apply ay3;intro q;rw[ay7];by_cases U:q<V.size*Z;rw[if_pos U,amK V U];have:=(I q (by rw[size_flatK];exact U)).1;simpa[World.cell?,D] using this;rw[if_neg U,ayX (by rw[au9];omega)]
def amL{lt:List RV->List RV->Bool}:∀{l:List (List RV)},sj lt l=true->l.Pairwise (λx y=>lt x y=true\/lt y x=true)
 |[],_=>azu
 |x::r,h=>by
  simp only[sj,ayz,ayM,ay2] at h;exact ayY.2 ⟨h.1,amL h.2⟩
def ab9{f g:FuncId}{k:Nat}(af:qK Tryz.prog f=true)(J:aV (look TT) (.sl R)=(ayJ k true).map zH)(hc:∀c∈N,c<k)
  (ag:∀p X fv W,Calls Tryz.prog f #[.slice p 0 X,fv] W λU w'=>U=.returned (.tuple #[])/\w'=W)
  (al:∀(b X:Nat)(d:Array (List Int))(W:World),HoldsK (gt k) k W b 0 d->b<W.heap.size->d.size<4611686018427387904->Calls Tryz.prog f #[.slice (some ⟨b,0,none⟩) d.size X,.func (.func g) #[] #[]] W λU w'=>U=.returned (.tuple #[])/\∃Z n I,Go.Sort.PermIn 0 d.size d Z/\Go.Sort.SortedIn (ltOf (tQ N)) 0 d.size Z/\w'=sortWorldK (gt k) k W b 0 n Z I):
  lW Tryz.prog (look TT) f g R (.lex N false) false:=by
 refine⟨sw af,λW A n X H ar O ns a9 G F M E=> ?_⟩;cases ns with
 |cons _ _=>simp[aU.fill] at G
 |nil=>
  simp only[aU.fill,ayE] at G;subst G;have E:fh (.lex N false) false H=some ar:=E;obtain⟨hl,bb⟩:=ow F;have hk:(aV (look TT) (.sl R)).length=k:=by rw[J];simp
  rw[hk] at M⊢;have V:=abZ E;simp only[fh] at V;split at V
  case isFalse=>cases V
  rename_i B;simp only[ayz,decide_eq_true_eq,ay2,ayV,false_or] at B;obtain⟨w,_,v⟩:=B;have V:=azd V;have bd:ar.length=H.length:=by rw[<-vu ar,<-V,nq,vu]
  by_cases hn:n=0;subst hn;have h0:ar=[]:=ay4 (by omega);subst h0;refine(ag A X _ W).mono ?_;rintro U W' ⟨rfl,rfl⟩;refine⟨rfl,⟨rfl,rfl,rfl,ayH _,λ_ _ _=>rfl⟩,⟨aAq _,M.nil, ?_⟩⟩;rcases M.mem with h|⟨b,u,rfl,Q,D,C⟩;exact .inl h;cases X with
  |zero=>exact .inl rfl
  |succ c=>exact .inr ⟨b,u,rfl,Q,D,C,by simp[cu],.inr rfl⟩
  rcases M.mem with h|⟨b,u,rfl,Q,D,C⟩;omega;have hp:∀(j:Nat)(z:Value)(q:RK),(aV (look TT) (.sl R))[j]?≠some (.ax z q):=by
   intro j z q P;rw[J,ayF] at P;cases L:(ayJ k true)[j]? with
   |none=>rw[L] at P;cases P
   |some b=>rw[L] at P;cases b<;>simp[zH] at P
  have t:=amh hp F;obtain⟨d,s⟩:=au8 (amg J (dt.sr F));have r:d.size=n:=by
   have o:(db H).length=(d.toList.map (IV k)).length:=congrArg aAM s;rw[vu,azg,azL] at o;exact o.symm.trans hl
  rw[s] at t V v w;have l:=avb t Q;have L:b<W.heap.size:=(ay0.1 Q).1;have an:ik (some ⟨b,0,none⟩) X=some b:=by
   cases X with
   |zero=>omega
   |succ c=>rfl
  have a:=al b X d W l L (by simp at w;omega);rw[r] at a;refine Calls.mono a ?_;rintro U W' ⟨rfl,Z,m,I,ab,a0,rfl⟩;have hs:Z.size=d.size:=ab.1;obtain⟨g1,a1,g2,g3,g4⟩:=avc (m:=m) (os:=I) Q l hs;have a2:Z.toList.Perm d.toList:=by
   have:=ab.2.2;rw[<-r] at this;have e1:Z.extract 0 d.size=Z:=by rw[<-hs];exact aCg
   have e2:d.extract 0 d.size=d:=aCg
   rwa [e1,e2] at this
  have a3:em (aU.lex N false).lt (Z.toList.map (IV k)):=by
   refine aBt.2 (aAp.2 λi j hi hj a4=> ?_);have a5:j<Z.size:=by simpa using hj
   have a6:i<Z.size:=by simpa using hi
   have:=a0 i j (aAq _) a4 (by omega);have R:=ab6 (k:=k) (x:=Z[j]) (y:=Z[i]) hc;rw[getElem!_pos Z j a5,getElem!_pos Z i a6] at this;show fZ false N (IV k Z.toList[j]) (IV k Z.toList[i])=false;rw[aB1,aB1,<-R];exact this
  have a7:Z.toList.map (IV k)=db ar:=by
   rw[<-V,<-asq (lt:=(aU.lex N false).lt) (aky false N) (akz false N) (a2.map (IV k)) (amL v)];exact(Tl a3).symm
  rw[an];refine⟨rfl,g1,⟨by omega,λh=>(by cases h),.inr ⟨b,a1,rfl,g2,D,by rw[g3,C], ?_,.inr rfl⟩⟩⟩;have a8:ar.length=Z.size:=by omega
  rw[a8,g4,a7,ame]
end
section
open Go.Shelf Go.RowKit
open Go.Sort (HoldsK)
def Tryz.sortOb_ren:Go.Shelf.Ren:=⟨λ|6=>51|15=>108|14=>107|28=>190|29=>191|20=>182|21=>183|22=>184|23=>185|24=>186|25=>187|26=>188|27=>189|46=>253|47=>254|48=>255|49=>256|50=>257|57=>311|n=>n,λ|22=>121|24=>118|25=>123|3=>3|39=>205|0=>0|53=>287|55=>289|4=>4|46=>280|45=>279|50=>284|5=>5|9=>9|66=>336|70=>166|76=>382|77=>298|n=>n,λ|n=>n⟩
def Tryz.sortOb:Go.Proofs.SlLaysF0.n6 Tryz.prog Tryz.sortOb_ren:={mixed:=by kernel_rfl,f6:=⟨Tryz.f51.name,by decide,cz Tryz.func51 (by kernel_rfl)⟩,f14:=⟨Tryz.f107.name,by decide,cz Tryz.func107 (by kernel_rfl)⟩,f15:=cz Tryz.func108 (by kernel_rfl),f20:=⟨Tryz.f182.name,by decide,cz Tryz.func182 (by kernel_rfl)⟩,f21:=⟨Tryz.f183.name,by decide,cz Tryz.func183 (by kernel_rfl)⟩,f22:=⟨Tryz.f184.name,by decide,cz Tryz.func184 (by kernel_rfl)⟩,f23:=⟨Tryz.f185.name,by decide,cz Tryz.func185 (by kernel_rfl)⟩,f24:=⟨Tryz.f186.name,by decide,cz Tryz.func186 (by kernel_rfl)⟩,f25:=⟨Tryz.f187.name,by decide,cz Tryz.func187 (by kernel_rfl)⟩,f26:=⟨Tryz.f188.name,by decide,cz Tryz.func188 (by kernel_rfl)⟩,f27:=⟨Tryz.f189.name,by decide,cz Tryz.func189 (by kernel_rfl)⟩,f28:=cz Tryz.func190 (by kernel_rfl),f29:=cz Tryz.func191 (by kernel_rfl),f46:=⟨Tryz.f253.name,by decide,cz Tryz.func253 (by kernel_rfl)⟩,f47:=cz Tryz.func254 (by kernel_rfl),f48:=cz Tryz.func255 (by kernel_rfl),f49:=⟨Tryz.f256.name,by decide,cz Tryz.func256 (by kernel_rfl)⟩,f50:=⟨Tryz.f257.name,by decide,cz Tryz.func257 (by kernel_rfl)⟩,f57:=⟨Tryz.f311.name,by decide,cz Tryz.func311 (by kernel_rfl)⟩,t0:=Tryz.underlying0,a0:=Tryz.isAgg0,z0:=Tryz.sizeOf0,v0:=Tryz.zeroValue0,t3:=Tryz.underlying3,a3:=Tryz.isAgg3,z3:=Tryz.sizeOf3,v3:=Tryz.zeroValue3,t4:=Tryz.underlying4,a4:=Tryz.isAgg4,z4:=Tryz.sizeOf4,v4:=Tryz.zeroValue4,t5:=Tryz.underlying5,a5:=Tryz.isAgg5,z5:=Tryz.sizeOf5,v5:=Tryz.zeroValue5,t9:=Tryz.underlying9,a9:=Tryz.isAgg9,z9:=Tryz.sizeOf9,v9:=Tryz.zeroValue9,t22:=Tryz.underlying121,a22:=Tryz.isAgg121,z22:=Tryz.sizeOf121,v22:=Tryz.zeroValue121,t25:=Tryz.underlying123,a25:=Tryz.isAgg123,z25:=Tryz.sizeOf123,v25:=Tryz.zeroValue123,t39:=Tryz.underlying205,a39:=Tryz.isAgg205,z39:=Tryz.sizeOf205,v39:=Tryz.zeroValue205,t45:=Tryz.underlying279,a45:=Tryz.isAgg279,z45:=Tryz.sizeOf279,v45:=Tryz.zeroValue279,t46:=Tryz.underlying280,a46:=Tryz.isAgg280,z46:=Tryz.sizeOf280,v46:=Tryz.zeroValue280,t50:=Tryz.underlying284,a50:=Tryz.isAgg284,z50:=Tryz.sizeOf284,v50:=Tryz.zeroValue284,t53:=Tryz.underlying287,a53:=Tryz.isAgg287,z53:=Tryz.sizeOf287,v53:=Tryz.zeroValue287,t55:=Tryz.underlying289,a55:=Tryz.isAgg289,z55:=Tryz.sizeOf289,v55:=Tryz.zeroValue289,t66:=Tryz.underlying336,a66:=Tryz.isAgg336,z66:=Tryz.sizeOf336,v66:=Tryz.zeroValue336,t70:=Tryz.underlying166,a70:=Tryz.isAgg166,z70:=Tryz.sizeOf166,v70:=Tryz.zeroValue166,t76:=Tryz.underlying382,a76:=Tryz.isAgg382,z76:=Tryz.sizeOf382,v76:=Tryz.zeroValue382,t77:=Tryz.underlying298,a77:=Tryz.isAgg298,z77:=Tryz.sizeOf298,v77:=Tryz.zeroValue298}
def Tryz.sortBr_ren:Go.Shelf.Ren:=⟨λ|6=>243|15=>108|14=>300|28=>190|29=>191|20=>345|21=>346|22=>347|23=>348|24=>349|25=>350|26=>351|27=>352|46=>368|47=>254|48=>255|49=>369|50=>370|57=>377|n=>n,λ|22=>196|24=>200|25=>274|3=>3|39=>205|0=>0|53=>287|55=>289|4=>4|46=>280|45=>279|50=>284|5=>5|9=>9|66=>336|70=>166|76=>382|77=>298|n=>n,λ|n=>n⟩
def Tryz.sortBr:Go.Proofs.SlLaysF0.n6 Tryz.prog Tryz.sortBr_ren:={mixed:=by kernel_rfl,f6:=⟨Tryz.f243.name,by decide,cz Tryz.func243 (by kernel_rfl)⟩,f14:=⟨Tryz.f300.name,by decide,cz Tryz.func300 (by kernel_rfl)⟩,f15:=cz Tryz.func108 (by kernel_rfl),f20:=⟨Tryz.f345.name,by decide,cz Tryz.func345 (by kernel_rfl)⟩,f21:=⟨Tryz.f346.name,by decide,cz Tryz.func346 (by kernel_rfl)⟩,f22:=⟨Tryz.f347.name,by decide,cz Tryz.func347 (by kernel_rfl)⟩,f23:=⟨Tryz.f348.name,by decide,cz Tryz.func348 (by kernel_rfl)⟩,f24:=⟨Tryz.f349.name,by decide,cz Tryz.func349 (by kernel_rfl)⟩,f25:=⟨Tryz.f350.name,by decide,cz Tryz.func350 (by kernel_rfl)⟩,f26:=⟨Tryz.f351.name,by decide,cz Tryz.func351 (by kernel_rfl)⟩,f27:=⟨Tryz.f352.name,by decide,cz Tryz.func352 (by kernel_rfl)⟩,f28:=cz Tryz.func190 (by kernel_rfl),f29:=cz Tryz.func191 (by kernel_rfl),f46:=⟨Tryz.f368.name,by decide,cz Tryz.func368 (by kernel_rfl)⟩,f47:=cz Tryz.func254 (by kernel_rfl),f48:=cz Tryz.func255 (by kernel_rfl),f49:=⟨Tryz.f369.name,by decide,cz Tryz.func369 (by kernel_rfl)⟩,f50:=⟨Tryz.f370.name,by decide,cz Tryz.func370 (by kernel_rfl)⟩,f57:=⟨Tryz.f377.name,by decide,cz Tryz.func377 (by kernel_rfl)⟩,t0:=Tryz.underlying0,a0:=Tryz.isAgg0,z0:=Tryz.sizeOf0,v0:=Tryz.zeroValue0,t3:=Tryz.underlying3,a3:=Tryz.isAgg3,z3:=Tryz.sizeOf3,v3:=Tryz.zeroValue3,t4:=Tryz.underlying4,a4:=Tryz.isAgg4,z4:=Tryz.sizeOf4,v4:=Tryz.zeroValue4,t5:=Tryz.underlying5,a5:=Tryz.isAgg5,z5:=Tryz.sizeOf5,v5:=Tryz.zeroValue5,t9:=Tryz.underlying9,a9:=Tryz.isAgg9,z9:=Tryz.sizeOf9,v9:=Tryz.zeroValue9,t22:=Tryz.underlying196,a22:=Tryz.isAgg196,z22:=Tryz.sizeOf196,v22:=Tryz.zeroValue196,t25:=Tryz.underlying274,a25:=Tryz.isAgg274,z25:=Tryz.sizeOf274,v25:=Tryz.zeroValue274,t39:=Tryz.underlying205,a39:=Tryz.isAgg205,z39:=Tryz.sizeOf205,v39:=Tryz.zeroValue205,t45:=Tryz.underlying279,a45:=Tryz.isAgg279,z45:=Tryz.sizeOf279,v45:=Tryz.zeroValue279,t46:=Tryz.underlying280,a46:=Tryz.isAgg280,z46:=Tryz.sizeOf280,v46:=Tryz.zeroValue280,t50:=Tryz.underlying284,a50:=Tryz.isAgg284,z50:=Tryz.sizeOf284,v50:=Tryz.zeroValue284,t53:=Tryz.underlying287,a53:=Tryz.isAgg287,z53:=Tryz.sizeOf287,v53:=Tryz.zeroValue287,t55:=Tryz.underlying289,a55:=Tryz.isAgg289,z55:=Tryz.sizeOf289,v55:=Tryz.zeroValue289,t66:=Tryz.underlying336,a66:=Tryz.isAgg336,z66:=Tryz.sizeOf336,v66:=Tryz.zeroValue336,t70:=Tryz.underlying166,a70:=Tryz.isAgg166,z70:=Tryz.sizeOf166,v70:=Tryz.zeroValue166,t76:=Tryz.underlying382,a76:=Tryz.isAgg382,z76:=Tryz.sizeOf382,v76:=Tryz.zeroValue382,t77:=Tryz.underlying298,a77:=Tryz.isAgg298,z77:=Tryz.sizeOf298,v77:=Tryz.zeroValue298}
def avd(a:Int):jG [a]=a:=by
 simp only[jG];split<;>omega
def ave(b:Nat)(Z:Nat)(w:World):CmpLays Tryz.prog 224 #[] (gt 14) 14 (tQ [0]) b 0 Z w:=λm X W V x y=>by
 have h:=auY (x.getD 0 0) (x.getD 1 0) (x.getD 2 0) (x.getD 3 0) (x.getD 4 0) (x.getD 5 0) (x.getD 6 0) (x.getD 7 0) (x.getD 8 0) (x.getD 9 0) (x.getD 10 0) (x.getD 11 0) (x.getD 12 0) (x.getD 13 0) (y.getD 0 0) (y.getD 1 0) (y.getD 2 0) (y.getD 3 0) (y.getD 4 0) (y.getD 5 0) (y.getD 6 0) (y.getD 7 0) (y.getD 8 0) (y.getD 9 0) (y.getD 10 0) (y.getD 11 0) (y.getD 12 0) (y.getD 13 0) (sortWorldK (gt 14) 14 w b 0 m W X);have e:tQ [0] x y=Lib.compareInt (x.getD 0 0) (y.getD 0 0):=avd _;rw[e];exact h
def avf(b:Nat)(Z:Nat)(w:World):CmpLays Tryz.prog 178 #[] (gt 2) 2 (tQ [1,0]) b 0 Z w:=λm X W V x y=>
 au3 (x.getD 0 0) (x.getD 1 0) (y.getD 0 0) (y.getD 1 0) (sortWorldK (gt 2) 2 w b 0 m W X)
def avg(b:Nat)(Z:Nat)(w:World):CmpLays Tryz.prog 52 #[] (gt 3) 3 (tQ [0,1,2]) b 0 Z w:=λm X W V x y=>
 w52 (x.getD 0 0) (x.getD 1 0) (x.getD 2 0) (y.getD 0 0) (y.getD 1 0) (y.getD 2 0) (sortWorldK (gt 3) 3 w b 0 m W X)
def aca(k:Nat)(x:List Int):(gt k x).length=k:=by simp[gt]
def acb(k:Nat)(x:List Int):∀v∈gt k x,v.oneCell'=true:=by
 intro v Z;simp only[gt,ay1] at Z;obtain⟨i,_,rfl⟩:=Z;rfl
def avh:lW Tryz.prog (look TT) 223 224 90 (.lex [0] false) false:=by
 have X:∀c∈[0],c<14:=by simp
 refine ab9 (k:=14) (by kernel_rfl) (by kernel_rfl) X (λp Z V W=> ?_) (λb Z d W U R Q=> ?_);have h:=AnyF.slices_SortFunc_none Tryz.sortSg p Z V W;exact h;have h:=AnyQ.slices_SortFunc Tryz.sortSg 14 Tryz.isAgg90 Tryz.sizeOf90 (gt 14) (aca 14) (acb 14) (tQ [0]) (ab7 X) 224 #[] b 0 Z d W (enters_of Tryz.func224 (by kernel_rfl) rfl) (ave b d.size W) U R Q;exact h
def avi:lW Tryz.prog (look TT) 51 52 118 (.lex [0,1,2] false) false:=by
 have X:∀c∈[0,1,2],c<3:=by simp
 refine ab9 (k:=3) (by kernel_rfl) (by kernel_rfl) X (λp Z V W=> ?_) (λb Z d W U R Q=> ?_);have h:=AnyF.slices_SortFunc_none Tryz.sortOb p Z V W;exact h;have h:=AnyQ.slices_SortFunc Tryz.sortOb 3 Tryz.isAgg118 Tryz.sizeOf118 (gt 3) (aca 3) (acb 3) (tQ [0,1,2]) (ab7 X) 52 #[] b 0 Z d W (enters_of Tryz.func52 (by kernel_rfl) rfl) (avg b d.size W) U R Q;exact h
def avj:lW Tryz.prog (look TT) 243 178 200 (.lex [1,0] false) false:=by
 have X:∀c∈[1,0],c<2:=by simp
 refine ab9 (k:=2) (by kernel_rfl) (by kernel_rfl) X (λp Z V W=> ?_) (λb Z d W U R Q=> ?_);have h:=AnyF.slices_SortFunc_none Tryz.sortBr p Z V W;exact h;have h:=AnyQ.slices_SortFunc Tryz.sortBr 2 Tryz.isAgg200 Tryz.sizeOf200 (gt 2) (aca 2) (acb 2) (tQ [1,0]) (ab7 X) 178 #[] b 0 Z d W (enters_of Tryz.func178 (by kernel_rfl) rfl) (avf b d.size W) U R Q;exact h
def EC:qn n7:=by
 intro x Z;simp only[n7,ayK,aAs,or_false] at Z;rcases Z with rfl|rfl|rfl|rfl|rfl|rfl;exact jm.of avi (by dsimp only;decide);exact jm.of auT (by dsimp only;decide);exact jm.of avh (by dsimp only;decide);exact jm.of avj (by dsimp only;decide);exact jm.of auX (by dsimp only;decide);unfold jm;rw[if_pos rfl];exact au1
end
end
end Go.Proofs.YtieaiocljdpebaaGreatDoor.Y
