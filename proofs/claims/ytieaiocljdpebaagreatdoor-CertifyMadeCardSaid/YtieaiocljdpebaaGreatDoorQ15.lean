/- Part 15 of the proof; the last part says what is shown. -/
import Derived.Test.YtieaiocljdpebaaGreatDoorQ14
import Derived.Test.YtieaiocljdpebaaGreatDoorQ12
import Derived.Test.YtieaiocljdpebaaGreatDoorQ7
import Derived.Shelf.SlSortCmp.WholeK
import Derived.Shelf.SlSortCmp.NoneTotal
import Derived.Shelf.SlicesG.Cmp
import Derived.Deep.RegionHeld3
import Derived.Deep.DrawnRows
set_option linter.all false
open Bool renaming and_eq_true->axI,false_eq_true->ax3,or_eq_true->ayb
open List renaming getElem?_eq_getElem->axK,getD_eq_getElem?_getD->axN,getElem?_map->axO,mem_cons->axT,map_cons->axV,replicate->axW,all_eq_true->axU,range->ax6,pairwise_cons->ax5,mem_map->aya,getElem?_eq_none->ax8,map_congr_left->ax7,eq_nil_of_length_eq_zero->ayd,ext_getElem?->ayf,getElem?_take->ayi,map_map->ayw,length_map->ayA,getElem_mem->ayT,pairwise_iff_getElem->azn,not_mem_nil->azs,mem_singleton->ayY,pairwise_map->azS,all_map->azU,length->azO
open Option.some renaming injEq->axM,inj->aym
open Nat renaming le_refl->axQ,zero_le->ayK,eq_zero_or_pos->ayW,mul_comm->az6,mod_lt->azX,div_lt_of_lt_mul->aAl,div_add_mod->aAm
open Option renaming map_eq_some_iff->azi
open Array renaming getElem?_eq_some_iff->ax9,length_toList->ayU,getElem?_modify->azk,getElem?_append_left->aAA,getElem_toList->aA6,extract_size->aBo
open List.Pairwise renaming nil->ayv
namespace Go.Proofs.YtieaiocljdpebaaGreatDoor.Y
open Go.RowKit
noncomputable section
variable{L:aa}{U:aI}{M:Bool}{W:List (List RV)}{V:List RV}
section
set_option maxRecDepth 100000
def al3{Z:List IE}{aA:List (List RV)}(h:kX L (.cz (0+3) U Z) M W=some aA):False:=by
 have h:lN 3 U (Z.map (IE.den L)) W=some aA:=h;obtain⟨_,h⟩:=wu h;obtain⟨a,b,c,X⟩:=xV (EQ (by omega) h);rw[X] at h;have e:jX 3 U [a,b,c] W=if decide (0<=a)&&decide (a<b)&&decide (b<c)&&decide (c<=W.length)&&decide (c-a<((0:Nat):Int))&&W.all U.ok&&sG U.lt (aJ W a.toNat b.toNat)&&sG U.lt (aJ W b.toNat c.toNat) then some (W.take a.toNat++(aU U.lt (aJ W a.toNat c.toNat)++W.drop c.toNat)) else none:=rfl;rw[e] at h;split at h;rename_i V;simp only[axI,decide_eq_true_eq] at V;omega;cases h
def al4(o:aI):∀l,pU o.lt (dj l)=pU o.lt l
 |[]=>rfl
 |x::r=>by
  have Z:=al4 o r;simp only[dj,axV,pU,azU] at Z⊢;rw[Z];congr 2;funext y;simp only[Function.comp,abo]
def abx{aA:List (List RV)}(h:dB U M W=some aA):dB U M (dj W)=some (dj aA):=by
 cases U with
 |cz k U X=>simp[dB] at h
 |_=>
  simp only[dB] at h⊢;rw[vO,alJ,al4,alI];split at h;rename_i Z;rw[if_pos Z];cases h;rfl;cases h
def KA:List Bool:=[true,true,true,true,true,true,true,true,true,true,true,true,true,true]
def IY(r:RE)(i:IE):List SV:=[.int .i64 (.cell r i 0),.int .i64 (.cell r i 1),.int .i64 (.cell r i 2),.int .i64 (.cell r i 3),.int .i64 (.cell r i 4),.int .i64 (.cell r i 5),.int .i64 (.cell r i 6),.int .i64 (.cell r i 7),.int .i64 (.cell r i 8),.int .i64 (.cell r i 9),.int .i64 (.cell r i 10),.int .i64 (.cell r i 11),.int .i64 (.cell r i 12),.int .i64 (.cell r i 13)]
def TG(h:ga KA V):∃Z X W U R Q P O N M L J I H,V=[.mk (.int .i64 Z) [],.mk (.int .i64 X) [],.mk (.int .i64 W) [],.mk (.int .i64 U) [],.mk (.int .i64 R) [],.mk (.int .i64 Q) [],.mk (.int .i64 P) [],.mk (.int .i64 O) [],.mk (.int .i64 N) [],.mk (.int .i64 M) [],.mk (.int .i64 L) [],.mk (.int .i64 J) [],.mk (.int .i64 I) [],.mk (.int .i64 H) []]:=by
 rcases V with _|⟨r,V⟩;exact h.elim;obtain⟨⟨Z,G⟩,h⟩:=h;subst G;rcases V with _|⟨q,V⟩;exact h.elim;obtain⟨⟨X,F⟩,h⟩:=h;subst F;rcases V with _|⟨p,V⟩;exact h.elim;obtain⟨⟨W,E⟩,h⟩:=h;subst E;rcases V with _|⟨o,V⟩;exact h.elim;obtain⟨⟨U,D⟩,h⟩:=h;subst D;rcases V with _|⟨n,V⟩;exact h.elim;obtain⟨⟨R,C⟩,h⟩:=h;subst C;rcases V with _|⟨m,V⟩;exact h.elim;obtain⟨⟨Q,B⟩,h⟩:=h;subst B;rcases V with _|⟨l,V⟩;exact h.elim;obtain⟨⟨P,A⟩,h⟩:=h;subst A;rcases V with _|⟨k,V⟩;exact h.elim;obtain⟨⟨O,z⟩,h⟩:=h;subst z;rcases V with _|⟨j,V⟩;exact h.elim;obtain⟨⟨N,y⟩,h⟩:=h;subst y;rcases V with _|⟨i,V⟩;exact h.elim;obtain⟨⟨M,w⟩,h⟩:=h;subst w;rcases V with _|⟨g,V⟩;exact h.elim;obtain⟨⟨L,v⟩,h⟩:=h;subst v;rcases V with _|⟨f,V⟩;exact h.elim;obtain⟨⟨J,u⟩,h⟩:=h;subst u;rcases V with _|⟨e,V⟩;exact h.elim;obtain⟨⟨I,t⟩,h⟩:=h;subst t;rcases V with _|⟨d,V⟩;exact h.elim;obtain⟨⟨H,s⟩,h⟩:=h;subst s;cases h;exact⟨Z,X,W,U,R,Q,P,O,N,M,L,J,I,H,rfl⟩
def aby:Aa KA IY:=by
 refine⟨λO r i x Z X=> ?_,λO r i x Z X y V=> ?_⟩;obtain⟨W,U,R,Q,P,N,M,L,J,I,H,G,F,E,rfl⟩:=TG X;simp[IY,SV.bu,IE.den,cellAt,axN,Z,bg];obtain⟨W,U,R,Q,P,N,M,L,J,I,H,G,F,E,rfl⟩:=TG X;have e:∀(q:RE),q.rv (O.at y)=q.rv O:=λq=>RE.jG O y q
 have D:∀(q:IE),q.den (O.at y)=q.den O:=λq=>IE.cS O y q
 simp[IY,SV.ap,SV.den,IE.den,cellAt,axN,e,D,Z,bg]
def KB:List Bool:=[true,true,true,false,true]
def IZ(r:RE)(i:IE):List SV:=[.int .i64 (.cell r i 0),.int .i64 (.cell r i 1),.int .i64 (.cell r i 2),.bool (.cell r i 3),.int .i64 (.cell r i 4)]
def TH(h:ga KB V):∃Z X W U R,V=[.mk (.int .i64 Z) [],.mk (.int .i64 X) [],.mk (.int .i64 W) [],.mk (.bool U) [],.mk (.int .i64 R) []]:=by
 rcases V with _|⟨L,V⟩;exact h.elim;obtain⟨⟨Z,Q⟩,h⟩:=h;subst Q;rcases V with _|⟨J,V⟩;exact h.elim;obtain⟨⟨X,P⟩,h⟩:=h;subst P;rcases V with _|⟨I,V⟩;exact h.elim;obtain⟨⟨W,O⟩,h⟩:=h;subst O;rcases V with _|⟨H,V⟩;exact h.elim;obtain⟨⟨U,N⟩,h⟩:=h;subst N;rcases V with _|⟨G,V⟩;exact h.elim;obtain⟨⟨R,M⟩,h⟩:=h;subst M;cases h;exact⟨Z,X,W,U,R,rfl⟩
def abz:Aa KB IZ:=by
 refine⟨λO r i x Z X=> ?_,λO r i x Z X y V=> ?_⟩;obtain⟨W,U,R,Q,P,rfl⟩:=TH X;simp[IZ,SV.bu,IE.den,BE.den,cellAt,axN,Z,bg,gV];obtain⟨W,U,R,Q,P,rfl⟩:=TH X;have e:∀(q:RE),q.rv (O.at y)=q.rv O:=λq=>RE.jG O y q
 have N:∀(q:IE),q.den (O.at y)=q.den O:=λq=>IE.cS O y q
 simp[IZ,SV.ap,SV.den,IE.den,BE.den,cellAt,axN,e,N,Z,bg,gV]
def al5{p:Sp}{Z:List LC}{U:aY}{Q:List RK}{X:IE}(h:∀W,dM p.S0 p.w0 W->p.R (.returned (.int .i64 (X.den L))) W):(T.ret (.int .i64 X) U Q).aG p L Z:=by
 intro y V W R;have:=h W R.base;simpa[SV.den,IE.cS] using this
def OC(P:Program)(U:Ty)(X:World)(W:List Int)(V:List Bool):ao [] X bB.none U [] ⟨W,V,[],[]⟩ {(⟨[],[],W.length,V.length,[],0,0,[]⟩:S) with tmps:=[]} ⟨#[],[]⟩ X:=
 ⟨⟨dM.refl _ _,λi h=>by simp[aD,bF] at h,λi j h=>by simp[aD,bF] at h,λi t N h=>by simp[bF] at h,λq R Q Z O=>by simp at Z⟩,rfl,rfl,rfl,rfl,OA _ _,rfl,λt M h=>by simp at h,λq R Q b Z O L=>by simp at Z⟩
def abA(P:Program)(o:aI)(W:World)(x y:List RV):Ending->World->Prop:=λZ X=>Below W.heap.size W X/\∃c:Int,Z=.returned (.int .i64 c)/\(c<0<->o.lt x y=true)
def al6{g:FuncId}{Z:Func}{c:Code}{n:Nat}{args:List SV}{t:T}(N:Tryz.prog.funcs[g]?=some Z)(M:Z.body=some c){y:List RV}(X:List Int)(Q:List Bool)
  (L:Jr (mA Tryz.prog TT SG [] [] [] [] false []) n g c Z.ntmps Z.results.toList args ⟨[],[],X.length,Q.length,[],0,0,[]⟩=t)(W:World)(J:(SV.ap ⟨X,Q,[],[]⟩ [] args).toArray= #[.agg (V.map RV.val).toArray,.agg (y.map RV.val).toArray])
  (I:∀p:Sp,p.P=Tryz.prog->p.S0=[]->p.w0=W->p.R=abA Tryz.prog U W V y->t.aG p ⟨X,Q,[],[]⟩ []):Calls Tryz.prog g #[.agg (V.map RV.val).toArray,.agg (y.map RV.val).toArray] W (abA Tryz.prog U W V y):=by
 let p:Sp:=⟨Tryz.prog,look TT,[],W,bB.none,abA Tryz.prog U W V y,λ_ _ _=>False⟩;have H:jE p (mA Tryz.prog TT SG [] [] [] [] false []):=Oq IQ Td rfl Te (λF E b ob _ h=>by obtain⟨_,c,G,_⟩:=h;cases G) (λV O=>by cases O);rw[<-J];exact ae0 (p:=p) H N M L (I p rfl rfl rfl rfl) (λV O=>by simp[mA] at O) (OC Tryz.prog _ W X Q)
def al7(x y:Int):ajd x y<0<->x<y:=by
 unfold ajd;split;omega;split<;>omega
def at8:T:=(.call 142 [(.agg [(.int .i64 (.v 10)),(.int .i64 (.v 11))]),(.agg [(.int .i64 (.v 24)),(.int .i64 (.v 25))])] [] [] [.int .i64,.int .i64] (.bm [(.int .i64 (.v 28)),(.int .i64 (.v 29))])
 (.ret (.int .i64 (.v 28)) [] []))
def at9:T:=(.call 110 [(.int .i64 (.v 7)),(.int .i64 (.v 3))] [] [] [.int .i64] (.int .i64 (.v 8))
 (.ret (.int .i64 (.v 8)) [] []))
def MA:EP Tryz.prog KA 141 (.ratio 10 11):=by
 intro W x y O N M L;obtain⟨J,I,H,G,F,E,D,C,B,A,Z,X,z,w,rfl⟩:=TG O;obtain⟨u,s,r,q,o,m,l,k,j,h,U,Q,g,f,rfl⟩:=TG N;refine al6 (t:=at8) (n:=100) (args:=[(.agg [(.int .i64 (.v 0)),(.int .i64 (.v 1)),(.int .i64 (.v 2)),(.int .i64 (.v 3)),(.int .i64 (.v 4)),(.int .i64 (.v 5)),(.int .i64 (.v 6)),(.int .i64 (.v 7)),(.int .i64 (.v 8)),(.int .i64 (.v 9)),(.int .i64 (.v 10)),(.int .i64 (.v 11)),(.int .i64 (.v 12)),(.int .i64 (.v 13))]),(.agg [(.int .i64 (.v 14)),(.int .i64 (.v 15)),(.int .i64 (.v 16)),(.int .i64 (.v 17)),(.int .i64 (.v 18)),(.int .i64 (.v 19)),(.int .i64 (.v 20)),(.int .i64 (.v 21)),(.int .i64 (.v 22)),(.int .i64 (.v 23)),(.int .i64 (.v 24)),(.int .i64 (.v 25)),(.int .i64 (.v 26)),(.int .i64 (.v 27))])]) rfl rfl [J,I,H,G,F,E,D,C,B,A,Z,X,z,w,u,s,r,q,o,m,l,k,j,h,U,Q,g,f] [] (by kernel_rfl) W rfl ?_;rintro p e d c b;have a:gX Z X=true:=M;have h2:gX U Q=true:=L;intro yy V W' R;rw[e];refine(atB a h2 W').mono ?_;rintro en W2 ⟨rfl,hB⟩;refine⟨[.i (ajd (Z*Q) (U*X)),.i 0],⟨trivial,trivial,trivial⟩,rfl,hB,⟨trivial,trivial,trivial⟩,al5 λW3 P=> ?_⟩;rw[d,c] at P;rw[b];refine⟨Kd P,_,rfl, ?_⟩;simp[IE.den,aa.ext,aa.add,aI.lt,aP,bg,al7]
def MB:EP Tryz.prog KB 323 (.lex [4] true):=by
 intro W x y Q P z w;obtain⟨O,N,M,L,Z,rfl⟩:=TH Q;obtain⟨J,I,H,G,X,rfl⟩:=TH P;refine al6 (t:=at9) (n:=100) (args:=[(.agg [(.int .i64 (.v 0)),(.int .i64 (.v 1)),(.int .i64 (.v 2)),(.bool (.v 0)),(.int .i64 (.v 3))]),(.agg [(.int .i64 (.v 4)),(.int .i64 (.v 5)),(.int .i64 (.v 6)),(.bool (.v 1)),(.int .i64 (.v 7))])]) rfl rfl [O,N,M,Z,J,I,H,X] [L,G] (by kernel_rfl) W rfl ?_;rintro p F E D C;intro u V B R;rw[F];refine(atC X Z B).mono ?_;rintro s r ⟨rfl,A⟩;refine⟨[.i (ajd X Z)],⟨trivial,trivial⟩,rfl,A,⟨trivial,trivial⟩,al5 λq U=> ?_⟩;rw[E,D] at U;rw[C];refine⟨Kd U,_,rfl, ?_⟩;simp[IE.den,aa.ext,aa.add,aI.lt,fJ,aP,bg,al7];omega
def aua:lQ Tryz.prog (look TT) 358 141 90 (.cz 0 (.ratio 10 11) []) false:=
 Ck (K:=KA) (n:=100) (args:=[(.ref (.v 0)),(.int .i64 (.v 0)),(.int .i64 (.v 1)),(.int .i64 (.v 2)),(.fn 141 [])]) (loops:=[(358,1,⟨[(0,.ref (.own 90)),(10,.int .i64)],[]⟩)]) (srts:=[]) (chs:=[(358,3)]) (t:=Ts 90 IY) rfl rfl rfl (by kernel_rfl) (λx Z=>by cases Z) (by kernel_rfl) MA (by kernel_rfl) (alS aby) (λX W h=>by obtain⟨a,b,c,rfl⟩:=xV h;rfl) (λX V aA h=>EQ (by omega) h)
def aub:lQ Tryz.prog (look TT) 320 141 90 (.cz 1 (.ratio 10 11) []) false:=
 Ck (K:=KA) (n:=100) (args:=[(.ref (.v 0)),(.int .i64 (.v 0)),(.int .i64 (.v 1)),(.int .i64 (.v 2)),(.fn 141 [])]) (loops:=[(320,2,⟨[(0,.ref (.own 90)),(10,.int .i64),(11,.int .i64)],[]⟩)]) (srts:=[(358,141,90,.cz 0 (.ratio 10 11) [],false)]) (chs:=[]) (t:=Tt 90 141 358 (.ratio 10 11)) rfl rfl rfl (by kernel_rfl) (λx Z=>by simp only[ayY] at Z;subst Z;exact aua) (by kernel_rfl) MA (by kernel_rfl) (alU) (λX W h=>by obtain⟨a,b,c,rfl⟩:=xV h;rfl) (λX V aA h=>EQ (by omega) h)
def auc:lQ Tryz.prog (look TT) 273 141 90 (.cz 2 (.ratio 10 11) []) false:=
 Ck (K:=KA) (n:=100) (args:=[(.ref (.v 0)),(.int .i64 (.v 0)),(.int .i64 (.v 1)),(.fn 141 [])]) (loops:=[(273,1,⟨[(0,.ref (.own 90)),(8,.int .i64)],[]⟩),(273,4,⟨[(0,.ref (.own 90)),(9,.int .i64)],[]⟩)]) (srts:=[]) (chs:=[(273,6)]) (t:=Tu 90 141 IY) rfl rfl rfl (by kernel_rfl) (λx Z=>by cases Z) (by kernel_rfl) MA (by kernel_rfl) (alX aby (abm 10 11)) (λX W h=>by obtain⟨a,b,rfl⟩:=two h;rfl) (λX V aA h=>alQ h)
def al8:∀N:Nat,lQ Tryz.prog (look TT) 274 141 90 (.cz (N+3) (.ratio 10 11) []) false
 |0=>⟨uG (by kernel_rfl),λW A n Q U aA O Z P X M L R=>by
  simp only[aI.fill,axM] at X;subst X;exact(al3 R).elim⟩
 |N+1=>Ck (K:=KA) (n:=100) (args:=[(.ref (.v 0)),(.int .i64 (.v 0)),(.int .i64 (.v 1)),(.int .i64 (.v 2)),(.fn 141 [])]) (loops:=[(274,3,⟨[(0,.ref (.own 90)),(10,.int .i64),(11,.int .i64)],[]⟩),(274,9,⟨[(0,.ref (.own 90)),(13,.int .i64)],[]⟩),(274,15,⟨[(0,.ref (.own 90)),(14,.int .i64),(15,.int .i64)],[]⟩),(274,21,⟨[(0,.ref (.own 90)),(17,.int .i64)],[]⟩),(274,33,⟨[(0,.ref (.own 90)),(20,.int .i64),(21,.int .i64)],[]⟩)]) (srts:=[(320,141,90,.cz 1 (.ratio 10 11) [],false),(274,141,90,.cz (N+3) (.ratio 10 11) [],false)]) (chs:=[(274,11),(274,23)]) (t:=Tw 90 141 320 274 N (.ratio 10 11) IY) rfl rfl rfl (by kernel_rfl) (λx V=>by
   simp only[axT,azs,or_false] at V;rcases V with rfl|rfl;exact aub;exact al8 N) (by kernel_rfl) MA (by kernel_rfl) (al0 aby (abm 10 11)) (λZ J h=>by obtain⟨a,b,c,rfl⟩:=xV h;rfl) (λZ U aA h=>EQ (by omega) h)
def aud:lQ Tryz.prog (look TT) 140 141 90 (.ratio 10 11) true:=by
 refine⟨uG (by kernel_rfl),λW A n I X aA O Z H U M L R=> ?_⟩;cases Z with
 |cons _ _=>simp[aI.fill] at U
 |nil=>
  simp only[aI.fill,axM] at U;subst U;have R:dB (.ratio 10 11) true X=some aA:=R;refine abp (K:=KA) (o:=(.ratio 10 11)) (N:=0) (n:=100) (inl:=[209]) (args:=[(.ref (.v 0)),(.fn 141 [])]) (loops:=[(209,2,⟨[(0,.ref (.own 90)),(8,.int .i64),(7,.int .i64)],[]⟩),(209,7,⟨[(0,.ref (.own 90)),(6,.int .i64)],[]⟩),(209,9,⟨[(0,.ref (.own 90)),(8,.int .i64),(7,.int .i64)],[]⟩)]) (srts:=[(273,141,90,.cz 2 (.ratio 10 11) [],false),(274,141,90,.cz (X.length+1+3) (.ratio 10 11) [],false)]) (chs:=[]) (F:=λZ V=>if Z=[]/\V.length<X.length+1 then dB (.ratio 10 11) true V else none) (t:=Tx 90 141 273 274 (X.length+1) (.ratio 10 11)) rfl rfl rfl (by kernel_rfl) (λx P=> ?_) (by kernel_rfl) MA (by kernel_rfl) (al2 (abm 10 11)) (λZ G h=> ?_) (λZ V J h=> ?_) (λZ V J h=> ?_) M L ?_;simp only[axT,azs,or_false] at P;rcases P with rfl|rfl;exact auc;exact al8 _;have:Z=[]:=ayd h;subst this;rfl;split at h;rename_i Q;rw[if_pos (by rw[vO];exact Q)];exact abx h;cases h;split at h;rename_i Q;exact⟨by rw[Q.1];rfl,Vd h⟩;cases h;rw[if_pos ⟨rfl,by omega⟩];exact R
def aue:lQ Tryz.prog (look TT) 379 323 393 (.cz 0 (.lex [4] true) []) false:=
 Ck (K:=KB) (n:=100) (args:=[(.ref (.v 0)),(.int .i64 (.v 0)),(.int .i64 (.v 1)),(.int .i64 (.v 2)),(.fn 323 [])]) (loops:=[(379,1,⟨[(0,.ref (.own 393)),(10,.int .i64)],[]⟩)]) (srts:=[]) (chs:=[(379,3)]) (t:=Ts 393 IZ) rfl rfl rfl (by kernel_rfl) (λx Z=>by cases Z) (by kernel_rfl) MB (by kernel_rfl) (alS abz) (λX W h=>by obtain⟨a,b,c,rfl⟩:=xV h;rfl) (λX V aA h=>EQ (by omega) h)
def auf:lQ Tryz.prog (look TT) 378 323 393 (.cz 1 (.lex [4] true) []) false:=
 Ck (K:=KB) (n:=100) (args:=[(.ref (.v 0)),(.int .i64 (.v 0)),(.int .i64 (.v 1)),(.int .i64 (.v 2)),(.fn 323 [])]) (loops:=[(378,2,⟨[(0,.ref (.own 393)),(10,.int .i64),(11,.int .i64)],[]⟩)]) (srts:=[(379,323,393,.cz 0 (.lex [4] true) [],false)]) (chs:=[]) (t:=Tt 393 323 379 (.lex [4] true)) rfl rfl rfl (by kernel_rfl) (λx Z=>by simp only[ayY] at Z;subst Z;exact aue) (by kernel_rfl) MB (by kernel_rfl) (alU) (λX W h=>by obtain⟨a,b,c,rfl⟩:=xV h;rfl) (λX V aA h=>EQ (by omega) h)
def aug:lQ Tryz.prog (look TT) 373 323 393 (.cz 2 (.lex [4] true) []) false:=
 Ck (K:=KB) (n:=100) (args:=[(.ref (.v 0)),(.int .i64 (.v 0)),(.int .i64 (.v 1)),(.fn 323 [])]) (loops:=[(373,1,⟨[(0,.ref (.own 393)),(8,.int .i64)],[]⟩),(373,4,⟨[(0,.ref (.own 393)),(9,.int .i64)],[]⟩)]) (srts:=[]) (chs:=[(373,6)]) (t:=Tu 393 323 IZ) rfl rfl rfl (by kernel_rfl) (λx Z=>by cases Z) (by kernel_rfl) MB (by kernel_rfl) (alX abz (Tq [4] true)) (λX W h=>by obtain⟨a,b,rfl⟩:=two h;rfl) (λX V aA h=>alQ h)
def al9:∀N:Nat,lQ Tryz.prog (look TT) 374 323 393 (.cz (N+3) (.lex [4] true) []) false
 |0=>⟨uG (by kernel_rfl),λW A n Q U aA O Z P X M L R=>by
  simp only[aI.fill,axM] at X;subst X;exact(al3 R).elim⟩
 |N+1=>Ck (K:=KB) (n:=100) (args:=[(.ref (.v 0)),(.int .i64 (.v 0)),(.int .i64 (.v 1)),(.int .i64 (.v 2)),(.fn 323 [])]) (loops:=[(374,3,⟨[(0,.ref (.own 393)),(10,.int .i64),(11,.int .i64)],[]⟩),(374,9,⟨[(0,.ref (.own 393)),(13,.int .i64)],[]⟩),(374,15,⟨[(0,.ref (.own 393)),(14,.int .i64),(15,.int .i64)],[]⟩),(374,21,⟨[(0,.ref (.own 393)),(17,.int .i64)],[]⟩),(374,33,⟨[(0,.ref (.own 393)),(20,.int .i64),(21,.int .i64)],[]⟩)]) (srts:=[(378,323,393,.cz 1 (.lex [4] true) [],false),(374,323,393,.cz (N+3) (.lex [4] true) [],false)]) (chs:=[(374,11),(374,23)]) (t:=Tw 393 323 378 374 N (.lex [4] true) IZ) rfl rfl rfl (by kernel_rfl) (λx V=>by
   simp only[axT,azs,or_false] at V;rcases V with rfl|rfl;exact auf;exact al9 N) (by kernel_rfl) MB (by kernel_rfl) (al0 abz (Tq [4] true)) (λZ J h=>by obtain⟨a,b,c,rfl⟩:=xV h;rfl) (λZ U aA h=>EQ (by omega) h)
def auh:lQ Tryz.prog (look TT) 322 323 393 (.lex [4] true) true:=by
 refine⟨uG (by kernel_rfl),λW A n I X aA O Z H U M L R=> ?_⟩;cases Z with
 |cons _ _=>simp[aI.fill] at U
 |nil=>
  simp only[aI.fill,axM] at U;subst U;have R:dB (.lex [4] true) true X=some aA:=R;refine abp (K:=KB) (o:=(.lex [4] true)) (N:=0) (n:=100) (inl:=[360]) (args:=[(.ref (.v 0)),(.fn 323 [])]) (loops:=[(360,2,⟨[(0,.ref (.own 393)),(8,.int .i64),(7,.int .i64)],[]⟩),(360,7,⟨[(0,.ref (.own 393)),(6,.int .i64)],[]⟩),(360,9,⟨[(0,.ref (.own 393)),(8,.int .i64),(7,.int .i64)],[]⟩)]) (srts:=[(373,323,393,.cz 2 (.lex [4] true) [],false),(374,323,393,.cz (X.length+1+3) (.lex [4] true) [],false)]) (chs:=[]) (F:=λZ V=>if Z=[]/\V.length<X.length+1 then dB (.lex [4] true) true V else none) (t:=Tx 393 323 373 374 (X.length+1) (.lex [4] true)) rfl rfl rfl (by kernel_rfl) (λx P=> ?_) (by kernel_rfl) MB (by kernel_rfl) (al2 (Tq [4] true)) (λZ G h=> ?_) (λZ V J h=> ?_) (λZ V J h=> ?_) M L ?_;simp only[axT,azs,or_false] at P;rcases P with rfl|rfl;exact aug;exact al9 _;have:Z=[]:=ayd h;subst this;rfl;split at h;rename_i Q;rw[if_pos (by rw[vO];exact Q)];exact abx h;cases h;split at h;rename_i Q;exact⟨by rw[Q.1];rfl,Vd h⟩;cases h;rw[if_pos ⟨rfl,by omega⟩];exact R
end
section
open Go.Shelf Go.RowKit Go.Lib Go.Sort
def cG{o:Option Func}{a b:Func}(h:o=some a)(e:a=b):o=some b:=h.trans (congrArg some e)
def Tryz.cmpInt_ren:Go.Shelf.Ren:=⟨λ|5=>110|7=>192|n=>n,λ|22=>3|3=>3|4=>4|n=>n,λ|n=>n⟩
def Tryz.cmpInt:Go.Proofs.SlLaysC2.n5 Tryz.prog Tryz.cmpInt_ren:={mixed:=by kernel_rfl,f5:=⟨Tryz.f110.name,by decide,cG Tryz.func110 (by kernel_rfl)⟩,f7:=⟨Tryz.f192.name,by decide,cG Tryz.func192 (by kernel_rfl)⟩,t3:=Tryz.underlying3,a3:=Tryz.isAgg3,z3:=Tryz.sizeOf3,v3:=Tryz.zeroValue3,t4:=Tryz.underlying4,a4:=Tryz.isAgg4,z4:=Tryz.sizeOf4,v4:=Tryz.zeroValue4,t22:=Tryz.underlying3,a22:=Tryz.isAgg3,z22:=Tryz.sizeOf3,v22:=Tryz.zeroValue3}
def Tryz.sortSg_ren:Go.Shelf.Ren:=⟨λ|6=>223|15=>108|14=>283|28=>190|29=>191|20=>273|21=>326|22=>327|23=>328|24=>329|25=>330|26=>331|27=>332|46=>362|47=>254|48=>255|49=>363|50=>364|57=>375|n=>n,λ|22=>30|24=>90|25=>234|3=>3|39=>205|0=>0|53=>287|55=>289|4=>4|46=>280|45=>279|50=>284|5=>5|9=>9|66=>336|70=>166|76=>382|77=>298|n=>n,λ|n=>n⟩
def Tryz.sortSg:Go.Proofs.SlLaysF0.n6 Tryz.prog Tryz.sortSg_ren:={mixed:=by kernel_rfl,f6:=⟨Tryz.f223.name,by decide,cG Tryz.func223 (by kernel_rfl)⟩,f14:=⟨Tryz.f283.name,by decide,cG Tryz.func283 (by kernel_rfl)⟩,f15:=cG Tryz.func108 (by kernel_rfl),f20:=⟨Tryz.f273.name,by decide,cG Tryz.func273 (by kernel_rfl)⟩,f21:=⟨Tryz.f326.name,by decide,cG Tryz.func326 (by kernel_rfl)⟩,f22:=⟨Tryz.f327.name,by decide,cG Tryz.func327 (by kernel_rfl)⟩,f23:=⟨Tryz.f328.name,by decide,cG Tryz.func328 (by kernel_rfl)⟩,f24:=⟨Tryz.f329.name,by decide,cG Tryz.func329 (by kernel_rfl)⟩,f25:=⟨Tryz.f330.name,by decide,cG Tryz.func330 (by kernel_rfl)⟩,f26:=⟨Tryz.f331.name,by decide,cG Tryz.func331 (by kernel_rfl)⟩,f27:=⟨Tryz.f332.name,by decide,cG Tryz.func332 (by kernel_rfl)⟩,f28:=cG Tryz.func190 (by kernel_rfl),f29:=cG Tryz.func191 (by kernel_rfl),f46:=⟨Tryz.f362.name,by decide,cG Tryz.func362 (by kernel_rfl)⟩,f47:=cG Tryz.func254 (by kernel_rfl),f48:=cG Tryz.func255 (by kernel_rfl),f49:=⟨Tryz.f363.name,by decide,cG Tryz.func363 (by kernel_rfl)⟩,f50:=⟨Tryz.f364.name,by decide,cG Tryz.func364 (by kernel_rfl)⟩,f57:=⟨Tryz.f375.name,by decide,cG Tryz.func375 (by kernel_rfl)⟩,t0:=Tryz.underlying0,a0:=Tryz.isAgg0,z0:=Tryz.sizeOf0,v0:=Tryz.zeroValue0,t3:=Tryz.underlying3,a3:=Tryz.isAgg3,z3:=Tryz.sizeOf3,v3:=Tryz.zeroValue3,t4:=Tryz.underlying4,a4:=Tryz.isAgg4,z4:=Tryz.sizeOf4,v4:=Tryz.zeroValue4,t5:=Tryz.underlying5,a5:=Tryz.isAgg5,z5:=Tryz.sizeOf5,v5:=Tryz.zeroValue5,t9:=Tryz.underlying9,a9:=Tryz.isAgg9,z9:=Tryz.sizeOf9,v9:=Tryz.zeroValue9,t22:=Tryz.underlying30,a22:=Tryz.isAgg30,z22:=Tryz.sizeOf30,v22:=Tryz.zeroValue30,t25:=Tryz.underlying234,a25:=Tryz.isAgg234,z25:=Tryz.sizeOf234,v25:=Tryz.zeroValue234,t39:=Tryz.underlying205,a39:=Tryz.isAgg205,z39:=Tryz.sizeOf205,v39:=Tryz.zeroValue205,t45:=Tryz.underlying279,a45:=Tryz.isAgg279,z45:=Tryz.sizeOf279,v45:=Tryz.zeroValue279,t46:=Tryz.underlying280,a46:=Tryz.isAgg280,z46:=Tryz.sizeOf280,v46:=Tryz.zeroValue280,t50:=Tryz.underlying284,a50:=Tryz.isAgg284,z50:=Tryz.sizeOf284,v50:=Tryz.zeroValue284,t53:=Tryz.underlying287,a53:=Tryz.isAgg287,z53:=Tryz.sizeOf287,v53:=Tryz.zeroValue287,t55:=Tryz.underlying289,a55:=Tryz.isAgg289,z55:=Tryz.sizeOf289,v55:=Tryz.zeroValue289,t66:=Tryz.underlying336,a66:=Tryz.isAgg336,z66:=Tryz.sizeOf336,v66:=Tryz.zeroValue336,t70:=Tryz.underlying166,a70:=Tryz.isAgg166,z70:=Tryz.sizeOf166,v70:=Tryz.zeroValue166,t76:=Tryz.underlying382,a76:=Tryz.isAgg382,z76:=Tryz.sizeOf382,v76:=Tryz.zeroValue382,t77:=Tryz.underlying298,a77:=Tryz.isAgg298,z77:=Tryz.sizeOf298,v77:=Tryz.zeroValue298}
set_option maxHeartbeats 1000000 in
def aui (Z Q P O N M L J I H G F E D X C B A z y x w v u t s p o:Int) (W:World):Calls Tryz.prog 224 #[.agg #[.int .i64 Z,.int .i64 Q,.int .i64 P,.int .i64 O,.int .i64 N,.int .i64 M,.int .i64 L,.int .i64 J,.int .i64 I,.int .i64 H,.int .i64 G,.int .i64 F,.int .i64 E,.int .i64 D],.agg #[.int .i64 X,.int .i64 C,.int .i64 B,.int .i64 A,.int .i64 z,.int .i64 y,.int .i64 x,.int .i64 w,.int .i64 v,.int .i64 u,.int .i64 t,.int .i64 s,.int .i64 p,.int .i64 o]] W λe U=>e=.returned (.int .i64 (Lib.compareInt Z X))/\∃q n,U=grow (W.drewN q) n:=by
 have V:=λR=>AnyG.cmp_Compare_int Tryz.cmpInt Z X R
 change∀R,Calls Tryz.prog 110 _ _ _ at V;generalize Lib.compareInt Z X=r at V⊢;go_enter Tryz.func224,Tryz.ntmps224
 go_wp2_with (go_at_call 110;refine(V _).mono ?_;rintro e U ⟨rfl,rfl⟩)
 go_ret;exact⟨rfl,0,_,by rw[alloc_eq_grow,alloc_eq_grow,grow_grow];rfl⟩
end
section
attribute[local go_sem ↓] Go.wp_at_zero Go.wp_at_succ
open Go.Shelf Go.RowKit Go.Lib Go.Sort
def j9:List Int->Int
 |[]=>0
 |a::l=>if a=0 then j9 l else a
set_option maxHeartbeats 1000000 in
def or2 (b:Nat) (Z X:Int) (W:World) (N:W.cell? ⟨b,0,none⟩=some (.int .i64 Z)) (M:W.cell? ⟨b,1,none⟩=some (.int .i64 X)):Calls Tryz.prog 109 #[.slice (some ⟨b,0,none⟩) 2 2] W λe Q=>e=.returned (.int .i64 (j9 [Z,X]))/\Q=W:=by
 by_cases V:Z=0;have P:(Z !=0)=false:=by simp[V]
 by_cases R:X=0
 ·have O:(X !=0)=false:=by simp[R]
  have U:j9 [Z,X]=0:=by simp[j9,V,R]
  rw[U];clear U;clear V R;go_enter Tryz.func109,Tryz.ntmps109;go_wp2;refine wp_loop_rounds 3 ?_
  iterate 3 (rw[rounds_succ];go_wp2)
  go_ret;exact⟨rfl,rfl⟩
 ·have O:(X !=0)=true:=by simp[R]
  have U:j9 [Z,X]=X:=by simp[j9,V,R]
  rw[U];clear U;clear V R;go_enter Tryz.func109,Tryz.ntmps109;go_wp2;refine wp_loop_rounds 3 ?_
  iterate 2 (rw[rounds_succ];go_wp2)
  go_ret;exact⟨rfl,rfl⟩
 ·have P:(Z !=0)=true:=by simp[V]
  have U:j9 [Z,X]=Z:=by simp[j9,V]
  rw[U];clear U;clear V;go_enter Tryz.func109,Tryz.ntmps109;go_wp2;refine wp_loop_rounds 3 ?_
  iterate 1 (rw[rounds_succ];go_wp2)
  go_ret;exact⟨rfl,rfl⟩
def MC(W:World)(X V:Obj)(Z:Array Value)(t:TypeId)(i:Nat)(v:Value)(h:Z[i]?=some v):(((W.alloc X).alloc V).alloc (.cells Z t)).drew.cell? ⟨W.heap.size+1+1,i,none⟩=some v:=by
 have e:(((W.alloc X).alloc V).alloc (.cells Z t)).heap[W.heap.size+1+1]?=some (.cells Z t):=by
  have:=heap_alloc_new ((W.alloc X).alloc V) (.cells Z t);simpa using this
 show World.cell? _ _=_;simp only[World.cell?,World.drew,e];simpa using h
def ama(W:World)(Z X V:Obj):∃q U,(((W.alloc Z).alloc X).alloc V).drew=grow (W.drewN q) U:=⟨1, #[Z]++ #[X]++ #[V],by rw[alloc_eq_grow,alloc_eq_grow,alloc_eq_grow,grow_grow,grow_grow];rfl⟩
set_option maxHeartbeats 4000000 in
set_option maxRecDepth 100000 in
def auk (X V U R:Int) (W:World):Calls Tryz.prog 178 #[.agg #[.int .i64 X,.int .i64 V],.agg #[.int .i64 U,.int .i64 R]] W λe Z=>e=.returned (.int .i64 (j9 [Lib.compareInt V R,Lib.compareInt X U]))/\∃q N,Z=grow (W.drewN q) N:=by
 have Q:=λx y P=>AnyG.cmp_Compare_int Tryz.cmpInt x y P
 change∀x y P,Calls Tryz.prog 110 _ _ _ at Q;generalize Lib.compareInt=O at Q⊢;go_enter Tryz.func178,Tryz.ntmps178;go_wp2
 go_region_held3 (λZ=>Z.cell? ⟨W.heap.size,0,none⟩=some (.int .i64 X)/\Z.cell? ⟨W.heap.size,1,none⟩=some (.int .i64 V)/\Z.cell? ⟨W.heap.size+1,0,none⟩=some (.int .i64 U)/\Z.cell? ⟨W.heap.size+1,1,none⟩=some (.int .i64 R)) (go_keep)
  (first|(go_at_call 110;refine(Q _ _ _).mono ?_;rintro e Z ⟨rfl,rfl⟩)|(go_at_call 109;refine Calls.mono (or2 _ (O V R) (O X U) _ (MC _ _ _ _ _ _ _ rfl) (MC _ _ _ _ _ _ _ rfl)) ?_;rintro e Z ⟨rfl,rfl⟩))
 all_goals go_wp2
 all_goals go_ret
 exact⟨rfl,ama _ _ _ _⟩
set_option maxHeartbeats 1000000 in
def or3 (b:Nat) (X V U:Int) (W:World) (J:W.cell? ⟨b,0,none⟩=some (.int .i64 X)) (I:W.cell? ⟨b,1,none⟩=some (.int .i64 V)) (H:W.cell? ⟨b,2,none⟩=some (.int .i64 U)):Calls Tryz.prog 109 #[.slice (some ⟨b,0,none⟩) 3 3] W λe O=>e=.returned (.int .i64 (j9 [X,V,U]))/\O=W:=by
 by_cases R:X=0;have N:(X !=0)=false:=by simp[R]
 by_cases Q:V=0;have M:(V !=0)=false:=by simp[Q]
 by_cases P:U=0
 ·have L:(U !=0)=false:=by simp[P]
  have Z:j9 [X,V,U]=0:=by simp[j9,R,Q,P]
  rw[Z];clear Z;clear R Q P;go_enter Tryz.func109,Tryz.ntmps109;go_wp2;refine wp_loop_rounds 4 ?_
  iterate 4 (rw[rounds_succ];go_wp2)
  go_ret;exact⟨rfl,rfl⟩
 ·have L:(U !=0)=true:=by simp[P]
  have Z:j9 [X,V,U]=U:=by simp[j9,R,Q,P]
  rw[Z];clear Z;clear R Q P;go_enter Tryz.func109,Tryz.ntmps109;go_wp2;refine wp_loop_rounds 4 ?_
  iterate 3 (rw[rounds_succ];go_wp2)
  go_ret;exact⟨rfl,rfl⟩
 ·have M:(V !=0)=true:=by simp[Q]
  have Z:j9 [X,V,U]=V:=by simp[j9,R,Q]
  rw[Z];clear Z;clear R Q;go_enter Tryz.func109,Tryz.ntmps109;go_wp2;refine wp_loop_rounds 4 ?_
  iterate 2 (rw[rounds_succ];go_wp2)
  go_ret;exact⟨rfl,rfl⟩
 ·have N:(X !=0)=true:=by simp[R]
  have Z:j9 [X,V,U]=X:=by simp[j9,R]
  rw[Z];clear Z;clear R;go_enter Tryz.func109,Tryz.ntmps109;go_wp2;refine wp_loop_rounds 4 ?_
  iterate 1 (rw[rounds_succ];go_wp2)
  go_ret;exact⟨rfl,rfl⟩
set_option maxHeartbeats 4000000 in
set_option maxRecDepth 100000 in
def w52 (X V U R Q P:Int) (W:World):Calls Tryz.prog 52 #[.agg #[.int .i64 X,.int .i64 V,.int .i64 U],.agg #[.int .i64 R,.int .i64 Q,.int .i64 P]] W λe Z=>e=.returned (.int .i64 (j9 [Lib.compareInt X R,Lib.compareInt V Q,Lib.compareInt U P]))/\∃q L,Z=grow (W.drewN q) L:=by
 have O:=λx y M=>AnyG.cmp_Compare_int Tryz.cmpInt x y M
 change∀x y M,Calls Tryz.prog 110 _ _ _ at O;generalize Lib.compareInt=N at O⊢;go_enter Tryz.func52,Tryz.ntmps52;go_wp2
 go_region_held3 (λZ=>Z.cell? ⟨W.heap.size,0,none⟩=some (.int .i64 X)/\Z.cell? ⟨W.heap.size,1,none⟩=some (.int .i64 V)/\Z.cell? ⟨W.heap.size,2,none⟩=some (.int .i64 U)/\Z.cell? ⟨W.heap.size+1,0,none⟩=some (.int .i64 R)/\Z.cell? ⟨W.heap.size+1,1,none⟩=some (.int .i64 Q)/\Z.cell? ⟨W.heap.size+1,2,none⟩=some (.int .i64 P)) (go_keep)
  (first|(go_at_call 110;refine(O _ _ _).mono ?_;rintro e Z ⟨rfl,rfl⟩)|(go_at_call 109;refine Calls.mono (or3 _ (N X R) (N V Q) (N U P) _ (MC _ _ _ _ _ _ _ rfl) (MC _ _ _ _ _ _ _ rfl) (MC _ _ _ _ _ _ _ rfl)) ?_;rintro e Z ⟨rfl,rfl⟩))
 all_goals go_wp2
 all_goals go_ret
 exact⟨rfl,ama _ _ _ _⟩
end
variable{Z P:Nat}{O:List Int}{N:List Nat}{Q:World}{X:Array Value}{R:TypeId}
section
open Go.Shelf Go.RowKit
open Go.Sort (flatK get_flatK size_flatK HoldsK putRowK size_putRowK grow)
def IV(k:Nat)(x:List Int):List RV:=(ax6 k).map λi=>RV.mk (.int .i64 (x.getD i 0)) []
def gN(k:Nat)(x:List Int):List Value:=(ax6 k).map λi=>Value.int .i64 (x.getD i 0)
def abB(k:Nat)(x:List Int):(IV k x).length=k:=by simp[IV]
def abC(h:P<Z):(IV Z O)[P]?=some (RV.mk (.int .i64 (O.getD P 0)) []):=by simp[IV,h]
def aun(h:P<Z):aP P (IV Z O)=O.getD P 0:=by
 unfold aP;rw[axN,abC h];rfl
def uc(Z:List Nat)(x y:List Int):Int:=j9 (Z.map λc=>Lib.compareInt (x.getD c 0) (y.getD c 0))
def abD{k:Nat}{x y:List Int}:∀{cs:List Nat},(∀c∈cs,c<k)->decide (uc cs x y<0)=fJ false cs (IV k x) (IV k y)
 |[],_=>rfl
 |c::cs,h=>by
  have V:=abD (x:=x) (y:=y) (cs:=cs) (λc X=>h c (by simp[X]));have X:c<k:=h c (by simp);simp only[uc,axV,j9,fJ,aun X] at V⊢;generalize x.getD c 0=p;generalize y.getD c 0=q;by_cases W:p=q;rw[if_pos W,if_pos (by simp[Lib.compareInt,W])];exact V;rw[if_neg W];by_cases Z:p<q;have e:Lib.compareInt p q=-1:=by simp[Lib.compareInt,Z]
  simp[e,Z];have U:p>q:=by omega
  have e:Lib.compareInt p q=1:=by simp[Lib.compareInt,Z,U]
  simp[e,Z]
def abE(h:∀c∈N,c<Z):Go.Sort.SWO (ltOf (uc N)):=by
 have w:=Tq N false;have e:∀x y,ltOf (uc N) x y=(aI.lex N false).lt (IV Z x) (IV Z y):=λx y=>abD h
 exact⟨λx=>by rw[e];exact w.Tn _ rfl,λx y z X W=>by rw[e] at*;exact w.tr _ _ _ rfl rfl rfl X W,λx y z X W=>by rw[e] at*;exact w.nt _ _ _ rfl rfl rfl X W⟩
def amc:∀{k:Nat}{Z:List RV},ga (axW k true) Z->Z.length=k/\∀c∈Z,c=.mk (.int .i64 (bg c.val)) []
 |0,Z,h=>by cases h;simp
 |k+1,[],h=>h.elim
 |k+1,c::r,h=>by
  obtain⟨⟨n,rfl⟩,X⟩:(∃n,c=.mk (.int .i64 n) [])/\ga (axW k true) r:=h;obtain⟨W,V⟩:=amc X;exact⟨by simp[W],λc U=>(axT.1 U).elim (λe=>by subst e;rfl) (V c)⟩
def unI(Z:List RV):List Int:=Z.map λc=>bg c.val
def auo(h:ga (axW Z true) V):IV Z (unI V)=V:=by
 obtain⟨R,W⟩:=amc h;apply ayf;intro i;by_cases U:i<Z;rw[abC U];have X:i<V.length:=by omega
 rw[axK X,W _ (ayT X)];simp[unI,axN,X];rw[ax8 (by rw[abB];omega),ax8 (by omega)]
def aup(h:∀x∈W,ga (axW Z true) x):∃d:Array (List Int),W=d.toList.map (IV Z):=by
 refine⟨(W.map unI).toArray, ?_⟩;simp only[ayw]
 conv=>lhs;rw[<-List.map_id W]
 exact ax7 λx X=>(auo (h x X)).symm
def amd(d:Array (List Int))(X:P<d.size*Z):(cM (d.toList.map (IV Z)))[P]?=some ((flatK (gN Z) Z d)[P]!):=by
 have U:0<Z:=by
  rcases ayW Z with rfl|h;omega;exact h
 have R:P/Z<d.size:=aAl (by rw[az6];exact X);have W:P%Z<Z:=azX _ U;have e:P=P/Z*Z+P%Z:=by have:=aAm P Z;rw[az6] at this;omega
 have:=JB (w:=Z) (rows:=d.toList.map (IV Z)) (λi Q V=>by
  simp only[axO,azi] at V;obtain⟨x,_,rfl⟩:=V;exact abB Z x) (i:=P/Z) (j:=P%Z) (row:=IV Z d[P/Z]!) (by simp[R]) (abC W)
 rw[<-e] at this;rw[this,get_flatK _ _ _ _ X];congr 1;have:(gN Z d[P/Z]!)[P%Z]?=some (.int .i64 ((d[P/Z]!).getD (P%Z) 0)):=by simp[gN,W]
 rw[List.getElem!_eq_getElem?_getD,this];rfl
def auq(d:Array (List Int)):(cM (d.toList.map (IV Z))).length=d.size*Z:=by
 have:=wo (w:=Z) (rows:=d.toList.map (IV Z)) (λi W X=>by
  simp only[axO,azi] at X;obtain⟨x,_,rfl⟩:=X;exact abB Z x)
 simpa using this
def aur(V:Q.heap[Z]?=some (.cells X R (0,0)))(j:Nat):Q.frozen? ⟨Z,j,none⟩=false:=by
 simp[World.frozen?,V]
def aus{U:Ty}{n R k:Nat}{d:Array (List Int)}(h:aX Q U (.sl Z) (.mk (.slice (some ⟨P,0,none⟩) n R) (d.toList.map (IV k))))(O:Q.heap[P]?=some (.cells X Z (0,0))):HoldsK (gN k) k Q P 0 d:=by
 intro j V;rw[size_flatK] at V;obtain⟨L,J,N,_,M⟩:=JC h j _ (amd d V);cases N;exact⟨M,aur O _⟩
def aut{m:Nat}{d V:Array (List Int)}{os:Array Obj}(O:Q.heap[P]?=some (.cells X R (0,0)))(H:HoldsK (gN Z) Z Q P 0 d)(G:V.size=d.size):
  Q.grownBy (sortWorldK (gN Z) Z Q P 0 m V os) (some P)/\∃N,(sortWorldK (gN Z) Z Q P 0 m V os).heap[P]?=some (.cells N R (0,0))/\N.size=X.size/\N.toList.take (V.size*Z)=cM (V.toList.map (IV Z)):=by
 have M:P<Q.heap.size:=(ax9.1 O).1;have F:(putRowK (gN Z) Z (Sort.ahead Q m) P 0 V).heap.size=Q.heap.size:=by rw[size_putRowK];rfl
 have L:∀i,i<Q.heap.size->(sortWorldK (gN Z) Z Q P 0 m V os).heap[i]?=(Q.heap.modify P (Sort.onCells (Sort.putCells id 0 (flatK (gN Z) Z V))))[i]?:=by
  intro i J;show(_++os)[i]?=_;rw[aAA (by rw[F];exact J)];rfl
 refine⟨⟨rfl,rfl,rfl, ?_,λi J E=> ?_⟩,Sort.putCells id 0 (flatK (gN Z) Z V) X, ?_, ?_, ?_⟩;exact size_sortWorldK_c (gN Z) Z Q P 0 m V os;rw[L i J,azk,if_neg (λI=>E (by rw[I]))];rw[L P M,azk,if_pos rfl,O];rfl;simp[Sort.putCells];have I:=holdsK_sortWorldK_c (gN Z) Z Q P 0 d V m os H M G;have D:(sortWorldK (gN Z) Z Q P 0 m V os).heap[P]?=some (.cells (Sort.putCells id 0 (flatK (gN Z) Z V) X) R (0,0)):=by rw[L P M,azk,if_pos rfl,O];rfl
 apply ayf;intro q;rw[ayi];by_cases U:q<V.size*Z;rw[if_pos U,amd V U];have:=(I q (by rw[size_flatK];exact U)).1;simpa[World.cell?,D] using this;rw[if_neg U,ax8 (by rw[auq];omega)]
def ame{lt:List RV->List RV->Bool}:∀{l:List (List RV)},pU lt l=true->l.Pairwise (λx y=>lt x y=true\/lt y x=true)
 |[],_=>ayv
 |x::r,h=>by
  simp only[pU,axI,axU,ayb] at h;exact ax5.2 ⟨h.1,ame h.2⟩
def abG{f g:FuncId}{k:Nat}(ag:aay Tryz.prog f=true)(J:ba (look TT) (.sl R)=(axW k true).map z8)(hc:∀c∈N,c<k)
  (al:∀p X fv W,Calls Tryz.prog f #[.slice p 0 X,fv] W λU I=>U=.returned (.tuple #[])/\I=W)
  (an:∀(b X:Nat)(d:Array (List Int))(W:World),HoldsK (gN k) k W b 0 d->b<W.heap.size->d.size<4611686018427387904->Calls Tryz.prog f #[.slice (some ⟨b,0,none⟩) d.size X,.func (.func g) #[] #[]] W λU I=>U=.returned (.tuple #[])/\∃Z n H,Go.Sort.PermIn 0 d.size d Z/\Go.Sort.SortedIn (ltOf (uc N)) 0 d.size Z/\I=sortWorldK (gN k) k W b 0 n Z H):
  lQ Tryz.prog (look TT) f g R (.lex N false) false:=by
 refine⟨uG ag,λW A n X G aA O ns bb F E M D=> ?_⟩;cases ns with
 |cons _ _=>simp[aI.fill] at F
 |nil=>
  simp only[aI.fill,axM] at F;subst F;have D:dB (.lex N false) false G=some aA:=D;obtain⟨hl,bd⟩:=qW E;have hk:(ba (look TT) (.sl R)).length=k:=by rw[J];simp
  rw[hk] at M⊢;have V:=abx D;simp only[dB] at V;split at V
  case isFalse=>cases V
  rename_i w;simp only[axI,decide_eq_true_eq,ayb,ax3,false_or] at w;obtain⟨v,_,u⟩:=w;have V:=aym V;have bf:aA.length=G.length:=by rw[<-vO aA,<-V,jC,vO]
  by_cases hn:n=0;subst hn;have h0:aA=[]:=ayd (by omega);subst h0;refine(al A X _ W).mono ?_;rintro U W' ⟨rfl,rfl⟩;refine⟨rfl,⟨rfl,rfl,rfl,axQ _,λ_ _ _=>rfl⟩,⟨ayK _,M.nil, ?_⟩⟩;rcases M.mem with h|⟨b,t,rfl,Q,C,B⟩;exact .inl h;cases X with
  |zero=>exact .inl rfl
  |succ c=>exact .inr ⟨b,t,rfl,Q,C,B,by simp[cM],.inr rfl⟩
  rcases M.mem with h|⟨b,t,rfl,Q,C,B⟩;omega;have hp:∀(j:Nat)(z:Value)(q:RK),(ba (look TT) (.sl R))[j]?≠some (.aq z q):=by
   intro j z q P;rw[J,axO] at P;cases L:(axW k true)[j]? with
   |none=>rw[L] at P;cases P
   |some b=>rw[L] at P;cases b<;>simp[z8] at P
  have s:=alO hp E;obtain⟨d,r⟩:=aup (alN J (dF.ux E));have o:d.size=n:=by
   have l:(dj G).length=(d.toList.map (IV k)).length:=congrArg azO r;rw[vO,ayA,ayU] at l;exact l.symm.trans hl
  rw[r] at s V u v;have a:=aus s Q;have L:b<W.heap.size:=(ax9.1 Q).1;have a0:jB (some ⟨b,0,none⟩) X=some b:=by
   cases X with
   |zero=>omega
   |succ c=>rfl
  have ac:=an b X d W a L (by simp at v;omega);rw[o] at ac;refine Calls.mono ac ?_;rintro U W' ⟨rfl,Z,m,H,af,a1,rfl⟩;have hs:Z.size=d.size:=af.1;obtain⟨g1,a2,g2,g3,g4⟩:=aut (m:=m) (os:=H) Q a hs;have a3:Z.toList.Perm d.toList:=by
   have:=af.2.2;rw[<-o] at this;have e1:Z.extract 0 d.size=Z:=by rw[<-hs];exact aBo
   have e2:d.extract 0 d.size=d:=aBo
   rwa [e1,e2] at this
  have a4:ew (aI.lex N false).lt (Z.toList.map (IV k)):=by
   refine azS.2 (azn.2 λi j hi hj a5=> ?_);have a6:j<Z.size:=by simpa using hj
   have a7:i<Z.size:=by simpa using hi
   have:=a1 i j (ayK _) a5 (by omega);have R:=abD (k:=k) (x:=Z[j]) (y:=Z[i]) hc;rw[getElem!_pos Z j a6,getElem!_pos Z i a7] at this;show fJ false N (IV k Z.toList[j]) (IV k Z.toList[i])=false;rw[aA6,aA6,<-R];exact this
  have a8:Z.toList.map (IV k)=dj aA:=by
   rw[<-V,<-ajT (lt:=(aI.lex N false).lt) (aaR false N) (aaS false N) (a3.map (IV k)) (ame u)];exact(To a4).symm
  rw[a0];refine⟨rfl,g1,⟨by omega,λh=>(by cases h),.inr ⟨b,a2,rfl,g2,C,by rw[g3,B], ?_,.inr rfl⟩⟩⟩;have a9:aA.length=Z.size:=by omega
  rw[a9,g4,a8,alL]
end
section
open Go.Shelf Go.RowKit
open Go.Sort (HoldsK)
def Tryz.sortOb_ren:Go.Shelf.Ren:=⟨λ|6=>51|15=>108|14=>107|28=>190|29=>191|20=>182|21=>183|22=>184|23=>185|24=>186|25=>187|26=>188|27=>189|46=>253|47=>254|48=>255|49=>256|50=>257|57=>311|n=>n,λ|22=>121|24=>118|25=>123|3=>3|39=>205|0=>0|53=>287|55=>289|4=>4|46=>280|45=>279|50=>284|5=>5|9=>9|66=>336|70=>166|76=>382|77=>298|n=>n,λ|n=>n⟩
def Tryz.sortOb:Go.Proofs.SlLaysF0.n6 Tryz.prog Tryz.sortOb_ren:={mixed:=by kernel_rfl,f6:=⟨Tryz.f51.name,by decide,cG Tryz.func51 (by kernel_rfl)⟩,f14:=⟨Tryz.f107.name,by decide,cG Tryz.func107 (by kernel_rfl)⟩,f15:=cG Tryz.func108 (by kernel_rfl),f20:=⟨Tryz.f182.name,by decide,cG Tryz.func182 (by kernel_rfl)⟩,f21:=⟨Tryz.f183.name,by decide,cG Tryz.func183 (by kernel_rfl)⟩,f22:=⟨Tryz.f184.name,by decide,cG Tryz.func184 (by kernel_rfl)⟩,f23:=⟨Tryz.f185.name,by decide,cG Tryz.func185 (by kernel_rfl)⟩,f24:=⟨Tryz.f186.name,by decide,cG Tryz.func186 (by kernel_rfl)⟩,f25:=⟨Tryz.f187.name,by decide,cG Tryz.func187 (by kernel_rfl)⟩,f26:=⟨Tryz.f188.name,by decide,cG Tryz.func188 (by kernel_rfl)⟩,f27:=⟨Tryz.f189.name,by decide,cG Tryz.func189 (by kernel_rfl)⟩,f28:=cG Tryz.func190 (by kernel_rfl),f29:=cG Tryz.func191 (by kernel_rfl),f46:=⟨Tryz.f253.name,by decide,cG Tryz.func253 (by kernel_rfl)⟩,f47:=cG Tryz.func254 (by kernel_rfl),f48:=cG Tryz.func255 (by kernel_rfl),f49:=⟨Tryz.f256.name,by decide,cG Tryz.func256 (by kernel_rfl)⟩,f50:=⟨Tryz.f257.name,by decide,cG Tryz.func257 (by kernel_rfl)⟩,f57:=⟨Tryz.f311.name,by decide,cG Tryz.func311 (by kernel_rfl)⟩,t0:=Tryz.underlying0,a0:=Tryz.isAgg0,z0:=Tryz.sizeOf0,v0:=Tryz.zeroValue0,t3:=Tryz.underlying3,a3:=Tryz.isAgg3,z3:=Tryz.sizeOf3,v3:=Tryz.zeroValue3,t4:=Tryz.underlying4,a4:=Tryz.isAgg4,z4:=Tryz.sizeOf4,v4:=Tryz.zeroValue4,t5:=Tryz.underlying5,a5:=Tryz.isAgg5,z5:=Tryz.sizeOf5,v5:=Tryz.zeroValue5,t9:=Tryz.underlying9,a9:=Tryz.isAgg9,z9:=Tryz.sizeOf9,v9:=Tryz.zeroValue9,t22:=Tryz.underlying121,a22:=Tryz.isAgg121,z22:=Tryz.sizeOf121,v22:=Tryz.zeroValue121,t25:=Tryz.underlying123,a25:=Tryz.isAgg123,z25:=Tryz.sizeOf123,v25:=Tryz.zeroValue123,t39:=Tryz.underlying205,a39:=Tryz.isAgg205,z39:=Tryz.sizeOf205,v39:=Tryz.zeroValue205,t45:=Tryz.underlying279,a45:=Tryz.isAgg279,z45:=Tryz.sizeOf279,v45:=Tryz.zeroValue279,t46:=Tryz.underlying280,a46:=Tryz.isAgg280,z46:=Tryz.sizeOf280,v46:=Tryz.zeroValue280,t50:=Tryz.underlying284,a50:=Tryz.isAgg284,z50:=Tryz.sizeOf284,v50:=Tryz.zeroValue284,t53:=Tryz.underlying287,a53:=Tryz.isAgg287,z53:=Tryz.sizeOf287,v53:=Tryz.zeroValue287,t55:=Tryz.underlying289,a55:=Tryz.isAgg289,z55:=Tryz.sizeOf289,v55:=Tryz.zeroValue289,t66:=Tryz.underlying336,a66:=Tryz.isAgg336,z66:=Tryz.sizeOf336,v66:=Tryz.zeroValue336,t70:=Tryz.underlying166,a70:=Tryz.isAgg166,z70:=Tryz.sizeOf166,v70:=Tryz.zeroValue166,t76:=Tryz.underlying382,a76:=Tryz.isAgg382,z76:=Tryz.sizeOf382,v76:=Tryz.zeroValue382,t77:=Tryz.underlying298,a77:=Tryz.isAgg298,z77:=Tryz.sizeOf298,v77:=Tryz.zeroValue298}
def Tryz.sortBr_ren:Go.Shelf.Ren:=⟨λ|6=>243|15=>108|14=>300|28=>190|29=>191|20=>345|21=>346|22=>347|23=>348|24=>349|25=>350|26=>351|27=>352|46=>368|47=>254|48=>255|49=>369|50=>370|57=>377|n=>n,λ|22=>196|24=>200|25=>274|3=>3|39=>205|0=>0|53=>287|55=>289|4=>4|46=>280|45=>279|50=>284|5=>5|9=>9|66=>336|70=>166|76=>382|77=>298|n=>n,λ|n=>n⟩
def Tryz.sortBr:Go.Proofs.SlLaysF0.n6 Tryz.prog Tryz.sortBr_ren:={mixed:=by kernel_rfl,f6:=⟨Tryz.f243.name,by decide,cG Tryz.func243 (by kernel_rfl)⟩,f14:=⟨Tryz.f300.name,by decide,cG Tryz.func300 (by kernel_rfl)⟩,f15:=cG Tryz.func108 (by kernel_rfl),f20:=⟨Tryz.f345.name,by decide,cG Tryz.func345 (by kernel_rfl)⟩,f21:=⟨Tryz.f346.name,by decide,cG Tryz.func346 (by kernel_rfl)⟩,f22:=⟨Tryz.f347.name,by decide,cG Tryz.func347 (by kernel_rfl)⟩,f23:=⟨Tryz.f348.name,by decide,cG Tryz.func348 (by kernel_rfl)⟩,f24:=⟨Tryz.f349.name,by decide,cG Tryz.func349 (by kernel_rfl)⟩,f25:=⟨Tryz.f350.name,by decide,cG Tryz.func350 (by kernel_rfl)⟩,f26:=⟨Tryz.f351.name,by decide,cG Tryz.func351 (by kernel_rfl)⟩,f27:=⟨Tryz.f352.name,by decide,cG Tryz.func352 (by kernel_rfl)⟩,f28:=cG Tryz.func190 (by kernel_rfl),f29:=cG Tryz.func191 (by kernel_rfl),f46:=⟨Tryz.f368.name,by decide,cG Tryz.func368 (by kernel_rfl)⟩,f47:=cG Tryz.func254 (by kernel_rfl),f48:=cG Tryz.func255 (by kernel_rfl),f49:=⟨Tryz.f369.name,by decide,cG Tryz.func369 (by kernel_rfl)⟩,f50:=⟨Tryz.f370.name,by decide,cG Tryz.func370 (by kernel_rfl)⟩,f57:=⟨Tryz.f377.name,by decide,cG Tryz.func377 (by kernel_rfl)⟩,t0:=Tryz.underlying0,a0:=Tryz.isAgg0,z0:=Tryz.sizeOf0,v0:=Tryz.zeroValue0,t3:=Tryz.underlying3,a3:=Tryz.isAgg3,z3:=Tryz.sizeOf3,v3:=Tryz.zeroValue3,t4:=Tryz.underlying4,a4:=Tryz.isAgg4,z4:=Tryz.sizeOf4,v4:=Tryz.zeroValue4,t5:=Tryz.underlying5,a5:=Tryz.isAgg5,z5:=Tryz.sizeOf5,v5:=Tryz.zeroValue5,t9:=Tryz.underlying9,a9:=Tryz.isAgg9,z9:=Tryz.sizeOf9,v9:=Tryz.zeroValue9,t22:=Tryz.underlying196,a22:=Tryz.isAgg196,z22:=Tryz.sizeOf196,v22:=Tryz.zeroValue196,t25:=Tryz.underlying274,a25:=Tryz.isAgg274,z25:=Tryz.sizeOf274,v25:=Tryz.zeroValue274,t39:=Tryz.underlying205,a39:=Tryz.isAgg205,z39:=Tryz.sizeOf205,v39:=Tryz.zeroValue205,t45:=Tryz.underlying279,a45:=Tryz.isAgg279,z45:=Tryz.sizeOf279,v45:=Tryz.zeroValue279,t46:=Tryz.underlying280,a46:=Tryz.isAgg280,z46:=Tryz.sizeOf280,v46:=Tryz.zeroValue280,t50:=Tryz.underlying284,a50:=Tryz.isAgg284,z50:=Tryz.sizeOf284,v50:=Tryz.zeroValue284,t53:=Tryz.underlying287,a53:=Tryz.isAgg287,z53:=Tryz.sizeOf287,v53:=Tryz.zeroValue287,t55:=Tryz.underlying289,a55:=Tryz.isAgg289,z55:=Tryz.sizeOf289,v55:=Tryz.zeroValue289,t66:=Tryz.underlying336,a66:=Tryz.isAgg336,z66:=Tryz.sizeOf336,v66:=Tryz.zeroValue336,t70:=Tryz.underlying166,a70:=Tryz.isAgg166,z70:=Tryz.sizeOf166,v70:=Tryz.zeroValue166,t76:=Tryz.underlying382,a76:=Tryz.isAgg382,z76:=Tryz.sizeOf382,v76:=Tryz.zeroValue382,t77:=Tryz.underlying298,a77:=Tryz.isAgg298,z77:=Tryz.sizeOf298,v77:=Tryz.zeroValue298}
def auu(a:Int):j9 [a]=a:=by
 simp only[j9];split<;>omega
def auv(b:Nat)(Z:Nat)(w:World):CmpLays Tryz.prog 224 #[] (gN 14) 14 (uc [0]) b 0 Z w:=λm X W V x y=>by
 have h:=aui (x.getD 0 0) (x.getD 1 0) (x.getD 2 0) (x.getD 3 0) (x.getD 4 0) (x.getD 5 0) (x.getD 6 0) (x.getD 7 0) (x.getD 8 0) (x.getD 9 0) (x.getD 10 0) (x.getD 11 0) (x.getD 12 0) (x.getD 13 0) (y.getD 0 0) (y.getD 1 0) (y.getD 2 0) (y.getD 3 0) (y.getD 4 0) (y.getD 5 0) (y.getD 6 0) (y.getD 7 0) (y.getD 8 0) (y.getD 9 0) (y.getD 10 0) (y.getD 11 0) (y.getD 12 0) (y.getD 13 0) (sortWorldK (gN 14) 14 w b 0 m W X);have e:uc [0] x y=Lib.compareInt (x.getD 0 0) (y.getD 0 0):=auu _;rw[e];exact h
def auw(b:Nat)(Z:Nat)(w:World):CmpLays Tryz.prog 178 #[] (gN 2) 2 (uc [1,0]) b 0 Z w:=λm X W V x y=>
 auk (x.getD 0 0) (x.getD 1 0) (y.getD 0 0) (y.getD 1 0) (sortWorldK (gN 2) 2 w b 0 m W X)
def aux(b:Nat)(Z:Nat)(w:World):CmpLays Tryz.prog 52 #[] (gN 3) 3 (uc [0,1,2]) b 0 Z w:=λm X W V x y=>
 w52 (x.getD 0 0) (x.getD 1 0) (x.getD 2 0) (y.getD 0 0) (y.getD 1 0) (y.getD 2 0) (sortWorldK (gN 3) 3 w b 0 m W X)
def abH(k:Nat)(x:List Int):(gN k x).length=k:=by simp[gN]
def abI(k:Nat)(x:List Int):∀v∈gN k x,v.oneCell'=true:=by
 intro v Z;simp only[gN,aya] at Z;obtain⟨i,_,rfl⟩:=Z;rfl
def auy:lQ Tryz.prog (look TT) 223 224 90 (.lex [0] false) false:=by
 have X:∀c∈[0],c<14:=by simp
 refine abG (k:=14) (by kernel_rfl) (by kernel_rfl) X (λp Z V W=> ?_) (λb Z d W U R Q=> ?_);have h:=AnyF.slices_SortFunc_none Tryz.sortSg p Z V W;exact h;have h:=AnyQ.slices_SortFunc Tryz.sortSg 14 Tryz.isAgg90 Tryz.sizeOf90 (gN 14) (abH 14) (abI 14) (uc [0]) (abE X) 224 #[] b 0 Z d W (enters_of Tryz.func224 (by kernel_rfl) rfl) (auv b d.size W) U R Q;exact h
def auz:lQ Tryz.prog (look TT) 51 52 118 (.lex [0,1,2] false) false:=by
 have X:∀c∈[0,1,2],c<3:=by simp
 refine abG (k:=3) (by kernel_rfl) (by kernel_rfl) X (λp Z V W=> ?_) (λb Z d W U R Q=> ?_);have h:=AnyF.slices_SortFunc_none Tryz.sortOb p Z V W;exact h;have h:=AnyQ.slices_SortFunc Tryz.sortOb 3 Tryz.isAgg118 Tryz.sizeOf118 (gN 3) (abH 3) (abI 3) (uc [0,1,2]) (abE X) 52 #[] b 0 Z d W (enters_of Tryz.func52 (by kernel_rfl) rfl) (aux b d.size W) U R Q;exact h
def auA:lQ Tryz.prog (look TT) 243 178 200 (.lex [1,0] false) false:=by
 have X:∀c∈[1,0],c<2:=by simp
 refine abG (k:=2) (by kernel_rfl) (by kernel_rfl) X (λp Z V W=> ?_) (λb Z d W U R Q=> ?_);have h:=AnyF.slices_SortFunc_none Tryz.sortBr p Z V W;exact h;have h:=AnyQ.slices_SortFunc Tryz.sortBr 2 Tryz.isAgg200 Tryz.sizeOf200 (gN 2) (abH 2) (abI 2) (uc [1,0]) (abE X) 178 #[] b 0 Z d W (enters_of Tryz.func178 (by kernel_rfl) rfl) (auw b d.size W) U R Q;exact h
def I0:se qH:=by
 intro x Z;simp only[qH,axT,azs,or_false] at Z;rcases Z with rfl|rfl|rfl|rfl|rfl;exact auz;exact aud;exact auy;exact auA;exact auh
end
end
end Go.Proofs.YtieaiocljdpebaaGreatDoor.Y
