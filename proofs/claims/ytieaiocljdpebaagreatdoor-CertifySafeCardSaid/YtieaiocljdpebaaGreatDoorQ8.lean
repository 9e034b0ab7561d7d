/- Part 8 of the proof. -/
import Derived.Test.YtieaiocljdpebaaGreatDoorQ7
import Derived.Shelf.SlSortCmp.WholeK
import Derived.Shelf.SlSortCmp.NoneTotal
import Derived.Shelf.SlicesG.Cmp
import Derived.Deep.RegionHeld3
import Derived.Deep.DrawnRows
set_option linter.all false
open Bool renaming and_eq_true->aDc,false_eq_true->aDB,or_eq_true->aDE,true->J,false->E
open List renaming getElem?_eq_some_iff->aDd,getElem?_eq_getElem->aDe,getD_eq_getElem?_getD->aDf,getElem?_map->aDj,mem_cons->aDp,replicate->aDq,all_eq_true->aDr,map_cons->aDt,mem_of_getElem?->aDx,getElem?_eq_none->aDy,pairwise_cons->aDz,range->aDA,map_congr_left->aDC,mem_map->aDF,ext_getElem?->aDG,eq_nil_of_length_eq_zero->aDI,getElem?_take->aDK,getElem?_set_ne->aDP,getElem?_of_mem->aDU,length_map->aDV,getElem_mem->aD3,map_map->aD7,mem_cons_of_mem->aEn,getElem?_set_self->aEq,mem_cons_self->aES,pairwise_iff_getElem->aET,mem_singleton->aE0,length_singleton->aE1,not_mem_nil->aFc,flatMap_cons->aFp,pairwise_map->aFq,all_map->aFr,map_set->aGg,length_set->aGo,length->Y
open Option.some renaming injEq->aDh,inj->aDQ
open Nat renaming le_refl->aDm,zero_le->aD0,eq_zero_or_pos->aEu,mul_comm->aFD,lt_of_le_of_ne->aFG,mod_lt->aFH,div_lt_of_lt_mul->aFS,div_add_mod->aFT,mul_le_mul->aF2,not_lt_zero->aGq,mul_one->aGZ
open Option renaming map_eq_some_iff->aEx,some->U,none->Z
open Array renaming getElem?_eq_some_iff->aDD,length_toList->aEs,getElem?_modify->aER,getElem?_setIfInBounds_ne->aEU,getElem?_toList->aE2,getElem?_setIfInBounds_self_of_lt->aFv,getElem?_append_left->aF9,getElem_toList->aGH,extract_size->aGX
open List.Pairwise renaming nil->aD6
open Int renaming natAbs_mul->aF4
open Go.IntKind renaming i64->I
namespace Go.Proofs.YtieaiocljdpebaaGreatDoor.Y
open Go.RowKit
noncomputable section
variable{M:ac}{W:be}{N:am}{Q:aF}{X P:Nat}{L:bh}{H:aj}{R:World}{O:jk}{V:TypeId}
def TM:jK:=⟨CB,λ_ _=>Z⟩
def aqi:afy TM false:=by
 refine⟨λf X (h:CB f=U X)=> ?_,λf X (h:CB f=U X)=> ?_,λf=>afw f⟩;unfold CB at h;split at h<;>cases h<;>first|exact aqa|exact aqb|exact aqc|exact aqd|exact aqe|exact aqf
 unfold CB at h;split at h<;>cases h<;>exact id
def hTM(f:FuncId)(X:Fn)(h:CB f=U X):Jm TM f X:=⟨h,λ_=>rfl⟩
def aqk{x y m n:Int}(X:x.natAbs<=m.natAbs)(W:y.natAbs<=n.natAbs):(x*y).natAbs<=(m*n).natAbs:=by
 rw[aF4,aF4];exact aF2 X W
set_option maxHeartbeats 1000000 in
def aza {a b c d:Int} (R:ke a b=J) (Q:ke c d=J) (W:World):Calls Tryz.prog 142 #[.agg #[.int I a,.int I b],.agg #[.int I c,.int I d]] W λe P=>e=.returned (.tuple #[.int I (pF (a*d) (c*b)),.int I 0])/\Below W.heap.size W P:=by
 obtain⟨n,N⟩:=anY hTM a b c d;have M:=W6 aqi n 142 _ _ _ _ rfl rfl rfl rfl _ _ _ N (W8 _) ⟨trivial,trivial,trivial,trivial,trivial⟩ W (λh=>by cases h) (W9 (by simp[rZ]));refine Calls.mono M ?_;intro e P h;have O:IntKind.i64.wrap (a*d)=a*d/\IntKind.i64.wrap (c*b)=c*b:=by
  simp[ke] at R Q;have D:=aqk (x:=a) (y:=d) (m:=1073741824) (n:=1073741824) (by omega) (by omega);have C:=aqk (x:=c) (y:=b) (m:=1073741824) (n:=1073741824) (by omega) (by omega);rw[IntKind.wrap_i64,IntKind.wrap_i64];omega
 rw[V7,R,Q,O.1,O.2] at h;cases e with
 |returned v=>
  obtain⟨B,L,V,X,A,rfl,H,_,_⟩:=h;cases V;rcases L with _|⟨_|_|_,_|⟨_|_|_,_|_⟩⟩<;>first|exact X.elim|exact X.1.elim|exact X.2.elim|exact X.2.1.elim|exact X.2.2.elim|skip
  obtain⟨G,F,_⟩:=X;cases G;cases F;exact⟨rfl,H⟩
 |panicked z=>obtain⟨_,v,V,_⟩:=h;cases V
 |outgrown=>exact h.elim
def azb(a b:Int)(W:World):Calls Tryz.prog 110 #[.int I a,.int I b] W λe R=>e=.returned (.int I (pF a b))/\Below W.heap.size W R:=by
 obtain⟨n,Q⟩:=aez hTM a b;have P:=W6 aqi n 110 _ _ _ _ rfl rfl rfl rfl _ _ _ Q (W8 _) ⟨trivial,trivial,trivial⟩ W (λh=>by cases h) (W9 (by simp[rZ]));refine Calls.mono P ?_;intro e R h;cases e with
 |returned v=>
  obtain⟨L,O,V,X,H,rfl,N,_,_⟩:=h;cases V;rcases O with _|⟨_|_|_,_|_⟩<;>first|exact X.elim|exact X.1.elim|exact X.2.elim|skip
  obtain⟨M,_⟩:=X;cases M;exact⟨rfl,N⟩
 |panicked G=>obtain⟨_,v,V,_⟩:=h;cases V
 |outgrown=>exact h.elim
section
set_option maxRecDepth 100000
def aqQ{X:List IE}{aC:am}(h:jE M (.cw (0+3) W X) E N=U aC):False:=by
 have h:nL 3 W (X.map (IE.den M)) N=U aC:=h;obtain⟨_,h⟩:=zM h;obtain⟨a,b,c,V⟩:=AZ (HD (by omega) h);rw[V] at h;have e:lJ 3 W [a,b,c] N=if decide (0<=a)&&decide (a<b)&&decide (b<c)&&decide (c<=Y N)&&decide (c-a<((0:Nat):Int))&&N.all W.ok&&vK W.lt (aX N a.toNat b.toNat)&&vK W.lt (aX N b.toNat c.toNat) then U (N.take a.toNat++(bD W.lt (aX N a.toNat c.toNat)++N.drop c.toNat)) else none:=rfl;rw[e] at h;split at h;rename_i R;simp only[aDc,decide_eq_true_eq] at R;omega;cases h
def aqR(o:be):∀l,sn o.lt (ef l)=sn o.lt l
 |[]=>rfl
 |x::r=>by
  have X:=aqR o r;simp only[ef,aDt,sn,aFr] at X⊢;rw[X];congr 2;funext y;simp only[Function.comp,afG]
def afP{X:Bool}{aC:am}(h:fU W X N=U aC):fU W X (ef N)=U (ef aC):=by
 cases W with
 |cw k W R=>simp[fU] at h
 |_=>
  simp only[fU] at h⊢;rw[zf,aqw,aqR,aqv];split at h;rename_i V;rw[if_pos V];cases h;rfl;cases h
def KA:kz:=[J,J,J,J,J,J,J,J,J,J,J,J,J,J]
def LB(r:RE)(i:IE):ai:=[.int I (.cell r i 0),.int I (.cell r i 1),.int I (.cell r i 2),.int I (.cell r i 3),.int I (.cell r i 4),.int I (.cell r i 5),.int I (.cell r i 6),.int I (.cell r i 7),.int I (.cell r i 8),.int I (.cell r i 9),.int I (.cell r i 10),.int I (.cell r i 11),.int I (.cell r i 12),.int I (.cell r i 13)]
def Xs(h:iF KA Q):∃X W V R P O N M L H G F D C,Q=[.mk (.int I X) [],.mk (.int I W) [],.mk (.int I V) [],.mk (.int I R) [],.mk (.int I P) [],.mk (.int I O) [],.mk (.int I N) [],.mk (.int I M) [],.mk (.int I L) [],.mk (.int I H) [],.mk (.int I G) [],.mk (.int I F) [],.mk (.int I D) [],.mk (.int I C) []]:=by
 rcases Q with _|⟨m,Q⟩;exact h.elim;obtain⟨⟨X,B⟩,h⟩:=h;subst B;rcases Q with _|⟨l,Q⟩;exact h.elim;obtain⟨⟨W,A⟩,h⟩:=h;subst A;rcases Q with _|⟨k,Q⟩;exact h.elim;obtain⟨⟨V,z⟩,h⟩:=h;subst z;rcases Q with _|⟨j,Q⟩;exact h.elim;obtain⟨⟨R,y⟩,h⟩:=h;subst y;rcases Q with _|⟨i,Q⟩;exact h.elim;obtain⟨⟨P,w⟩,h⟩:=h;subst w;rcases Q with _|⟨g,Q⟩;exact h.elim;obtain⟨⟨O,v⟩,h⟩:=h;subst v;rcases Q with _|⟨f,Q⟩;exact h.elim;obtain⟨⟨N,u⟩,h⟩:=h;subst u;rcases Q with _|⟨e,Q⟩;exact h.elim;obtain⟨⟨M,t⟩,h⟩:=h;subst t;rcases Q with _|⟨d,Q⟩;exact h.elim;obtain⟨⟨L,s⟩,h⟩:=h;subst s;rcases Q with _|⟨c,Q⟩;exact h.elim;obtain⟨⟨H,r⟩,h⟩:=h;subst r;rcases Q with _|⟨b,Q⟩;exact h.elim;obtain⟨⟨G,q⟩,h⟩:=h;subst q;rcases Q with _|⟨a,Q⟩;exact h.elim;obtain⟨⟨F,p⟩,h⟩:=h;subst p;rcases Q with _|⟨ab,Q⟩;exact h.elim;obtain⟨⟨D,o⟩,h⟩:=h;subst o;rcases Q with _|⟨af,Q⟩;exact h.elim;obtain⟨⟨C,n⟩,h⟩:=h;subst n;cases h;exact⟨X,W,V,R,P,O,N,M,L,H,G,F,D,C,rfl⟩
def afQ:CS KA LB:=by
 refine⟨λO r i x X W=> ?_,λO r i x X W y V=> ?_⟩;obtain⟨R,Q,P,N,M,L,H,G,F,D,C,B,A,z,rfl⟩:=Xs W;simp[LB,SV.bN,IE.den,cellAt,aDf,X,aO];obtain⟨R,Q,P,N,M,L,H,G,F,D,C,B,A,z,rfl⟩:=Xs W;have e:∀(q:RE),q.rv (O.at y)=q.rv O:=λq=>RE.lp O y q
 have w:∀(q:IE),q.den (O.at y)=q.den O:=λq=>IE.dM O y q
 simp[LB,SV.aD,SV.den,IE.den,cellAt,aDf,e,w,X,aO]
def KB:kz:=[J,J,J,E,J]
def LD(r:RE)(i:IE):ai:=[.int I (.cell r i 0),.int I (.cell r i 1),.int I (.cell r i 2),.bool (.cell r i 3),.int I (.cell r i 4)]
def Xt(h:iF KB Q):∃X W V R P,Q=[.mk (.int I X) [],.mk (.int I W) [],.mk (.int I V) [],.mk (.bool R) [],.mk (.int I P) []]:=by
 rcases Q with _|⟨G,Q⟩;exact h.elim;obtain⟨⟨X,O⟩,h⟩:=h;subst O;rcases Q with _|⟨F,Q⟩;exact h.elim;obtain⟨⟨W,N⟩,h⟩:=h;subst N;rcases Q with _|⟨D,Q⟩;exact h.elim;obtain⟨⟨V,M⟩,h⟩:=h;subst M;rcases Q with _|⟨C,Q⟩;exact h.elim;obtain⟨⟨R,L⟩,h⟩:=h;subst L;rcases Q with _|⟨B,Q⟩;exact h.elim;obtain⟨⟨P,H⟩,h⟩:=h;subst H;cases h;exact⟨X,W,V,R,P,rfl⟩
def afR:CS KB LD:=by
 refine⟨λO r i x X W=> ?_,λO r i x X W y V=> ?_⟩;obtain⟨R,Q,P,N,M,rfl⟩:=Xt W;simp[LD,SV.bN,IE.den,BE.den,cellAt,aDf,X,aO,fm];obtain⟨R,Q,P,N,M,rfl⟩:=Xt W;have e:∀(q:RE),q.rv (O.at y)=q.rv O:=λq=>RE.lp O y q
 have L:∀(q:IE),q.den (O.at y)=q.den O:=λq=>IE.dM O y q
 simp[LD,SV.aD,SV.den,IE.den,BE.den,cellAt,aDf,e,L,X,aO,fm]
def aqS{p:Sp}{L:cZ}{Q:bA}{P:aE}{X:IE}(h:∀W,eV p.S0 p.w0 W->p.R (.returned (.int I (X.den M))) W):(T.ret (.int I X) Q P).aT p M L:=by
 intro y V W R;have:=h W R.base;simpa[SV.den,IE.dM] using this
def RF(P:Program)(Q:Ty)(W:World)(V:bh)(R:kz):az [] W bR.none Q [] ⟨V,R,[],[]⟩ {(⟨[],[],Y V,Y R,[],0,0,[]⟩:S) with tmps:=[]} ⟨#[],[]⟩ W:=
 ⟨⟨eV.refl _ _,λi h=>by simp[aM,bX] at h,λi j h=>by simp[aM,bX] at h,λi t L h=>by simp[bX] at h,λq O N X M=>by simp at X⟩,rfl,rfl,rfl,rfl,RD _ _,rfl,λt H h=>by simp at h,λq O N b X M G=>by simp at X⟩
def afS(P:Program)(o:be)(W:World)(x y:aF):Ending->World->Prop:=λX V=>Below W.heap.size W V/\∃c:Int,X=.returned (.int I c)/\(c<0<->o.lt x y=J)
def aqT{g:FuncId}{V:Func}{c:Code}{n:Nat}{args:ai}{t:T}(L:Tryz.prog.funcs[g]?=U V)(H:V.body=U c){y:aF}(O:bh)(N:kz)
  (G:Mc (oC Tryz.prog TT SG [] [] [] [] E []) n g c V.ntmps V.results.toList args ⟨[],[],Y O,Y N,[],0,0,[]⟩=t)(X:World)(F:(SV.aD ⟨O,N,[],[]⟩ [] args).toArray= #[.agg (Q.map RV.val).toArray,.agg (y.map RV.val).toArray])
  (D:∀p:Sp,p.P=Tryz.prog->p.S0=[]->p.w0=X->p.R=afS Tryz.prog W X Q y->t.aT p ⟨O,N,[],[]⟩ []):Calls Tryz.prog g #[.agg (Q.map RV.val).toArray,.agg (y.map RV.val).toArray] X (afS Tryz.prog W X Q y):=by
 let p:Sp:=⟨Tryz.prog,look TT,[],X,bR.none,afS Tryz.prog W X Q y,λ_ _ _=>False⟩;have C:kG p (oC Tryz.prog TT SG [] [] [] [] E []):=Rp Lu WY rfl WZ (λA z b ob _ h=>by obtain⟨_,c,B,_⟩:=h;cases B) (λQ M=>by cases M);rw[<-F];exact ajq (p:=p) C L H G (D p rfl rfl rfl rfl) (λQ M=>by simp[oC] at M) (RF Tryz.prog _ X O N)
def aqU(x y:Int):pF x y<0<->x<y:=by
 unfold pF;split;omega;split<;>omega
def azG:T:=(.call 142 [(.agg [(.int I (.v 10)),(.int I (.v 11))]),(.agg [(.int I (.v 24)),(.int I (.v 25))])] [] [] [.int I,.int I] (.bK [(.int I (.v 28)),(.int I (.v 29))])
 (.ret (.int I (.v 28)) [] []))
def azH:T:=(.call 110 [(.int I (.v 7)),(.int I (.v 3))] [] [] [.int I] (.int I (.v 8))
 (.ret (.int I (.v 8)) [] []))
def Pp:HC Tryz.prog KA 141 (.ratio 10 11):=by
 intro W x y M L H G;obtain⟨F,D,C,B,A,z,w,u,s,r,X,Q,q,o,rfl⟩:=Xs M;obtain⟨m,l,k,j,h,g,f,e,d,c,P,O,b,a,rfl⟩:=Xs L;refine aqT (t:=azG) (n:=100) (args:=[(.agg [(.int I (.v 0)),(.int I (.v 1)),(.int I (.v 2)),(.int I (.v 3)),(.int I (.v 4)),(.int I (.v 5)),(.int I (.v 6)),(.int I (.v 7)),(.int I (.v 8)),(.int I (.v 9)),(.int I (.v 10)),(.int I (.v 11)),(.int I (.v 12)),(.int I (.v 13))]),(.agg [(.int I (.v 14)),(.int I (.v 15)),(.int I (.v 16)),(.int I (.v 17)),(.int I (.v 18)),(.int I (.v 19)),(.int I (.v 20)),(.int I (.v 21)),(.int I (.v 22)),(.int I (.v 23)),(.int I (.v 24)),(.int I (.v 25)),(.int I (.v 26)),(.int I (.v 27))])]) rfl rfl [F,D,C,B,A,z,w,u,s,r,X,Q,q,o,m,l,k,j,h,g,f,e,d,c,P,O,b,a] [] (by kernel_rfl) W rfl ?_;rintro p hP hS hW hR;have h1:ke X Q=true:=H;have h2:ke P O=true:=G;intro yy V W' R;rw[hP];refine(aza h1 h2 W').mono ?_;rintro en W2 ⟨rfl,hB⟩;refine⟨[.i (pF (X*O) (P*Q)),.i 0],⟨trivial,trivial,trivial⟩,rfl,hB,⟨trivial,trivial,trivial⟩,aqS λW3 N=> ?_⟩;rw[hS,hW] at N;rw[hR];refine⟨M4 N,_,rfl, ?_⟩;simp[IE.den,ac.ext,ac.add,be.lt,ax,aO,aqU]
def Pq:HC Tryz.prog KB 323 (.lex [4] J):=by
 intro W x y O N q o;obtain⟨M,L,H,G,X,rfl⟩:=Xt O;obtain⟨F,D,C,B,Q,rfl⟩:=Xt N;refine aqT (t:=azH) (n:=100) (args:=[(.agg [(.int I (.v 0)),(.int I (.v 1)),(.int I (.v 2)),(.bool (.v 0)),(.int I (.v 3))]),(.agg [(.int I (.v 4)),(.int I (.v 5)),(.int I (.v 6)),(.bool (.v 1)),(.int I (.v 7))])]) rfl rfl [M,L,H,X,F,D,C,Q] [G,B] (by kernel_rfl) W rfl ?_;rintro p A z w u;intro m V s R;rw[A];refine(azb Q X s).mono ?_;rintro l k ⟨rfl,r⟩;refine⟨[.i (pF Q X)],⟨trivial,trivial⟩,rfl,r,⟨trivial,trivial⟩,aqS λj P=> ?_⟩;rw[z,w] at P;rw[u];refine⟨M4 P,_,rfl, ?_⟩;simp[IE.den,ac.ext,ac.add,be.lt,gX,ax,aO,aqU];omega
def azI:oA Tryz.prog (look TT) 358 141 90 (.cw 0 (.ratio 10 11) []) false:=
 E5 (K:=KA) (n:=100) (args:=[(.ref (.v 0)),(.int I (.v 0)),(.int I (.v 1)),(.int I (.v 2)),(.fn 141 [])]) (loops:=[(358,1,⟨[(0,.ref (.own 90)),(10,.int I)],[]⟩)]) (srts:=[]) (chs:=[(358,3)]) (t:=Xh 90 LB) rfl rfl rfl (by kernel_rfl) (λx X=>by cases X) (by kernel_rfl) Pp (by kernel_rfl) (aqF afQ) (λW V h=>by obtain⟨a,b,c,rfl⟩:=AZ h;rfl) (λW R aC h=>HD (by omega) h)
def azJ:oA Tryz.prog (look TT) 320 141 90 (.cw 1 (.ratio 10 11) []) false:=
 E5 (K:=KA) (n:=100) (args:=[(.ref (.v 0)),(.int I (.v 0)),(.int I (.v 1)),(.int I (.v 2)),(.fn 141 [])]) (loops:=[(320,2,⟨[(0,.ref (.own 90)),(10,.int I),(11,.int I)],[]⟩)]) (srts:=[(358,141,90,.cw 0 (.ratio 10 11) [],E)]) (chs:=[]) (t:=Xi 90 141 358 (.ratio 10 11)) rfl rfl rfl (by kernel_rfl) (λx X=>by simp only[aE0] at X;subst X;exact ll.of (azI) (by dsimp only;decide)) (by kernel_rfl) Pp (by kernel_rfl) (aqH) (λW V h=>by obtain⟨a,b,c,rfl⟩:=AZ h;rfl) (λW R aC h=>HD (by omega) h)
def azK:oA Tryz.prog (look TT) 273 141 90 (.cw 2 (.ratio 10 11) []) false:=
 E5 (K:=KA) (n:=100) (args:=[(.ref (.v 0)),(.int I (.v 0)),(.int I (.v 1)),(.fn 141 [])]) (loops:=[(273,1,⟨[(0,.ref (.own 90)),(8,.int I)],[]⟩),(273,4,⟨[(0,.ref (.own 90)),(9,.int I)],[]⟩)]) (srts:=[]) (chs:=[(273,6)]) (t:=Xj 90 141 LB) rfl rfl rfl (by kernel_rfl) (λx X=>by cases X) (by kernel_rfl) Pp (by kernel_rfl) (aqK afQ (afE 10 11)) (λW V h=>by obtain⟨a,b,rfl⟩:=two h;rfl) (λW R aC h=>aqD h)
def aqV:∀N:Nat,oA Tryz.prog (look TT) 274 141 90 (.cw (N+3) (.ratio 10 11) []) E
 |0=>⟨vQ (by kernel_rfl),λW A n M Q aC O X L V H G P=>by
  simp only[be.fill,aDh] at V;subst V;exact(aqQ P).elim⟩
 |N+1=>E5 (K:=KA) (n:=100) (args:=[(.ref (.v 0)),(.int I (.v 0)),(.int I (.v 1)),(.int I (.v 2)),(.fn 141 [])]) (loops:=[(274,3,⟨[(0,.ref (.own 90)),(10,.int I),(11,.int I)],[]⟩),(274,9,⟨[(0,.ref (.own 90)),(13,.int I)],[]⟩),(274,15,⟨[(0,.ref (.own 90)),(14,.int I),(15,.int I)],[]⟩),(274,21,⟨[(0,.ref (.own 90)),(17,.int I)],[]⟩),(274,33,⟨[(0,.ref (.own 90)),(20,.int I),(21,.int I)],[]⟩)]) (srts:=[(320,141,90,.cw 1 (.ratio 10 11) [],E),(274,141,90,.cw (N+3) (.ratio 10 11) [],E)]) (chs:=[(274,11),(274,23)]) (t:=Xl 90 141 320 274 N (.ratio 10 11) LB) rfl rfl rfl (by kernel_rfl) (λx R=>by
   simp only[aDp,aFc,or_false] at R;rcases R with rfl|rfl;exact ll.of (azJ) (by dsimp only;decide);exact ll.of (aqV N) (by dsimp only;decide)) (by kernel_rfl) Pp (by kernel_rfl) (aqN afQ (afE 10 11)) (λX F h=>by obtain⟨a,b,c,rfl⟩:=AZ h;rfl) (λX Q aC h=>HD (by omega) h)
def azL:oA Tryz.prog (look TT) 140 141 90 (.ratio 10 11) true:=by
 refine⟨vQ (by kernel_rfl),λW A n C V aC O X B Q H G P=> ?_⟩;cases X with
 |cons _ _=>simp[be.fill] at Q
 |nil=>
  simp only[be.fill,aDh] at Q;subst Q;have P:fU (.ratio 10 11) J V=U aC:=P;refine afH (K:=KA) (o:=(.ratio 10 11)) (N:=0) (n:=100) (inl:=[209]) (args:=[(.ref (.v 0)),(.fn 141 [])]) (loops:=[(209,2,⟨[(0,.ref (.own 90)),(8,.int I),(7,.int I)],[]⟩),(209,7,⟨[(0,.ref (.own 90)),(6,.int I)],[]⟩),(209,9,⟨[(0,.ref (.own 90)),(8,.int I),(7,.int I)],[]⟩)]) (srts:=[(273,141,90,.cw 2 (.ratio 10 11) [],E),(274,141,90,.cw (Y V+1+3) (.ratio 10 11) [],E)]) (chs:=[]) (F:=λX R=>if X=[]/\Y R<Y V+1 then fU (.ratio 10 11) J R else Z) (t:=Xm 90 141 273 274 (Y V+1) (.ratio 10 11)) rfl rfl rfl (by kernel_rfl) (λx L=> ?_) (by kernel_rfl) Pp (by kernel_rfl) (aqP (afE 10 11)) (λX z h=> ?_) (λX R D h=> ?_) (λX R D h=> ?_) H G ?_;simp only[aDp,aFc,or_false] at L;rcases L with rfl|rfl;exact ll.of (azK) (by dsimp only;decide);exact ll.of (aqV _) (by dsimp only;decide);have:X=[]:=aDI h;subst this;rfl;split at h;rename_i M;rw[if_pos (by rw[zf];exact M)];exact afP h;cases h;split at h;rename_i M;exact⟨by rw[M.1];rfl,YV h⟩;cases h;rw[if_pos ⟨rfl,by omega⟩];exact P
def azM:oA Tryz.prog (look TT) 379 323 393 (.cw 0 (.lex [4] J) []) false:=
 E5 (K:=KB) (n:=100) (args:=[(.ref (.v 0)),(.int I (.v 0)),(.int I (.v 1)),(.int I (.v 2)),(.fn 323 [])]) (loops:=[(379,1,⟨[(0,.ref (.own 393)),(10,.int I)],[]⟩)]) (srts:=[]) (chs:=[(379,3)]) (t:=Xh 393 LD) rfl rfl rfl (by kernel_rfl) (λx X=>by cases X) (by kernel_rfl) Pq (by kernel_rfl) (aqF afR) (λW V h=>by obtain⟨a,b,c,rfl⟩:=AZ h;rfl) (λW R aC h=>HD (by omega) h)
def azN:oA Tryz.prog (look TT) 378 323 393 (.cw 1 (.lex [4] J) []) false:=
 E5 (K:=KB) (n:=100) (args:=[(.ref (.v 0)),(.int I (.v 0)),(.int I (.v 1)),(.int I (.v 2)),(.fn 323 [])]) (loops:=[(378,2,⟨[(0,.ref (.own 393)),(10,.int I),(11,.int I)],[]⟩)]) (srts:=[(379,323,393,.cw 0 (.lex [4] J) [],E)]) (chs:=[]) (t:=Xi 393 323 379 (.lex [4] J)) rfl rfl rfl (by kernel_rfl) (λx X=>by simp only[aE0] at X;subst X;exact ll.of (azM) (by dsimp only;decide)) (by kernel_rfl) Pq (by kernel_rfl) (aqH) (λW V h=>by obtain⟨a,b,c,rfl⟩:=AZ h;rfl) (λW R aC h=>HD (by omega) h)
def azO:oA Tryz.prog (look TT) 373 323 393 (.cw 2 (.lex [4] J) []) false:=
 E5 (K:=KB) (n:=100) (args:=[(.ref (.v 0)),(.int I (.v 0)),(.int I (.v 1)),(.fn 323 [])]) (loops:=[(373,1,⟨[(0,.ref (.own 393)),(8,.int I)],[]⟩),(373,4,⟨[(0,.ref (.own 393)),(9,.int I)],[]⟩)]) (srts:=[]) (chs:=[(373,6)]) (t:=Xj 393 323 LD) rfl rfl rfl (by kernel_rfl) (λx X=>by cases X) (by kernel_rfl) Pq (by kernel_rfl) (aqK afR (Xf [4] J)) (λW V h=>by obtain⟨a,b,rfl⟩:=two h;rfl) (λW R aC h=>aqD h)
def aqW:∀N:Nat,oA Tryz.prog (look TT) 374 323 393 (.cw (N+3) (.lex [4] J) []) E
 |0=>⟨vQ (by kernel_rfl),λW A n M Q aC O X L V H G P=>by
  simp only[be.fill,aDh] at V;subst V;exact(aqQ P).elim⟩
 |N+1=>E5 (K:=KB) (n:=100) (args:=[(.ref (.v 0)),(.int I (.v 0)),(.int I (.v 1)),(.int I (.v 2)),(.fn 323 [])]) (loops:=[(374,3,⟨[(0,.ref (.own 393)),(10,.int I),(11,.int I)],[]⟩),(374,9,⟨[(0,.ref (.own 393)),(13,.int I)],[]⟩),(374,15,⟨[(0,.ref (.own 393)),(14,.int I),(15,.int I)],[]⟩),(374,21,⟨[(0,.ref (.own 393)),(17,.int I)],[]⟩),(374,33,⟨[(0,.ref (.own 393)),(20,.int I),(21,.int I)],[]⟩)]) (srts:=[(378,323,393,.cw 1 (.lex [4] J) [],E),(374,323,393,.cw (N+3) (.lex [4] J) [],E)]) (chs:=[(374,11),(374,23)]) (t:=Xl 393 323 378 374 N (.lex [4] J) LD) rfl rfl rfl (by kernel_rfl) (λx R=>by
   simp only[aDp,aFc,or_false] at R;rcases R with rfl|rfl;exact ll.of (azN) (by dsimp only;decide);exact ll.of (aqW N) (by dsimp only;decide)) (by kernel_rfl) Pq (by kernel_rfl) (aqN afR (Xf [4] J)) (λX F h=>by obtain⟨a,b,c,rfl⟩:=AZ h;rfl) (λX Q aC h=>HD (by omega) h)
def azP:oA Tryz.prog (look TT) 322 323 393 (.lex [4] J) true:=by
 refine⟨vQ (by kernel_rfl),λW A n C V aC O X B Q H G P=> ?_⟩;cases X with
 |cons _ _=>simp[be.fill] at Q
 |nil=>
  simp only[be.fill,aDh] at Q;subst Q;have P:fU (.lex [4] J) J V=U aC:=P;refine afH (K:=KB) (o:=(.lex [4] J)) (N:=0) (n:=100) (inl:=[360]) (args:=[(.ref (.v 0)),(.fn 323 [])]) (loops:=[(360,2,⟨[(0,.ref (.own 393)),(8,.int I),(7,.int I)],[]⟩),(360,7,⟨[(0,.ref (.own 393)),(6,.int I)],[]⟩),(360,9,⟨[(0,.ref (.own 393)),(8,.int I),(7,.int I)],[]⟩)]) (srts:=[(373,323,393,.cw 2 (.lex [4] J) [],E),(374,323,393,.cw (Y V+1+3) (.lex [4] J) [],E)]) (chs:=[]) (F:=λX R=>if X=[]/\Y R<Y V+1 then fU (.lex [4] J) J R else Z) (t:=Xm 393 323 373 374 (Y V+1) (.lex [4] J)) rfl rfl rfl (by kernel_rfl) (λx L=> ?_) (by kernel_rfl) Pq (by kernel_rfl) (aqP (Xf [4] J)) (λX z h=> ?_) (λX R D h=> ?_) (λX R D h=> ?_) H G ?_;simp only[aDp,aFc,or_false] at L;rcases L with rfl|rfl;exact ll.of (azO) (by dsimp only;decide);exact ll.of (aqW _) (by dsimp only;decide);have:X=[]:=aDI h;subst this;rfl;split at h;rename_i M;rw[if_pos (by rw[zf];exact M)];exact afP h;cases h;split at h;rename_i M;exact⟨by rw[M.1];rfl,YV h⟩;cases h;rw[if_pos ⟨rfl,by omega⟩];exact P
end
section
open Go.Shelf Go.RowKit Go.Lib Go.Sort
def dv{o:Option Func}{a b:Func}(h:o=U a)(e:a=b):o=U b:=h.trans (congrArg U e)
def Tryz.cmpInt_ren:Go.Shelf.Ren:=⟨λ|5=>110|7=>192|n=>n,λ|22=>3|3=>3|4=>4|n=>n,λ|n=>n⟩
def Tryz.cmpInt:Go.Proofs.SlLaysC2.n5 Tryz.prog Tryz.cmpInt_ren:={mixed:=by kernel_rfl,f5:=⟨Tryz.f110.name,by decide,dv Tryz.func110 (by kernel_rfl)⟩,f7:=⟨Tryz.f192.name,by decide,dv Tryz.func192 (by kernel_rfl)⟩,t3:=Tryz.underlying3,a3:=Tryz.isAgg3,z3:=Tryz.sizeOf3,v3:=Tryz.zeroValue3,t4:=Tryz.underlying4,a4:=Tryz.isAgg4,z4:=Tryz.sizeOf4,v4:=Tryz.zeroValue4,t22:=Tryz.underlying3,a22:=Tryz.isAgg3,z22:=Tryz.sizeOf3,v22:=Tryz.zeroValue3}
def Tryz.sortSg_ren:Go.Shelf.Ren:=⟨λ|6=>223|15=>108|14=>283|28=>190|29=>191|20=>273|21=>326|22=>327|23=>328|24=>329|25=>330|26=>331|27=>332|46=>362|47=>254|48=>255|49=>363|50=>364|57=>375|n=>n,λ|22=>30|24=>90|25=>234|3=>3|39=>205|0=>0|53=>287|55=>289|4=>4|46=>280|45=>279|50=>284|5=>5|9=>9|66=>336|70=>166|76=>382|77=>298|n=>n,λ|n=>n⟩
def Tryz.sortSg:Go.Proofs.SlLaysF0.n6 Tryz.prog Tryz.sortSg_ren:={mixed:=by kernel_rfl,f6:=⟨Tryz.f223.name,by decide,dv Tryz.func223 (by kernel_rfl)⟩,f14:=⟨Tryz.f283.name,by decide,dv Tryz.func283 (by kernel_rfl)⟩,f15:=dv Tryz.func108 (by kernel_rfl),f20:=⟨Tryz.f273.name,by decide,dv Tryz.func273 (by kernel_rfl)⟩,f21:=⟨Tryz.f326.name,by decide,dv Tryz.func326 (by kernel_rfl)⟩,f22:=⟨Tryz.f327.name,by decide,dv Tryz.func327 (by kernel_rfl)⟩,f23:=⟨Tryz.f328.name,by decide,dv Tryz.func328 (by kernel_rfl)⟩,f24:=⟨Tryz.f329.name,by decide,dv Tryz.func329 (by kernel_rfl)⟩,f25:=⟨Tryz.f330.name,by decide,dv Tryz.func330 (by kernel_rfl)⟩,f26:=⟨Tryz.f331.name,by decide,dv Tryz.func331 (by kernel_rfl)⟩,f27:=⟨Tryz.f332.name,by decide,dv Tryz.func332 (by kernel_rfl)⟩,f28:=dv Tryz.func190 (by kernel_rfl),f29:=dv Tryz.func191 (by kernel_rfl),f46:=⟨Tryz.f362.name,by decide,dv Tryz.func362 (by kernel_rfl)⟩,f47:=dv Tryz.func254 (by kernel_rfl),f48:=dv Tryz.func255 (by kernel_rfl),f49:=⟨Tryz.f363.name,by decide,dv Tryz.func363 (by kernel_rfl)⟩,f50:=⟨Tryz.f364.name,by decide,dv Tryz.func364 (by kernel_rfl)⟩,f57:=⟨Tryz.f375.name,by decide,dv Tryz.func375 (by kernel_rfl)⟩,t0:=Tryz.underlying0,a0:=Tryz.isAgg0,z0:=Tryz.sizeOf0,v0:=Tryz.zeroValue0,t3:=Tryz.underlying3,a3:=Tryz.isAgg3,z3:=Tryz.sizeOf3,v3:=Tryz.zeroValue3,t4:=Tryz.underlying4,a4:=Tryz.isAgg4,z4:=Tryz.sizeOf4,v4:=Tryz.zeroValue4,t5:=Tryz.underlying5,a5:=Tryz.isAgg5,z5:=Tryz.sizeOf5,v5:=Tryz.zeroValue5,t9:=Tryz.underlying9,a9:=Tryz.isAgg9,z9:=Tryz.sizeOf9,v9:=Tryz.zeroValue9,t22:=Tryz.underlying30,a22:=Tryz.isAgg30,z22:=Tryz.sizeOf30,v22:=Tryz.zeroValue30,t25:=Tryz.underlying234,a25:=Tryz.isAgg234,z25:=Tryz.sizeOf234,v25:=Tryz.zeroValue234,t39:=Tryz.underlying205,a39:=Tryz.isAgg205,z39:=Tryz.sizeOf205,v39:=Tryz.zeroValue205,t45:=Tryz.underlying279,a45:=Tryz.isAgg279,z45:=Tryz.sizeOf279,v45:=Tryz.zeroValue279,t46:=Tryz.underlying280,a46:=Tryz.isAgg280,z46:=Tryz.sizeOf280,v46:=Tryz.zeroValue280,t50:=Tryz.underlying284,a50:=Tryz.isAgg284,z50:=Tryz.sizeOf284,v50:=Tryz.zeroValue284,t53:=Tryz.underlying287,a53:=Tryz.isAgg287,z53:=Tryz.sizeOf287,v53:=Tryz.zeroValue287,t55:=Tryz.underlying289,a55:=Tryz.isAgg289,z55:=Tryz.sizeOf289,v55:=Tryz.zeroValue289,t66:=Tryz.underlying336,a66:=Tryz.isAgg336,z66:=Tryz.sizeOf336,v66:=Tryz.zeroValue336,t70:=Tryz.underlying166,a70:=Tryz.isAgg166,z70:=Tryz.sizeOf166,v70:=Tryz.zeroValue166,t76:=Tryz.underlying382,a76:=Tryz.isAgg382,z76:=Tryz.sizeOf382,v76:=Tryz.zeroValue382,t77:=Tryz.underlying298,a77:=Tryz.isAgg298,z77:=Tryz.sizeOf298,v77:=Tryz.zeroValue298}
set_option maxHeartbeats 1000000 in
def azQ (X O N M L H G F D C B A z y V x w v u t s p o n m l k j:Int) (W:World):Calls Tryz.prog 224 #[.agg #[.int I X,.int I O,.int I N,.int I M,.int I L,.int I H,.int I G,.int I F,.int I D,.int I C,.int I B,.int I A,.int I z,.int I y],.agg #[.int I V,.int I x,.int I w,.int I v,.int I u,.int I t,.int I s,.int I p,.int I o,.int I n,.int I m,.int I l,.int I k,.int I j]] W λe Q=>e=.returned (.int I (Lib.compareInt X V))/\∃q i,Q=grow (W.drewN q) i:=by
 have R:=λP=>AnyG.cmp_Compare_int Tryz.cmpInt X V P
 change∀P,Calls Tryz.prog 110 _ _ _ at R;generalize Lib.compareInt X V=r at R⊢;go_enter Tryz.func224,Tryz.ntmps224
 go_wp2_with (go_at_call 110;refine(R _).mono ?_;rintro e Q ⟨rfl,rfl⟩)
 go_ret;exact⟨rfl,0,_,by rw[alloc_eq_grow,alloc_eq_grow,grow_grow];rfl⟩
end
section
attribute[local go_sem ↓] Go.wp_at_zero Go.wp_at_succ
open Go.Shelf Go.RowKit Go.Lib Go.Sort
def pL:Nat->Nat->List Nat->List Nat
 |0,_,g=>g
 |n+1,k,g=>if g.getD k 0=k then g else(pL n (g.getD k 0) g).set k ((pL n (g.getD k 0) g).getD (g.getD k 0) 0)
def aqX{g:List Nat}:∀n k,(pL n k g).length=Y g
 |0,_=>rfl
 |n+1,k=>by
  simp only[pL];split;rfl;simp[aqX n]
def aqY{g:List Nat}(X:∀q,g.getD q 0<=q):∀n k q,k<q->(pL n k g).getD q 0=g.getD q 0
 |0,_,_,_=>rfl
 |n+1,k,q,h=>by
  simp only[pL];split;rfl;have:=X k;rw[aDf,aDP (by omega),<-aDf];exact aqY X n _ q (by omega)
def InB(W:World)(b V:Nat)(g:List Nat):Prop:=∃X,W.heap[b]?=U (.cells X 3 (0,0))/\X.size=V/\∀q,q<Y g->X[q]?=U (.int I ((g.getD q 0:Nat):Int))
set_option maxHeartbeats 2000000 in
set_option maxRecDepth 100000 in
def azR (W:World) (X V b n R k:Nat) (P:W.cell? ⟨X,0,Z⟩=U (.slice (U ⟨b,0,Z⟩) n R)) (_hl:W.cell? ⟨V,0,Z⟩=U (.func (.func 130) #[] #[.pointer (U ⟨X,0,Z⟩),.pointer (U ⟨V,0,Z⟩)]))
  (O:(0:Int)<=k) (N:(k:Int)<(n:Int)) (M:W.cell? ⟨b,k,Z⟩=U (.int I k)):Calls Tryz.prog 130 #[.int I k,.pointer (U ⟨X,0,Z⟩),.pointer (U ⟨V,0,Z⟩)] W λe Q=>e=.returned (.int I k)/\Q=W:=by
 have L:((k:Int)!=k)=false:=by simp
 go_enter Tryz.func130,Tryz.ntmps130;go_wp2;go_ret;exact⟨rfl,rfl⟩
set_option maxHeartbeats 4000000 in
set_option maxRecDepth 100000 in
def azS (W:World) (V R b n P k j:Nat) (F:V≠b) (A:W.cell? ⟨V,0,Z⟩=U (.slice (U ⟨b,0,Z⟩) n P)) (z:W.cell? ⟨R,0,Z⟩=U (.func (.func 130) #[] #[.pointer (U ⟨V,0,Z⟩),.pointer (U ⟨R,0,Z⟩)]))
  (y:(0:Int)<=k) (x:(k:Int)<(n:Int)) (w:W.cell? ⟨b,k,Z⟩=U (.int I j)) (v:j≠k) (r:Int) (Q:World->Prop) (H:∀X,Q X->X.cell? ⟨V,0,Z⟩=U (.slice (U ⟨b,0,Z⟩) n P)/\X.cell? ⟨R,0,Z⟩=U (.func (.func 130) #[] #[.pointer (U ⟨V,0,Z⟩),.pointer (U ⟨R,0,Z⟩)])/\X.cell? ⟨b,k,Z⟩=U (.int I j)/\X.frozen? ⟨b,k,Z⟩=E)
  (D:Calls Tryz.prog 130 #[.int I j,.pointer (U ⟨V,0,Z⟩),.pointer (U ⟨R,0,Z⟩)] W.drew λe X=>e=.returned (.int I r)/\Q X):
  Calls Tryz.prog 130 #[.int I k,.pointer (U ⟨V,0,Z⟩),.pointer (U ⟨R,0,Z⟩)] W λe X=>e=.returned (.int I r)/\∃O,Q O/\X=O.setCell ⟨b,k,Z⟩ (.int I r):=by
 have u:((j:Int)!=k)=true:=by simp;omega
 have C:∀X,Q X->X.cell? ⟨V,0,Z⟩=U (.slice (U ⟨b,0,Z⟩) n P)/\X.cell? ⟨b,k,Z⟩=U (.int I j)/\X.frozen? ⟨b,k,Z⟩=E/\(X.setCell ⟨b,k,Z⟩ (.int I r)).cell? ⟨V,0,Z⟩=U (.slice (U ⟨b,0,Z⟩) n P)/\(X.setCell ⟨b,k,Z⟩ (.int I r)).cell? ⟨b,k,Z⟩=U (.int I r):=λX N=>by
  obtain⟨M,B,L,G⟩:=H X N;exact⟨M,L,G,(World.cell?_setCell_far _ _ _ _ (Ne.symm F)).trans M,World.cell?_setCell_same' _ _ _ (by rw[L];rfl)⟩
 clear H;go_enter Tryz.func130,Tryz.ntmps130;go_wp2
 go_region_with (first|(go_at_call 130;refine D.mono ?_;rintro e O ⟨rfl,N⟩;obtain⟨M,B,L,G,t⟩:=C O N))
 all_goals go_wp2
 all_goals go_ret
 all_goals exact⟨rfl,_,N,rfl⟩
def aqZ(b V:Nat)(W:World)(g:List Nat)(X:World):Prop:=W.grownBy X (U b)/\InB X b V g
def aq0{R Q b n B sz:Nat}(A:R≠b)(u:Q≠b)(hn:(n:Int)<=1099511627776):∀(N k:Nat)(W:World)(g:List Nat),k<N->k<n->Y g=n->(∀q,g.getD q 0<=q)->
  W.cell? ⟨R,0,Z⟩=U (.slice (U ⟨b,0,Z⟩) n B)->W.cell? ⟨Q,0,Z⟩=U (.func (.func 130) #[] #[.pointer (U ⟨R,0,Z⟩),.pointer (U ⟨Q,0,Z⟩)])->InB W b sz g->
  Calls Tryz.prog 130 #[.int I k,.pointer (U ⟨R,0,Z⟩),.pointer (U ⟨Q,0,Z⟩)] W λe P=>e=.returned (.int I (((pL N k g).getD k 0:Nat):Int))/\aqZ b sz W (pL N k g) P
 |0,k,W,g,h,_,_,_,_,_,_=>absurd h (aGq _)
 |N+1,k,W,g,hN,t,s,z,H,G,hb=>by
  obtain⟨r,y,p,x⟩:=hb;have o:∀q,q<n->W.cell? ⟨b,q,Z⟩=U (.int I ((g.getD q 0:Nat):Int)):=λq O=>by
   have:=x q (by omega);simp only[World.cell?,y];simpa using this
  by_cases M:g.getD k 0=k;have L:pL (N+1) k g=g:=by simp only[pL,if_pos M]
  rw[L];have:=o k t;rw[M] at this⊢;refine(azR W R Q b n B k H G (by omega) (by omega) this).mono ?_;rintro e P ⟨rfl,rfl⟩;exact⟨rfl,World.grownBy.refl _ _,r,y,p,x⟩;have L:pL (N+1) k g=(pL N (g.getD k 0) g).set k ((pL N (g.getD k 0) g).getD (g.getD k 0) 0):=by simp only[pL,if_neg M]
  have m:g.getD k 0<k:=aFG (z k) M;generalize l:g.getD k 0=j at M L m;generalize w:pL N j g=X at L;have cU:Y X=n:=by rw[<-w,aqX,s]
  have af:X.getD k 0=j:=by rw[<-w,aqY z N j k m,l]
  rw[L];have i:(X.set k (X.getD j 0)).getD k 0=X.getD j 0:=by
   rw[aDf,aEq (by omega)];rfl
  rw[i];have f:=aq0 A u hn N j W.drew g (by omega) (by omega) s z H G ⟨r,y,p,x⟩;rw[w] at f;have d:=o k t;rw[l] at d;refine(azS W R Q b n B k j A H G (by omega) (by omega) d (by omega) ((X.getD j 0:Nat):Int) (aqZ b sz W.drew X) ?_ f).mono ?_;rintro P ⟨V,F,D,c,C⟩;have hf:P.cell? ⟨b,k,Z⟩=U (.int I (j:Int)):=by
   have:=C k (by omega);rw[af] at this;simp only[World.cell?,D];simpa using this
  exact⟨V.cell H (by simpa using A),V.cell G (by simpa using u),hf,by simp[World.frozen?,D]⟩;rintro e P ⟨rfl,a,⟨V,F,D,c,C⟩,rfl⟩;refine⟨rfl,⟨V.os,V.tape,V.output,by rw[World.size_setCell];exact V.size,λq O ab=> ?_⟩, ?_⟩;exact(Below.heap_setCell a _ _ q (by intro e;exact ab (by rw[e]))).trans (V.block q O ab);refine⟨F.setIfInBounds k (.int I ((X.getD j 0:Nat):Int)), ?_,by simpa using c,λq O=> ?_⟩;exact Go.Proofs.YtieaiocljdpebaaGreatDoor.Bx.set (show Go.Proofs.YtieaiocljdpebaaGreatDoor.Bx a b 3 F from D) _;rw[aGo] at O;have ag:k<F.size:=by
   have:=C k (by omega);exact(aDD.1 this).1
  by_cases v:q=k;subst v;rw[i,aFv ag];rw[aEU (Ne.symm v),C q O,aDf,aDf,aDP (Ne.symm v)]
end
def qI(X:am):aj:=X.map λW=>(ax 0 W).toNat
def Pr(X:am)(q:Nat):(qI X).getD q 0=(ax 0 (X.getD q [])).toNat:=by
 simp only[qI,aDf,aDj];cases X[q]? with
 |none=>rfl
 |some W=>rfl
def aq1{X:am}(h:kB X=J):∀(n:Nat)(i:Int),0<=i->i<Y X->qI (o9 n i X)=pL n i.toNat (qI X)
 |0,_,_,_=>rfl
 |n+1,i,V,R=>by
  obtain⟨Q,N,P⟩:=YT h V R;have O:=aq1 h n _ Q P;simp only[o9,pL,Pr];by_cases W:ax 0 (X.getD i.toNat [])=i;rw[if_pos W,if_pos (by omega)];rw[if_neg W,if_neg (by omega),<-O,Pr];simp only[qI,aGg]
def azT:ahJ Tryz.prog (look TT) 130 3:=by
 refine⟨vQ (by kernel_rfl), ?_⟩;intro W b n B R aC i z y tg tl f gC d a M L H;have N:bw (look TT) (.sl 3)=[.int I]:=by rfl
 obtain⟨bd,h0,h1,G,ab⟩:=MC H;obtain⟨hn,bf⟩:=qY M;have x:=eG.vN M;rw[N] at L⊢;rcases L.mem with hz|⟨b',F,hA,w,af,ag⟩;exfalso;omega;cases hA;have v:∀(q:Nat)(X:aF),R[q]?=U X->∃c,X=[c]/\c.val=.int I (ax 0 X):=λq X V=>by
  have u:=x.len q X V;rw[N] at u
  match X,u with
  |[c],_=>
   obtain⟨m,hm⟩:=x.int q 0 [c] c I V rfl (by rw[N];rfl);exact⟨c,rfl,by simp[ax,hm,aO]⟩
 have t:∀q:Nat,q<Y R->((qI R).getD q 0:Int)=ax 0 (R.getD q [])/\(qI R).getD q 0<=q:=λq V=>by
  have:=Di G V;rw[Pr];omega
 have al:InB W b F.size (qI R):=by
  refine⟨F,w,rfl,λq V=> ?_⟩;rw[qI,aDV] at V;obtain⟨c,an,ap⟩:=v q R[q] (aDe V);have D:W.cell? ⟨b,0+q*1+0,Z⟩=U c.val:=by
   cases M with
   |sl e A bk B R g1 g2 g3 gi gb go=>
    obtain⟨-,b2,bo,e2,-,g4⟩:=g3 q R[q] (aDe V);cases e2;have:=g4 0 c (by rw[an];rfl);rw[N] at this;exact this
  rw[ap] at D;simp only[World.cell?,w] at D;have e3:((qI R).getD q 0:Int)=ax 0 R[q]:=by
   rw[(t q V).1,aDf,aDe V];rfl
  rw[e3];simpa using D
 have a0:∀q,(qI R).getD q 0<=q:=λq=>by
  by_cases V:q<Y R;exact(t q V).2;rw[Pr,aDf,aDy (by omega)];show(0:Int).toNat<=q;simp
 have a1:(qI R).length=n:=by rw[qI,aDV,hn]
 have a2:W.cell? ⟨z,0,Z⟩=U (.slice (U ⟨b,0,Z⟩) n B):=by simp[World.cell?,f]
 have bq:W.cell? ⟨y,0,Z⟩=U (.func (.func 130) #[] #[.pointer (U ⟨z,0,Z⟩),.pointer (U ⟨y,0,Z⟩)]):=by simp[World.cell?,gC]
 have a3:((i.toNat:Nat):Int)=i:=by omega
 have s:=aq0 d a (sz:=F.size) (by omega) (Y R) i.toNat W (qI R) (by omega) (by omega) a1 a0 a2 bq al;rw[a3] at s;refine s.mono ?_;rintro e w' ⟨rfl,a4,a5,a6,a7,o⟩;have k:=aq1 G (Y R) i h0 h1;rw[<-ab] at k;rw[<-k] at o⊢;have br:Y aC=Y R:=YU H;have a8:=QE H;have j:∀(q:Nat)(X:aF),aC[q]?=U X->∃c,X=[c]/\c.val=.int I (ax 0 X)/\0<=ax 0 X:=λq X V=>by
  obtain⟨p,Q⟩:=aDU (a8 X (aDx V));obtain⟨c,P,O⟩:=v p X Q;have a9:p<Y R:=(aDd.1 Q).1;have:=(Di G a9).1;rw[aDf,Q] at this;exact⟨c,P,O,this⟩
 have g:∀q,q<Y aC->(((qI aC).getD q 0:Nat):Int)=ax 0 (aC.getD q []):=λq V=>by
  obtain⟨c,-,-,c3⟩:=j q aC[q] (aDe V);rw[Pr,aDf,aDe V];show((ax 0 aC[q]).toNat:Int)=ax 0 aC[q];omega
 refine⟨by rw[g _ (by omega)],a4,by omega,L.nil,.inr ⟨b,a5,rfl,a6,af,by rw[a7];exact ag, ?_,.inr rfl⟩⟩;apply aDG;intro q;have bb:dt aC=aC.map λX=>Value.int I (ax 0 X):=by
  have:∀l:am,(∀X∈l,∃c,X=[c]/\c.val=.int I (ax 0 X))->dt l=l.map λX=>Value.int I (ax 0 X):=by
   intro l;induction l with
   |nil=>intro _;rfl
   |cons r l ih=>
    intro h;obtain⟨c,P,O⟩:=h r aES;have:=ih λX C=>h X (aEn _ C)
    simp only[dt,aFp,aDt] at this⊢;rw[this,<-O,P];rfl
  refine this aC λX C=> ?_
  obtain⟨p,Q⟩:=aDU C;obtain⟨c,P,O,-⟩:=j p X Q;exact⟨c,P,O⟩
 rw[bb,aDK,aDj];simp only[aE1,aGZ];by_cases V:q<Y aC;rw[if_pos V,aE2,o q (by rw[qI,aDV];exact V),g q V,aDe V];simp[aDf,aDe V];rw[if_neg V,aDy (by omega)];rfl
section
attribute[local go_sem ↓] Go.wp_at_zero Go.wp_at_succ
open Go.Shelf Go.RowKit Go.Lib Go.Sort
def lW:List Int->Int
 |[]=>0
 |a::l=>if a=0 then lW l else a
set_option maxHeartbeats 1000000 in
def or2 (b:Nat) (X V:Int) (W:World) (L:W.cell? ⟨b,0,Z⟩=U (.int I X)) (H:W.cell? ⟨b,1,Z⟩=U (.int I V)):Calls Tryz.prog 109 #[.slice (U ⟨b,0,Z⟩) 2 2] W λe O=>e=.returned (.int I (lW [X,V]))/\O=W:=by
 by_cases R:X=0;have N:(X !=0)=false:=by simp[R]
 by_cases P:V=0
 ·have M:(V !=0)=false:=by simp[P]
  have Q:lW [X,V]=0:=by simp[lW,R,P]
  rw[Q];clear Q;clear R P;go_enter Tryz.func109,Tryz.ntmps109;go_wp2;refine wp_loop_rounds 3 ?_
  iterate 3 (rw[rounds_succ];go_wp2)
  go_ret;exact⟨rfl,rfl⟩
 ·have M:(V !=0)=true:=by simp[P]
  have Q:lW [X,V]=V:=by simp[lW,R,P]
  rw[Q];clear Q;clear R P;go_enter Tryz.func109,Tryz.ntmps109;go_wp2;refine wp_loop_rounds 3 ?_
  iterate 2 (rw[rounds_succ];go_wp2)
  go_ret;exact⟨rfl,rfl⟩
 ·have N:(X !=0)=true:=by simp[R]
  have Q:lW [X,V]=X:=by simp[lW,R]
  rw[Q];clear Q;clear R;go_enter Tryz.func109,Tryz.ntmps109;go_wp2;refine wp_loop_rounds 3 ?_
  iterate 1 (rw[rounds_succ];go_wp2)
  go_ret;exact⟨rfl,rfl⟩
def Ps(W:World)(V R:Obj)(X:Array Value)(t:TypeId)(i:Nat)(v:Value)(h:X[i]?=U v):(((W.alloc V).alloc R).alloc (.cells X t)).drew.cell? ⟨W.heap.size+1+1,i,Z⟩=U v:=by
 have e:(((W.alloc V).alloc R).alloc (.cells X t)).heap[W.heap.size+1+1]?=U (.cells X t):=by
  have:=heap_alloc_new ((W.alloc V).alloc R) (.cells X t);simpa using this
 show World.cell? _ _=_;simp only[World.cell?,World.drew,e];simpa using h
def aq2(W:World)(X V R:Obj):∃q Q,(((W.alloc X).alloc V).alloc R).drew=grow (W.drewN q) Q:=⟨1, #[X]++ #[V]++ #[R],by rw[alloc_eq_grow,alloc_eq_grow,alloc_eq_grow,grow_grow,grow_grow];rfl⟩
set_option maxHeartbeats 4000000 in
set_option maxRecDepth 100000 in
def azV (V R Q P:Int) (W:World):Calls Tryz.prog 178 #[.agg #[.int I V,.int I R],.agg #[.int I Q,.int I P]] W λe X=>e=.returned (.int I (lW [Lib.compareInt R P,Lib.compareInt V Q]))/\∃q L,X=grow (W.drewN q) L:=by
 have O:=λx y N=>AnyG.cmp_Compare_int Tryz.cmpInt x y N
 change∀x y N,Calls Tryz.prog 110 _ _ _ at O;generalize Lib.compareInt=M at O⊢;go_enter Tryz.func178,Tryz.ntmps178;go_wp2
 go_region_held3 (λX=>X.cell? ⟨W.heap.size,0,Z⟩=U (.int I V)/\X.cell? ⟨W.heap.size,1,Z⟩=U (.int I R)/\X.cell? ⟨W.heap.size+1,0,Z⟩=U (.int I Q)/\X.cell? ⟨W.heap.size+1,1,Z⟩=U (.int I P)) (go_keep)
  (first|(go_at_call 110;refine(O _ _ _).mono ?_;rintro e X ⟨rfl,rfl⟩)|(go_at_call 109;refine Calls.mono (or2 _ (M R P) (M V Q) _ (Ps _ _ _ _ _ _ _ rfl) (Ps _ _ _ _ _ _ _ rfl)) ?_;rintro e X ⟨rfl,rfl⟩))
 all_goals go_wp2
 all_goals go_ret
 exact⟨rfl,aq2 _ _ _ _⟩
set_option maxHeartbeats 1000000 in
def or3 (b:Nat) (V R Q:Int) (W:World) (F:W.cell? ⟨b,0,Z⟩=U (.int I V)) (D:W.cell? ⟨b,1,Z⟩=U (.int I R)) (C:W.cell? ⟨b,2,Z⟩=U (.int I Q)):Calls Tryz.prog 109 #[.slice (U ⟨b,0,Z⟩) 3 3] W λe M=>e=.returned (.int I (lW [V,R,Q]))/\M=W:=by
 by_cases P:V=0;have L:(V !=0)=false:=by simp[P]
 by_cases O:R=0;have H:(R !=0)=false:=by simp[O]
 by_cases N:Q=0
 ·have G:(Q !=0)=false:=by simp[N]
  have X:lW [V,R,Q]=0:=by simp[lW,P,O,N]
  rw[X];clear X;clear P O N;go_enter Tryz.func109,Tryz.ntmps109;go_wp2;refine wp_loop_rounds 4 ?_
  iterate 4 (rw[rounds_succ];go_wp2)
  go_ret;exact⟨rfl,rfl⟩
 ·have G:(Q !=0)=true:=by simp[N]
  have X:lW [V,R,Q]=Q:=by simp[lW,P,O,N]
  rw[X];clear X;clear P O N;go_enter Tryz.func109,Tryz.ntmps109;go_wp2;refine wp_loop_rounds 4 ?_
  iterate 3 (rw[rounds_succ];go_wp2)
  go_ret;exact⟨rfl,rfl⟩
 ·have H:(R !=0)=true:=by simp[O]
  have X:lW [V,R,Q]=R:=by simp[lW,P,O]
  rw[X];clear X;clear P O;go_enter Tryz.func109,Tryz.ntmps109;go_wp2;refine wp_loop_rounds 4 ?_
  iterate 2 (rw[rounds_succ];go_wp2)
  go_ret;exact⟨rfl,rfl⟩
 ·have L:(V !=0)=true:=by simp[P]
  have X:lW [V,R,Q]=V:=by simp[lW,P]
  rw[X];clear X;clear P;go_enter Tryz.func109,Tryz.ntmps109;go_wp2;refine wp_loop_rounds 4 ?_
  iterate 1 (rw[rounds_succ];go_wp2)
  go_ret;exact⟨rfl,rfl⟩
set_option maxHeartbeats 4000000 in
set_option maxRecDepth 100000 in
def w52 (V R Q P O N:Int) (W:World):Calls Tryz.prog 52 #[.agg #[.int I V,.int I R,.int I Q],.agg #[.int I P,.int I O,.int I N]] W λe X=>e=.returned (.int I (lW [Lib.compareInt V P,Lib.compareInt R O,Lib.compareInt Q N]))/\∃q G,X=grow (W.drewN q) G:=by
 have M:=λx y H=>AnyG.cmp_Compare_int Tryz.cmpInt x y H
 change∀x y H,Calls Tryz.prog 110 _ _ _ at M;generalize Lib.compareInt=L at M⊢;go_enter Tryz.func52,Tryz.ntmps52;go_wp2
 go_region_held3 (λX=>X.cell? ⟨W.heap.size,0,Z⟩=U (.int I V)/\X.cell? ⟨W.heap.size,1,Z⟩=U (.int I R)/\X.cell? ⟨W.heap.size,2,Z⟩=U (.int I Q)/\X.cell? ⟨W.heap.size+1,0,Z⟩=U (.int I P)/\X.cell? ⟨W.heap.size+1,1,Z⟩=U (.int I O)/\X.cell? ⟨W.heap.size+1,2,Z⟩=U (.int I N)) (go_keep)
  (first|(go_at_call 110;refine(M _ _ _).mono ?_;rintro e X ⟨rfl,rfl⟩)|(go_at_call 109;refine Calls.mono (or3 _ (L V P) (L R O) (L Q N) _ (Ps _ _ _ _ _ _ _ rfl) (Ps _ _ _ _ _ _ _ rfl) (Ps _ _ _ _ _ _ _ rfl)) ?_;rintro e X ⟨rfl,rfl⟩))
 all_goals go_wp2
 all_goals go_ret
 exact⟨rfl,aq2 _ _ _ _⟩
end
section
open Go.Shelf Go.RowKit
open Go.Sort (flatK get_flatK size_flatK HoldsK putRowK size_putRowK grow)
def IV(k:Nat)(x:bh):aF:=(aDA k).map λi=>RV.mk (.int I (x.getD i 0)) []
def ji(k:Nat)(x:bh):eJ:=(aDA k).map λi=>Value.int I (x.getD i 0)
def afU(k:Nat)(x:bh):(IV k x).length=k:=by simp[IV]
def afV(h:P<X):(IV X L)[P]?=U (RV.mk (.int I (L.getD P 0)) []):=by simp[IV,h]
def azY(h:P<X):ax P (IV X L)=L.getD P 0:=by
 unfold ax;rw[aDf,afV h];rfl
def xf(X:aj)(x y:bh):Int:=lW (X.map λc=>Lib.compareInt (x.getD c 0) (y.getD c 0))
def afW{k:Nat}{x y:bh}:∀{cs:aj},(∀c∈cs,c<k)->decide (xf cs x y<0)=gX E cs (IV k x) (IV k y)
 |[],_=>rfl
 |c::cs,h=>by
  have R:=afW (x:=x) (y:=y) (cs:=cs) (λc W=>h c (by simp[W]));have W:c<k:=h c (by simp);simp only[xf,aDt,lW,gX,azY W] at R⊢;generalize x.getD c 0=p;generalize y.getD c 0=q;by_cases V:p=q;rw[if_pos V,if_pos (by simp[Lib.compareInt,V])];exact R;rw[if_neg V];by_cases X:p<q;have e:Lib.compareInt p q=-1:=by simp[Lib.compareInt,X]
  simp[e,X];have Q:p>q:=by omega
  have e:Lib.compareInt p q=1:=by simp[Lib.compareInt,X,Q]
  simp[e,X]
def afX(h:∀c∈H,c<X):Go.Sort.SWO (ltOf (xf H)):=by
 have w:=Xf H E;have e:∀x y,ltOf (xf H) x y=(be.lex H E).lt (IV X x) (IV X y):=λx y=>afW h
 exact⟨λx=>by rw[e];exact w.Xc _ rfl,λx y z W V=>by rw[e] at*;exact w.tr _ _ _ rfl rfl rfl W V,λx y z W V=>by rw[e] at*;exact w.nt _ _ _ rfl rfl rfl W V⟩
def aq3:∀{k:Nat}{X:aF},iF (aDq k J) X->Y X=k/\∀c∈X,c=.mk (.int I (aO c.val)) []
 |0,X,h=>by cases h;simp
 |k+1,[],h=>h.elim
 |k+1,c::r,h=>by
  obtain⟨⟨n,rfl⟩,W⟩:(∃n,c=.mk (.int I n) [])/\iF (aDq k J) r:=h;obtain⟨V,R⟩:=aq3 W;exact⟨by simp[V],λc Q=>(aDp.1 Q).elim (λe=>by subst e;rfl) (R c)⟩
def unI(X:aF):bh:=X.map λc=>aO c.val
def azZ(h:iF (aDq X J) Q):IV X (unI Q)=Q:=by
 obtain⟨P,V⟩:=aq3 h;apply aDG;intro i;by_cases R:i<X;rw[afV R];have W:i<Y Q:=by omega
 rw[aDe W,V _ (aD3 W)];simp[unI,aDf,W];rw[aDy (by rw[afU];omega),aDy (by omega)]
def az0(h:∀x∈N,iF (aDq X J) x):∃d:Array bh,N=d.toList.map (IV X):=by
 refine⟨(N.map unI).toArray, ?_⟩;simp only[aD7]
 conv=>lhs;rw[<-List.map_id N]
 exact aDC λx W=>(azZ (h x W)).symm
def aq4(d:Array bh)(W:P<d.size*X):(dt (d.toList.map (IV X)))[P]?=U ((flatK (ji X) X d)[P]!):=by
 have Q:0<X:=by
  rcases aEu X with rfl|h;omega;exact h
 have O:P/X<d.size:=aFS (by rw[aFD];exact W);have V:P%X<X:=aFH _ Q;have e:P=P/X*X+P%X:=by have:=aFT P X;rw[aFD] at this;omega
 have:=Mo (w:=X) (rows:=d.toList.map (IV X)) (λi N R=>by
  simp only[aDj,aEx] at R;obtain⟨x,_,rfl⟩:=R;exact afU X x) (i:=P/X) (j:=P%X) (row:=IV X d[P/X]!) (by simp[O]) (afV V)
 rw[<-e] at this;rw[this,get_flatK _ _ _ _ W];congr 1;have:(ji X d[P/X]!)[P%X]?=U (.int I ((d[P/X]!).getD (P%X) 0)):=by simp[ji,V]
 rw[List.getElem!_eq_getElem?_getD,this];rfl
def az1(d:Array bh):(dt (d.toList.map (IV X))).length=d.size*X:=by
 have:=zJ (w:=X) (rows:=d.toList.map (IV X)) (λi V W=>by
  simp only[aDj,aEx] at W;obtain⟨x,_,rfl⟩:=W;exact afU X x)
 simpa using this
def az2(Q:R.heap[X]?=U (.cells O V (0,0)))(j:Nat):R.frozen? ⟨X,j,Z⟩=false:=by
 simp[World.frozen?,Q]
def az3{Q:Ty}{n N k:Nat}{d:Array bh}(h:bz R Q (.sl X) (.mk (.slice (U ⟨P,0,Z⟩) n N) (d.toList.map (IV k))))(M:R.heap[P]?=U (.cells O X (0,0))):HoldsK (ji k) k R P 0 d:=by
 intro j V;rw[size_flatK] at V;obtain⟨G,F,L,_,H⟩:=Mp h j _ (aq4 d V);cases L;exact⟨H,az2 M _⟩
def az4{m:Nat}{d Q:Array bh}{os:Array Obj}(M:R.heap[P]?=U (.cells O V (0,0)))(C:HoldsK (ji X) X R P 0 d)(B:Q.size=d.size):
  R.grownBy (sortWorldK (ji X) X R P 0 m Q os) (U P)/\∃L,(sortWorldK (ji X) X R P 0 m Q os).heap[P]?=U (.cells L V (0,0))/\L.size=O.size/\L.toList.take (Q.size*X)=dt (Q.toList.map (IV X)):=by
 have H:P<R.heap.size:=(aDD.1 M).1;have A:(putRowK (ji X) X (Sort.ahead R m) P 0 Q).heap.size=R.heap.size:=by rw[size_putRowK];rfl
 have G:∀i,i<R.heap.size->(sortWorldK (ji X) X R P 0 m Q os).heap[i]?=(R.heap.modify P (Sort.onCells (Sort.putCells id 0 (flatK (ji X) X Q))))[i]?:=by
  intro i F;show(_++os)[i]?=_;rw[aF9 (by rw[A];exact F)];rfl
 refine⟨⟨rfl,rfl,rfl, ?_,λi F z=> ?_⟩,Sort.putCells id 0 (flatK (ji X) X Q) O, ?_, ?_, ?_⟩;exact size_sortWorldK_c (ji X) X R P 0 m Q os;rw[G i F,aER,if_neg (λD=>z (by rw[D]))];rw[G P H,aER,if_pos rfl,M];rfl;simp[Sort.putCells];have D:=holdsK_sortWorldK_c (ji X) X R P 0 d Q m os C H B;have y:(sortWorldK (ji X) X R P 0 m Q os).heap[P]?=U (.cells (Sort.putCells id 0 (flatK (ji X) X Q) O) V (0,0)):=by rw[G P H,aER,if_pos rfl,M];rfl
 apply aDG;intro q;rw[aDK];by_cases N:q<Q.size*X;rw[if_pos N,aq4 Q N];have:=(D q (by rw[size_flatK];exact N)).1;simpa[World.cell?,y] using this;rw[if_neg N,aDy (by rw[az1];omega)]
def aq5{lt:aF->aF->Bool}:∀{l:am},sn lt l=J->l.Pairwise (λx y=>lt x y=J\/lt y x=J)
 |[],_=>aD6
 |x::r,h=>by
  simp only[sn,aDc,aDr,aDE] at h;exact aDz.2 ⟨h.1,aq5 h.2⟩
def afZ{f g:FuncId}{k:Nat}(ap:ul Tryz.prog f=J)(F:bw (look TT) (.sl V)=(aDq k J).map CR)(hc:∀c∈H,c<k)
  (a0:∀p R fv W,Calls Tryz.prog f #[.slice p 0 R,fv] W λP D=>P=.returned (.tuple #[])/\D=W)
  (a1:∀(b R:Nat)(d:Array bh)(W:World),HoldsK (ji k) k W b 0 d->b<W.heap.size->d.size<4611686018427387904->Calls Tryz.prog f #[.slice (U ⟨b,0,Z⟩) d.size R,.func (.func g) #[] #[]] W λP D=>P=.returned (.tuple #[])/\∃X n C,Go.Sort.PermIn 0 d.size d X/\Go.Sort.SortedIn (ltOf (xf H)) 0 d.size X/\D=sortWorldK (ji k) k W b 0 n X C):
  oA Tryz.prog (look TT) f g V (.lex H E) false:=by
 refine⟨vQ ap,λW A n R B aC O ns bf w v L u=> ?_⟩;cases ns with
 |cons _ _=>simp[be.fill] at w
 |nil=>
  simp only[be.fill,aDh] at w;subst w;have u:fU (.lex H E) E B=U aC:=u;obtain⟨hl,bg⟩:=qY v;have hk:(bw (look TT) (.sl V)).length=k:=by rw[F];simp
  rw[hk] at L⊢;have Q:=afP u;simp only[fU] at Q;split at Q
  case isFalse=>cases Q
  rename_i r;simp only[aDc,decide_eq_true_eq,aDE,aDB,false_or] at r;obtain⟨o,_,l⟩:=r;have Q:=aDQ Q;have bk:Y aC=Y B:=by rw[<-zf aC,<-Q,nN,zf]
  by_cases hn:n=0;subst hn;have h0:aC=[]:=aDI (by omega);subst h0;refine(a0 A R _ W).mono ?_;rintro P W' ⟨rfl,rfl⟩;refine⟨rfl,⟨rfl,rfl,rfl,aDm _,λ_ _ _=>rfl⟩,⟨aD0 _,L.nil, ?_⟩⟩;rcases L.mem with h|⟨b,a,rfl,N,t,s⟩;exact .inl h;cases R with
  |zero=>exact .inl rfl
  |succ c=>exact .inr ⟨b,a,rfl,N,t,s,by simp[dt],.inr rfl⟩
  rcases L.mem with h|⟨b,a,rfl,N,t,s⟩;omega;have hp:∀(j:Nat)(z:Value)(q:RK),(bw (look TT) (.sl V))[j]?≠U (.aH z q):=by
   intro j z q M;rw[F,aDj] at M;cases G:(aDq k J)[j]? with
   |none=>rw[G] at M;cases M
   |some b=>rw[G] at M;cases b<;>simp[CR] at M
  have ab:=aqB hp v;obtain⟨d,hd⟩:=az0 (aqA F (eG.vN v));have af:d.size=n:=by
   have h3:(ef B).length=(d.toList.map (IV k)).length:=congrArg Y hd;rw[zf,aDV,aEs] at h3;exact h3.symm.trans hl
  rw[hd] at ab Q l o;have ag:=az3 ab N;have G:b<W.heap.size:=(aDD.1 N).1;have a2:jU (U ⟨b,0,Z⟩) R=U b:=by
   cases R with
   |zero=>omega
   |succ c=>rfl
  have al:=a1 b R d W ag G (by simp at o;omega);rw[af] at al;refine Calls.mono al ?_;rintro P W' ⟨rfl,X,m,C,an,a3,rfl⟩;have hs:X.size=d.size:=an.1;obtain⟨g1,a4,g2,g3,g4⟩:=az4 (m:=m) (os:=C) N ag hs;have a5:X.toList.Perm d.toList:=by
   have:=an.2.2;rw[<-af] at this;have e1:X.extract 0 d.size=X:=by rw[<-hs];exact aGX
   have e2:d.extract 0 d.size=d:=aGX
   rwa [e1,e2] at this
  have a6:fF (be.lex H E).lt (X.toList.map (IV k)):=by
   refine aFq.2 (aET.2 λi j hi hj a7=> ?_);have a8:j<X.size:=by simpa using hj
   have a9:i<X.size:=by simpa using hi
   have:=a3 i j (aD0 _) a7 (by omega);have V:=afW (k:=k) (x:=X[j]) (y:=X[i]) hc;rw[getElem!_pos X j a8,getElem!_pos X i a9] at this;show gX E H (IV k X.toList[j]) (IV k X.toList[i])=E;rw[aGH,aGH,<-V];exact this
  have bb:X.toList.map (IV k)=ef aC:=by
   rw[<-Q,<-aox (lt:=(be.lex H E).lt) (aeX E H) (aeY E H) (a5.map (IV k)) (aq5 l)];exact(Xd a6).symm
  rw[a2];refine⟨rfl,g1,⟨by omega,λh=>(by cases h),.inr ⟨b,a4,rfl,g2,t,by rw[g3,s], ?_,.inr rfl⟩⟩⟩;have bd:Y aC=X.size:=by omega
  rw[bd,g4,bb,aqy]
end
section
open Go.Shelf Go.RowKit
open Go.Sort (HoldsK)
def Tryz.sortOb_ren:Go.Shelf.Ren:=⟨λ|6=>51|15=>108|14=>107|28=>190|29=>191|20=>182|21=>183|22=>184|23=>185|24=>186|25=>187|26=>188|27=>189|46=>253|47=>254|48=>255|49=>256|50=>257|57=>311|n=>n,λ|22=>121|24=>118|25=>123|3=>3|39=>205|0=>0|53=>287|55=>289|4=>4|46=>280|45=>279|50=>284|5=>5|9=>9|66=>336|70=>166|76=>382|77=>298|n=>n,λ|n=>n⟩
def Tryz.sortOb:Go.Proofs.SlLaysF0.n6 Tryz.prog Tryz.sortOb_ren:={mixed:=by kernel_rfl,f6:=⟨Tryz.f51.name,by decide,dv Tryz.func51 (by kernel_rfl)⟩,f14:=⟨Tryz.f107.name,by decide,dv Tryz.func107 (by kernel_rfl)⟩,f15:=dv Tryz.func108 (by kernel_rfl),f20:=⟨Tryz.f182.name,by decide,dv Tryz.func182 (by kernel_rfl)⟩,f21:=⟨Tryz.f183.name,by decide,dv Tryz.func183 (by kernel_rfl)⟩,f22:=⟨Tryz.f184.name,by decide,dv Tryz.func184 (by kernel_rfl)⟩,f23:=⟨Tryz.f185.name,by decide,dv Tryz.func185 (by kernel_rfl)⟩,f24:=⟨Tryz.f186.name,by decide,dv Tryz.func186 (by kernel_rfl)⟩,f25:=⟨Tryz.f187.name,by decide,dv Tryz.func187 (by kernel_rfl)⟩,f26:=⟨Tryz.f188.name,by decide,dv Tryz.func188 (by kernel_rfl)⟩,f27:=⟨Tryz.f189.name,by decide,dv Tryz.func189 (by kernel_rfl)⟩,f28:=dv Tryz.func190 (by kernel_rfl),f29:=dv Tryz.func191 (by kernel_rfl),f46:=⟨Tryz.f253.name,by decide,dv Tryz.func253 (by kernel_rfl)⟩,f47:=dv Tryz.func254 (by kernel_rfl),f48:=dv Tryz.func255 (by kernel_rfl),f49:=⟨Tryz.f256.name,by decide,dv Tryz.func256 (by kernel_rfl)⟩,f50:=⟨Tryz.f257.name,by decide,dv Tryz.func257 (by kernel_rfl)⟩,f57:=⟨Tryz.f311.name,by decide,dv Tryz.func311 (by kernel_rfl)⟩,t0:=Tryz.underlying0,a0:=Tryz.isAgg0,z0:=Tryz.sizeOf0,v0:=Tryz.zeroValue0,t3:=Tryz.underlying3,a3:=Tryz.isAgg3,z3:=Tryz.sizeOf3,v3:=Tryz.zeroValue3,t4:=Tryz.underlying4,a4:=Tryz.isAgg4,z4:=Tryz.sizeOf4,v4:=Tryz.zeroValue4,t5:=Tryz.underlying5,a5:=Tryz.isAgg5,z5:=Tryz.sizeOf5,v5:=Tryz.zeroValue5,t9:=Tryz.underlying9,a9:=Tryz.isAgg9,z9:=Tryz.sizeOf9,v9:=Tryz.zeroValue9,t22:=Tryz.underlying121,a22:=Tryz.isAgg121,z22:=Tryz.sizeOf121,v22:=Tryz.zeroValue121,t25:=Tryz.underlying123,a25:=Tryz.isAgg123,z25:=Tryz.sizeOf123,v25:=Tryz.zeroValue123,t39:=Tryz.underlying205,a39:=Tryz.isAgg205,z39:=Tryz.sizeOf205,v39:=Tryz.zeroValue205,t45:=Tryz.underlying279,a45:=Tryz.isAgg279,z45:=Tryz.sizeOf279,v45:=Tryz.zeroValue279,t46:=Tryz.underlying280,a46:=Tryz.isAgg280,z46:=Tryz.sizeOf280,v46:=Tryz.zeroValue280,t50:=Tryz.underlying284,a50:=Tryz.isAgg284,z50:=Tryz.sizeOf284,v50:=Tryz.zeroValue284,t53:=Tryz.underlying287,a53:=Tryz.isAgg287,z53:=Tryz.sizeOf287,v53:=Tryz.zeroValue287,t55:=Tryz.underlying289,a55:=Tryz.isAgg289,z55:=Tryz.sizeOf289,v55:=Tryz.zeroValue289,t66:=Tryz.underlying336,a66:=Tryz.isAgg336,z66:=Tryz.sizeOf336,v66:=Tryz.zeroValue336,t70:=Tryz.underlying166,a70:=Tryz.isAgg166,z70:=Tryz.sizeOf166,v70:=Tryz.zeroValue166,t76:=Tryz.underlying382,a76:=Tryz.isAgg382,z76:=Tryz.sizeOf382,v76:=Tryz.zeroValue382,t77:=Tryz.underlying298,a77:=Tryz.isAgg298,z77:=Tryz.sizeOf298,v77:=Tryz.zeroValue298}
def Tryz.sortBr_ren:Go.Shelf.Ren:=⟨λ|6=>243|15=>108|14=>300|28=>190|29=>191|20=>345|21=>346|22=>347|23=>348|24=>349|25=>350|26=>351|27=>352|46=>368|47=>254|48=>255|49=>369|50=>370|57=>377|n=>n,λ|22=>196|24=>200|25=>274|3=>3|39=>205|0=>0|53=>287|55=>289|4=>4|46=>280|45=>279|50=>284|5=>5|9=>9|66=>336|70=>166|76=>382|77=>298|n=>n,λ|n=>n⟩
def Tryz.sortBr:Go.Proofs.SlLaysF0.n6 Tryz.prog Tryz.sortBr_ren:={mixed:=by kernel_rfl,f6:=⟨Tryz.f243.name,by decide,dv Tryz.func243 (by kernel_rfl)⟩,f14:=⟨Tryz.f300.name,by decide,dv Tryz.func300 (by kernel_rfl)⟩,f15:=dv Tryz.func108 (by kernel_rfl),f20:=⟨Tryz.f345.name,by decide,dv Tryz.func345 (by kernel_rfl)⟩,f21:=⟨Tryz.f346.name,by decide,dv Tryz.func346 (by kernel_rfl)⟩,f22:=⟨Tryz.f347.name,by decide,dv Tryz.func347 (by kernel_rfl)⟩,f23:=⟨Tryz.f348.name,by decide,dv Tryz.func348 (by kernel_rfl)⟩,f24:=⟨Tryz.f349.name,by decide,dv Tryz.func349 (by kernel_rfl)⟩,f25:=⟨Tryz.f350.name,by decide,dv Tryz.func350 (by kernel_rfl)⟩,f26:=⟨Tryz.f351.name,by decide,dv Tryz.func351 (by kernel_rfl)⟩,f27:=⟨Tryz.f352.name,by decide,dv Tryz.func352 (by kernel_rfl)⟩,f28:=dv Tryz.func190 (by kernel_rfl),f29:=dv Tryz.func191 (by kernel_rfl),f46:=⟨Tryz.f368.name,by decide,dv Tryz.func368 (by kernel_rfl)⟩,f47:=dv Tryz.func254 (by kernel_rfl),f48:=dv Tryz.func255 (by kernel_rfl),f49:=⟨Tryz.f369.name,by decide,dv Tryz.func369 (by kernel_rfl)⟩,f50:=⟨Tryz.f370.name,by decide,dv Tryz.func370 (by kernel_rfl)⟩,f57:=⟨Tryz.f377.name,by decide,dv Tryz.func377 (by kernel_rfl)⟩,t0:=Tryz.underlying0,a0:=Tryz.isAgg0,z0:=Tryz.sizeOf0,v0:=Tryz.zeroValue0,t3:=Tryz.underlying3,a3:=Tryz.isAgg3,z3:=Tryz.sizeOf3,v3:=Tryz.zeroValue3,t4:=Tryz.underlying4,a4:=Tryz.isAgg4,z4:=Tryz.sizeOf4,v4:=Tryz.zeroValue4,t5:=Tryz.underlying5,a5:=Tryz.isAgg5,z5:=Tryz.sizeOf5,v5:=Tryz.zeroValue5,t9:=Tryz.underlying9,a9:=Tryz.isAgg9,z9:=Tryz.sizeOf9,v9:=Tryz.zeroValue9,t22:=Tryz.underlying196,a22:=Tryz.isAgg196,z22:=Tryz.sizeOf196,v22:=Tryz.zeroValue196,t25:=Tryz.underlying274,a25:=Tryz.isAgg274,z25:=Tryz.sizeOf274,v25:=Tryz.zeroValue274,t39:=Tryz.underlying205,a39:=Tryz.isAgg205,z39:=Tryz.sizeOf205,v39:=Tryz.zeroValue205,t45:=Tryz.underlying279,a45:=Tryz.isAgg279,z45:=Tryz.sizeOf279,v45:=Tryz.zeroValue279,t46:=Tryz.underlying280,a46:=Tryz.isAgg280,z46:=Tryz.sizeOf280,v46:=Tryz.zeroValue280,t50:=Tryz.underlying284,a50:=Tryz.isAgg284,z50:=Tryz.sizeOf284,v50:=Tryz.zeroValue284,t53:=Tryz.underlying287,a53:=Tryz.isAgg287,z53:=Tryz.sizeOf287,v53:=Tryz.zeroValue287,t55:=Tryz.underlying289,a55:=Tryz.isAgg289,z55:=Tryz.sizeOf289,v55:=Tryz.zeroValue289,t66:=Tryz.underlying336,a66:=Tryz.isAgg336,z66:=Tryz.sizeOf336,v66:=Tryz.zeroValue336,t70:=Tryz.underlying166,a70:=Tryz.isAgg166,z70:=Tryz.sizeOf166,v70:=Tryz.zeroValue166,t76:=Tryz.underlying382,a76:=Tryz.isAgg382,z76:=Tryz.sizeOf382,v76:=Tryz.zeroValue382,t77:=Tryz.underlying298,a77:=Tryz.isAgg298,z77:=Tryz.sizeOf298,v77:=Tryz.zeroValue298}
def az5(a:Int):lW [a]=a:=by
 simp only[lW];split<;>omega
def az6(b:Nat)(X:Nat)(w:World):CmpLays Tryz.prog 224 #[] (ji 14) 14 (xf [0]) b 0 X w:=λm W V R x y=>by
 have h:=azQ (x.getD 0 0) (x.getD 1 0) (x.getD 2 0) (x.getD 3 0) (x.getD 4 0) (x.getD 5 0) (x.getD 6 0) (x.getD 7 0) (x.getD 8 0) (x.getD 9 0) (x.getD 10 0) (x.getD 11 0) (x.getD 12 0) (x.getD 13 0) (y.getD 0 0) (y.getD 1 0) (y.getD 2 0) (y.getD 3 0) (y.getD 4 0) (y.getD 5 0) (y.getD 6 0) (y.getD 7 0) (y.getD 8 0) (y.getD 9 0) (y.getD 10 0) (y.getD 11 0) (y.getD 12 0) (y.getD 13 0) (sortWorldK (ji 14) 14 w b 0 m V W);have e:xf [0] x y=Lib.compareInt (x.getD 0 0) (y.getD 0 0):=az5 _;rw[e];exact h
def az7(b:Nat)(X:Nat)(w:World):CmpLays Tryz.prog 178 #[] (ji 2) 2 (xf [1,0]) b 0 X w:=λm W V R x y=>
 azV (x.getD 0 0) (x.getD 1 0) (y.getD 0 0) (y.getD 1 0) (sortWorldK (ji 2) 2 w b 0 m V W)
def az8(b:Nat)(X:Nat)(w:World):CmpLays Tryz.prog 52 #[] (ji 3) 3 (xf [0,1,2]) b 0 X w:=λm W V R x y=>
 w52 (x.getD 0 0) (x.getD 1 0) (x.getD 2 0) (y.getD 0 0) (y.getD 1 0) (y.getD 2 0) (sortWorldK (ji 3) 3 w b 0 m V W)
def af0(k:Nat)(x:bh):(ji k x).length=k:=by simp[ji]
def af3(k:Nat)(x:bh):∀v∈ji k x,v.oneCell'=true:=by
 intro v X;simp only[ji,aDF] at X;obtain⟨i,_,rfl⟩:=X;rfl
def az9:oA Tryz.prog (look TT) 223 224 90 (.lex [0] E) false:=by
 have V:∀c∈[0],c<14:=by simp
 refine afZ (k:=14) (by kernel_rfl) (by kernel_rfl) V (λp X R W=> ?_) (λb X d W Q P O=> ?_);have h:=AnyF.slices_SortFunc_none Tryz.sortSg p X R W;exact h;have h:=AnyQ.slices_SortFunc Tryz.sortSg 14 Tryz.isAgg90 Tryz.sizeOf90 (ji 14) (af0 14) (af3 14) (xf [0]) (afX V) 224 #[] b 0 X d W (enters_of Tryz.func224 (by kernel_rfl) rfl) (az6 b d.size W) Q P O;exact h
def aAa:oA Tryz.prog (look TT) 51 52 118 (.lex [0,1,2] E) false:=by
 have V:∀c∈[0,1,2],c<3:=by simp
 refine afZ (k:=3) (by kernel_rfl) (by kernel_rfl) V (λp X R W=> ?_) (λb X d W Q P O=> ?_);have h:=AnyF.slices_SortFunc_none Tryz.sortOb p X R W;exact h;have h:=AnyQ.slices_SortFunc Tryz.sortOb 3 Tryz.isAgg118 Tryz.sizeOf118 (ji 3) (af0 3) (af3 3) (xf [0,1,2]) (afX V) 52 #[] b 0 X d W (enters_of Tryz.func52 (by kernel_rfl) rfl) (az8 b d.size W) Q P O;exact h
def aAb:oA Tryz.prog (look TT) 243 178 200 (.lex [1,0] E) false:=by
 have V:∀c∈[1,0],c<2:=by simp
 refine afZ (k:=2) (by kernel_rfl) (by kernel_rfl) V (λp X R W=> ?_) (λb X d W Q P O=> ?_);have h:=AnyF.slices_SortFunc_none Tryz.sortBr p X R W;exact h;have h:=AnyQ.slices_SortFunc Tryz.sortBr 2 Tryz.isAgg200 Tryz.sizeOf200 (ji 2) (af0 2) (af3 2) (xf [1,0]) (afX V) 178 #[] b 0 X d W (enters_of Tryz.func178 (by kernel_rfl) rfl) (az7 b d.size W) Q P O;exact h
def HL:tT qH:=by
 intro x X;simp only[qH,aDp,aFc,or_false] at X;rcases X with rfl|rfl|rfl|rfl|rfl|rfl;exact ll.of aAa (by dsimp only;decide);exact ll.of azL (by dsimp only;decide);exact ll.of az9 (by dsimp only;decide);exact ll.of aAb (by dsimp only;decide);exact ll.of azP (by dsimp only;decide);unfold ll;rw[if_pos rfl];exact azT
end
section
set_option maxRecDepth 100000
def aAc:cG 12 E E T12:=tk Tryz.func12 (loops:=[(12,5,⟨[(12,.int I)],[]⟩)])
def aAd:cG 33 E E VS:=tk Tryz.func33
def aAe:cG 18 E E T18:=tk Tryz.func18
def aAf:cG 20 E E T20:=tk Tryz.func20 (loops:=[(20,4,⟨[(5,.int I)],[]⟩)])
def aAg:cG 37 E E T37:=tk Tryz.func37 (loops:=[(37,9,⟨[(62,.int I)],[]⟩),(37,16,⟨[(90,.int I),(6,.int I)],[]⟩)])
def aAh:cG 86 E E T86:=tk Tryz.func86
def aAi:cG 87 E E T87:=tk Tryz.func87
def aAj:cG 88 E E T88:=tk Tryz.func88
def aAk:cG 102 E E VT:=tk Tryz.func102
def aAl:cG 173 E E VU:=tk Tryz.func173 (loops:=[(173,2,⟨[(8,.int I)],[]⟩)])
def aAm:cG 103 E E VV:=tk Tryz.func103 (loops:=[(103,3,⟨[(16,.int I)],[]⟩)])
def aAn:cG 181 E E aej:=tk Tryz.func181
def aAo:cG 135 E E aek:=tk Tryz.func135 (loops:=[(135,4,⟨[(20,.int I)],[]⟩)])
def aAp(X:tT qH):cG 77 E E T77:=tk Tryz.func77 (loops:=[(77,7,⟨[(35,.int I),(6,.ref (.own 90))],[]⟩)]) (srts:=qH) (hsr:=X)
def aAq:cG 225 E E aem:=tk Tryz.func225
def aAr:cG 284 E E aen:=tk Tryz.func284
def aAs:cG 207 E E aeo:=tk Tryz.func207
def aAt:cG 25 E E T25:=tk Tryz.func25 (inl:=[71,132,70])
def aAu(X:tT qH):cG 155 E E VW:=tk Tryz.func155 (loops:=[(155,6,⟨[(22,.int I),(4,.ref (.own 258))],[]⟩),(155,9,⟨[(28,.int I),(4,.ref (.own 258))],[]⟩)]) (inl:=[222]) (srts:=qH) (hsr:=X)


def aAJ:cG 143 E E V6:=tk Tryz.func143 (loops:=[(211,3,⟨[(9,.int I),(10,.int I)],[]⟩)]) (inl:=[211,212])
end
