/- Part 10 of the proof. -/
import Derived.Test.YtieaiocljdpebaaGreatDoorQ5
import Derived.Test.YtieaiocljdpebaaGreatDoorQ9
import Derived.Shelf.SlSortCmp.WholeK
import Derived.Shelf.SlSortCmp.NoneTotal
import Derived.Shelf.SlicesG.Cmp
import Derived.Deep.RegionHeld3
import Derived.Deep.DrawnRows
set_option linter.all false
open Bool renaming and_eq_true->aIy,false_eq_true->aIU,or_eq_true->aIZ,true->J,false->E
open List renaming getElem?_eq_some_iff->aIz,getElem?_eq_getElem->aIA,getD_eq_getElem?_getD->aIC,getElem?_map->aIE,mem_cons->aIK,replicate->aIL,all_eq_true->aIN,map_cons->aIP,getElem?_eq_none->aIT,pairwise_cons->aIV,mem_of_getElem?->aIW,map_congr_left->aIY,ext_getElem?->aI0,eq_nil_of_length_eq_zero->aI1,mem_map->aI3,range->aI5,getElem?_take->aI6,getElem?_set_ne->aJf,getElem?_of_mem->aJg,getElem_mem->aJl,length_map->aJn,map_map->aJo,mem_cons_of_mem->aJF,pairwise_iff_getElem->aJO,getElem?_set_self->aJX,mem_cons_self->aKb,not_mem_nil->aKs,mem_singleton->aKB,flatMap_cons->aKJ,length_singleton->aKL,all_map->aKN,pairwise_map->aLx,map_set->aLC,length->Y
open Option.some renaming injEq->aID,inj->aJb
open Nat renaming le_refl->aIG,eq_zero_or_pos->aJB,mod_lt->aKA,zero_le->aKG,mul_le_mul->aKM,mul_comm->aK1,div_lt_of_lt_mul->aLe,div_add_mod->aLf,mul_one->aMg
open Option renaming map_eq_some_iff->aJ8,some->U,none->Z
open Array renaming getElem?_eq_some_iff->aIX,length_toList->aJJ,getElem?_modify->aJ9,getElem?_setIfInBounds_ne->aKd,getElem?_toList->aKm,getElem?_setIfInBounds_self_of_lt->aKS,getElem?_append_left->aLu,getElem_toList->aL2,extract_size->aMf
open List.Pairwise renaming nil->aJt
open Int renaming natAbs_mul->aK4
open Go.IntKind renaming i64->I
namespace Go.Proofs.YtieaiocljdpebaaGreatDoor.Y
open Go.RowKit
noncomputable section
variable{M:aa}{W:aW}{N:am}{Q:aH}{X P:Nat}{L:bi}{H:ai}{R:World}{O:kN}{V:TypeId}
def TM:jV:=⟨CZ,λ_ _=>Z⟩
def au9:ahD TM false:=by
 refine⟨λf X (h:CZ f=U X)=> ?_,λf X (h:CZ f=U X)=> ?_,λf=>ahB f⟩;unfold CZ at h;split at h<;>cases h<;>first|exact au3|exact au4|exact au5|exact au6|exact au7|exact au8
 unfold CZ at h;split at h<;>cases h<;>exact id
def hTM(f:FuncId)(X:Fn)(h:CZ f=U X):JX TM f X:=⟨h,λ_=>rfl⟩
def avb{x y m n:Int}(X:x.natAbs<=m.natAbs)(W:y.natAbs<=n.natAbs):(x*y).natAbs<=(m*n).natAbs:=by
 rw[aK4,aK4];exact aKM X W
set_option maxHeartbeats 1000000 in
def aD2 {a b c d:Int} (R:eU a b=J) (Q:eU c d=J) (W:World):Calls Tryz.prog 142 #[.agg #[.int I a,.int I b],.agg #[.int I c,.int I d]] W λe P=>e=.returned (.tuple #[.int I (qM (a*d) (c*b)),.int I 0])/\Below W.heap.size W P:=by
 obtain⟨n,N⟩:=asy hTM a b c d;have M:=YR au9 n 142 _ _ _ _ rfl rfl rfl rfl _ _ _ N (YT _) ⟨trivial,trivial,trivial,trivial,trivial⟩ W (λh=>by cases h) (YU (by simp[sN]));refine Calls.mono M ?_;intro e P h;have O:IntKind.i64.wrap (a*d)=a*d/\IntKind.i64.wrap (c*b)=c*b:=by
  simp[eU] at R Q;have D:=avb (x:=a) (y:=d) (m:=1073741824) (n:=1073741824) (by omega) (by omega);have C:=avb (x:=c) (y:=b) (m:=1073741824) (n:=1073741824) (by omega) (by omega);rw[IntKind.wrap_i64,IntKind.wrap_i64];omega
 rw[mo,R,Q,O.1,O.2] at h;cases e with
 |returned v=>
  obtain⟨B,L,V,X,A,rfl,H,_,_⟩:=h;cases V;rcases L with _|⟨_|_|_,_|⟨_|_|_,_|_⟩⟩<;>first|exact X.elim|exact X.1.elim|exact X.2.elim|exact X.2.1.elim|exact X.2.2.elim|skip
  obtain⟨G,F,_⟩:=X;cases G;cases F;exact⟨rfl,H⟩
 |panicked z=>obtain⟨_,v,V,_⟩:=h;cases V
 |outgrown=>exact h.elim
def aD3(a b:Int)(W:World):Calls Tryz.prog 110 #[.int I a,.int I b] W λe R=>e=.returned (.int I (qM a b))/\Below W.heap.size W R:=by
 obtain⟨n,Q⟩:=ahb hTM a b;have P:=YR au9 n 110 _ _ _ _ rfl rfl rfl rfl _ _ _ Q (YT _) ⟨trivial,trivial,trivial⟩ W (λh=>by cases h) (YU (by simp[sN]));refine Calls.mono P ?_;intro e R h;cases e with
 |returned v=>
  obtain⟨L,O,V,X,H,rfl,N,_,_⟩:=h;cases V;rcases O with _|⟨_|_|_,_|_⟩<;>first|exact X.elim|exact X.1.elim|exact X.2.elim|skip
  obtain⟨M,_⟩:=X;cases M;exact⟨rfl,N⟩
 |panicked G=>obtain⟨_,v,V,_⟩:=h;cases V
 |outgrown=>exact h.elim
section
set_option maxRecDepth 100000
def avc{X:List IE}{ay:am}(h:jC M (.cn (0+3) W X) E N=U ay):False:=by
 have h:nS 3 W (X.map (IE.den M)) N=U ay:=h;obtain⟨_,h⟩:=zQ h;obtain⟨a,b,c,V⟩:=Bc (Ib (by omega) h);rw[V] at h;have e:lB 3 W [a,b,c] N=if decide (0<=a)&&decide (a<b)&&decide (b<c)&&decide (c<=Y N)&&decide (c-a<((0:Nat):Int))&&N.all W.ok&&v8 W.lt (aU N a.toNat b.toNat)&&v8 W.lt (aU N b.toNat c.toNat) then U (N.take a.toNat++(bE W.lt (aU N a.toNat c.toNat)++N.drop c.toNat)) else none:=rfl;rw[e] at h;split at h;rename_i R;simp only[aIy,decide_eq_true_eq] at R;omega;cases h
def avd(o:aW):∀l,vZ o.lt (eh l)=vZ o.lt l
 |[]=>rfl
 |x::r=>by
  have X:=avd o r;simp only[eh,aIP,vZ,aKN] at X⊢;rw[X];congr 2;funext y;simp only[Function.comp,ahK]
def aik{X:Bool}{ay:am}(h:gR W X N=U ay):gR W X (eh N)=U (eh ay):=by
 cases W with
 |cn k W R=>simp[gR] at h
 |_=>
  simp only[gR] at h⊢;rw[ze,at9,avd,at8];split at h;rename_i V;rw[if_pos V];cases h;rfl;cases h
def KA:kw:=[J,J,J,J,J,J,J,J,J,J,J,J,J,J]
def ML(r:RE)(i:IE):ah:=[.int I (.cell r i 0),.int I (.cell r i 1),.int I (.cell r i 2),.int I (.cell r i 3),.int I (.cell r i 4),.int I (.cell r i 5),.int I (.cell r i 6),.int I (.cell r i 7),.int I (.cell r i 8),.int I (.cell r i 9),.int I (.cell r i 10),.int I (.cell r i 11),.int I (.cell r i 12),.int I (.cell r i 13)]
def Zo(h:iL KA Q):∃X W V R P O N M L H G F D C,Q=[.mk (.int I X) [],.mk (.int I W) [],.mk (.int I V) [],.mk (.int I R) [],.mk (.int I P) [],.mk (.int I O) [],.mk (.int I N) [],.mk (.int I M) [],.mk (.int I L) [],.mk (.int I H) [],.mk (.int I G) [],.mk (.int I F) [],.mk (.int I D) [],.mk (.int I C) []]:=by
 rcases Q with _|⟨m,Q⟩;exact h.elim;obtain⟨⟨X,B⟩,h⟩:=h;subst B;rcases Q with _|⟨l,Q⟩;exact h.elim;obtain⟨⟨W,A⟩,h⟩:=h;subst A;rcases Q with _|⟨k,Q⟩;exact h.elim;obtain⟨⟨V,z⟩,h⟩:=h;subst z;rcases Q with _|⟨j,Q⟩;exact h.elim;obtain⟨⟨R,y⟩,h⟩:=h;subst y;rcases Q with _|⟨i,Q⟩;exact h.elim;obtain⟨⟨P,w⟩,h⟩:=h;subst w;rcases Q with _|⟨g,Q⟩;exact h.elim;obtain⟨⟨O,v⟩,h⟩:=h;subst v;rcases Q with _|⟨f,Q⟩;exact h.elim;obtain⟨⟨N,u⟩,h⟩:=h;subst u;rcases Q with _|⟨e,Q⟩;exact h.elim;obtain⟨⟨M,t⟩,h⟩:=h;subst t;rcases Q with _|⟨d,Q⟩;exact h.elim;obtain⟨⟨L,s⟩,h⟩:=h;subst s;rcases Q with _|⟨c,Q⟩;exact h.elim;obtain⟨⟨H,r⟩,h⟩:=h;subst r;rcases Q with _|⟨b,Q⟩;exact h.elim;obtain⟨⟨G,q⟩,h⟩:=h;subst q;rcases Q with _|⟨a,Q⟩;exact h.elim;obtain⟨⟨F,p⟩,h⟩:=h;subst p;rcases Q with _|⟨af,Q⟩;exact h.elim;obtain⟨⟨D,o⟩,h⟩:=h;subst o;rcases Q with _|⟨ag,Q⟩;exact h.elim;obtain⟨⟨C,n⟩,h⟩:=h;subst n;cases h;exact⟨X,W,V,R,P,O,N,M,L,H,G,F,D,C,rfl⟩
def ail:C9 KA ML:=by
 refine⟨λO r i x X W=> ?_,λO r i x X W y V=> ?_⟩;obtain⟨R,Q,P,N,M,L,H,G,F,D,C,B,A,z,rfl⟩:=Zo W;simp[ML,SV.bN,IE.den,cellAt,aIC,X,bB];obtain⟨R,Q,P,N,M,L,H,G,F,D,C,B,A,z,rfl⟩:=Zo W;have e:∀(q:RE),q.rv (O.at y)=q.rv O:=λq=>RE.kW O y q
 have w:∀(q:IE),q.den (O.at y)=q.den O:=λq=>IE.dQ O y q
 simp[ML,SV.aA,SV.den,IE.den,cellAt,aIC,e,w,X,bB]
def KB:kw:=[J,J,J,E,J]
def MM(r:RE)(i:IE):ah:=[.int I (.cell r i 0),.int I (.cell r i 1),.int I (.cell r i 2),.bool (.cell r i 3),.int I (.cell r i 4)]
def Zp(h:iL KB Q):∃X W V R P,Q=[.mk (.int I X) [],.mk (.int I W) [],.mk (.int I V) [],.mk (.bool R) [],.mk (.int I P) []]:=by
 rcases Q with _|⟨G,Q⟩;exact h.elim;obtain⟨⟨X,O⟩,h⟩:=h;subst O;rcases Q with _|⟨F,Q⟩;exact h.elim;obtain⟨⟨W,N⟩,h⟩:=h;subst N;rcases Q with _|⟨D,Q⟩;exact h.elim;obtain⟨⟨V,M⟩,h⟩:=h;subst M;rcases Q with _|⟨C,Q⟩;exact h.elim;obtain⟨⟨R,L⟩,h⟩:=h;subst L;rcases Q with _|⟨B,Q⟩;exact h.elim;obtain⟨⟨P,H⟩,h⟩:=h;subst H;cases h;exact⟨X,W,V,R,P,rfl⟩
def aim:C9 KB MM:=by
 refine⟨λO r i x X W=> ?_,λO r i x X W y V=> ?_⟩;obtain⟨R,Q,P,N,M,rfl⟩:=Zp W;simp[MM,SV.bN,IE.den,BE.den,cellAt,aIC,X,bB,fG];obtain⟨R,Q,P,N,M,rfl⟩:=Zp W;have e:∀(q:RE),q.rv (O.at y)=q.rv O:=λq=>RE.kW O y q
 have L:∀(q:IE),q.den (O.at y)=q.den O:=λq=>IE.dQ O y q
 simp[MM,SV.aA,SV.den,IE.den,BE.den,cellAt,aIC,e,L,X,bB,fG]
def ave{p:Sp}{L:cV}{Q:bw}{P:bc}{X:IE}(h:∀W,fk p.S0 p.w0 W->p.R (.returned (.int I (X.den M))) W):(T.ret (.int I X) Q P).aQ p M L:=by
 intro y V W R;have:=h W R.base;simpa[SV.den,IE.dQ] using this
def TQ(P:Program)(Q:Ty)(W:World)(V:bi)(R:kw):av [] W bQ.none Q [] ⟨V,R,[],[]⟩ {(⟨[],[],Y V,Y R,[],0,0,[]⟩:S) with tmps:=[]} ⟨#[],[]⟩ W:=
 ⟨⟨fk.refl _ _,λi h=>by simp[aL,bU] at h,λi j h=>by simp[aL,bU] at h,λi t L h=>by simp[bU] at h,λq O N X M=>by simp at X⟩,rfl,rfl,rfl,rfl,TP _ _,rfl,λt H h=>by simp at h,λq O N b X M G=>by simp at X⟩
def ain(P:Program)(o:aW)(W:World)(x y:aH):Ending->World->Prop:=λX V=>Below W.heap.size W V/\∃c:Int,X=.returned (.int I c)/\(c<0<->o.lt x y=J)
def avf{g:FuncId}{V:Func}{c:Code}{n:Nat}{args:ah}{t:T}(L:Tryz.prog.funcs[g]?=U V)(H:V.body=U c){y:aH}(O:bi)(N:kw)
  (G:Ng (oD Tryz.prog TT SG [] [] [] [] E []) n g c V.ntmps V.results.toList args ⟨[],[],Y O,Y N,[],0,0,[]⟩=t)(X:World)(F:(SV.aA ⟨O,N,[],[]⟩ [] args).toArray= #[.agg (Q.map RV.val).toArray,.agg (y.map RV.val).toArray])
  (D:∀p:Sp,p.P=Tryz.prog->p.S0=[]->p.w0=X->p.R=ain Tryz.prog W X Q y->t.aQ p ⟨O,N,[],[]⟩ []):Calls Tryz.prog g #[.agg (Q.map RV.val).toArray,.agg (y.map RV.val).toArray] X (ain Tryz.prog W X Q y):=by
 let p:Sp:=⟨Tryz.prog,look TT,[],X,bQ.none,ain Tryz.prog W X Q y,λ_ _ _=>False⟩;have C:kD p (oD Tryz.prog TT SG [] [] [] [] E []):=TC Mv YN rfl YO (λA z b ob _ h=>by obtain⟨_,c,B,_⟩:=h;cases B) (λQ M=>by cases M);rw[<-F];exact alW (p:=p) C L H G (D p rfl rfl rfl rfl) (λQ M=>by simp[oD] at M) (TQ Tryz.prog _ X O N)
def avg(x y:Int):qM x y<0<->x<y:=by
 unfold qM;split;omega;split<;>omega
def aD4:T:=(.call 142 [(.agg [(.int I (.v 10)),(.int I (.v 11))]),(.agg [(.int I (.v 24)),(.int I (.v 25))])] [] [] [.int I,.int I] (.bH [(.int I (.v 28)),(.int I (.v 29))])
 (.ret (.int I (.v 28)) [] []))
def aD5:T:=(.call 110 [(.int I (.v 7)),(.int I (.v 3))] [] [] [.int I] (.int I (.v 8))
 (.ret (.int I (.v 8)) [] []))
def Rm:Ia Tryz.prog KA 141 (.ratio 10 11):=by
 intro W x y M L H G;obtain⟨F,D,C,B,A,z,w,u,s,r,X,Q,q,o,rfl⟩:=Zo M;obtain⟨m,l,k,j,h,g,f,e,d,c,P,O,b,a,rfl⟩:=Zo L;refine avf (t:=aD4) (n:=100) (args:=[(.agg [(.int I (.v 0)),(.int I (.v 1)),(.int I (.v 2)),(.int I (.v 3)),(.int I (.v 4)),(.int I (.v 5)),(.int I (.v 6)),(.int I (.v 7)),(.int I (.v 8)),(.int I (.v 9)),(.int I (.v 10)),(.int I (.v 11)),(.int I (.v 12)),(.int I (.v 13))]),(.agg [(.int I (.v 14)),(.int I (.v 15)),(.int I (.v 16)),(.int I (.v 17)),(.int I (.v 18)),(.int I (.v 19)),(.int I (.v 20)),(.int I (.v 21)),(.int I (.v 22)),(.int I (.v 23)),(.int I (.v 24)),(.int I (.v 25)),(.int I (.v 26)),(.int I (.v 27))])]) rfl rfl [F,D,C,B,A,z,w,u,s,r,X,Q,q,o,m,l,k,j,h,g,f,e,d,c,P,O,b,a] [] (by kernel_rfl) W rfl ?_;rintro p hP hS hW hR;have h1:eU X Q=true:=H;have h2:eU P O=true:=G;intro yy V W' R;rw[hP];refine(aD2 h1 h2 W').mono ?_;rintro en W2 ⟨rfl,hB⟩;refine⟨[.i (qM (X*O) (P*Q)),.i 0],⟨trivial,trivial,trivial⟩,rfl,hB,⟨trivial,trivial,trivial⟩,ave λW3 N=> ?_⟩;rw[hS,hW] at N;rw[hR];refine⟨N3 N,_,rfl, ?_⟩;simp[IE.den,aa.ext,aa.add,aW.lt,aT,bB,avg]
def Ro:Ia Tryz.prog KB 323 (.lex [4] J):=by
 intro W x y O N q o;obtain⟨M,L,H,G,X,rfl⟩:=Zp O;obtain⟨F,D,C,B,Q,rfl⟩:=Zp N;refine avf (t:=aD5) (n:=100) (args:=[(.agg [(.int I (.v 0)),(.int I (.v 1)),(.int I (.v 2)),(.bool (.v 0)),(.int I (.v 3))]),(.agg [(.int I (.v 4)),(.int I (.v 5)),(.int I (.v 6)),(.bool (.v 1)),(.int I (.v 7))])]) rfl rfl [M,L,H,X,F,D,C,Q] [G,B] (by kernel_rfl) W rfl ?_;rintro p A z w u;intro m V s R;rw[A];refine(aD3 Q X s).mono ?_;rintro l k ⟨rfl,r⟩;refine⟨[.i (qM Q X)],⟨trivial,trivial⟩,rfl,r,⟨trivial,trivial⟩,ave λj P=> ?_⟩;rw[z,w] at P;rw[u];refine⟨N3 P,_,rfl, ?_⟩;simp[IE.den,aa.ext,aa.add,aW.lt,iO,aT,bB,avg];omega
def aD6:oB Tryz.prog (look TT) 358 141 90 (.cn 0 (.ratio 10 11) []) false:=
 Fo (K:=KA) (n:=100) (args:=[(.ref (.v 0)),(.int I (.v 0)),(.int I (.v 1)),(.int I (.v 2)),(.fn 141 [])]) (loops:=[(358,1,⟨[(0,.ref (.own 90)),(10,.int I)],[]⟩)]) (srts:=[]) (chs:=[(358,3)]) (t:=Y1 90 ML) rfl rfl rfl (by kernel_rfl) (λx X=>by cases X) (by kernel_rfl) Rm (by kernel_rfl) (aui ail) (λW V h=>by obtain⟨a,b,c,rfl⟩:=Bc h;rfl) (λW R ay h=>Ib (by omega) h)
def aD7:oB Tryz.prog (look TT) 320 141 90 (.cn 1 (.ratio 10 11) []) false:=
 Fo (K:=KA) (n:=100) (args:=[(.ref (.v 0)),(.int I (.v 0)),(.int I (.v 1)),(.int I (.v 2)),(.fn 141 [])]) (loops:=[(320,2,⟨[(0,.ref (.own 90)),(10,.int I),(11,.int I)],[]⟩)]) (srts:=[(358,141,90,.cn 0 (.ratio 10 11) [],E)]) (chs:=[]) (t:=Y2 90 141 358 (.ratio 10 11)) rfl rfl rfl (by kernel_rfl) (λx X=>by simp only[aKB] at X;subst X;exact kU.of (aD6) (by dsimp only;decide)) (by kernel_rfl) Rm (by kernel_rfl) (auk) (λW V h=>by obtain⟨a,b,c,rfl⟩:=Bc h;rfl) (λW R ay h=>Ib (by omega) h)
def aD8:oB Tryz.prog (look TT) 273 141 90 (.cn 2 (.ratio 10 11) []) false:=
 Fo (K:=KA) (n:=100) (args:=[(.ref (.v 0)),(.int I (.v 0)),(.int I (.v 1)),(.fn 141 [])]) (loops:=[(273,1,⟨[(0,.ref (.own 90)),(8,.int I)],[]⟩),(273,4,⟨[(0,.ref (.own 90)),(9,.int I)],[]⟩)]) (srts:=[]) (chs:=[(273,6)]) (t:=Y3 90 141 ML) rfl rfl rfl (by kernel_rfl) (λx X=>by cases X) (by kernel_rfl) Rm (by kernel_rfl) (aun ail (QY 10 11)) (λW V h=>by obtain⟨a,b,rfl⟩:=two h;rfl) (λW R ay h=>aug h)
def avh:∀N:Nat,oB Tryz.prog (look TT) 274 141 90 (.cn (N+3) (.ratio 10 11) []) E
 |0=>⟨wi (by kernel_rfl),λW A n M Q ay O X L V H G P=>by
  simp only[aW.fill,aID] at V;subst V;exact(avc P).elim⟩
 |N+1=>Fo (K:=KA) (n:=100) (args:=[(.ref (.v 0)),(.int I (.v 0)),(.int I (.v 1)),(.int I (.v 2)),(.fn 141 [])]) (loops:=[(274,3,⟨[(0,.ref (.own 90)),(10,.int I),(11,.int I)],[]⟩),(274,9,⟨[(0,.ref (.own 90)),(13,.int I)],[]⟩),(274,15,⟨[(0,.ref (.own 90)),(14,.int I),(15,.int I)],[]⟩),(274,21,⟨[(0,.ref (.own 90)),(17,.int I)],[]⟩),(274,33,⟨[(0,.ref (.own 90)),(20,.int I),(21,.int I)],[]⟩)]) (srts:=[(320,141,90,.cn 1 (.ratio 10 11) [],E),(274,141,90,.cn (N+3) (.ratio 10 11) [],E)]) (chs:=[(274,11),(274,23)]) (t:=Y5 90 141 320 274 N (.ratio 10 11) ML) rfl rfl rfl (by kernel_rfl) (λx R=>by
   simp only[aIK,aKs,or_false] at R;rcases R with rfl|rfl;exact kU.of (aD7) (by dsimp only;decide);exact kU.of (avh N) (by dsimp only;decide)) (by kernel_rfl) Rm (by kernel_rfl) (auq ail (QY 10 11)) (λX F h=>by obtain⟨a,b,c,rfl⟩:=Bc h;rfl) (λX Q ay h=>Ib (by omega) h)
def aD9:oB Tryz.prog (look TT) 140 141 90 (.ratio 10 11) true:=by
 refine⟨wi (by kernel_rfl),λW A n C V ay O X B Q H G P=> ?_⟩;cases X with
 |cons _ _=>simp[aW.fill] at Q
 |nil=>
  simp only[aW.fill,aID] at Q;subst Q;have P:gR (.ratio 10 11) J V=U ay:=P;refine ahL (K:=KA) (o:=(.ratio 10 11)) (N:=0) (n:=100) (inl:=[209]) (args:=[(.ref (.v 0)),(.fn 141 [])]) (loops:=[(209,2,⟨[(0,.ref (.own 90)),(8,.int I),(7,.int I)],[]⟩),(209,7,⟨[(0,.ref (.own 90)),(6,.int I)],[]⟩),(209,9,⟨[(0,.ref (.own 90)),(8,.int I),(7,.int I)],[]⟩)]) (srts:=[(273,141,90,.cn 2 (.ratio 10 11) [],E),(274,141,90,.cn (Y V+1+3) (.ratio 10 11) [],E)]) (chs:=[]) (F:=λX R=>if X=[]/\Y R<Y V+1 then gR (.ratio 10 11) J R else Z) (t:=Y6 90 141 273 274 (Y V+1) (.ratio 10 11)) rfl rfl rfl (by kernel_rfl) (λx L=> ?_) (by kernel_rfl) Rm (by kernel_rfl) (aus (QY 10 11)) (λX z h=> ?_) (λX R D h=> ?_) (λX R D h=> ?_) H G ?_;simp only[aIK,aKs,or_false] at L;rcases L with rfl|rfl;exact kU.of (aD8) (by dsimp only;decide);exact kU.of (avh _) (by dsimp only;decide);have:X=[]:=aI1 h;subst this;rfl;split at h;rename_i M;rw[if_pos (by rw[ze];exact M)];exact aik h;cases h;split at h;rename_i M;exact⟨by rw[M.1];rfl,aaN h⟩;cases h;rw[if_pos ⟨rfl,by omega⟩];exact P
def aEa:oB Tryz.prog (look TT) 379 323 393 (.cn 0 (.lex [4] J) []) false:=
 Fo (K:=KB) (n:=100) (args:=[(.ref (.v 0)),(.int I (.v 0)),(.int I (.v 1)),(.int I (.v 2)),(.fn 323 [])]) (loops:=[(379,1,⟨[(0,.ref (.own 393)),(10,.int I)],[]⟩)]) (srts:=[]) (chs:=[(379,3)]) (t:=Y1 393 MM) rfl rfl rfl (by kernel_rfl) (λx X=>by cases X) (by kernel_rfl) Ro (by kernel_rfl) (aui aim) (λW V h=>by obtain⟨a,b,c,rfl⟩:=Bc h;rfl) (λW R ay h=>Ib (by omega) h)
def aEb:oB Tryz.prog (look TT) 378 323 393 (.cn 1 (.lex [4] J) []) false:=
 Fo (K:=KB) (n:=100) (args:=[(.ref (.v 0)),(.int I (.v 0)),(.int I (.v 1)),(.int I (.v 2)),(.fn 323 [])]) (loops:=[(378,2,⟨[(0,.ref (.own 393)),(10,.int I),(11,.int I)],[]⟩)]) (srts:=[(379,323,393,.cn 0 (.lex [4] J) [],E)]) (chs:=[]) (t:=Y2 393 323 379 (.lex [4] J)) rfl rfl rfl (by kernel_rfl) (λx X=>by simp only[aKB] at X;subst X;exact kU.of (aEa) (by dsimp only;decide)) (by kernel_rfl) Ro (by kernel_rfl) (auk) (λW V h=>by obtain⟨a,b,c,rfl⟩:=Bc h;rfl) (λW R ay h=>Ib (by omega) h)
def aEc:oB Tryz.prog (look TT) 373 323 393 (.cn 2 (.lex [4] J) []) false:=
 Fo (K:=KB) (n:=100) (args:=[(.ref (.v 0)),(.int I (.v 0)),(.int I (.v 1)),(.fn 323 [])]) (loops:=[(373,1,⟨[(0,.ref (.own 393)),(8,.int I)],[]⟩),(373,4,⟨[(0,.ref (.own 393)),(9,.int I)],[]⟩)]) (srts:=[]) (chs:=[(373,6)]) (t:=Y3 393 323 MM) rfl rfl rfl (by kernel_rfl) (λx X=>by cases X) (by kernel_rfl) Ro (by kernel_rfl) (aun aim (My [4] J)) (λW V h=>by obtain⟨a,b,rfl⟩:=two h;rfl) (λW R ay h=>aug h)
def avi:∀N:Nat,oB Tryz.prog (look TT) 374 323 393 (.cn (N+3) (.lex [4] J) []) E
 |0=>⟨wi (by kernel_rfl),λW A n M Q ay O X L V H G P=>by
  simp only[aW.fill,aID] at V;subst V;exact(avc P).elim⟩
 |N+1=>Fo (K:=KB) (n:=100) (args:=[(.ref (.v 0)),(.int I (.v 0)),(.int I (.v 1)),(.int I (.v 2)),(.fn 323 [])]) (loops:=[(374,3,⟨[(0,.ref (.own 393)),(10,.int I),(11,.int I)],[]⟩),(374,9,⟨[(0,.ref (.own 393)),(13,.int I)],[]⟩),(374,15,⟨[(0,.ref (.own 393)),(14,.int I),(15,.int I)],[]⟩),(374,21,⟨[(0,.ref (.own 393)),(17,.int I)],[]⟩),(374,33,⟨[(0,.ref (.own 393)),(20,.int I),(21,.int I)],[]⟩)]) (srts:=[(378,323,393,.cn 1 (.lex [4] J) [],E),(374,323,393,.cn (N+3) (.lex [4] J) [],E)]) (chs:=[(374,11),(374,23)]) (t:=Y5 393 323 378 374 N (.lex [4] J) MM) rfl rfl rfl (by kernel_rfl) (λx R=>by
   simp only[aIK,aKs,or_false] at R;rcases R with rfl|rfl;exact kU.of (aEb) (by dsimp only;decide);exact kU.of (avi N) (by dsimp only;decide)) (by kernel_rfl) Ro (by kernel_rfl) (auq aim (My [4] J)) (λX F h=>by obtain⟨a,b,c,rfl⟩:=Bc h;rfl) (λX Q ay h=>Ib (by omega) h)
def aEd:oB Tryz.prog (look TT) 322 323 393 (.lex [4] J) true:=by
 refine⟨wi (by kernel_rfl),λW A n C V ay O X B Q H G P=> ?_⟩;cases X with
 |cons _ _=>simp[aW.fill] at Q
 |nil=>
  simp only[aW.fill,aID] at Q;subst Q;have P:gR (.lex [4] J) J V=U ay:=P;refine ahL (K:=KB) (o:=(.lex [4] J)) (N:=0) (n:=100) (inl:=[360]) (args:=[(.ref (.v 0)),(.fn 323 [])]) (loops:=[(360,2,⟨[(0,.ref (.own 393)),(8,.int I),(7,.int I)],[]⟩),(360,7,⟨[(0,.ref (.own 393)),(6,.int I)],[]⟩),(360,9,⟨[(0,.ref (.own 393)),(8,.int I),(7,.int I)],[]⟩)]) (srts:=[(373,323,393,.cn 2 (.lex [4] J) [],E),(374,323,393,.cn (Y V+1+3) (.lex [4] J) [],E)]) (chs:=[]) (F:=λX R=>if X=[]/\Y R<Y V+1 then gR (.lex [4] J) J R else Z) (t:=Y6 393 323 373 374 (Y V+1) (.lex [4] J)) rfl rfl rfl (by kernel_rfl) (λx L=> ?_) (by kernel_rfl) Ro (by kernel_rfl) (aus (My [4] J)) (λX z h=> ?_) (λX R D h=> ?_) (λX R D h=> ?_) H G ?_;simp only[aIK,aKs,or_false] at L;rcases L with rfl|rfl;exact kU.of (aEc) (by dsimp only;decide);exact kU.of (avi _) (by dsimp only;decide);have:X=[]:=aI1 h;subst this;rfl;split at h;rename_i M;rw[if_pos (by rw[ze];exact M)];exact aik h;cases h;split at h;rename_i M;exact⟨by rw[M.1];rfl,aaN h⟩;cases h;rw[if_pos ⟨rfl,by omega⟩];exact P
end
section
open Go.Shelf Go.RowKit Go.Lib Go.Sort
def dw{o:Option Func}{a b:Func}(h:o=U a)(e:a=b):o=U b:=h.trans (congrArg U e)
def Tryz.cmpInt_ren:Go.Shelf.Ren:=⟨λ|5=>110|7=>192|n=>n,λ|22=>3|3=>3|4=>4|n=>n,λ|n=>n⟩
def Tryz.cmpInt:Go.Proofs.SlLaysC2.n5 Tryz.prog Tryz.cmpInt_ren:={mixed:=by kernel_rfl,f5:=⟨Tryz.f110.name,by decide,dw Tryz.func110 (by kernel_rfl)⟩,f7:=⟨Tryz.f192.name,by decide,dw Tryz.func192 (by kernel_rfl)⟩,t3:=Tryz.underlying3,a3:=Tryz.isAgg3,z3:=Tryz.sizeOf3,v3:=Tryz.zeroValue3,t4:=Tryz.underlying4,a4:=Tryz.isAgg4,z4:=Tryz.sizeOf4,v4:=Tryz.zeroValue4,t22:=Tryz.underlying3,a22:=Tryz.isAgg3,z22:=Tryz.sizeOf3,v22:=Tryz.zeroValue3}
def Tryz.sortSg_ren:Go.Shelf.Ren:=⟨λ|6=>223|15=>108|14=>283|28=>190|29=>191|20=>273|21=>326|22=>327|23=>328|24=>329|25=>330|26=>331|27=>332|46=>362|47=>254|48=>255|49=>363|50=>364|57=>375|n=>n,λ|22=>30|24=>90|25=>234|3=>3|39=>205|0=>0|53=>287|55=>289|4=>4|46=>280|45=>279|50=>284|5=>5|9=>9|66=>336|70=>166|76=>382|77=>298|n=>n,λ|n=>n⟩
def Tryz.sortSg:Go.Proofs.SlLaysF0.n6 Tryz.prog Tryz.sortSg_ren:={mixed:=by kernel_rfl,f6:=⟨Tryz.f223.name,by decide,dw Tryz.func223 (by kernel_rfl)⟩,f14:=⟨Tryz.f283.name,by decide,dw Tryz.func283 (by kernel_rfl)⟩,f15:=dw Tryz.func108 (by kernel_rfl),f20:=⟨Tryz.f273.name,by decide,dw Tryz.func273 (by kernel_rfl)⟩,f21:=⟨Tryz.f326.name,by decide,dw Tryz.func326 (by kernel_rfl)⟩,f22:=⟨Tryz.f327.name,by decide,dw Tryz.func327 (by kernel_rfl)⟩,f23:=⟨Tryz.f328.name,by decide,dw Tryz.func328 (by kernel_rfl)⟩,f24:=⟨Tryz.f329.name,by decide,dw Tryz.func329 (by kernel_rfl)⟩,f25:=⟨Tryz.f330.name,by decide,dw Tryz.func330 (by kernel_rfl)⟩,f26:=⟨Tryz.f331.name,by decide,dw Tryz.func331 (by kernel_rfl)⟩,f27:=⟨Tryz.f332.name,by decide,dw Tryz.func332 (by kernel_rfl)⟩,f28:=dw Tryz.func190 (by kernel_rfl),f29:=dw Tryz.func191 (by kernel_rfl),f46:=⟨Tryz.f362.name,by decide,dw Tryz.func362 (by kernel_rfl)⟩,f47:=dw Tryz.func254 (by kernel_rfl),f48:=dw Tryz.func255 (by kernel_rfl),f49:=⟨Tryz.f363.name,by decide,dw Tryz.func363 (by kernel_rfl)⟩,f50:=⟨Tryz.f364.name,by decide,dw Tryz.func364 (by kernel_rfl)⟩,f57:=⟨Tryz.f375.name,by decide,dw Tryz.func375 (by kernel_rfl)⟩,t0:=Tryz.underlying0,a0:=Tryz.isAgg0,z0:=Tryz.sizeOf0,v0:=Tryz.zeroValue0,t3:=Tryz.underlying3,a3:=Tryz.isAgg3,z3:=Tryz.sizeOf3,v3:=Tryz.zeroValue3,t4:=Tryz.underlying4,a4:=Tryz.isAgg4,z4:=Tryz.sizeOf4,v4:=Tryz.zeroValue4,t5:=Tryz.underlying5,a5:=Tryz.isAgg5,z5:=Tryz.sizeOf5,v5:=Tryz.zeroValue5,t9:=Tryz.underlying9,a9:=Tryz.isAgg9,z9:=Tryz.sizeOf9,v9:=Tryz.zeroValue9,t22:=Tryz.underlying30,a22:=Tryz.isAgg30,z22:=Tryz.sizeOf30,v22:=Tryz.zeroValue30,t25:=Tryz.underlying234,a25:=Tryz.isAgg234,z25:=Tryz.sizeOf234,v25:=Tryz.zeroValue234,t39:=Tryz.underlying205,a39:=Tryz.isAgg205,z39:=Tryz.sizeOf205,v39:=Tryz.zeroValue205,t45:=Tryz.underlying279,a45:=Tryz.isAgg279,z45:=Tryz.sizeOf279,v45:=Tryz.zeroValue279,t46:=Tryz.underlying280,a46:=Tryz.isAgg280,z46:=Tryz.sizeOf280,v46:=Tryz.zeroValue280,t50:=Tryz.underlying284,a50:=Tryz.isAgg284,z50:=Tryz.sizeOf284,v50:=Tryz.zeroValue284,t53:=Tryz.underlying287,a53:=Tryz.isAgg287,z53:=Tryz.sizeOf287,v53:=Tryz.zeroValue287,t55:=Tryz.underlying289,a55:=Tryz.isAgg289,z55:=Tryz.sizeOf289,v55:=Tryz.zeroValue289,t66:=Tryz.underlying336,a66:=Tryz.isAgg336,z66:=Tryz.sizeOf336,v66:=Tryz.zeroValue336,t70:=Tryz.underlying166,a70:=Tryz.isAgg166,z70:=Tryz.sizeOf166,v70:=Tryz.zeroValue166,t76:=Tryz.underlying382,a76:=Tryz.isAgg382,z76:=Tryz.sizeOf382,v76:=Tryz.zeroValue382,t77:=Tryz.underlying298,a77:=Tryz.isAgg298,z77:=Tryz.sizeOf298,v77:=Tryz.zeroValue298}
set_option maxHeartbeats 1000000 in
def aEe (X O N M L H G F D C B A z Zn V y x w v u t s p o n m l k:Int) (W:World):Calls Tryz.prog 224 #[.agg #[.int I X,.int I O,.int I N,.int I M,.int I L,.int I H,.int I G,.int I F,.int I D,.int I C,.int I B,.int I A,.int I z,.int I Zn],.agg #[.int I V,.int I y,.int I x,.int I w,.int I v,.int I u,.int I t,.int I s,.int I p,.int I o,.int I n,.int I m,.int I l,.int I k]] W λe Q=>e=.returned (.int I (Lib.compareInt X V))/\∃q j,Q=grow (W.drewN q) j:=by
 have R:=λP=>AnyG.cmp_Compare_int Tryz.cmpInt X V P
 change∀P,Calls Tryz.prog 110 _ _ _ at R;generalize Lib.compareInt X V=r at R⊢;go_enter Tryz.func224,Tryz.ntmps224
 go_wp2_with (go_at_call 110;refine(R _).mono ?_;rintro e Q ⟨rfl,rfl⟩)
 go_ret;exact⟨rfl,0,_,by rw[alloc_eq_grow,alloc_eq_grow,grow_grow];rfl⟩
end
section
attribute[local go_sem ↓] Go.wp_at_zero Go.wp_at_succ
open Go.Shelf Go.RowKit Go.Lib Go.Sort
def pM:Nat->Nat->List Nat->List Nat
 |0,_,g=>g
 |n+1,k,g=>if g.getD k 0=k then g else(pM n (g.getD k 0) g).set k ((pM n (g.getD k 0) g).getD (g.getD k 0) 0)
def avj{g:List Nat}:∀n k,(pM n k g).length=Y g
 |0,_=>rfl
 |n+1,k=>by
  simp only[pM];split;rfl;simp[avj n]
def avk{g:List Nat}(X:∀q,g.getD q 0<=q):∀n k q,k<q->(pM n k g).getD q 0=g.getD q 0
 |0,_,_,_=>rfl
 |n+1,k,q,h=>by
  simp only[pM];split;rfl;have:=X k;rw[aIC,aJf (by omega),<-aIC];exact avk X n _ q (by omega)
def InB(W:World)(b V:Nat)(g:List Nat):Prop:=∃X,W.heap[b]?=U (.cells X 3 (0,0))/\X.size=V/\∀q,q<Y g->X[q]?=U (.int I ((g.getD q 0:Nat):Int))
set_option maxHeartbeats 2000000 in
set_option maxRecDepth 100000 in
def aEf (W:World) (X V b n R k:Nat) (P:W.cell? ⟨X,0,Z⟩=U (.slice (U ⟨b,0,Z⟩) n R)) (_hl:W.cell? ⟨V,0,Z⟩=U (.func (.func 130) #[] #[.pointer (U ⟨X,0,Z⟩),.pointer (U ⟨V,0,Z⟩)]))
  (O:(0:Int)<=k) (N:(k:Int)<(n:Int)) (M:W.cell? ⟨b,k,Z⟩=U (.int I k)):Calls Tryz.prog 130 #[.int I k,.pointer (U ⟨X,0,Z⟩),.pointer (U ⟨V,0,Z⟩)] W λe Q=>e=.returned (.int I k)/\Q=W:=by
 have L:((k:Int)!=k)=false:=by simp
 go_enter Tryz.func130,Tryz.ntmps130;go_wp2;go_ret;exact⟨rfl,rfl⟩
set_option maxHeartbeats 4000000 in
set_option maxRecDepth 100000 in
def aEg (W:World) (V R b n P k j:Nat) (G:V≠b) (B:W.cell? ⟨V,0,Z⟩=U (.slice (U ⟨b,0,Z⟩) n P)) (A:W.cell? ⟨R,0,Z⟩=U (.func (.func 130) #[] #[.pointer (U ⟨V,0,Z⟩),.pointer (U ⟨R,0,Z⟩)]))
  (z:(0:Int)<=k) (y:(k:Int)<(n:Int)) (x:W.cell? ⟨b,k,Z⟩=U (.int I j)) (w:j≠k) (r:Int) (Q:World->Prop) (L:∀X,Q X->X.cell? ⟨V,0,Z⟩=U (.slice (U ⟨b,0,Z⟩) n P)/\X.cell? ⟨R,0,Z⟩=U (.func (.func 130) #[] #[.pointer (U ⟨V,0,Z⟩),.pointer (U ⟨R,0,Z⟩)])/\X.cell? ⟨b,k,Z⟩=U (.int I j)/\X.frozen? ⟨b,k,Z⟩=E)
  (F:Calls Tryz.prog 130 #[.int I j,.pointer (U ⟨V,0,Z⟩),.pointer (U ⟨R,0,Z⟩)] W.drew λe X=>e=.returned (.int I r)/\Q X):
  Calls Tryz.prog 130 #[.int I k,.pointer (U ⟨V,0,Z⟩),.pointer (U ⟨R,0,Z⟩)] W λe X=>e=.returned (.int I r)/\∃O,Q O/\X=O.setCell ⟨b,k,Z⟩ (.int I r):=by
 have v:((j:Int)!=k)=true:=by simp;omega
 have D:∀X,Q X->X.cell? ⟨V,0,Z⟩=U (.slice (U ⟨b,0,Z⟩) n P)/\X.cell? ⟨b,k,Z⟩=U (.int I j)/\X.frozen? ⟨b,k,Z⟩=E/\(X.setCell ⟨b,k,Z⟩ (.int I r)).cell? ⟨V,0,Z⟩=U (.slice (U ⟨b,0,Z⟩) n P)/\(X.setCell ⟨b,k,Z⟩ (.int I r)).cell? ⟨b,k,Z⟩=U (.int I r):=λX N=>by
  obtain⟨M,C,q3,H⟩:=L X N;exact⟨M,q3,H,(World.cell?_setCell_far _ _ _ _ (Ne.symm G)).trans M,World.cell?_setCell_same' _ _ _ (by rw[q3];rfl)⟩
 clear L;go_enter Tryz.func130,Tryz.ntmps130;go_wp2
 go_region_with (first|(go_at_call 130;refine F.mono ?_;rintro e O ⟨rfl,N⟩;obtain⟨M,C,q3,H,u⟩:=D O N))
 all_goals go_wp2
 all_goals go_ret
 all_goals exact⟨rfl,_,N,rfl⟩
def avl(b V:Nat)(W:World)(g:List Nat)(X:World):Prop:=W.grownBy X (U b)/\InB X b V g
def avm{R Q b n B sz:Nat}(A:R≠b)(u:Q≠b)(hn:(n:Int)<=1099511627776):∀(N k:Nat)(W:World)(g:List Nat),k<N->k<n->Y g=n->(∀q,g.getD q 0<=q)->
  W.cell? ⟨R,0,Z⟩=U (.slice (U ⟨b,0,Z⟩) n B)->W.cell? ⟨Q,0,Z⟩=U (.func (.func 130) #[] #[.pointer (U ⟨R,0,Z⟩),.pointer (U ⟨Q,0,Z⟩)])->InB W b sz g->
  Calls Tryz.prog 130 #[.int I k,.pointer (U ⟨R,0,Z⟩),.pointer (U ⟨Q,0,Z⟩)] W λe P=>e=.returned (.int I (((pM N k g).getD k 0:Nat):Int))/\avl b sz W (pM N k g) P
 |0,k,W,g,h,_,_,_,_,_,_=>absurd h (Nat.not_lt_zero _)
 |N+1,k,W,g,hN,t,s,z,H,G,hb=>by
  obtain⟨r,y,p,x⟩:=hb;have o:∀q,q<n->W.cell? ⟨b,q,Z⟩=U (.int I ((g.getD q 0:Nat):Int)):=λq O=>by
   have:=x q (by omega);simp only[World.cell?,y];simpa using this
  by_cases M:g.getD k 0=k;have L:pM (N+1) k g=g:=by simp only[pM,if_pos M]
  rw[L];have:=o k t;rw[M] at this⊢;refine(aEf W R Q b n B k H G (by omega) (by omega) this).mono ?_;rintro e P ⟨rfl,rfl⟩;exact⟨rfl,World.grownBy.refl _ _,r,y,p,x⟩;have L:pM (N+1) k g=(pM N (g.getD k 0) g).set k ((pM N (g.getD k 0) g).getD (g.getD k 0) 0):=by simp only[pM,if_neg M]
  have m:g.getD k 0<k:=Nat.lt_of_le_of_ne (z k) M;generalize l:g.getD k 0=j at M L m;generalize w:pM N j g=X at L;have al:Y X=n:=by rw[<-w,avj,s]
  have af:X.getD k 0=j:=by rw[<-w,avk z N j k m,l]
  rw[L];have i:(X.set k (X.getD j 0)).getD k 0=X.getD j 0:=by
   rw[aIC,aJX (by omega)];rfl
  rw[i];have f:=avm A u hn N j W.drew g (by omega) (by omega) s z H G ⟨r,y,p,x⟩;rw[w] at f;have d:=o k t;rw[l] at d;refine(aEg W R Q b n B k j A H G (by omega) (by omega) d (by omega) ((X.getD j 0:Nat):Int) (avl b sz W.drew X) ?_ f).mono ?_;rintro P ⟨V,F,D,q3,C⟩;have hf:P.cell? ⟨b,k,Z⟩=U (.int I (j:Int)):=by
   have:=C k (by omega);rw[af] at this;simp only[World.cell?,D];simpa using this
  exact⟨V.cell H (by simpa using A),V.cell G (by simpa using u),hf,by simp[World.frozen?,D]⟩;rintro e P ⟨rfl,c,⟨V,F,D,q3,C⟩,rfl⟩;refine⟨rfl,⟨V.os,V.tape,V.output,by rw[World.size_setCell];exact V.size,λq O a=> ?_⟩, ?_⟩;exact(Below.heap_setCell c _ _ q (by intro e;exact a (by rw[e]))).trans (V.block q O a);refine⟨F.setIfInBounds k (.int I ((X.getD j 0:Nat):Int)), ?_,by simpa using q3,λq O=> ?_⟩;exact Go.Proofs.YtieaiocljdpebaaGreatDoor.Bx.set (show Go.Proofs.YtieaiocljdpebaaGreatDoor.Bx c b 3 F from D) _;rw[List.length_set] at O;have ag:k<F.size:=by
   have:=C k (by omega);exact(aIX.1 this).1
  by_cases v:q=k;subst v;rw[i,aKS ag];rw[aKd (Ne.symm v),C q O,aIC,aIC,aJf (Ne.symm v)]
end
def qT(X:am):ai:=X.map λW=>(aT 0 W).toNat
def Rp(X:am)(q:Nat):(qT X).getD q 0=(aT 0 (X.getD q [])).toNat:=by
 simp only[qT,aIC,aIE];cases X[q]? with
 |none=>rfl
 |some W=>rfl
def avn{X:am}(h:BB X=J):∀(n:Nat)(i:Int),0<=i->i<Y X->qT (s4 n i X)=pM n i.toNat (qT X)
 |0,_,_,_=>rfl
 |n+1,i,V,R=>by
  obtain⟨Q,N,P⟩:=akg h V R;have O:=avn h n _ Q P;simp only[s4,pM,Rp];by_cases W:aT 0 (X.getD i.toNat [])=i;rw[if_pos W,if_pos (by omega)];rw[if_neg W,if_neg (by omega),<-O,Rp];simp only[qT,aLC]
def aEh:akb Tryz.prog (look TT) 130 3:=by
 refine⟨wi (by kernel_rfl), ?_⟩;intro W b n B R ay i z y tg tl f d a af M L H;have N:bq (look TT) (.sl 3)=[.int I]:=by rfl
 obtain⟨b3,h0,h1,G,ag⟩:=SR H;obtain⟨hn,b4⟩:=ru M;have x:=eG.wc M;rw[N] at L⊢;rcases L.mem with hz|⟨b',F,hA,w,al,an⟩;exfalso;omega;cases hA;have v:∀(q:Nat)(X:aH),R[q]?=U X->∃c,X=[c]/\c.val=.int I (aT 0 X):=λq X V=>by
  have u:=x.len q X V;rw[N] at u
  match X,u with
  |[c],_=>
   obtain⟨m,hm⟩:=x.int q 0 [c] c I V rfl (by rw[N];rfl);exact⟨c,rfl,by simp[aT,hm,bB]⟩
 have t:∀q:Nat,q<Y R->((qT R).getD q 0:Int)=aT 0 (R.getD q [])/\(qT R).getD q 0<=q:=λq V=>by
  have:=aaM G V;rw[Rp];omega
 have a0:InB W b F.size (qT R):=by
  refine⟨F,w,rfl,λq V=> ?_⟩;rw[qT,aJn] at V;obtain⟨c,a1,a3⟩:=v q R[q] (aIA V);have D:W.cell? ⟨b,0+q*1+0,Z⟩=U c.val:=by
   cases M with
   |sl e A b5 B R g1 g2 g3 gi gb go=>
    obtain⟨-,b2,b6,e2,-,g4⟩:=g3 q R[q] (aIA V);cases e2;have:=g4 0 c (by rw[a1];rfl);rw[N] at this;exact this
  rw[a3] at D;simp only[World.cell?,w] at D;have e3:((qT R).getD q 0:Int)=aT 0 R[q]:=by
   rw[(t q V).1,aIC,aIA V];rfl
  rw[e3];simpa using D
 have a4:∀q,(qT R).getD q 0<=q:=λq=>by
  by_cases V:q<Y R;exact(t q V).2;rw[Rp,aIC,aIT (by omega)];show(0:Int).toNat<=q;simp
 have a9:(qT R).length=n:=by rw[qT,aJn,hn]
 have bb:W.cell? ⟨z,0,Z⟩=U (.slice (U ⟨b,0,Z⟩) n B):=by simp[World.cell?,f]
 have bd:W.cell? ⟨y,0,Z⟩=U (.func (.func 130) #[] #[.pointer (U ⟨z,0,Z⟩),.pointer (U ⟨y,0,Z⟩)]):=by simp[World.cell?,d]
 have bf:((i.toNat:Nat):Int)=i:=by omega
 have s:=avm a af (sz:=F.size) (by omega) (Y R) i.toNat W (qT R) (by omega) (by omega) a9 a4 bb bd a0;rw[bf] at s;refine s.mono ?_;rintro e w' ⟨rfl,bk,br,bs,bt,o⟩;have k:=avn G (Y R) i h0 h1;rw[<-ag] at k;rw[<-k] at o⊢;have b7:Y ay=Y R:=akj H;have bx:=aki H;have j:∀(q:Nat)(X:aH),ay[q]?=U X->∃c,X=[c]/\c.val=.int I (aT 0 X)/\0<=aT 0 X:=λq X V=>by
  obtain⟨p,Q⟩:=aJg (bx X (aIW V));obtain⟨c,P,O⟩:=v p X Q;have b0:p<Y R:=(aIz.1 Q).1;have:=(aaM G b0).1;rw[aIC,Q] at this;exact⟨c,P,O,this⟩
 have g:∀q,q<Y ay->(((qT ay).getD q 0:Nat):Int)=aT 0 (ay.getD q []):=λq V=>by
  obtain⟨c,-,-,c3⟩:=j q ay[q] (aIA V);rw[Rp,aIC,aIA V];show((aT 0 ay[q]).toNat:Int)=aT 0 ay[q];omega
 refine⟨by rw[g _ (by omega)],bk,by omega,L.nil,.inr ⟨b,br,rfl,bs,al,by rw[bt];exact an, ?_,.inr rfl⟩⟩;apply aI0;intro q;have b1:dt ay=ay.map λX=>Value.int I (aT 0 X):=by
  have:∀l:am,(∀X∈l,∃c,X=[c]/\c.val=.int I (aT 0 X))->dt l=l.map λX=>Value.int I (aT 0 X):=by
   intro l;induction l with
   |nil=>intro _;rfl
   |cons r l ih=>
    intro h;obtain⟨c,P,O⟩:=h r aKb;have:=ih λX C=>h X (aJF _ C)
    simp only[dt,aKJ,aIP] at this⊢;rw[this,<-O,P];rfl
  refine this ay λX C=> ?_
  obtain⟨p,Q⟩:=aJg C;obtain⟨c,P,O,-⟩:=j p X Q;exact⟨c,P,O⟩
 rw[b1,aI6,aIE];simp only[aKL,aMg];by_cases V:q<Y ay;rw[if_pos V,aKm,o q (by rw[qT,aJn];exact V),g q V,aIA V];simp[aIC,aIA V];rw[if_neg V,aIT (by omega)];rfl
section
attribute[local go_sem ↓] Go.wp_at_zero Go.wp_at_succ
open Go.Shelf Go.RowKit Go.Lib Go.Sort
def lS:List Int->Int
 |[]=>0
 |a::l=>if a=0 then lS l else a
set_option maxHeartbeats 1000000 in
def or2 (b:Nat) (X V:Int) (W:World) (L:W.cell? ⟨b,0,Z⟩=U (.int I X)) (H:W.cell? ⟨b,1,Z⟩=U (.int I V)):Calls Tryz.prog 109 #[.slice (U ⟨b,0,Z⟩) 2 2] W λe O=>e=.returned (.int I (lS [X,V]))/\O=W:=by
 by_cases R:X=0;have N:(X !=0)=false:=by simp[R]
 by_cases P:V=0
 ·have M:(V !=0)=false:=by simp[P]
  have Q:lS [X,V]=0:=by simp[lS,R,P]
  rw[Q];clear Q;clear R P;go_enter Tryz.func109,Tryz.ntmps109;go_wp2;refine wp_loop_rounds 3 ?_
  iterate 3 (rw[rounds_succ];go_wp2)
  go_ret;exact⟨rfl,rfl⟩
 ·have M:(V !=0)=true:=by simp[P]
  have Q:lS [X,V]=V:=by simp[lS,R,P]
  rw[Q];clear Q;clear R P;go_enter Tryz.func109,Tryz.ntmps109;go_wp2;refine wp_loop_rounds 3 ?_
  iterate 2 (rw[rounds_succ];go_wp2)
  go_ret;exact⟨rfl,rfl⟩
 ·have N:(X !=0)=true:=by simp[R]
  have Q:lS [X,V]=X:=by simp[lS,R]
  rw[Q];clear Q;clear R;go_enter Tryz.func109,Tryz.ntmps109;go_wp2;refine wp_loop_rounds 3 ?_
  iterate 1 (rw[rounds_succ];go_wp2)
  go_ret;exact⟨rfl,rfl⟩
def Rq(W:World)(V R:Obj)(X:Array Value)(t:TypeId)(i:Nat)(v:Value)(h:X[i]?=U v):(((W.alloc V).alloc R).alloc (.cells X t)).drew.cell? ⟨W.heap.size+1+1,i,Z⟩=U v:=by
 have e:(((W.alloc V).alloc R).alloc (.cells X t)).heap[W.heap.size+1+1]?=U (.cells X t):=by
  have:=heap_alloc_new ((W.alloc V).alloc R) (.cells X t);simpa using this
 show World.cell? _ _=_;simp only[World.cell?,World.drew,e];simpa using h
def avo(W:World)(X V R:Obj):∃q Q,(((W.alloc X).alloc V).alloc R).drew=grow (W.drewN q) Q:=⟨1, #[X]++ #[V]++ #[R],by rw[alloc_eq_grow,alloc_eq_grow,alloc_eq_grow,grow_grow,grow_grow];rfl⟩
set_option maxHeartbeats 4000000 in
set_option maxRecDepth 100000 in
def aEj (V R Q P:Int) (W:World):Calls Tryz.prog 178 #[.agg #[.int I V,.int I R],.agg #[.int I Q,.int I P]] W λe X=>e=.returned (.int I (lS [Lib.compareInt R P,Lib.compareInt V Q]))/\∃q L,X=grow (W.drewN q) L:=by
 have O:=λx y N=>AnyG.cmp_Compare_int Tryz.cmpInt x y N
 change∀x y N,Calls Tryz.prog 110 _ _ _ at O;generalize Lib.compareInt=M at O⊢;go_enter Tryz.func178,Tryz.ntmps178;go_wp2
 go_region_held3 (λX=>X.cell? ⟨W.heap.size,0,Z⟩=U (.int I V)/\X.cell? ⟨W.heap.size,1,Z⟩=U (.int I R)/\X.cell? ⟨W.heap.size+1,0,Z⟩=U (.int I Q)/\X.cell? ⟨W.heap.size+1,1,Z⟩=U (.int I P)) (go_keep)
  (first|(go_at_call 110;refine(O _ _ _).mono ?_;rintro e X ⟨rfl,rfl⟩)|(go_at_call 109;refine Calls.mono (or2 _ (M R P) (M V Q) _ (Rq _ _ _ _ _ _ _ rfl) (Rq _ _ _ _ _ _ _ rfl)) ?_;rintro e X ⟨rfl,rfl⟩))
 all_goals go_wp2
 all_goals go_ret
 exact⟨rfl,avo _ _ _ _⟩
set_option maxHeartbeats 1000000 in
def or3 (b:Nat) (V R Q:Int) (W:World) (F:W.cell? ⟨b,0,Z⟩=U (.int I V)) (D:W.cell? ⟨b,1,Z⟩=U (.int I R)) (C:W.cell? ⟨b,2,Z⟩=U (.int I Q)):Calls Tryz.prog 109 #[.slice (U ⟨b,0,Z⟩) 3 3] W λe M=>e=.returned (.int I (lS [V,R,Q]))/\M=W:=by
 by_cases P:V=0;have L:(V !=0)=false:=by simp[P]
 by_cases O:R=0;have H:(R !=0)=false:=by simp[O]
 by_cases N:Q=0
 ·have G:(Q !=0)=false:=by simp[N]
  have X:lS [V,R,Q]=0:=by simp[lS,P,O,N]
  rw[X];clear X;clear P O N;go_enter Tryz.func109,Tryz.ntmps109;go_wp2;refine wp_loop_rounds 4 ?_
  iterate 4 (rw[rounds_succ];go_wp2)
  go_ret;exact⟨rfl,rfl⟩
 ·have G:(Q !=0)=true:=by simp[N]
  have X:lS [V,R,Q]=Q:=by simp[lS,P,O,N]
  rw[X];clear X;clear P O N;go_enter Tryz.func109,Tryz.ntmps109;go_wp2;refine wp_loop_rounds 4 ?_
  iterate 3 (rw[rounds_succ];go_wp2)
  go_ret;exact⟨rfl,rfl⟩
 ·have H:(R !=0)=true:=by simp[O]
  have X:lS [V,R,Q]=R:=by simp[lS,P,O]
  rw[X];clear X;clear P O;go_enter Tryz.func109,Tryz.ntmps109;go_wp2;refine wp_loop_rounds 4 ?_
  iterate 2 (rw[rounds_succ];go_wp2)
  go_ret;exact⟨rfl,rfl⟩
 ·have L:(V !=0)=true:=by simp[P]
  have X:lS [V,R,Q]=V:=by simp[lS,P]
  rw[X];clear X;clear P;go_enter Tryz.func109,Tryz.ntmps109;go_wp2;refine wp_loop_rounds 4 ?_
  iterate 1 (rw[rounds_succ];go_wp2)
  go_ret;exact⟨rfl,rfl⟩
set_option maxHeartbeats 4000000 in
set_option maxRecDepth 100000 in
def w52 (V R Q P O N:Int) (W:World):Calls Tryz.prog 52 #[.agg #[.int I V,.int I R,.int I Q],.agg #[.int I P,.int I O,.int I N]] W λe X=>e=.returned (.int I (lS [Lib.compareInt V P,Lib.compareInt R O,Lib.compareInt Q N]))/\∃q G,X=grow (W.drewN q) G:=by
 have M:=λx y H=>AnyG.cmp_Compare_int Tryz.cmpInt x y H
 change∀x y H,Calls Tryz.prog 110 _ _ _ at M;generalize Lib.compareInt=L at M⊢;go_enter Tryz.func52,Tryz.ntmps52;go_wp2
 go_region_held3 (λX=>X.cell? ⟨W.heap.size,0,Z⟩=U (.int I V)/\X.cell? ⟨W.heap.size,1,Z⟩=U (.int I R)/\X.cell? ⟨W.heap.size,2,Z⟩=U (.int I Q)/\X.cell? ⟨W.heap.size+1,0,Z⟩=U (.int I P)/\X.cell? ⟨W.heap.size+1,1,Z⟩=U (.int I O)/\X.cell? ⟨W.heap.size+1,2,Z⟩=U (.int I N)) (go_keep)
  (first|(go_at_call 110;refine(M _ _ _).mono ?_;rintro e X ⟨rfl,rfl⟩)|(go_at_call 109;refine Calls.mono (or3 _ (L V P) (L R O) (L Q N) _ (Rq _ _ _ _ _ _ _ rfl) (Rq _ _ _ _ _ _ _ rfl) (Rq _ _ _ _ _ _ _ rfl)) ?_;rintro e X ⟨rfl,rfl⟩))
 all_goals go_wp2
 all_goals go_ret
 exact⟨rfl,avo _ _ _ _⟩
end
section
open Go.Shelf Go.RowKit
open Go.Sort (flatK get_flatK size_flatK HoldsK putRowK size_putRowK grow)
def IV(k:Nat)(x:bi):aH:=(aI5 k).map λi=>RV.mk (.int I (x.getD i 0)) []
def jl(k:Nat)(x:bi):fe:=(aI5 k).map λi=>Value.int I (x.getD i 0)
def aip(k:Nat)(x:bi):(IV k x).length=k:=by simp[IV]
def aiq(h:P<X):(IV X L)[P]?=U (RV.mk (.int I (L.getD P 0)) []):=by simp[IV,h]
def aEm(h:P<X):aT P (IV X L)=L.getD P 0:=by
 unfold aT;rw[aIC,aiq h];rfl
def xA(X:ai)(x y:bi):Int:=lS (X.map λc=>Lib.compareInt (x.getD c 0) (y.getD c 0))
def air{k:Nat}{x y:bi}:∀{cs:ai},(∀c∈cs,c<k)->decide (xA cs x y<0)=iO E cs (IV k x) (IV k y)
 |[],_=>rfl
 |c::cs,h=>by
  have R:=air (x:=x) (y:=y) (cs:=cs) (λc W=>h c (by simp[W]));have W:c<k:=h c (by simp);simp only[xA,aIP,lS,iO,aEm W] at R⊢;generalize x.getD c 0=p;generalize y.getD c 0=q;by_cases V:p=q;rw[if_pos V,if_pos (by simp[Lib.compareInt,V])];exact R;rw[if_neg V];by_cases X:p<q;have e:Lib.compareInt p q=-1:=by simp[Lib.compareInt,X]
  simp[e,X];have Q:p>q:=by omega
  have e:Lib.compareInt p q=1:=by simp[Lib.compareInt,X,Q]
  simp[e,X]
def ais(h:∀c∈H,c<X):Go.Sort.SWO (ltOf (xA H)):=by
 have w:=My H E;have e:∀x y,ltOf (xA H) x y=(aW.lex H E).lt (IV X x) (IV X y):=λx y=>air h
 exact⟨λx=>by rw[e];exact w.YX _ rfl,λx y z W V=>by rw[e] at*;exact w.tr _ _ _ rfl rfl rfl W V,λx y z W V=>by rw[e] at*;exact w.nt _ _ _ rfl rfl rfl W V⟩
def avp:∀{k:Nat}{X:aH},iL (aIL k J) X->Y X=k/\∀c∈X,c=.mk (.int I (bB c.val)) []
 |0,X,h=>by cases h;simp
 |k+1,[],h=>h.elim
 |k+1,c::r,h=>by
  obtain⟨⟨n,rfl⟩,W⟩:(∃n,c=.mk (.int I n) [])/\iL (aIL k J) r:=h;obtain⟨V,R⟩:=avp W;exact⟨by simp[V],λc Q=>(aIK.1 Q).elim (λe=>by subst e;rfl) (R c)⟩
def unI(X:aH):bi:=X.map λc=>bB c.val
def aEn(h:iL (aIL X J) Q):IV X (unI Q)=Q:=by
 obtain⟨P,V⟩:=avp h;apply aI0;intro i;by_cases R:i<X;rw[aiq R];have W:i<Y Q:=by omega
 rw[aIA W,V _ (aJl W)];simp[unI,aIC,W];rw[aIT (by rw[aip];omega),aIT (by omega)]
def aEo(h:∀x∈N,iL (aIL X J) x):∃d:Array bi,N=d.toList.map (IV X):=by
 refine⟨(N.map unI).toArray, ?_⟩;simp only[aJo]
 conv=>lhs;rw[<-List.map_id N]
 exact aIY λx W=>(aEn (h x W)).symm
def avq(d:Array bi)(W:P<d.size*X):(dt (d.toList.map (IV X)))[P]?=U ((flatK (jl X) X d)[P]!):=by
 have Q:0<X:=by
  rcases aJB X with rfl|h;omega;exact h
 have O:P/X<d.size:=aLe (by rw[aK1];exact W);have V:P%X<X:=aKA _ Q;have e:P=P/X*X+P%X:=by have:=aLf P X;rw[aK1] at this;omega
 have:=Nr (w:=X) (rows:=d.toList.map (IV X)) (λi N R=>by
  simp only[aIE,aJ8] at R;obtain⟨x,_,rfl⟩:=R;exact aip X x) (i:=P/X) (j:=P%X) (row:=IV X d[P/X]!) (by simp[O]) (aiq V)
 rw[<-e] at this;rw[this,get_flatK _ _ _ _ W];congr 1;have:(jl X d[P/X]!)[P%X]?=U (.int I ((d[P/X]!).getD (P%X) 0)):=by simp[jl,V]
 rw[List.getElem!_eq_getElem?_getD,this];rfl
def aEp(d:Array bi):(dt (d.toList.map (IV X))).length=d.size*X:=by
 have:=zN (w:=X) (rows:=d.toList.map (IV X)) (λi V W=>by
  simp only[aIE,aJ8] at W;obtain⟨x,_,rfl⟩:=W;exact aip X x)
 simpa using this
def aEq(Q:R.heap[X]?=U (.cells O V (0,0)))(j:Nat):R.frozen? ⟨X,j,Z⟩=false:=by
 simp[World.frozen?,Q]
def aEr{Q:Ty}{n N k:Nat}{d:Array bi}(h:bu R Q (.sl X) (.mk (.slice (U ⟨P,0,Z⟩) n N) (d.toList.map (IV k))))(M:R.heap[P]?=U (.cells O X (0,0))):HoldsK (jl k) k R P 0 d:=by
 intro j V;rw[size_flatK] at V;obtain⟨G,F,L,_,H⟩:=Ns h j _ (avq d V);cases L;exact⟨H,aEq M _⟩
def aEs{m:Nat}{d Q:Array bi}{os:Array Obj}(M:R.heap[P]?=U (.cells O V (0,0)))(C:HoldsK (jl X) X R P 0 d)(B:Q.size=d.size):
  R.grownBy (sortWorldK (jl X) X R P 0 m Q os) (U P)/\∃L,(sortWorldK (jl X) X R P 0 m Q os).heap[P]?=U (.cells L V (0,0))/\L.size=O.size/\L.toList.take (Q.size*X)=dt (Q.toList.map (IV X)):=by
 have H:P<R.heap.size:=(aIX.1 M).1;have A:(putRowK (jl X) X (Sort.ahead R m) P 0 Q).heap.size=R.heap.size:=by rw[size_putRowK];rfl
 have G:∀i,i<R.heap.size->(sortWorldK (jl X) X R P 0 m Q os).heap[i]?=(R.heap.modify P (Sort.onCells (Sort.putCells id 0 (flatK (jl X) X Q))))[i]?:=by
  intro i F;show(_++os)[i]?=_;rw[aLu (by rw[A];exact F)];rfl
 refine⟨⟨rfl,rfl,rfl, ?_,λi F z=> ?_⟩,Sort.putCells id 0 (flatK (jl X) X Q) O, ?_, ?_, ?_⟩;exact size_sortWorldK_c (jl X) X R P 0 m Q os;rw[G i F,aJ9,if_neg (λD=>z (by rw[D]))];rw[G P H,aJ9,if_pos rfl,M];rfl;simp[Sort.putCells];have D:=holdsK_sortWorldK_c (jl X) X R P 0 d Q m os C H B;have y:(sortWorldK (jl X) X R P 0 m Q os).heap[P]?=U (.cells (Sort.putCells id 0 (flatK (jl X) X Q) O) V (0,0)):=by rw[G P H,aJ9,if_pos rfl,M];rfl
 apply aI0;intro q;rw[aI6];by_cases N:q<Q.size*X;rw[if_pos N,avq Q N];have:=(D q (by rw[size_flatK];exact N)).1;simpa[World.cell?,y] using this;rw[if_neg N,aIT (by rw[aEp];omega)]
def avr{lt:aH->aH->Bool}:∀{l:am},vZ lt l=J->l.Pairwise (λx y=>lt x y=J\/lt y x=J)
 |[],_=>aJt
 |x::r,h=>by
  simp only[vZ,aIy,aIN,aIZ] at h;exact aIV.2 ⟨h.1,avr h.2⟩
def aiu{f g:FuncId}{k:Nat}(a1:uB Tryz.prog f=J)(F:bq (look TT) (.sl V)=(aIL k J).map C8)(hc:∀c∈H,c<k)
  (a3:∀p R fv W,Calls Tryz.prog f #[.slice p 0 R,fv] W λP D=>P=.returned (.tuple #[])/\D=W)
  (a4:∀(b R:Nat)(d:Array bi)(W:World),HoldsK (jl k) k W b 0 d->b<W.heap.size->d.size<4611686018427387904->Calls Tryz.prog f #[.slice (U ⟨b,0,Z⟩) d.size R,.func (.func g) #[] #[]] W λP D=>P=.returned (.tuple #[])/\∃X n C,Go.Sort.PermIn 0 d.size d X/\Go.Sort.SortedIn (ltOf (xA H)) 0 d.size X/\D=sortWorldK (jl k) k W b 0 n X C):
  oB Tryz.prog (look TT) f g V (.lex H E) false:=by
 refine⟨wi a1,λW A n R B ay O ns bx w v L u=> ?_⟩;cases ns with
 |cons _ _=>simp[aW.fill] at w
 |nil=>
  simp only[aW.fill,aID] at w;subst w;have u:gR (.lex H E) E B=U ay:=u;obtain⟨hl,b0⟩:=ru v;have hk:(bq (look TT) (.sl V)).length=k:=by rw[F];simp
  rw[hk] at L⊢;have Q:=aik u;simp only[gR] at Q;split at Q
  case isFalse=>cases Q
  rename_i r;simp only[aIy,decide_eq_true_eq,aIZ,aIU,false_or] at r;obtain⟨o,_,l⟩:=r;have Q:=aJb Q;have b1:Y ay=Y B:=by rw[<-ze ay,<-Q,j9,ze]
  by_cases hn:n=0;subst hn;have h0:ay=[]:=aI1 (by omega);subst h0;refine(a3 A R _ W).mono ?_;rintro P W' ⟨rfl,rfl⟩;refine⟨rfl,⟨rfl,rfl,rfl,aIG _,λ_ _ _=>rfl⟩,⟨aKG _,L.nil, ?_⟩⟩;rcases L.mem with h|⟨b,a,rfl,N,t,s⟩;exact .inl h;cases R with
  |zero=>exact .inl rfl
  |succ c=>exact .inr ⟨b,a,rfl,N,t,s,by simp[dt],.inr rfl⟩
  rcases L.mem with h|⟨b,a,rfl,N,t,s⟩;omega;have hp:∀(j:Nat)(z:Value)(q:RK),(bq (look TT) (.sl V))[j]?≠U (.aI z q):=by
   intro j z q M;rw[F,aIE] at M;cases G:(aIL k J)[j]? with
   |none=>rw[G] at M;cases M
   |some b=>rw[G] at M;cases b<;>simp[C8] at M
  have af:=aue hp v;obtain⟨d,hd⟩:=aEo (aud F (eG.wc v));have ag:d.size=n:=by
   have h3:(eh B).length=(d.toList.map (IV k)).length:=congrArg Y hd;rw[ze,aJn,aJJ] at h3;exact h3.symm.trans hl
  rw[hd] at af Q l o;have al:=aEr af N;have G:b<W.heap.size:=(aIX.1 N).1;have a9:jT (U ⟨b,0,Z⟩) R=U b:=by
   cases R with
   |zero=>omega
   |succ c=>rfl
  have an:=a4 b R d W al G (by simp at o;omega);rw[ag] at an;refine Calls.mono an ?_;rintro P W' ⟨rfl,X,m,C,a0,bb,rfl⟩;have hs:X.size=d.size:=a0.1;obtain⟨g1,bd,g2,g3,g4⟩:=aEs (m:=m) (os:=C) N al hs;have bf:X.toList.Perm d.toList:=by
   have:=a0.2.2;rw[<-ag] at this;have e1:X.extract 0 d.size=X:=by rw[<-hs];exact aMf
   have e2:d.extract 0 d.size=d:=aMf
   rwa [e1,e2] at this
  have bg:fC (aW.lex H E).lt (X.toList.map (IV k)):=by
   refine aLx.2 (aJO.2 λi j hi hj bk=> ?_);have bl:j<X.size:=by simpa using hj
   have br:i<X.size:=by simpa using hi
   have:=bb i j (aKG _) bk (by omega);have V:=air (k:=k) (x:=X[j]) (y:=X[i]) hc;rw[getElem!_pos X j bl,getElem!_pos X i br] at this;show iO E H (IV k X.toList[j]) (IV k X.toList[i])=E;rw[aL2,aL2,<-V];exact this
  have bs:X.toList.map (IV k)=eh ay:=by
   rw[<-Q,<-aA6 (lt:=(aW.lex H E).lt) (asY E H) (asZ E H) (bf.map (IV k)) (avr l)];exact(YY bg).symm
  rw[a9];refine⟨rfl,g1,⟨by omega,λh=>(by cases h),.inr ⟨b,bd,rfl,g2,t,by rw[g3,s], ?_,.inr rfl⟩⟩⟩;have bt:Y ay=X.size:=by omega
  rw[bt,g4,bs,aub]
end
section
open Go.Shelf Go.RowKit
open Go.Sort (HoldsK)
def Tryz.sortOb_ren:Go.Shelf.Ren:=⟨λ|6=>51|15=>108|14=>107|28=>190|29=>191|20=>182|21=>183|22=>184|23=>185|24=>186|25=>187|26=>188|27=>189|46=>253|47=>254|48=>255|49=>256|50=>257|57=>311|n=>n,λ|22=>121|24=>118|25=>123|3=>3|39=>205|0=>0|53=>287|55=>289|4=>4|46=>280|45=>279|50=>284|5=>5|9=>9|66=>336|70=>166|76=>382|77=>298|n=>n,λ|n=>n⟩
def Tryz.sortOb:Go.Proofs.SlLaysF0.n6 Tryz.prog Tryz.sortOb_ren:={mixed:=by kernel_rfl,f6:=⟨Tryz.f51.name,by decide,dw Tryz.func51 (by kernel_rfl)⟩,f14:=⟨Tryz.f107.name,by decide,dw Tryz.func107 (by kernel_rfl)⟩,f15:=dw Tryz.func108 (by kernel_rfl),f20:=⟨Tryz.f182.name,by decide,dw Tryz.func182 (by kernel_rfl)⟩,f21:=⟨Tryz.f183.name,by decide,dw Tryz.func183 (by kernel_rfl)⟩,f22:=⟨Tryz.f184.name,by decide,dw Tryz.func184 (by kernel_rfl)⟩,f23:=⟨Tryz.f185.name,by decide,dw Tryz.func185 (by kernel_rfl)⟩,f24:=⟨Tryz.f186.name,by decide,dw Tryz.func186 (by kernel_rfl)⟩,f25:=⟨Tryz.f187.name,by decide,dw Tryz.func187 (by kernel_rfl)⟩,f26:=⟨Tryz.f188.name,by decide,dw Tryz.func188 (by kernel_rfl)⟩,f27:=⟨Tryz.f189.name,by decide,dw Tryz.func189 (by kernel_rfl)⟩,f28:=dw Tryz.func190 (by kernel_rfl),f29:=dw Tryz.func191 (by kernel_rfl),f46:=⟨Tryz.f253.name,by decide,dw Tryz.func253 (by kernel_rfl)⟩,f47:=dw Tryz.func254 (by kernel_rfl),f48:=dw Tryz.func255 (by kernel_rfl),f49:=⟨Tryz.f256.name,by decide,dw Tryz.func256 (by kernel_rfl)⟩,f50:=⟨Tryz.f257.name,by decide,dw Tryz.func257 (by kernel_rfl)⟩,f57:=⟨Tryz.f311.name,by decide,dw Tryz.func311 (by kernel_rfl)⟩,t0:=Tryz.underlying0,a0:=Tryz.isAgg0,z0:=Tryz.sizeOf0,v0:=Tryz.zeroValue0,t3:=Tryz.underlying3,a3:=Tryz.isAgg3,z3:=Tryz.sizeOf3,v3:=Tryz.zeroValue3,t4:=Tryz.underlying4,a4:=Tryz.isAgg4,z4:=Tryz.sizeOf4,v4:=Tryz.zeroValue4,t5:=Tryz.underlying5,a5:=Tryz.isAgg5,z5:=Tryz.sizeOf5,v5:=Tryz.zeroValue5,t9:=Tryz.underlying9,a9:=Tryz.isAgg9,z9:=Tryz.sizeOf9,v9:=Tryz.zeroValue9,t22:=Tryz.underlying121,a22:=Tryz.isAgg121,z22:=Tryz.sizeOf121,v22:=Tryz.zeroValue121,t25:=Tryz.underlying123,a25:=Tryz.isAgg123,z25:=Tryz.sizeOf123,v25:=Tryz.zeroValue123,t39:=Tryz.underlying205,a39:=Tryz.isAgg205,z39:=Tryz.sizeOf205,v39:=Tryz.zeroValue205,t45:=Tryz.underlying279,a45:=Tryz.isAgg279,z45:=Tryz.sizeOf279,v45:=Tryz.zeroValue279,t46:=Tryz.underlying280,a46:=Tryz.isAgg280,z46:=Tryz.sizeOf280,v46:=Tryz.zeroValue280,t50:=Tryz.underlying284,a50:=Tryz.isAgg284,z50:=Tryz.sizeOf284,v50:=Tryz.zeroValue284,t53:=Tryz.underlying287,a53:=Tryz.isAgg287,z53:=Tryz.sizeOf287,v53:=Tryz.zeroValue287,t55:=Tryz.underlying289,a55:=Tryz.isAgg289,z55:=Tryz.sizeOf289,v55:=Tryz.zeroValue289,t66:=Tryz.underlying336,a66:=Tryz.isAgg336,z66:=Tryz.sizeOf336,v66:=Tryz.zeroValue336,t70:=Tryz.underlying166,a70:=Tryz.isAgg166,z70:=Tryz.sizeOf166,v70:=Tryz.zeroValue166,t76:=Tryz.underlying382,a76:=Tryz.isAgg382,z76:=Tryz.sizeOf382,v76:=Tryz.zeroValue382,t77:=Tryz.underlying298,a77:=Tryz.isAgg298,z77:=Tryz.sizeOf298,v77:=Tryz.zeroValue298}
def Tryz.sortBr_ren:Go.Shelf.Ren:=⟨λ|6=>243|15=>108|14=>300|28=>190|29=>191|20=>345|21=>346|22=>347|23=>348|24=>349|25=>350|26=>351|27=>352|46=>368|47=>254|48=>255|49=>369|50=>370|57=>377|n=>n,λ|22=>196|24=>200|25=>274|3=>3|39=>205|0=>0|53=>287|55=>289|4=>4|46=>280|45=>279|50=>284|5=>5|9=>9|66=>336|70=>166|76=>382|77=>298|n=>n,λ|n=>n⟩
def Tryz.sortBr:Go.Proofs.SlLaysF0.n6 Tryz.prog Tryz.sortBr_ren:={mixed:=by kernel_rfl,f6:=⟨Tryz.f243.name,by decide,dw Tryz.func243 (by kernel_rfl)⟩,f14:=⟨Tryz.f300.name,by decide,dw Tryz.func300 (by kernel_rfl)⟩,f15:=dw Tryz.func108 (by kernel_rfl),f20:=⟨Tryz.f345.name,by decide,dw Tryz.func345 (by kernel_rfl)⟩,f21:=⟨Tryz.f346.name,by decide,dw Tryz.func346 (by kernel_rfl)⟩,f22:=⟨Tryz.f347.name,by decide,dw Tryz.func347 (by kernel_rfl)⟩,f23:=⟨Tryz.f348.name,by decide,dw Tryz.func348 (by kernel_rfl)⟩,f24:=⟨Tryz.f349.name,by decide,dw Tryz.func349 (by kernel_rfl)⟩,f25:=⟨Tryz.f350.name,by decide,dw Tryz.func350 (by kernel_rfl)⟩,f26:=⟨Tryz.f351.name,by decide,dw Tryz.func351 (by kernel_rfl)⟩,f27:=⟨Tryz.f352.name,by decide,dw Tryz.func352 (by kernel_rfl)⟩,f28:=dw Tryz.func190 (by kernel_rfl),f29:=dw Tryz.func191 (by kernel_rfl),f46:=⟨Tryz.f368.name,by decide,dw Tryz.func368 (by kernel_rfl)⟩,f47:=dw Tryz.func254 (by kernel_rfl),f48:=dw Tryz.func255 (by kernel_rfl),f49:=⟨Tryz.f369.name,by decide,dw Tryz.func369 (by kernel_rfl)⟩,f50:=⟨Tryz.f370.name,by decide,dw Tryz.func370 (by kernel_rfl)⟩,f57:=⟨Tryz.f377.name,by decide,dw Tryz.func377 (by kernel_rfl)⟩,t0:=Tryz.underlying0,a0:=Tryz.isAgg0,z0:=Tryz.sizeOf0,v0:=Tryz.zeroValue0,t3:=Tryz.underlying3,a3:=Tryz.isAgg3,z3:=Tryz.sizeOf3,v3:=Tryz.zeroValue3,t4:=Tryz.underlying4,a4:=Tryz.isAgg4,z4:=Tryz.sizeOf4,v4:=Tryz.zeroValue4,t5:=Tryz.underlying5,a5:=Tryz.isAgg5,z5:=Tryz.sizeOf5,v5:=Tryz.zeroValue5,t9:=Tryz.underlying9,a9:=Tryz.isAgg9,z9:=Tryz.sizeOf9,v9:=Tryz.zeroValue9,t22:=Tryz.underlying196,a22:=Tryz.isAgg196,z22:=Tryz.sizeOf196,v22:=Tryz.zeroValue196,t25:=Tryz.underlying274,a25:=Tryz.isAgg274,z25:=Tryz.sizeOf274,v25:=Tryz.zeroValue274,t39:=Tryz.underlying205,a39:=Tryz.isAgg205,z39:=Tryz.sizeOf205,v39:=Tryz.zeroValue205,t45:=Tryz.underlying279,a45:=Tryz.isAgg279,z45:=Tryz.sizeOf279,v45:=Tryz.zeroValue279,t46:=Tryz.underlying280,a46:=Tryz.isAgg280,z46:=Tryz.sizeOf280,v46:=Tryz.zeroValue280,t50:=Tryz.underlying284,a50:=Tryz.isAgg284,z50:=Tryz.sizeOf284,v50:=Tryz.zeroValue284,t53:=Tryz.underlying287,a53:=Tryz.isAgg287,z53:=Tryz.sizeOf287,v53:=Tryz.zeroValue287,t55:=Tryz.underlying289,a55:=Tryz.isAgg289,z55:=Tryz.sizeOf289,v55:=Tryz.zeroValue289,t66:=Tryz.underlying336,a66:=Tryz.isAgg336,z66:=Tryz.sizeOf336,v66:=Tryz.zeroValue336,t70:=Tryz.underlying166,a70:=Tryz.isAgg166,z70:=Tryz.sizeOf166,v70:=Tryz.zeroValue166,t76:=Tryz.underlying382,a76:=Tryz.isAgg382,z76:=Tryz.sizeOf382,v76:=Tryz.zeroValue382,t77:=Tryz.underlying298,a77:=Tryz.isAgg298,z77:=Tryz.sizeOf298,v77:=Tryz.zeroValue298}
def aEt(a:Int):lS [a]=a:=by
 simp only[lS];split<;>omega
def aEu(b:Nat)(X:Nat)(w:World):CmpLays Tryz.prog 224 #[] (jl 14) 14 (xA [0]) b 0 X w:=λm W V R x y=>by
 have h:=aEe (x.getD 0 0) (x.getD 1 0) (x.getD 2 0) (x.getD 3 0) (x.getD 4 0) (x.getD 5 0) (x.getD 6 0) (x.getD 7 0) (x.getD 8 0) (x.getD 9 0) (x.getD 10 0) (x.getD 11 0) (x.getD 12 0) (x.getD 13 0) (y.getD 0 0) (y.getD 1 0) (y.getD 2 0) (y.getD 3 0) (y.getD 4 0) (y.getD 5 0) (y.getD 6 0) (y.getD 7 0) (y.getD 8 0) (y.getD 9 0) (y.getD 10 0) (y.getD 11 0) (y.getD 12 0) (y.getD 13 0) (sortWorldK (jl 14) 14 w b 0 m V W);have e:xA [0] x y=Lib.compareInt (x.getD 0 0) (y.getD 0 0):=aEt _;rw[e];exact h
def aEv(b:Nat)(X:Nat)(w:World):CmpLays Tryz.prog 178 #[] (jl 2) 2 (xA [1,0]) b 0 X w:=λm W V R x y=>
 aEj (x.getD 0 0) (x.getD 1 0) (y.getD 0 0) (y.getD 1 0) (sortWorldK (jl 2) 2 w b 0 m V W)
def aEw(b:Nat)(X:Nat)(w:World):CmpLays Tryz.prog 52 #[] (jl 3) 3 (xA [0,1,2]) b 0 X w:=λm W V R x y=>
 w52 (x.getD 0 0) (x.getD 1 0) (x.getD 2 0) (y.getD 0 0) (y.getD 1 0) (y.getD 2 0) (sortWorldK (jl 3) 3 w b 0 m V W)
def aiv(k:Nat)(x:bi):(jl k x).length=k:=by simp[jl]
def aiw(k:Nat)(x:bi):∀v∈jl k x,v.oneCell'=true:=by
 intro v X;simp only[jl,aI3] at X;obtain⟨i,_,rfl⟩:=X;rfl
def aEx:oB Tryz.prog (look TT) 223 224 90 (.lex [0] E) false:=by
 have V:∀c∈[0],c<14:=by simp
 refine aiu (k:=14) (by kernel_rfl) (by kernel_rfl) V (λp X R W=> ?_) (λb X d W Q P O=> ?_);have h:=AnyF.slices_SortFunc_none Tryz.sortSg p X R W;exact h;have h:=AnyQ.slices_SortFunc Tryz.sortSg 14 Tryz.isAgg90 Tryz.sizeOf90 (jl 14) (aiv 14) (aiw 14) (xA [0]) (ais V) 224 #[] b 0 X d W (enters_of Tryz.func224 (by kernel_rfl) rfl) (aEu b d.size W) Q P O;exact h
def aEy:oB Tryz.prog (look TT) 51 52 118 (.lex [0,1,2] E) false:=by
 have V:∀c∈[0,1,2],c<3:=by simp
 refine aiu (k:=3) (by kernel_rfl) (by kernel_rfl) V (λp X R W=> ?_) (λb X d W Q P O=> ?_);have h:=AnyF.slices_SortFunc_none Tryz.sortOb p X R W;exact h;have h:=AnyQ.slices_SortFunc Tryz.sortOb 3 Tryz.isAgg118 Tryz.sizeOf118 (jl 3) (aiv 3) (aiw 3) (xA [0,1,2]) (ais V) 52 #[] b 0 X d W (enters_of Tryz.func52 (by kernel_rfl) rfl) (aEw b d.size W) Q P O;exact h
def aEz:oB Tryz.prog (look TT) 243 178 200 (.lex [1,0] E) false:=by
 have V:∀c∈[1,0],c<2:=by simp
 refine aiu (k:=2) (by kernel_rfl) (by kernel_rfl) V (λp X R W=> ?_) (λb X d W Q P O=> ?_);have h:=AnyF.slices_SortFunc_none Tryz.sortBr p X R W;exact h;have h:=AnyQ.slices_SortFunc Tryz.sortBr 2 Tryz.isAgg200 Tryz.sizeOf200 (jl 2) (aiv 2) (aiw 2) (xA [1,0]) (ais V) 178 #[] b 0 X d W (enters_of Tryz.func178 (by kernel_rfl) rfl) (aEv b d.size W) Q P O;exact h
def Iu:ug qS:=by
 intro x X;simp only[qS,aIK,aKs,or_false] at X;rcases X with rfl|rfl|rfl|rfl|rfl|rfl;exact kU.of aEy (by dsimp only;decide);exact kU.of aD9 (by dsimp only;decide);exact kU.of aEx (by dsimp only;decide);exact kU.of aEz (by dsimp only;decide);exact kU.of aEd (by dsimp only;decide);unfold kU;rw[if_pos rfl];exact aEh
end
section
set_option maxRecDepth 100000
def aEA:bp 12 E E T12:=tk Tryz.func12 (loops:=[(12,5,⟨[(12,.int I)],[]⟩)])
def aEB:bp 33 E E Ya:=tk Tryz.func33
def aEC:bp 18 E E T18:=tk Tryz.func18
def aED:bp 20 E E T20:=tk Tryz.func20 (loops:=[(20,4,⟨[(5,.int I)],[]⟩)])
def aEE:bp 37 E E Yb:=tk Tryz.func37 (loops:=[(37,9,⟨[(62,.int I)],[]⟩),(37,16,⟨[(90,.int I),(6,.int I)],[]⟩)])
def aEF:bp 86 E E T86:=tk Tryz.func86
def aEG:bp 87 E E T87:=tk Tryz.func87
def aEH:bp 88 E E T88:=tk Tryz.func88
def aEI:bp 102 E E asf:=tk Tryz.func102
def aEJ:bp 173 E E asg:=tk Tryz.func173 (loops:=[(173,2,⟨[(8,.int I)],[]⟩)])
def aEK:bp 103 E E ash:=tk Tryz.func103 (loops:=[(103,3,⟨[(16,.int I)],[]⟩)])
def aEL:bp 181 E E agv:=tk Tryz.func181
def aEM:bp 135 E E Yc:=tk Tryz.func135 (loops:=[(135,4,⟨[(20,.int I)],[]⟩)])
def aEN(X:ug qS):bp 77 E E T77:=tk Tryz.func77 (loops:=[(77,7,⟨[(35,.int I),(6,.ref (.own 90))],[]⟩)]) (srts:=qS) (hsr:=X)
def aEO:bp 225 E E Yd:=tk Tryz.func225
def aEP:bp 284 E E agx:=tk Tryz.func284
def aEQ:bp 207 E E Ye:=tk Tryz.func207
def aER:bp 25 E E T25:=tk Tryz.func25 (inl:=[71,132,70])
def aES(X:ug qS):bp 155 E E Qz:=tk Tryz.func155 (loops:=[(155,6,⟨[(22,.int I),(4,.ref (.own 258))],[]⟩),(155,9,⟨[(28,.int I),(4,.ref (.own 258))],[]⟩)]) (inl:=[222]) (srts:=qS) (hsr:=X)


def aET:bp 143 E E asp:=tk Tryz.func143 (loops:=[(211,3,⟨[(9,.int I),(10,.int I)],[]⟩)]) (inl:=[211,212])
end
