/- Part 11 of the proof. -/
import Derived.Test.YtfpoabmmjhhncaaGreatDoorQ5
import Derived.Test.YtfpoabmmjhhncaaGreatDoorQ10
import Derived.Shelf.SlSortCmp.WholeK
import Derived.Shelf.SlSortCmp.NoneTotal
import Derived.Shelf.SlicesG.Cmp
import Derived.Deep.RegionHeld3
import Derived.Deep.DrawnRows
set_option linter.all false
set_option maxRecDepth 100000
set_option maxHeartbeats 100000000
open Bool renaming and_eq_true->aw,false_eq_true->iC,or_eq_true->iD,true->J,false->E
open List renaming getElem?_eq_some_iff->bJ,getD_eq_getElem?_getD->cw,getElem?_eq_getElem->ce,getElem?_map->dM,mem_cons->dJ,all_eq_true->eO,replicate->ew,map_cons->ep,mem_of_getElem?->iU,getElem?_eq_none->jx,pairwise_cons->iv,map_congr_left->jh,range->e8,ext_getElem?->jV,eq_nil_of_length_eq_zero->qG,mem_map->gL,getElem?_take->lT,getElem?_set_ne->pM,getElem?_of_mem->qI,getElem_mem->pN,length_map->o8,map_map->mT,mem_cons_of_mem->By,getElem?_set_self->Dy,pairwise_iff_getElem->NC,length_singleton->NE,mem_cons_self->JF,mem_singleton->NI,not_mem_nil->NM,flatMap_cons->Tq,all_map->JM,pairwise_map->alu,map_set->aaI,length_set->alx,length->Y
open Nat renaming le_refl->bU,eq_zero_or_pos->BB,lt_of_le_of_ne->NJ,mul_comm->NS,mod_lt->JN,zero_le->NT,div_lt_of_lt_mul->aln,div_add_mod->aaF,mul_le_mul->alD,mul_one->alO
open Option renaming map_eq_some_iff->ND,some->U,none->Z
open Array renaming getElem?_eq_some_iff->jg,length_toList->BA,getElem?_modify->JB,getElem?_setIfInBounds_ne->aav,getElem?_toList->Tk,getElem?_setIfInBounds_self_of_lt->awT,getElem?_append_left->awX,getElem_toList->axi,extract_size->axu
open Go.World renaming cell?->mC,frozen?->NR
open List.Pairwise renaming nil->uD
open Go.IntKind renaming i64->I
namespace Go.Proofs.YtfpoabmmjhhncaaGreatDoor.Y
open Go.RowKit
noncomputable section
variable{M:ai}{W:bB}{N:aq}{Q:aC}{X P:Nat}{L:aZ}{H:ap}{R:World}{O:kH}{V:TypeId}
def TM:j8:=⟨Bp,λ_ _=>Z⟩
def akC:ZW TM false:=by
 refine⟨λf X (h:Bp f=U X)=> ?_,λf X (h:Bp f=U X)=> ?_,λf=>ZU f⟩;unfold Bp at h;split at h<;>cases h<;>first|exact akw|exact akx|exact aky|exact akz|exact akA|exact akB
 unfold Bp at h;split at h<;>cases h<;>exact id
def hTM(f:FuncId)(X:Fn)(h:Bp f=U X):HY TM f X:=⟨h,λ_=>rfl⟩
def akE{x y m n:Int}(X:x.natAbs<=m.natAbs)(W:y.natAbs<=n.natAbs):(x*y).natAbs<=(m*n).natAbs:=by
 rw[Int.natAbs_mul,Int.natAbs_mul];exact alD X W
def atB{a b c d:Int}(R:kM a b=J)(Q:kM c d=J)(W:World):Calls Tryz.prog 71 #[.agg #[.int I a,.int I b],.agg #[.int I c,.int I d]] W λe P=>e=.returned (.tuple #[.int I (zH (a*d) (c*b)),.int I 0])/\Below W.heap.size W P:=by
 obtain⟨n,N⟩:=aiU hTM a b c d;have M:=SO akC n 71 _ _ _ _ rfl rfl rfl rfl _ _ _ N (SQ _) ⟨trivial,trivial,trivial,trivial,trivial⟩ W (λh=>by cases h) (SR (by simp[rM]));refine Calls.mono M ?_;intro e P h;have O:IntKind.i64.wrap (a*d)=a*d/\IntKind.i64.wrap (c*b)=c*b:=by
  simp[kM] at R Q;have D:=akE (x:=a) (y:=d) (m:=1073741824) (n:=1073741824) aa aa;have B:=akE (x:=c) (y:=b) (m:=1073741824) (n:=1073741824) aa aa;rw[IntKind.wrap_i64,IntKind.wrap_i64];omega
 rw[MT,R,Q,O.1,O.2] at h;cases e with
 |returned v=>
  obtain⟨A,L,V,X,z,rfl,H,_,_⟩:=h;cases V;rcases L with _|⟨_|_|_,_|⟨_|_|_,_|_⟩⟩<;>first|exact X.elim|exact X.1.elim|exact X.2.elim|exact X.2.1.elim|exact X.2.2.elim|skip
  obtain⟨G,F,_⟩:=X;cases G;cases F;exact⟨rfl,H⟩
 |panicked w=>obtain⟨_,v,V,_⟩:=h;cases V
 |outgrown=>exact h.elim
def atC(a b:Int)(W:World):Calls Tryz.prog 87 #[.int I a,.int I b] W λe R=>e=.returned (.int I (zH a b))/\Below W.heap.size W R:=by
 obtain⟨n,Q⟩:=Zk hTM a b;have P:=SO akC n 87 _ _ _ _ rfl rfl rfl rfl _ _ _ Q (SQ _) ⟨trivial,trivial,trivial⟩ W (λh=>by cases h) (SR (by simp[rM]));refine Calls.mono P ?_;intro e R h;cases e with
 |returned v=>
  obtain⟨L,O,V,X,H,rfl,N,_,_⟩:=h;cases V;rcases O with _|⟨_|_|_,_|_⟩<;>first|exact X.elim|exact X.1.elim|exact X.2.elim|skip
  obtain⟨M,_⟩:=X;cases M;exact⟨rfl,N⟩
 |panicked G=>obtain⟨_,v,V,_⟩:=h;cases V
 |outgrown=>exact h.elim
def akF{X:List K}{az:aq}(h:jL M (.da (0+3) W X) E N=U az):False:=by
 have h:nW 3 W (X.map (K.ab M)) N=U az:=h;obtain⟨_,h⟩:=yH h;obtain⟨a,b,c,V⟩:=zR (FY aa h);rw[V] at h;have e:mb 3 W [a,b,c] N=if decide (0<=a)&&decide (a<b)&&decide (b<c)&&decide (c<=Y N)&&decide (c-a<((0:Nat):Int))&&N.all W.ok&&uX W.lt (aR N a.toNat b.toNat)&&uX W.lt (aR N b.toNat c.toNat) then U (N.take a.toNat++(bK W.lt (aR N a.toNat c.toNat)++N.drop c.toNat)) else none:=rfl;rw[e] at h;split at h;rename_i R;simp only[aw,bZ] at R;omega;cases h
def akG(o:bB):∀l,uW o.lt (eK l)=uW o.lt l
 |[]=>rfl
 |x::r=>by
  have X:=akG o r;simp only[eK,ep,uW,JM] at X⊢;rw[X];congr 2;funext y;simp only[Function.comp,Z3]
def aac{X:Bool}{az:aq}(h:io W X N=U az):io W X (eK N)=U (eK az):=by
 cases W with
 |da k W R=>simp[io] at h
 |_=>
  simp only[io] at h⊢;rw[xN,akc,akG,akb];split at h;rename_i V;rw[aE V];cases h;rfl;cases h
def KA:kJ:=[J,J,J,J,J,J,J,J,J,J,J,J,J,J]
def Jw(r:RE)(i:K):am:=[.int I (.cell r i 0),.int I (.cell r i 1),.int I (.cell r i 2),.int I (.cell r i 3),.int I (.cell r i 4),.int I (.cell r i 5),.int I (.cell r i 6),.int I (.cell r i 7),.int I (.cell r i 8),.int I (.cell r i 9),.int I (.cell r i 10),.int I (.cell r i 11),.int I (.cell r i 12),.int I (.cell r i 13)]
def Td(h:iN KA Q):∃X W V R P O N M L H G F D B,Q=[.mk (.int I X) [],.mk (.int I W) [],.mk (.int I V) [],.mk (.int I R) [],.mk (.int I P) [],.mk (.int I O) [],.mk (.int I N) [],.mk (.int I M) [],.mk (.int I L) [],.mk (.int I H) [],.mk (.int I G) [],.mk (.int I F) [],.mk (.int I D) [],.mk (.int I B) []]:=by
 rcases Q with _|⟨l,Q⟩;exact h.elim;obtain⟨⟨X,A⟩,h⟩:=h;subst A;rcases Q with _|⟨k,Q⟩;exact h.elim;obtain⟨⟨W,z⟩,h⟩:=h;subst z;rcases Q with _|⟨j,Q⟩;exact h.elim;obtain⟨⟨V,y⟩,h⟩:=h;subst y;rcases Q with _|⟨i,Q⟩;exact h.elim;obtain⟨⟨R,w⟩,h⟩:=h;subst w;rcases Q with _|⟨g,Q⟩;exact h.elim;obtain⟨⟨P,v⟩,h⟩:=h;subst v;rcases Q with _|⟨f,Q⟩;exact h.elim;obtain⟨⟨O,u⟩,h⟩:=h;subst u;rcases Q with _|⟨e,Q⟩;exact h.elim;obtain⟨⟨N,t⟩,h⟩:=h;subst t;rcases Q with _|⟨d,Q⟩;exact h.elim;obtain⟨⟨M,s⟩,h⟩:=h;subst s;rcases Q with _|⟨c,Q⟩;exact h.elim;obtain⟨⟨L,r⟩,h⟩:=h;subst r;rcases Q with _|⟨b,Q⟩;exact h.elim;obtain⟨⟨H,q⟩,h⟩:=h;subst q;rcases Q with _|⟨a,Q⟩;exact h.elim;obtain⟨⟨G,p⟩,h⟩:=h;subst p;rcases Q with _|⟨af,Q⟩;exact h.elim;obtain⟨⟨F,o⟩,h⟩:=h;subst o;rcases Q with _|⟨ag,Q⟩;exact h.elim;obtain⟨⟨D,n⟩,h⟩:=h;subst n;rcases Q with _|⟨al,Q⟩;exact h.elim;obtain⟨⟨B,m⟩,h⟩:=h;subst m;cases h;exact⟨X,W,V,R,P,O,N,M,L,H,G,F,D,B,rfl⟩
def aad:Bt KA Jw:=by
 refine⟨λO r i x X W=> ?_,λO r i x X W y V=> ?_⟩;obtain⟨R,Q,P,N,M,L,H,G,F,D,B,A,z,w,rfl⟩:=Td W;simp[Jw,C.bN,K.ab,bz,cw,X,bF];obtain⟨R,Q,P,N,M,L,H,G,F,D,B,A,z,w,rfl⟩:=Td W;have e:∀(q:RE),q.rv (O.at y)=q.rv O:=λq=>RE.lA O y q
 have v:∀(q:K),q.ab (O.at y)=q.ab O:=λq=>K.eE O y q
 simp[Jw,C.ay,C.ab,K.ab,bz,cw,e,v,X,bF]
def KB:kJ:=[J,J,J,E,J]
def Jx(r:RE)(i:K):am:=[.int I (.cell r i 0),.int I (.cell r i 1),.int I (.cell r i 2),.bool (.cell r i 3),.int I (.cell r i 4)]
def Te(h:iN KB Q):∃X W V R P,Q=[.mk (.int I X) [],.mk (.int I W) [],.mk (.int I V) [],.mk (.bool R) [],.mk (.int I P) []]:=by
 rcases Q with _|⟨G,Q⟩;exact h.elim;obtain⟨⟨X,O⟩,h⟩:=h;subst O;rcases Q with _|⟨F,Q⟩;exact h.elim;obtain⟨⟨W,N⟩,h⟩:=h;subst N;rcases Q with _|⟨D,Q⟩;exact h.elim;obtain⟨⟨V,M⟩,h⟩:=h;subst M;rcases Q with _|⟨B,Q⟩;exact h.elim;obtain⟨⟨R,L⟩,h⟩:=h;subst L;rcases Q with _|⟨A,Q⟩;exact h.elim;obtain⟨⟨P,H⟩,h⟩:=h;subst H;cases h;exact⟨X,W,V,R,P,rfl⟩
def aae:Bt KB Jx:=by
 refine⟨λO r i x X W=> ?_,λO r i x X W y V=> ?_⟩;obtain⟨R,Q,P,N,M,rfl⟩:=Te W;simp[Jx,C.bN,K.ab,BE.ab,bz,cw,X,bF,iF];obtain⟨R,Q,P,N,M,rfl⟩:=Te W;have e:∀(q:RE),q.rv (O.at y)=q.rv O:=λq=>RE.lA O y q
 have L:∀(q:K),q.ab (O.at y)=q.ab O:=λq=>K.eE O y q
 simp[Jx,C.ay,C.ab,K.ab,BE.ab,bz,cw,e,L,X,bF,iF]
def akH{p:Sp}{L:cX}{Q:bn}{P:aY}{X:K}(h:∀W,ga p.S0 p.w0 W->p.R (.returned (.int I (X.ab M))) W):(T.ret (.int I X) Q P).aG p M L:=by
 intro y V W R;have:=h W R.base;simpa[C.ab,K.eE] using this
def PN(P:Program)(Q:Ty)(W:World)(V:aZ)(R:kJ):ax [] W bI.none Q [] ⟨V,R,[],[]⟩ {(⟨[],[],Y V,Y R,[],0,0,[]⟩:S) with tmps:=[]} ⟨#[],[]⟩ W:=
 ⟨⟨ga.refl _ _,λi h=>by simp[aF,bM] at h,λi j h=>by simp[aF,bM] at h,λi t L h=>by simp[bM] at h,λq O N X M=>by simp at X⟩,rfl,rfl,rfl,rfl,PM _ _,rfl,λt H h=>by simp at h,λq O N b X M G=>by simp at X⟩
def aaf(P:Program)(o:bB)(W:World)(x y:aC):Ending->World->Prop:=λX V=>Below W.heap.size W V/\∃c:Int,X=.returned (.int I c)/\(c<0<->o.lt x y=J)
def akI{g:FuncId}{V:Func}{c:Code}{n:Nat}{args:am}{t:T}(L:Tryz.prog.funcs[g]?=U V)(H:V.body=U c){y:aC}(O:aZ)(N:kJ)
  (G:Kh (n7 Tryz.prog TT SG [] [] [] [] E []) n g c V.ntmps V.results.toList args ⟨[],[],Y O,Y N,[],0,0,[]⟩=t)(X:World)(F:(C.ay ⟨O,N,[],[]⟩ [] args).toArray= #[.agg (Q.map RV.val).toArray,.agg (y.map RV.val).toArray])
  (D:∀p:Sp,p.P=Tryz.prog->p.S0=[]->p.w0=X->p.R=aaf Tryz.prog W X Q y->t.aG p ⟨O,N,[],[]⟩ []):Calls Tryz.prog g #[.agg (Q.map RV.val).toArray,.agg (y.map RV.val).toArray] X (aaf Tryz.prog W X Q y):=by
 let p:Sp:=⟨Tryz.prog,look TT,[],X,bI.none,aaf Tryz.prog W X Q y,λ_ _ _=>False⟩;have B:iB p (n7 Tryz.prog TT SG [] [] [] [] E []):=Le FW Ng rfl Nh (λz w b ob _ h=>by obtain⟨_,c,A,_⟩:=h;cases A) (λQ M=>by cases M);rw[<-F];exact aey (p:=p) B L H G (D p rfl rfl rfl rfl) (λQ M=>by simp[n7] at M) (PN Tryz.prog _ X O N)
def akJ(x y:Int):zH x y<0<->x<y:=by
 unfold zH;split;omega;split<;>omega
def atD:T:=(.call 71 [(.agg [(.int I (.v 10)),(.int I (.v 11))]),(.agg [(.int I (.v 24)),(.int I (.v 25))])] [] [] [.int I,.int I] (.bA [(.int I (.v 28)),(.int I (.v 29))])
 (.ret (.int I (.v 28)) [] []))
def atE:T:=(.call 87 [(.int I (.v 7)),(.int I (.v 3))] [] [] [.int I] (.int I (.v 8))
 (.ret (.int I (.v 8)) [] []))
def Ns:FX Tryz.prog KA 83 (.ratio 10 11):=by
 intro W x y M L H G;obtain⟨F,D,B,A,z,w,u,s,r,q,X,Q,o,m,rfl⟩:=Td M;obtain⟨l,k,j,h,g,f,e,d,c,b,P,O,a,af,rfl⟩:=Td L;refine akI (t:=atD) (n:=100) (args:=[(.agg [(.int I (.v 0)),(.int I (.v 1)),(.int I (.v 2)),(.int I (.v 3)),(.int I (.v 4)),(.int I (.v 5)),(.int I (.v 6)),(.int I (.v 7)),(.int I (.v 8)),(.int I (.v 9)),(.int I (.v 10)),(.int I (.v 11)),(.int I (.v 12)),(.int I (.v 13))]),(.agg [(.int I (.v 14)),(.int I (.v 15)),(.int I (.v 16)),(.int I (.v 17)),(.int I (.v 18)),(.int I (.v 19)),(.int I (.v 20)),(.int I (.v 21)),(.int I (.v 22)),(.int I (.v 23)),(.int I (.v 24)),(.int I (.v 25)),(.int I (.v 26)),(.int I (.v 27))])]) rfl rfl [F,D,B,A,z,w,u,s,r,q,X,Q,o,m,l,k,j,h,g,f,e,d,c,b,P,O,a,af] [] aL W rfl ?_;rintro p hP hS hW hR;have h1:kM X Q=true:=H;have h2:kM P O=true:=G;intro yy V W' R;rw[hP];refine(atB h1 h2 W').mono ?_;rintro en W2 ⟨rfl,hB⟩;refine⟨[.i (zH (X*O) (P*Q)),.i 0],⟨trivial,trivial,trivial⟩,rfl,hB,⟨trivial,trivial,trivial⟩,akH λW3 N=> ?_⟩;rw[hS,hW] at N;rw[hR];refine⟨Lh N,_,rfl, ?_⟩;simp[K.ab,ai.ext,ai.add,bB.lt,aK,bF,akJ]
def Nt:FX Tryz.prog KB 257 (.lex [4] J):=by
 intro W x y O N o m;obtain⟨M,L,H,G,X,rfl⟩:=Te O;obtain⟨F,D,B,A,Q,rfl⟩:=Te N;refine akI (t:=atE) (n:=100) (args:=[(.agg [(.int I (.v 0)),(.int I (.v 1)),(.int I (.v 2)),(.bool (.v 0)),(.int I (.v 3))]),(.agg [(.int I (.v 4)),(.int I (.v 5)),(.int I (.v 6)),(.bool (.v 1)),(.int I (.v 7))])]) rfl rfl [M,L,H,X,F,D,B,Q] [G,A] aL W rfl ?_;rintro p z w u s;intro l V r R;rw[z];refine(atC Q X r).mono ?_;rintro k j ⟨rfl,q⟩;refine⟨[.i (zH Q X)],⟨trivial,trivial⟩,rfl,q,⟨trivial,trivial⟩,akH λh P=> ?_⟩;rw[w,u] at P;rw[s];refine⟨Lh P,_,rfl, ?_⟩;simp[K.ab,ai.ext,ai.add,bB.lt,i7,aK,bF,akJ];omega
def atF:oH Tryz.prog (look TT) 175 83 56 (.da 0 (.ratio 10 11) []) false:=
 Ds (K:=KA) (n:=100) (args:=[(.ah (.v 0)),(.int I (.v 0)),(.int I (.v 1)),(.int I (.v 2)),(.fn 83 [])]) (loops:=[(175,1,⟨[(0,.ah (.own 56)),(10,.int I)],[]⟩)]) (srts:=[]) (chs:=[(175,3)]) (t:=SY 56 Jw) rfl rfl rfl aL (λx X=>by cases X) aL Ns aL (akl aad) (λW V h=>by obtain⟨a,b,c,rfl⟩:=zR h;rfl) (λW R az h=>FY aa h)
def atG:oH Tryz.prog (look TT) 148 83 56 (.da 1 (.ratio 10 11) []) false:=
 Ds (K:=KA) (n:=100) (args:=[(.ah (.v 0)),(.int I (.v 0)),(.int I (.v 1)),(.int I (.v 2)),(.fn 83 [])]) (loops:=[(148,2,⟨[(0,.ah (.own 56)),(10,.int I),(11,.int I)],[]⟩)]) (srts:=[(175,83,56,.da 0 (.ratio 10 11) [],E)]) (chs:=[]) (t:=SZ 56 83 175 (.ratio 10 11)) rfl rfl rfl aL (λx X=>by simp only[NI] at X;subst X;exact ly.of (atF) qK) aL Ns aL (akn) (λW V h=>by obtain⟨a,b,c,rfl⟩:=zR h;rfl) (λW R az h=>FY aa h)
def atH:oH Tryz.prog (look TT) 120 83 56 (.da 2 (.ratio 10 11) []) false:=
 Ds (K:=KA) (n:=100) (args:=[(.ah (.v 0)),(.int I (.v 0)),(.int I (.v 1)),(.fn 83 [])]) (loops:=[(120,1,⟨[(0,.ah (.own 56)),(8,.int I)],[]⟩),(120,4,⟨[(0,.ah (.own 56)),(9,.int I)],[]⟩)]) (srts:=[]) (chs:=[(120,6)]) (t:=S2 56 83 Jw) rfl rfl rfl aL (λx X=>by cases X) aL Ns aL (akq aad (WO 10 11)) (λW V h=>by obtain⟨a,b,rfl⟩:=two h;rfl) (λW R az h=>akj h)
def akK:∀N:Nat,oH Tryz.prog (look TT) 121 83 56 (.da (N+3) (.ratio 10 11) []) E
 |0=>⟨tQ aL,λW A n M Q az O X L V H G P=>by
  simp only[bB.fill,cg] at V;subst V;exact(akF P).elim⟩
 |N+1=>Ds (K:=KA) (n:=100) (args:=[(.ah (.v 0)),(.int I (.v 0)),(.int I (.v 1)),(.int I (.v 2)),(.fn 83 [])]) (loops:=[(121,3,⟨[(0,.ah (.own 56)),(10,.int I),(11,.int I)],[]⟩),(121,9,⟨[(0,.ah (.own 56)),(13,.int I)],[]⟩),(121,15,⟨[(0,.ah (.own 56)),(14,.int I),(15,.int I)],[]⟩),(121,21,⟨[(0,.ah (.own 56)),(17,.int I)],[]⟩),(121,33,⟨[(0,.ah (.own 56)),(20,.int I),(21,.int I)],[]⟩)]) (srts:=[(148,83,56,.da 1 (.ratio 10 11) [],E),(121,83,56,.da (N+3) (.ratio 10 11) [],E)]) (chs:=[(121,11),(121,23)]) (t:=S4 56 83 148 121 N (.ratio 10 11) Jw) rfl rfl rfl aL (λx R=>by
   simp only[dJ,NM,or_false] at R;rcases R with rfl|rfl;exact ly.of (atG) qK;exact ly.of (akK N) qK) aL Ns aL (akt aad (WO 10 11)) (λX F h=>by obtain⟨a,b,c,rfl⟩:=zR h;rfl) (λX Q az h=>FY aa h)
def atI:oH Tryz.prog (look TT) 82 83 56 (.ratio 10 11) true:=by
 refine⟨tQ aL,λW A n B V az O X z Q H G P=> ?_⟩;cases X with
 |cons _ _=>simp[bB.fill] at Q
 |nil=>
  simp only[bB.fill,cg] at Q;subst Q;have P:io (.ratio 10 11) J V=U az:=P;refine Z4 (K:=KA) (o:=(.ratio 10 11)) (N:=0) (n:=100) (inl:=[103]) (args:=[(.ah (.v 0)),(.fn 83 [])]) (loops:=[(103,2,⟨[(0,.ah (.own 56)),(8,.int I),(7,.int I)],[]⟩),(103,7,⟨[(0,.ah (.own 56)),(6,.int I)],[]⟩),(103,9,⟨[(0,.ah (.own 56)),(8,.int I),(7,.int I)],[]⟩)]) (srts:=[(120,83,56,.da 2 (.ratio 10 11) [],E),(121,83,56,.da (Y V+1+3) (.ratio 10 11) [],E)]) (chs:=[]) (F:=λX R=>if X=[]/\Y R<Y V+1 then io (.ratio 10 11) J R else Z) (t:=S5 56 83 120 121 (Y V+1) (.ratio 10 11)) rfl rfl rfl aL (λx L=> ?_) aL Ns aL (akv (WO 10 11)) (λX y h=> ?_) (λX R D h=> ?_) (λX R D h=> ?_) H G ?_;simp only[dJ,NM,or_false] at L;rcases L with rfl|rfl;exact ly.of (atH) qK;exact ly.of (akK _) qK;have:X=[]:=qG h;subst this;rfl;split at h;rename_i M;rw[aE (by rw[xN];exact M)];exact aac h;cases h;split at h;rename_i M;exact⟨by rw[M.1];rfl,U9 h⟩;cases h;rw[aE ⟨rfl,aa⟩];exact P
def atJ:oH Tryz.prog (look TT) 281 257 397 (.da 0 (.lex [4] J) []) false:=
 Ds (K:=KB) (n:=100) (args:=[(.ah (.v 0)),(.int I (.v 0)),(.int I (.v 1)),(.int I (.v 2)),(.fn 257 [])]) (loops:=[(281,1,⟨[(0,.ah (.own 397)),(10,.int I)],[]⟩)]) (srts:=[]) (chs:=[(281,3)]) (t:=SY 397 Jx) rfl rfl rfl aL (λx X=>by cases X) aL Nt aL (akl aae) (λW V h=>by obtain⟨a,b,c,rfl⟩:=zR h;rfl) (λW R az h=>FY aa h)
def atK:oH Tryz.prog (look TT) 280 257 397 (.da 1 (.lex [4] J) []) false:=
 Ds (K:=KB) (n:=100) (args:=[(.ah (.v 0)),(.int I (.v 0)),(.int I (.v 1)),(.int I (.v 2)),(.fn 257 [])]) (loops:=[(280,2,⟨[(0,.ah (.own 397)),(10,.int I),(11,.int I)],[]⟩)]) (srts:=[(281,257,397,.da 0 (.lex [4] J) [],E)]) (chs:=[]) (t:=SZ 397 257 281 (.lex [4] J)) rfl rfl rfl aL (λx X=>by simp only[NI] at X;subst X;exact ly.of (atJ) qK) aL Nt aL (akn) (λW V h=>by obtain⟨a,b,c,rfl⟩:=zR h;rfl) (λW R az h=>FY aa h)
def atL:oH Tryz.prog (look TT) 277 257 397 (.da 2 (.lex [4] J) []) false:=
 Ds (K:=KB) (n:=100) (args:=[(.ah (.v 0)),(.int I (.v 0)),(.int I (.v 1)),(.fn 257 [])]) (loops:=[(277,1,⟨[(0,.ah (.own 397)),(8,.int I)],[]⟩),(277,4,⟨[(0,.ah (.own 397)),(9,.int I)],[]⟩)]) (srts:=[]) (chs:=[(277,6)]) (t:=S2 397 257 Jx) rfl rfl rfl aL (λx X=>by cases X) aL Nt aL (akq aae (Qf [4] J)) (λW V h=>by obtain⟨a,b,rfl⟩:=two h;rfl) (λW R az h=>akj h)
def akL:∀N:Nat,oH Tryz.prog (look TT) 278 257 397 (.da (N+3) (.lex [4] J) []) E
 |0=>⟨tQ aL,λW A n M Q az O X L V H G P=>by
  simp only[bB.fill,cg] at V;subst V;exact(akF P).elim⟩
 |N+1=>Ds (K:=KB) (n:=100) (args:=[(.ah (.v 0)),(.int I (.v 0)),(.int I (.v 1)),(.int I (.v 2)),(.fn 257 [])]) (loops:=[(278,3,⟨[(0,.ah (.own 397)),(10,.int I),(11,.int I)],[]⟩),(278,9,⟨[(0,.ah (.own 397)),(13,.int I)],[]⟩),(278,15,⟨[(0,.ah (.own 397)),(14,.int I),(15,.int I)],[]⟩),(278,21,⟨[(0,.ah (.own 397)),(17,.int I)],[]⟩),(278,33,⟨[(0,.ah (.own 397)),(20,.int I),(21,.int I)],[]⟩)]) (srts:=[(280,257,397,.da 1 (.lex [4] J) [],E),(278,257,397,.da (N+3) (.lex [4] J) [],E)]) (chs:=[(278,11),(278,23)]) (t:=S4 397 257 280 278 N (.lex [4] J) Jx) rfl rfl rfl aL (λx R=>by
   simp only[dJ,NM,or_false] at R;rcases R with rfl|rfl;exact ly.of (atK) qK;exact ly.of (akL N) qK) aL Nt aL (akt aae (Qf [4] J)) (λX F h=>by obtain⟨a,b,c,rfl⟩:=zR h;rfl) (λX Q az h=>FY aa h)
def atM:oH Tryz.prog (look TT) 256 257 397 (.lex [4] J) true:=by
 refine⟨tQ aL,λW A n B V az O X z Q H G P=> ?_⟩;cases X with
 |cons _ _=>simp[bB.fill] at Q
 |nil=>
  simp only[bB.fill,cg] at Q;subst Q;have P:io (.lex [4] J) J V=U az:=P;refine Z4 (K:=KB) (o:=(.lex [4] J)) (N:=0) (n:=100) (inl:=[271]) (args:=[(.ah (.v 0)),(.fn 257 [])]) (loops:=[(271,2,⟨[(0,.ah (.own 397)),(8,.int I),(7,.int I)],[]⟩),(271,7,⟨[(0,.ah (.own 397)),(6,.int I)],[]⟩),(271,9,⟨[(0,.ah (.own 397)),(8,.int I),(7,.int I)],[]⟩)]) (srts:=[(277,257,397,.da 2 (.lex [4] J) [],E),(278,257,397,.da (Y V+1+3) (.lex [4] J) [],E)]) (chs:=[]) (F:=λX R=>if X=[]/\Y R<Y V+1 then io (.lex [4] J) J R else Z) (t:=S5 397 257 277 278 (Y V+1) (.lex [4] J)) rfl rfl rfl aL (λx L=> ?_) aL Nt aL (akv (Qf [4] J)) (λX y h=> ?_) (λX R D h=> ?_) (λX R D h=> ?_) H G ?_;simp only[dJ,NM,or_false] at L;rcases L with rfl|rfl;exact ly.of (atL) qK;exact ly.of (akL _) qK;have:X=[]:=qG h;subst this;rfl;split at h;rename_i M;rw[aE (by rw[xN];exact M)];exact aac h;cases h;split at h;rename_i M;exact⟨by rw[M.1];rfl,U9 h⟩;cases h;rw[aE ⟨rfl,aa⟩];exact P
section
open Go.Shelf Go.RowKit Go.Lib Go.Sort
def dZ{o:Option Func}{a b:Func}(h:o=U a)(e:a=b):o=U b:=h.trans (ji U e)
def Tryz.cmpInt_ren:Go.Shelf.Ren:=⟨λ|5=>87|7=>47|n=>n,λ|22=>3|3=>3|4=>4|n=>n,λ|n=>n⟩
def Tryz.cmpInt:Go.Proofs.SlLaysC2.n5 Tryz.prog Tryz.cmpInt_ren:={mixed:=by kernel_rfl,f5:=⟨Tryz.f87.name,eW,dZ Tryz.func87 (by kernel_rfl)⟩,f7:=⟨Tryz.f47.name,eW,dZ Tryz.func47 (by kernel_rfl)⟩,t3:=Tryz.underlying3,a3:=Tryz.isAgg3,z3:=Tryz.sizeOf3,v3:=Tryz.zeroValue3,t4:=Tryz.underlying4,a4:=Tryz.isAgg4,z4:=Tryz.sizeOf4,v4:=Tryz.zeroValue4,t22:=Tryz.underlying3,a22:=Tryz.isAgg3,z22:=Tryz.sizeOf3,v22:=Tryz.zeroValue3}
def Tryz.sortSg_ren:Go.Shelf.Ren:=⟨λ|6=>85|15=>105|14=>104|28=>129|29=>130|20=>120|21=>122|22=>123|23=>124|24=>125|25=>126|26=>127|27=>128|46=>149|47=>150|48=>151|49=>152|50=>153|57=>176|n=>n,λ|22=>30|24=>56|25=>200|3=>3|39=>109|0=>0|53=>248|55=>250|4=>4|46=>242|45=>241|50=>75|5=>5|9=>9|66=>279|70=>105|76=>319|77=>320|n=>n,λ|n=>n⟩
def Tryz.sortSg:Go.Proofs.SlLaysF0.n6 Tryz.prog Tryz.sortSg_ren:={mixed:=by kernel_rfl,f6:=⟨Tryz.f85.name,eW,dZ Tryz.func85 (by kernel_rfl)⟩,f14:=⟨Tryz.f104.name,eW,dZ Tryz.func104 (by kernel_rfl)⟩,f15:=dZ Tryz.func105 (by kernel_rfl),f20:=⟨Tryz.f120.name,eW,dZ Tryz.func120 (by kernel_rfl)⟩,f21:=⟨Tryz.f122.name,eW,dZ Tryz.func122 (by kernel_rfl)⟩,f22:=⟨Tryz.f123.name,eW,dZ Tryz.func123 (by kernel_rfl)⟩,f23:=⟨Tryz.f124.name,eW,dZ Tryz.func124 (by kernel_rfl)⟩,f24:=⟨Tryz.f125.name,eW,dZ Tryz.func125 (by kernel_rfl)⟩,f25:=⟨Tryz.f126.name,eW,dZ Tryz.func126 (by kernel_rfl)⟩,f26:=⟨Tryz.f127.name,eW,dZ Tryz.func127 (by kernel_rfl)⟩,f27:=⟨Tryz.f128.name,eW,dZ Tryz.func128 (by kernel_rfl)⟩,f28:=dZ Tryz.func129 (by kernel_rfl),f29:=dZ Tryz.func130 (by kernel_rfl),f46:=⟨Tryz.f149.name,eW,dZ Tryz.func149 (by kernel_rfl)⟩,f47:=dZ Tryz.func150 (by kernel_rfl),f48:=dZ Tryz.func151 (by kernel_rfl),f49:=⟨Tryz.f152.name,eW,dZ Tryz.func152 (by kernel_rfl)⟩,f50:=⟨Tryz.f153.name,eW,dZ Tryz.func153 (by kernel_rfl)⟩,f57:=⟨Tryz.f176.name,eW,dZ Tryz.func176 (by kernel_rfl)⟩,t0:=Tryz.underlying0,a0:=Tryz.isAgg0,z0:=Tryz.sizeOf0,v0:=Tryz.zeroValue0,t3:=Tryz.underlying3,a3:=Tryz.isAgg3,z3:=Tryz.sizeOf3,v3:=Tryz.zeroValue3,t4:=Tryz.underlying4,a4:=Tryz.isAgg4,z4:=Tryz.sizeOf4,v4:=Tryz.zeroValue4,t5:=Tryz.underlying5,a5:=Tryz.isAgg5,z5:=Tryz.sizeOf5,v5:=Tryz.zeroValue5,t9:=Tryz.underlying9,a9:=Tryz.isAgg9,z9:=Tryz.sizeOf9,v9:=Tryz.zeroValue9,t22:=Tryz.underlying30,a22:=Tryz.isAgg30,z22:=Tryz.sizeOf30,v22:=Tryz.zeroValue30,t25:=Tryz.underlying200,a25:=Tryz.isAgg200,z25:=Tryz.sizeOf200,v25:=Tryz.zeroValue200,t39:=Tryz.underlying109,a39:=Tryz.isAgg109,z39:=Tryz.sizeOf109,v39:=Tryz.zeroValue109,t45:=Tryz.underlying241,a45:=Tryz.isAgg241,z45:=Tryz.sizeOf241,v45:=Tryz.zeroValue241,t46:=Tryz.underlying242,a46:=Tryz.isAgg242,z46:=Tryz.sizeOf242,v46:=Tryz.zeroValue242,t50:=Tryz.underlying75,a50:=Tryz.isAgg75,z50:=Tryz.sizeOf75,v50:=Tryz.zeroValue75,t53:=Tryz.underlying248,a53:=Tryz.isAgg248,z53:=Tryz.sizeOf248,v53:=Tryz.zeroValue248,t55:=Tryz.underlying250,a55:=Tryz.isAgg250,z55:=Tryz.sizeOf250,v55:=Tryz.zeroValue250,t66:=Tryz.underlying279,a66:=Tryz.isAgg279,z66:=Tryz.sizeOf279,v66:=Tryz.zeroValue279,t70:=Tryz.underlying105,a70:=Tryz.isAgg105,z70:=Tryz.sizeOf105,v70:=Tryz.zeroValue105,t76:=Tryz.underlying319,a76:=Tryz.isAgg319,z76:=Tryz.sizeOf319,v76:=Tryz.zeroValue319,t77:=Tryz.underlying320,a77:=Tryz.isAgg320,z77:=Tryz.sizeOf320,v77:=Tryz.zeroValue320}
def atN(X O N M L H G F D B A z y x13 V x w v u t s p o n m l k j:Int)(W:World):Calls Tryz.prog 86 #[.agg #[.int I X,.int I O,.int I N,.int I M,.int I L,.int I H,.int I G,.int I F,.int I D,.int I B,.int I A,.int I z,.int I y,.int I x13],.agg #[.int I V,.int I x,.int I w,.int I v,.int I u,.int I t,.int I s,.int I p,.int I o,.int I n,.int I m,.int I l,.int I k,.int I j]] W λe Q=>e=.returned (.int I (Lib.compareInt X V))/\∃q i,Q=grow (W.drewN q) i:=by
 have R:=λP=>AnyG.cmp_Compare_int Tryz.cmpInt X V P
 change∀P,Calls Tryz.prog 87 _ _ _ at R;generalize Lib.compareInt X V=r at R⊢;go_enter Tryz.func86,Tryz.ntmps86
 go_wp2_with (go_at_call 87;refine(R _).mono ?_;rintro e Q ⟨rfl,rfl⟩)
 go_ret;exact⟨rfl,0,_,by rw[alloc_eq_grow,alloc_eq_grow,grow_grow];rfl⟩
end
section
attribute[local go_sem ↓] Go.wp_at_zero Go.wp_at_succ
open Go.Shelf Go.RowKit Go.Lib Go.Sort
def pL:Nat->Nat->List Nat->List Nat
 |0,_,g=>g
 |n+1,k,g=>if g.getD k 0=k then g else(pL n (g.getD k 0) g).set k ((pL n (g.getD k 0) g).getD (g.getD k 0) 0)
def akM{g:List Nat}:∀n k,(pL n k g).length=Y g
 |0,_=>rfl
 |n+1,k=>by
  simp only[pL];split;rfl;simp[akM n]
def akN{g:List Nat}(X:∀q,g.getD q 0<=q):∀n k q,k<q->(pL n k g).getD q 0=g.getD q 0
 |0,_,_,_=>rfl
 |n+1,k,q,h=>by
  simp only[pL];split;rfl;have:=X k;rw[cw,pM aa,<-cw];exact akN X n _ q aa
def InB(W:World)(b X:Nat)(g:List Nat):Prop:=∃cJ,W.heap[b]?=U (.cells cJ 3 (0,0))/\cJ.size=X/\∀q,q<Y g->cJ[q]?=U (.int I ((g.getD q 0:Nat):Int))
def atP(W:World)(X V b n R k:Nat)(P:W.cell? ⟨X,0,Z⟩=U (.slice (U ⟨b,0,Z⟩) n R))(_hl:W.cell? ⟨V,0,Z⟩=U (.func (.func 49) #[] #[.pointer (U ⟨X,0,Z⟩),.pointer (U ⟨V,0,Z⟩)]))
  (O:(0:Int)<=k)(N:(k:Int)<(n:Int))(M:W.cell? ⟨b,k,Z⟩=U (.int I k)):Calls Tryz.prog 49 #[.int I k,.pointer (U ⟨X,0,Z⟩),.pointer (U ⟨V,0,Z⟩)] W λe Q=>e=.returned (.int I k)/\Q=W:=by
 have L:((k:Int)!=k)=false:=au;go_enter Tryz.func49,Tryz.ntmps49;go_wp2;go_ret;exact⟨rfl,rfl⟩
def atQ(W:World)(V R b n P k j:Nat)(F:V≠b)(z:W.cell? ⟨V,0,Z⟩=U (.slice (U ⟨b,0,Z⟩) n P))(y:W.cell? ⟨R,0,Z⟩=U (.func (.func 49) #[] #[.pointer (U ⟨V,0,Z⟩),.pointer (U ⟨R,0,Z⟩)]))
  (x:(0:Int)<=k)(w:(k:Int)<(n:Int))(v:W.cell? ⟨b,k,Z⟩=U (.int I j))(u:j≠k)(r:Int)(Q:World->Prop)(H:∀X,Q X->X.cell? ⟨V,0,Z⟩=U (.slice (U ⟨b,0,Z⟩) n P)/\X.cell? ⟨R,0,Z⟩=U (.func (.func 49) #[] #[.pointer (U ⟨V,0,Z⟩),.pointer (U ⟨R,0,Z⟩)])/\X.cell? ⟨b,k,Z⟩=U (.int I j)/\X.frozen? ⟨b,k,Z⟩=E)
  (D:Calls Tryz.prog 49 #[.int I j,.pointer (U ⟨V,0,Z⟩),.pointer (U ⟨R,0,Z⟩)] W.drew λe X=>e=.returned (.int I r)/\Q X):
  Calls Tryz.prog 49 #[.int I k,.pointer (U ⟨V,0,Z⟩),.pointer (U ⟨R,0,Z⟩)] W λe X=>e=.returned (.int I r)/\∃O,Q O/\X=O.setCell ⟨b,k,Z⟩ (.int I r):=by
 have t:((j:Int)!=k)=true:=dG;have B:∀X,Q X->X.cell? ⟨V,0,Z⟩=U (.slice (U ⟨b,0,Z⟩) n P)/\X.cell? ⟨b,k,Z⟩=U (.int I j)/\X.frozen? ⟨b,k,Z⟩=E/\(X.setCell ⟨b,k,Z⟩ (.int I r)).cell? ⟨V,0,Z⟩=U (.slice (U ⟨b,0,Z⟩) n P)/\(X.setCell ⟨b,k,Z⟩ (.int I r)).cell? ⟨b,k,Z⟩=U (.int I r):=λX N=>by
  obtain⟨M,A,L,G⟩:=H X N;exact⟨M,L,G,(World.cell?_setCell_far _ _ _ _ (Ne.symm F)).trans M,World.cell?_setCell_same' _ _ _ (by rw[L];rfl)⟩
 clear H;go_enter Tryz.func49,Tryz.ntmps49;go_wp2
 go_region_with (first|(go_at_call 49;refine D.mono ?_;rintro e O ⟨rfl,N⟩;obtain⟨M,A,L,G,s⟩:=B O N))
 all_goals go_wp2
 all_goals go_ret
 all_goals exact⟨rfl,_,N,rfl⟩
def akO(b V:Nat)(W:World)(g:List Nat)(X:World):Prop:=W.grownBy X (U b)/\InB X b V g
def akP{R Q b n A sz:Nat}(z:R≠b)(t:Q≠b)(hn:(n:Int)<=1099511627776):∀(N k:Nat)(W:World)(g:List Nat),k<N->k<n->Y g=n->(∀q,g.getD q 0<=q)->
  W.cell? ⟨R,0,Z⟩=U (.slice (U ⟨b,0,Z⟩) n A)->W.cell? ⟨Q,0,Z⟩=U (.func (.func 49) #[] #[.pointer (U ⟨R,0,Z⟩),.pointer (U ⟨Q,0,Z⟩)])->InB W b sz g->
  Calls Tryz.prog 49 #[.int I k,.pointer (U ⟨R,0,Z⟩),.pointer (U ⟨Q,0,Z⟩)] W λe P=>e=.returned (.int I (((pL N k g).getD k 0:Nat):Int))/\akO b sz W (pL N k g) P
 |0,k,W,g,h,_,_,_,_,_,_=>bp h (Nat.not_lt_zero _)
 |N+1,k,W,g,hN,s,r,y,H,G,hb=>by
  obtain⟨cJ,x,p,w⟩:=hb;have o:∀q,q<n->W.cell? ⟨b,q,Z⟩=U (.int I ((g.getD q 0:Nat):Int)):=λq O=>by
   have:=w q aa;simp only[mC,x];simpa using this
  by_cases M:g.getD k 0=k;have L:pL (N+1) k g=g:=by simp only[pL,aE M]
  rw[L];have:=o k s;rw[M] at this⊢;refine(atP W R Q b n A k H G aa aa this).mono ?_;rintro e P ⟨rfl,rfl⟩;exact⟨rfl,World.grownBy.refl _ _,cJ,x,p,w⟩;have L:pL (N+1) k g=(pL N (g.getD k 0) g).set k ((pL N (g.getD k 0) g).getD (g.getD k 0) 0):=by simp only[pL,aJ M]
  have m:g.getD k 0<k:=NJ (y k) M;generalize l:g.getD k 0=j at M L m;generalize v:pL N j g=X at L;have an:Y X=n:=by rw[<-v,akM,r]
  have ag:X.getD k 0=j:=by rw[<-v,akN y N j k m,l]
  rw[L];have i:(X.set k (X.getD j 0)).getD k 0=X.getD j 0:=by
   rw[cw,Dy aa];rfl
  rw[i];have f:=akP z t hn N j W.drew g aa aa r y H G ⟨cJ,x,p,w⟩;rw[v] at f;have d:=o k s;rw[l] at d;refine(atQ W R Q b n A k j z H G aa aa d aa ((X.getD j 0:Nat):Int) (akO b sz W.drew X) ?_ f).mono ?_;rintro P ⟨V,F,D,c,B⟩;have hf:P.cell? ⟨b,k,Z⟩=U (.int I (j:Int)):=by
   have:=B k aa;rw[ag] at this;simp only[mC,D];simpa using this
  exact⟨V.cell H (by simpa using z),V.cell G (by simpa using t),hf,by simp[NR,D]⟩;rintro e P ⟨rfl,a,⟨V,F,D,c,B⟩,rfl⟩;refine⟨rfl,⟨V.os,V.tape,V.output,by rw[World.size_setCell];exact V.size,λq O af=> ?_⟩, ?_⟩;exact(Below.heap_setCell a _ _ q (by intro e;exact af (by rw[e]))).trans (V.block q O af);refine⟨F.setIfInBounds k (.int I ((X.getD j 0:Nat):Int)), ?_,by simpa using c,λq O=> ?_⟩;exact Go.Proofs.YtfpoabmmjhhncaaGreatDoor.Bx.set (show Go.Proofs.YtfpoabmmjhhncaaGreatDoor.Bx a b 3 F from D) _;rw[alx] at O;have al:k<F.size:=by
   have:=B k aa;exact(jg.1 this).1
  by_cases u:q=k;subst u;rw[i,awT al];rw[aav (Ne.symm u),B q O,cw,cw,pM (Ne.symm u)]
end
def qF(X:aq):ap:=X.map λW=>(aK 0 W).toNat
def Nu(X:aq)(q:Nat):(qF X).getD q 0=(aK 0 (X.getD q [])).toNat:=by
 simp only[qF,cw,dM];cases X[q]? with
 |none=>rfl
 |some W=>rfl
def akQ{X:aq}(h:kN X=J):∀(n:Nat)(i:Int),0<=i->i<Y X->qF (pn n i X)=pL n i.toNat (qF X)
 |0,_,_,_=>rfl
 |n+1,i,V,R=>by
  obtain⟨Q,N,P⟩:=U7 h V R;have O:=akQ h n _ Q P;simp only[pn,pL,Nu];by_cases W:aK 0 (X.getD i.toNat [])=i;rw[aE W,aE aa];rw[aJ W,aJ aa,<-O,Nu];simp only[qF,aaI]
def atS:acq Tryz.prog (look TT) 49 3:=by
 refine⟨tQ aL, ?_⟩;intro W b n B R az i z y tg tl f d a af M L H;have N:bm (look TT) (.sl 3)=[.int I]:=by rfl
 obtain⟨b0,h0,h1,G,ag⟩:=KM H;obtain⟨hn,b1⟩:=qZ M;have x:=fj.u0 M;rw[N] at L⊢;rcases L.mem with hz|⟨b',cJ,hA,w,al,an⟩;exfalso;omega;cases hA;have v:∀(q:Nat)(X:aC),R[q]?=U X->∃c,X=[c]/\c.val=.int I (aK 0 X):=λq X V=>by
  have u:=x.len q X V;rw[N] at u
  match X,u with
  |[c],_=>
   obtain⟨m,hm⟩:=x.int q 0 [c] c I V rfl (by rw[N];rfl);exact⟨c,rfl,by simp[aK,hm,bF]⟩
 have t:∀q:Nat,q<Y R->((qF R).getD q 0:Int)=aK 0 (R.getD q [])/\(qF R).getD q 0<=q:=λq V=>by
  have:=Cd G V;rw[Nu];omega
 have a0:InB W b cJ.size (qF R):=by
  refine⟨cJ,w,rfl,λq V=> ?_⟩;rw[qF,o8] at V;obtain⟨c,a1,a3⟩:=v q R[q] (ce V);have F:W.cell? ⟨b,0+q*1+0,Z⟩=U c.val:=by
   cases M with
   |sl e A b3 B R g1 g2 g3 gi gb go=>
    obtain⟨-,b2,b4,e2,-,g4⟩:=g3 q R[q] (ce V);cases e2;have:=g4 0 c (by rw[a1];rfl);rw[N] at this;exact this
  rw[a3] at F;simp only[mC,w] at F;have e3:((qF R).getD q 0:Int)=aK 0 R[q]:=by
   rw[(t q V).1,cw,ce V];rfl
  rw[e3];simpa using F
 have a4:∀q,(qF R).getD q 0<=q:=λq=>by
  by_cases V:q<Y R;exact(t q V).2;rw[Nu,cw,jx aa];show(0:Int).toNat<=q;simp
 have a9:(qF R).length=n:=by rw[qF,o8,hn]
 have ba:W.cell? ⟨z,0,Z⟩=U (.slice (U ⟨b,0,Z⟩) n B):=by simp[mC,f]
 have bb:W.cell? ⟨y,0,Z⟩=U (.func (.func 49) #[] #[.pointer (U ⟨z,0,Z⟩),.pointer (U ⟨y,0,Z⟩)]):=by simp[mC,d]
 have bc:((i.toNat:Nat):Int)=i:=aa;have s:=akP a af (sz:=cJ.size) aa (Y R) i.toNat W (qF R) aa aa a9 a4 ba bb a0;rw[bc] at s;refine s.mono ?_;rintro e w' ⟨rfl,bd,bf,bk,br,o⟩;have k:=akQ G (Y R) i h0 h1;rw[<-ag] at k;rw[<-k] at o⊢;have b5:Y az=Y R:=U8 H;have bs:=OW H;have j:∀(q:Nat)(X:aC),az[q]?=U X->∃c,X=[c]/\c.val=.int I (aK 0 X)/\0<=aK 0 X:=λq X V=>by
  obtain⟨p,Q⟩:=qI (bs X (iU V));obtain⟨c,P,O⟩:=v p X Q;have bt:p<Y R:=(bJ.1 Q).1;have:=(Cd G bt).1;rw[cw,Q] at this;exact⟨c,P,O,this⟩
 have g:∀q,q<Y az->(((qF az).getD q 0:Nat):Int)=aK 0 (az.getD q []):=λq V=>by
  obtain⟨c,-,-,c3⟩:=j q az[q] (ce V);rw[Nu,cw,ce V];show((aK 0 az[q]).toNat:Int)=aK 0 az[q];omega
 refine⟨by rw[g _ aa],bd,aa,L.nil,.inr ⟨b,bf,rfl,bk,al,by rw[br];exact an, ?_,.inr rfl⟩⟩;apply jV;intro q;have bx:dX az=az.map λX=>Value.int I (aK 0 X):=by
  have:∀l:aq,(∀X∈l,∃c,X=[c]/\c.val=.int I (aK 0 X))->dX l=l.map λX=>Value.int I (aK 0 X):=by
   intro l;induction l with
   |nil=>intro _;rfl
   |cons r l ih=>
    intro h;obtain⟨c,P,O⟩:=h r JF;have:=ih λX D=>h X (By _ D)
    simp only[dX,Tq,ep] at this⊢;rw[this,<-O,P];rfl
  refine this az λX D=> ?_
  obtain⟨p,Q⟩:=qI D;obtain⟨c,P,O,-⟩:=j p X Q;exact⟨c,P,O⟩
 rw[bx,lT,dM];simp only[NE,alO];by_cases V:q<Y az;rw[aE V,Tk,o q (by rw[qF,o8];exact V),g q V,ce V];simp[cw,ce V];rw[aJ V,jx aa];rfl
section
attribute[local go_sem ↓] Go.wp_at_zero Go.wp_at_succ
open Go.Shelf Go.RowKit Go.Lib Go.Sort
def mA:List Int->Int
 |[]=>0
 |a::l=>if a=0 then mA l else a
def or2(b:Nat)(X V:Int)(W:World)(L:W.cell? ⟨b,0,Z⟩=U (.int I X))(H:W.cell? ⟨b,1,Z⟩=U (.int I V)):Calls Tryz.prog 173 #[.slice (U ⟨b,0,Z⟩) 2 2] W λe O=>e=.returned (.int I (mA [X,V]))/\O=W:=by
 by_cases R:X=0;have N:(X !=0)=false:=by simp[R]
 by_cases P:V=0
 ·have M:(V !=0)=false:=by simp[P]
  have Q:mA [X,V]=0:=by simp[mA,R,P]
  rw[Q];clear Q;clear R P;go_enter Tryz.func173,Tryz.ntmps173;go_wp2;refine wp_loop_rounds 3 ?_
  iterate 3 (rw[rounds_succ];go_wp2)
  go_ret;exact⟨rfl,rfl⟩
 ·have M:(V !=0)=true:=by simp[P]
  have Q:mA [X,V]=V:=by simp[mA,R,P]
  rw[Q];clear Q;clear R P;go_enter Tryz.func173,Tryz.ntmps173;go_wp2;refine wp_loop_rounds 3 ?_
  iterate 2 (rw[rounds_succ];go_wp2)
  go_ret;exact⟨rfl,rfl⟩
 ·have N:(X !=0)=true:=by simp[R]
  have Q:mA [X,V]=X:=by simp[mA,R]
  rw[Q];clear Q;clear R;go_enter Tryz.func173,Tryz.ntmps173;go_wp2;refine wp_loop_rounds 3 ?_
  iterate 1 (rw[rounds_succ];go_wp2)
  go_ret;exact⟨rfl,rfl⟩
def Nv(W:World)(V R:Obj)(X:Array Value)(t:TypeId)(i:Nat)(v:Value)(h:X[i]?=U v):(((W.alloc V).alloc R).alloc (.cells X t)).drew.cell? ⟨W.heap.size+1+1,i,Z⟩=U v:=by
 have e:(((W.alloc V).alloc R).alloc (.cells X t)).heap[W.heap.size+1+1]?=U (.cells X t):=by
  have:=heap_alloc_new ((W.alloc V).alloc R) (.cells X t);simpa using this
 show mC _ _=_;simp only[mC,World.drew,e];simpa using h
def akR(W:World)(X V R:Obj):∃q Q,(((W.alloc X).alloc V).alloc R).drew=grow (W.drewN q) Q:=⟨1, #[X]++ #[V]++ #[R],by rw[alloc_eq_grow,alloc_eq_grow,alloc_eq_grow,grow_grow,grow_grow];rfl⟩
def atU(V R Q P:Int)(W:World):Calls Tryz.prog 188 #[.agg #[.int I V,.int I R],.agg #[.int I Q,.int I P]] W λe X=>e=.returned (.int I (mA [Lib.compareInt R P,Lib.compareInt V Q]))/\∃q L,X=grow (W.drewN q) L:=by
 have O:=λx y N=>AnyG.cmp_Compare_int Tryz.cmpInt x y N
 change∀x y N,Calls Tryz.prog 87 _ _ _ at O;generalize Lib.compareInt=M at O⊢;go_enter Tryz.func188,Tryz.ntmps188;go_wp2
 go_region_held3 (λX=>X.cell? ⟨W.heap.size,0,Z⟩=U (.int I V)/\X.cell? ⟨W.heap.size,1,Z⟩=U (.int I R)/\X.cell? ⟨W.heap.size+1,0,Z⟩=U (.int I Q)/\X.cell? ⟨W.heap.size+1,1,Z⟩=U (.int I P)) (go_keep)
  (first|(go_at_call 87;refine(O _ _ _).mono ?_;rintro e X ⟨rfl,rfl⟩)|(go_at_call 173;refine Calls.mono (or2 _ (M R P) (M V Q) _ (Nv _ _ _ _ _ _ _ rfl) (Nv _ _ _ _ _ _ _ rfl)) ?_;rintro e X ⟨rfl,rfl⟩))
 all_goals go_wp2
 all_goals go_ret
 exact⟨rfl,akR _ _ _ _⟩
def or3(b:Nat)(V R Q:Int)(W:World)(F:W.cell? ⟨b,0,Z⟩=U (.int I V))(D:W.cell? ⟨b,1,Z⟩=U (.int I R))(B:W.cell? ⟨b,2,Z⟩=U (.int I Q)):Calls Tryz.prog 173 #[.slice (U ⟨b,0,Z⟩) 3 3] W λe M=>e=.returned (.int I (mA [V,R,Q]))/\M=W:=by
 by_cases P:V=0;have L:(V !=0)=false:=by simp[P]
 by_cases O:R=0;have H:(R !=0)=false:=by simp[O]
 by_cases N:Q=0
 ·have G:(Q !=0)=false:=by simp[N]
  have X:mA [V,R,Q]=0:=by simp[mA,P,O,N]
  rw[X];clear X;clear P O N;go_enter Tryz.func173,Tryz.ntmps173;go_wp2;refine wp_loop_rounds 4 ?_
  iterate 4 (rw[rounds_succ];go_wp2)
  go_ret;exact⟨rfl,rfl⟩
 ·have G:(Q !=0)=true:=by simp[N]
  have X:mA [V,R,Q]=Q:=by simp[mA,P,O,N]
  rw[X];clear X;clear P O N;go_enter Tryz.func173,Tryz.ntmps173;go_wp2;refine wp_loop_rounds 4 ?_
  iterate 3 (rw[rounds_succ];go_wp2)
  go_ret;exact⟨rfl,rfl⟩
 ·have H:(R !=0)=true:=by simp[O]
  have X:mA [V,R,Q]=R:=by simp[mA,P,O]
  rw[X];clear X;clear P O;go_enter Tryz.func173,Tryz.ntmps173;go_wp2;refine wp_loop_rounds 4 ?_
  iterate 2 (rw[rounds_succ];go_wp2)
  go_ret;exact⟨rfl,rfl⟩
 ·have L:(V !=0)=true:=by simp[P]
  have X:mA [V,R,Q]=V:=by simp[mA,P]
  rw[X];clear X;clear P;go_enter Tryz.func173,Tryz.ntmps173;go_wp2;refine wp_loop_rounds 4 ?_
  iterate 1 (rw[rounds_succ];go_wp2)
  go_ret;exact⟨rfl,rfl⟩
def w52(V R Q P O N:Int)(W:World):Calls Tryz.prog 145 #[.agg #[.int I V,.int I R,.int I Q],.agg #[.int I P,.int I O,.int I N]] W λe X=>e=.returned (.int I (mA [Lib.compareInt V P,Lib.compareInt R O,Lib.compareInt Q N]))/\∃q G,X=grow (W.drewN q) G:=by
 have M:=λx y H=>AnyG.cmp_Compare_int Tryz.cmpInt x y H
 change∀x y H,Calls Tryz.prog 87 _ _ _ at M;generalize Lib.compareInt=L at M⊢;go_enter Tryz.func145,Tryz.ntmps145;go_wp2
 go_region_held3 (λX=>X.cell? ⟨W.heap.size,0,Z⟩=U (.int I V)/\X.cell? ⟨W.heap.size,1,Z⟩=U (.int I R)/\X.cell? ⟨W.heap.size,2,Z⟩=U (.int I Q)/\X.cell? ⟨W.heap.size+1,0,Z⟩=U (.int I P)/\X.cell? ⟨W.heap.size+1,1,Z⟩=U (.int I O)/\X.cell? ⟨W.heap.size+1,2,Z⟩=U (.int I N)) (go_keep)
  (first|(go_at_call 87;refine(M _ _ _).mono ?_;rintro e X ⟨rfl,rfl⟩)|(go_at_call 173;refine Calls.mono (or3 _ (L V P) (L R O) (L Q N) _ (Nv _ _ _ _ _ _ _ rfl) (Nv _ _ _ _ _ _ _ rfl) (Nv _ _ _ _ _ _ _ rfl)) ?_;rintro e X ⟨rfl,rfl⟩))
 all_goals go_wp2
 all_goals go_ret
 exact⟨rfl,akR _ _ _ _⟩
end
section
open Go.Shelf Go.RowKit
open Go.Sort (flatK get_flatK size_flatK HoldsK putRowK size_putRowK grow)
def IV(k:Nat)(x:aZ):aC:=(e8 k).map λi=>RV.mk (.int I (x.getD i 0)) []
def ju(k:Nat)(x:aZ):eX:=(e8 k).map λi=>Value.int I (x.getD i 0)
def aah(k:Nat)(x:aZ):(IV k x).length=k:=by simp[IV]
def aai(h:P<X):(IV X L)[P]?=U (RV.mk (.int I (L.getD P 0)) []):=by simp[IV,h]
def atX(h:P<X):aK P (IV X L)=L.getD P 0:=by
 unfold aK;rw[cw,aai h];rfl
def vU(X:ap)(x y:aZ):Int:=mA (X.map λc=>Lib.compareInt (x.getD c 0) (y.getD c 0))
def aaj{k:Nat}{x y:aZ}:∀{cs:ap},(∀c∈cs,c<k)->decide (vU cs x y<0)=i7 E cs (IV k x) (IV k y)
 |[],_=>rfl
 |c::cs,h=>by
  have R:=aaj (x:=x) (y:=y) (cs:=cs) (λc W=>h c (by simp[W]));have W:c<k:=h c au;simp only[vU,ep,mA,i7,atX W] at R⊢;generalize x.getD c 0=p;generalize y.getD c 0=q;by_cases V:p=q;rw[aE V,aE (by simp[Lib.compareInt,V])];exact R;rw[aJ V];by_cases X:p<q;have e:Lib.compareInt p q=-1:=by simp[Lib.compareInt,X]
  simp[e,X];have Q:p>q:=aa;have e:Lib.compareInt p q=1:=by simp[Lib.compareInt,X,Q]
  simp[e,X]
def aak(h:∀c∈H,c<X):Go.Sort.SWO (ltOf (vU H)):=by
 have w:=Qf H E;have e:∀x y,ltOf (vU H) x y=(bB.lex H E).lt (IV X x) (IV X y):=λx y=>aaj h
 exact⟨λx=>by rw[e];exact w.Qc _ rfl,λx y z W V=>by rw[e] at*;exact w.tr _ _ _ rfl rfl rfl W V,λx y z W V=>by rw[e] at*;exact w.nt _ _ _ rfl rfl rfl W V⟩
def akS:∀{k:Nat}{X:aC},iN (ew k J) X->Y X=k/\∀c∈X,c=.mk (.int I (bF c.val)) []
 |0,X,h=>by cases h;simp
 |k+1,[],h=>h.elim
 |k+1,c::r,h=>by
  obtain⟨⟨n,rfl⟩,W⟩:(∃n,c=.mk (.int I n) [])/\iN (ew k J) r:=h;obtain⟨V,R⟩:=akS W;exact⟨by simp[V],λc Q=>(dJ.1 Q).elim (λe=>by subst e;rfl) (R c)⟩
def unI(X:aC):aZ:=X.map λc=>bF c.val
def atY(h:iN (ew X J) Q):IV X (unI Q)=Q:=by
 obtain⟨P,V⟩:=akS h;apply jV;intro i;by_cases R:i<X;rw[aai R];have W:i<Y Q:=aa;rw[ce W,V _ (pN W)];simp[unI,cw,W];rw[jx (by rw[aah];omega),jx aa]
def atZ(h:∀x∈N,iN (ew X J) x):∃d:Array aZ,N=d.toList.map (IV X):=by
 refine⟨(N.map unI).toArray, ?_⟩;simp only[mT]
 conv=>lhs;rw[<-List.map_id N]
 exact jh λx W=>(atY (h x W)).symm
def akT(d:Array aZ)(W:P<d.size*X):(dX (d.toList.map (IV X)))[P]?=U ((flatK (ju X) X d)[P]!):=by
 have Q:0<X:=by
  rcases BB X with rfl|h;omega;exact h
 have O:P/X<d.size:=aln (by rw[NS];exact W);have V:P%X<X:=JN _ Q;have e:P=P/X*X+P%X:=by have:=aaF P X;rw[NS] at this;omega
 have:=Kt (w:=X) (rows:=d.toList.map (IV X)) (λi N R=>by
  simp only[dM,ND] at R;obtain⟨x,_,rfl⟩:=R;exact aah X x) (i:=P/X) (j:=P%X) (row:=IV X d[P/X]!) (by simp[O]) (aai V)
 rw[<-e] at this;rw[this,get_flatK _ _ _ _ W];congr 1;have:(ju X d[P/X]!)[P%X]?=U (.int I ((d[P/X]!).getD (P%X) 0)):=by simp[ju,V]
 rw[List.getElem!_eq_getElem?_getD,this];rfl
def at0(d:Array aZ):(dX (d.toList.map (IV X))).length=d.size*X:=by
 have:=yD (w:=X) (rows:=d.toList.map (IV X)) (λi V W=>by
  simp only[dM,ND] at W;obtain⟨x,_,rfl⟩:=W;exact aah X x)
 simpa using this
def at1(Q:R.heap[X]?=U (.cells O V (0,0)))(j:Nat):R.frozen? ⟨X,j,Z⟩=false:=by
 simp[NR,Q]
def at2{Q:Ty}{n N k:Nat}{d:Array aZ}(h:bu R Q (.sl X) (.mk (.slice (U ⟨P,0,Z⟩) n N) (d.toList.map (IV k))))(M:R.heap[P]?=U (.cells O X (0,0))):HoldsK (ju k) k R P 0 d:=by
 intro j V;rw[size_flatK] at V;obtain⟨G,F,L,_,H⟩:=Ku h j _ (akT d V);cases L;exact⟨H,at1 M _⟩
def at3{m:Nat}{d Q:Array aZ}{os:Array Obj}(M:R.heap[P]?=U (.cells O V (0,0)))(B:HoldsK (ju X) X R P 0 d)(A:Q.size=d.size):
  R.grownBy (sortWorldK (ju X) X R P 0 m Q os) (U P)/\∃L,(sortWorldK (ju X) X R P 0 m Q os).heap[P]?=U (.cells L V (0,0))/\L.size=O.size/\L.toList.take (Q.size*X)=dX (Q.toList.map (IV X)):=by
 have H:P<R.heap.size:=(jg.1 M).1;have z:(putRowK (ju X) X (Sort.ahead R m) P 0 Q).heap.size=R.heap.size:=by rw[size_putRowK];rfl
 have G:∀i,i<R.heap.size->(sortWorldK (ju X) X R P 0 m Q os).heap[i]?=(R.heap.modify P (Sort.onCells (Sort.putCells id 0 (flatK (ju X) X Q))))[i]?:=by
  intro i F;show(_++os)[i]?=_;rw[awX (by rw[z];exact F)];rfl
 refine⟨⟨rfl,rfl,rfl, ?_,λi F y=> ?_⟩,Sort.putCells id 0 (flatK (ju X) X Q) O, ?_, ?_, ?_⟩;exact size_sortWorldK_c (ju X) X R P 0 m Q os;rw[G i F,JB,aJ (λD=>y (by rw[D]))];rw[G P H,JB,aE rfl,M];rfl;simp[Sort.putCells];have D:=holdsK_sortWorldK_c (ju X) X R P 0 d Q m os B H A;have x:(sortWorldK (ju X) X R P 0 m Q os).heap[P]?=U (.cells (Sort.putCells id 0 (flatK (ju X) X Q) O) V (0,0)):=by rw[G P H,JB,aE rfl,M];rfl
 apply jV;intro q;rw[lT];by_cases N:q<Q.size*X;rw[aE N,akT Q N];have:=(D q (by rw[size_flatK];exact N)).1;simpa[mC,x] using this;rw[aJ N,jx (by rw[at0];omega)]
def akU{lt:aC->aC->Bool}:∀{l:aq},uW lt l=J->l.Pairwise (λx y=>lt x y=J\/lt y x=J)
 |[],_=>uD
 |x::r,h=>by
  simp only[uW,aw,eO,iD] at h;exact iv.2 ⟨h.1,akU h.2⟩
def aam{f g:FuncId}{k:Nat}(a1:tP Tryz.prog f=J)(F:bm (look TT) (.sl V)=(ew k J).map Bs)(hc:∀c∈H,c<k)
  (a3:∀p R fv W,Calls Tryz.prog f #[.slice p 0 R,fv] W λP D=>P=.returned (.tuple #[])/\D=W)
  (a4:∀(b R:Nat)(d:Array aZ)(W:World),HoldsK (ju k) k W b 0 d->b<W.heap.size->d.size<4611686018427387904->Calls Tryz.prog f #[.slice (U ⟨b,0,Z⟩) d.size R,.func (.func g) #[] #[]] W λP D=>P=.returned (.tuple #[])/\∃X n B,Go.Sort.PermIn 0 d.size d X/\Go.Sort.SortedIn (ltOf (vU H)) 0 d.size X/\D=sortWorldK (ju k) k W b 0 n X B):
  oH Tryz.prog (look TT) f g V (.lex H E) false:=by
 refine⟨tQ a1,λW A n R w az O ns bs v u L t=> ?_⟩;cases ns with
 |cons _ _=>simp[bB.fill] at v
 |nil=>
  simp only[bB.fill,cg] at v;subst v;have t:io (.lex H E) E w=U az:=t;obtain⟨hl,bt⟩:=qZ u;have hk:(bm (look TT) (.sl V)).length=k:=by rw[F];simp
  rw[hk] at L⊢;have Q:=aac t;simp only[io] at Q;split at Q
  case isFalse=>cases Q
  rename_i o;simp only[aw,bZ,iD,iC,false_or] at o;obtain⟨l,_,a⟩:=o;have Q:=lf Q;have bx:Y az=Y w:=by rw[<-xN az,<-Q,oI,xN]
  by_cases hn:n=0;subst hn;have h0:az=[]:=qG aa;subst h0;refine(a3 A R _ W).mono ?_;rintro P W' ⟨rfl,rfl⟩;refine⟨rfl,⟨rfl,rfl,rfl,bU _,λ_ _ _=>rfl⟩,⟨NT _,L.nil, ?_⟩⟩;rcases L.mem with h|⟨b,cJ,rfl,N,s,r⟩;exact .inl h;cases R with
  |zero=>exact .inl rfl
  |succ c=>exact .inr ⟨b,cJ,rfl,N,s,r,by simp[dX],.inr rfl⟩
  rcases L.mem with h|⟨b,cJ,rfl,N,s,r⟩;omega;have hp:∀(j:Nat)(z:Value)(q:RK),(bm (look TT) (.sl V))[j]?≠U (.ac z q):=by
   intro j z q M;rw[F,dM] at M;cases G:(ew k J)[j]? with
   |none=>rw[G] at M;cases M
   |some b=>rw[G] at M;cases b<;>simp[Bs] at M
  have af:=akh hp u;obtain⟨d,hd⟩:=atZ (akg F (fj.u0 u));have ag:d.size=n:=by
   have h3:(eK w).length=(d.toList.map (IV k)).length:=ji Y hd;rw[xN,o8,BA] at h3;exact h3.symm.trans hl
  rw[hd] at af Q a l;have al:=at2 af N;have G:b<W.heap.size:=(jg.1 N).1;have a9:kS (U ⟨b,0,Z⟩) R=U b:=by
   cases R with
   |zero=>omega
   |succ c=>rfl
  have an:=a4 b R d W al G (by simp at l;omega);rw[ag] at an;refine Calls.mono an ?_;rintro P W' ⟨rfl,X,m,B,a0,ba,rfl⟩;have hs:X.size=d.size:=a0.1;obtain⟨g1,bb,g2,g3,g4⟩:=at3 (m:=m) (os:=B) N al hs;have bc:X.toList.Perm d.toList:=by
   have:=a0.2.2;rw[<-ag] at this;have e1:X.extract 0 d.size=X:=by rw[<-hs];exact axu
   have e2:d.extract 0 d.size=d:=axu
   rwa [e1,e2] at this
  have bd:gg (bB.lex H E).lt (X.toList.map (IV k)):=by
   refine alu.2 (NC.2 λi j hi hj bf=> ?_);have bg:j<X.size:=by simpa using hj
   have bk:i<X.size:=by simpa using hi
   have:=ba i j (NT _) bf aa;have V:=aaj (k:=k) (x:=X[j]) (y:=X[i]) hc;rw[getElem!_pos X j bg,getElem!_pos X i bk] at this;show i7 E H (IV k X.toList[j]) (IV k X.toList[i])=E;rw[axi,axi,<-V];exact this
  have bl:X.toList.map (IV k)=eK az:=by
   rw[<-Q,<-arh (lt:=(bB.lex H E).lt) (ajd E H) (aje E H) (bc.map (IV k)) (akU a)];exact(Qd bd).symm
  rw[a9];refine⟨rfl,g1,⟨aa,λh=>(by cases h),.inr ⟨b,bb,rfl,g2,s,by rw[g3,r], ?_,.inr rfl⟩⟩⟩;have br:Y az=X.size:=aa;rw[br,g4,bl,ake]
end
section
open Go.Shelf Go.RowKit
open Go.Sort (HoldsK)
def Tryz.sortOb_ren:Go.Shelf.Ren:=⟨λ|6=>144|15=>105|14=>172|28=>129|29=>130|20=>193|21=>194|22=>195|23=>196|24=>197|25=>198|26=>199|27=>200|46=>223|47=>150|48=>151|49=>224|50=>225|57=>252|n=>n,λ|22=>271|24=>267|25=>273|3=>3|39=>109|0=>0|53=>248|55=>250|4=>4|46=>242|45=>241|50=>75|5=>5|9=>9|66=>279|70=>105|76=>319|77=>320|n=>n,λ|n=>n⟩
def Tryz.sortOb:Go.Proofs.SlLaysF0.n6 Tryz.prog Tryz.sortOb_ren:={mixed:=aL,f6:=⟨Tryz.f144.name,eW,dZ Tryz.func144 aL⟩,f14:=⟨Tryz.f172.name,eW,dZ Tryz.func172 aL⟩,f15:=dZ Tryz.func105 aL,f20:=⟨Tryz.f193.name,eW,dZ Tryz.func193 aL⟩,f21:=⟨Tryz.f194.name,eW,dZ Tryz.func194 aL⟩,f22:=⟨Tryz.f195.name,eW,dZ Tryz.func195 aL⟩,f23:=⟨Tryz.f196.name,eW,dZ Tryz.func196 aL⟩,f24:=⟨Tryz.f197.name,eW,dZ Tryz.func197 aL⟩,f25:=⟨Tryz.f198.name,eW,dZ Tryz.func198 aL⟩,f26:=⟨Tryz.f199.name,eW,dZ Tryz.func199 aL⟩,f27:=⟨Tryz.f200.name,eW,dZ Tryz.func200 aL⟩,f28:=dZ Tryz.func129 aL,f29:=dZ Tryz.func130 aL,f46:=⟨Tryz.f223.name,eW,dZ Tryz.func223 aL⟩,f47:=dZ Tryz.func150 aL,f48:=dZ Tryz.func151 aL,f49:=⟨Tryz.f224.name,eW,dZ Tryz.func224 aL⟩,f50:=⟨Tryz.f225.name,eW,dZ Tryz.func225 aL⟩,f57:=⟨Tryz.f252.name,eW,dZ Tryz.func252 aL⟩,t0:=Tryz.underlying0,a0:=Tryz.isAgg0,z0:=Tryz.sizeOf0,v0:=Tryz.zeroValue0,t3:=Tryz.underlying3,a3:=Tryz.isAgg3,z3:=Tryz.sizeOf3,v3:=Tryz.zeroValue3,t4:=Tryz.underlying4,a4:=Tryz.isAgg4,z4:=Tryz.sizeOf4,v4:=Tryz.zeroValue4,t5:=Tryz.underlying5,a5:=Tryz.isAgg5,z5:=Tryz.sizeOf5,v5:=Tryz.zeroValue5,t9:=Tryz.underlying9,a9:=Tryz.isAgg9,z9:=Tryz.sizeOf9,v9:=Tryz.zeroValue9,t22:=Tryz.underlying271,a22:=Tryz.isAgg271,z22:=Tryz.sizeOf271,v22:=Tryz.zeroValue271,t25:=Tryz.underlying273,a25:=Tryz.isAgg273,z25:=Tryz.sizeOf273,v25:=Tryz.zeroValue273,t39:=Tryz.underlying109,a39:=Tryz.isAgg109,z39:=Tryz.sizeOf109,v39:=Tryz.zeroValue109,t45:=Tryz.underlying241,a45:=Tryz.isAgg241,z45:=Tryz.sizeOf241,v45:=Tryz.zeroValue241,t46:=Tryz.underlying242,a46:=Tryz.isAgg242,z46:=Tryz.sizeOf242,v46:=Tryz.zeroValue242,t50:=Tryz.underlying75,a50:=Tryz.isAgg75,z50:=Tryz.sizeOf75,v50:=Tryz.zeroValue75,t53:=Tryz.underlying248,a53:=Tryz.isAgg248,z53:=Tryz.sizeOf248,v53:=Tryz.zeroValue248,t55:=Tryz.underlying250,a55:=Tryz.isAgg250,z55:=Tryz.sizeOf250,v55:=Tryz.zeroValue250,t66:=Tryz.underlying279,a66:=Tryz.isAgg279,z66:=Tryz.sizeOf279,v66:=Tryz.zeroValue279,t70:=Tryz.underlying105,a70:=Tryz.isAgg105,z70:=Tryz.sizeOf105,v70:=Tryz.zeroValue105,t76:=Tryz.underlying319,a76:=Tryz.isAgg319,z76:=Tryz.sizeOf319,v76:=Tryz.zeroValue319,t77:=Tryz.underlying320,a77:=Tryz.isAgg320,z77:=Tryz.sizeOf320,v77:=Tryz.zeroValue320}
def Tryz.sortBr_ren:Go.Shelf.Ren:=⟨λ|6=>213|15=>105|14=>241|28=>129|29=>130|20=>260|21=>261|22=>262|23=>263|24=>264|25=>265|26=>266|27=>267|46=>273|47=>150|48=>151|49=>274|50=>275|57=>279|n=>n,λ|22=>306|24=>310|25=>339|3=>3|39=>109|0=>0|53=>248|55=>250|4=>4|46=>242|45=>241|50=>75|5=>5|9=>9|66=>279|70=>105|76=>319|77=>320|n=>n,λ|n=>n⟩
def Tryz.sortBr:Go.Proofs.SlLaysF0.n6 Tryz.prog Tryz.sortBr_ren:={mixed:=aL,f6:=⟨Tryz.f213.name,eW,dZ Tryz.func213 aL⟩,f14:=⟨Tryz.f241.name,eW,dZ Tryz.func241 aL⟩,f15:=dZ Tryz.func105 aL,f20:=⟨Tryz.f260.name,eW,dZ Tryz.func260 aL⟩,f21:=⟨Tryz.f261.name,eW,dZ Tryz.func261 aL⟩,f22:=⟨Tryz.f262.name,eW,dZ Tryz.func262 aL⟩,f23:=⟨Tryz.f263.name,eW,dZ Tryz.func263 aL⟩,f24:=⟨Tryz.f264.name,eW,dZ Tryz.func264 aL⟩,f25:=⟨Tryz.f265.name,eW,dZ Tryz.func265 aL⟩,f26:=⟨Tryz.f266.name,eW,dZ Tryz.func266 aL⟩,f27:=⟨Tryz.f267.name,eW,dZ Tryz.func267 aL⟩,f28:=dZ Tryz.func129 aL,f29:=dZ Tryz.func130 aL,f46:=⟨Tryz.f273.name,eW,dZ Tryz.func273 aL⟩,f47:=dZ Tryz.func150 aL,f48:=dZ Tryz.func151 aL,f49:=⟨Tryz.f274.name,eW,dZ Tryz.func274 aL⟩,f50:=⟨Tryz.f275.name,eW,dZ Tryz.func275 aL⟩,f57:=⟨Tryz.f279.name,eW,dZ Tryz.func279 aL⟩,t0:=Tryz.underlying0,a0:=Tryz.isAgg0,z0:=Tryz.sizeOf0,v0:=Tryz.zeroValue0,t3:=Tryz.underlying3,a3:=Tryz.isAgg3,z3:=Tryz.sizeOf3,v3:=Tryz.zeroValue3,t4:=Tryz.underlying4,a4:=Tryz.isAgg4,z4:=Tryz.sizeOf4,v4:=Tryz.zeroValue4,t5:=Tryz.underlying5,a5:=Tryz.isAgg5,z5:=Tryz.sizeOf5,v5:=Tryz.zeroValue5,t9:=Tryz.underlying9,a9:=Tryz.isAgg9,z9:=Tryz.sizeOf9,v9:=Tryz.zeroValue9,t22:=Tryz.underlying306,a22:=Tryz.isAgg306,z22:=Tryz.sizeOf306,v22:=Tryz.zeroValue306,t25:=Tryz.underlying339,a25:=Tryz.isAgg339,z25:=Tryz.sizeOf339,v25:=Tryz.zeroValue339,t39:=Tryz.underlying109,a39:=Tryz.isAgg109,z39:=Tryz.sizeOf109,v39:=Tryz.zeroValue109,t45:=Tryz.underlying241,a45:=Tryz.isAgg241,z45:=Tryz.sizeOf241,v45:=Tryz.zeroValue241,t46:=Tryz.underlying242,a46:=Tryz.isAgg242,z46:=Tryz.sizeOf242,v46:=Tryz.zeroValue242,t50:=Tryz.underlying75,a50:=Tryz.isAgg75,z50:=Tryz.sizeOf75,v50:=Tryz.zeroValue75,t53:=Tryz.underlying248,a53:=Tryz.isAgg248,z53:=Tryz.sizeOf248,v53:=Tryz.zeroValue248,t55:=Tryz.underlying250,a55:=Tryz.isAgg250,z55:=Tryz.sizeOf250,v55:=Tryz.zeroValue250,t66:=Tryz.underlying279,a66:=Tryz.isAgg279,z66:=Tryz.sizeOf279,v66:=Tryz.zeroValue279,t70:=Tryz.underlying105,a70:=Tryz.isAgg105,z70:=Tryz.sizeOf105,v70:=Tryz.zeroValue105,t76:=Tryz.underlying319,a76:=Tryz.isAgg319,z76:=Tryz.sizeOf319,v76:=Tryz.zeroValue319,t77:=Tryz.underlying320,a77:=Tryz.isAgg320,z77:=Tryz.sizeOf320,v77:=Tryz.zeroValue320}
def at4(a:Int):mA [a]=a:=by
 simp only[mA];split<;>omega
def at5(b:Nat)(X:Nat)(w:World):CmpLays Tryz.prog 86 #[] (ju 14) 14 (vU [0]) b 0 X w:=λm W V R x y=>by
 have h:=atN (x.getD 0 0) (x.getD 1 0) (x.getD 2 0) (x.getD 3 0) (x.getD 4 0) (x.getD 5 0) (x.getD 6 0) (x.getD 7 0) (x.getD 8 0) (x.getD 9 0) (x.getD 10 0) (x.getD 11 0) (x.getD 12 0) (x.getD 13 0) (y.getD 0 0) (y.getD 1 0) (y.getD 2 0) (y.getD 3 0) (y.getD 4 0) (y.getD 5 0) (y.getD 6 0) (y.getD 7 0) (y.getD 8 0) (y.getD 9 0) (y.getD 10 0) (y.getD 11 0) (y.getD 12 0) (y.getD 13 0) (sortWorldK (ju 14) 14 w b 0 m V W);have e:vU [0] x y=Lib.compareInt (x.getD 0 0) (y.getD 0 0):=at4 _;rw[e];exact h
def at6(b:Nat)(X:Nat)(w:World):CmpLays Tryz.prog 188 #[] (ju 2) 2 (vU [1,0]) b 0 X w:=λm W V R x y=>
 atU (x.getD 0 0) (x.getD 1 0) (y.getD 0 0) (y.getD 1 0) (sortWorldK (ju 2) 2 w b 0 m V W)
def at7(b:Nat)(X:Nat)(w:World):CmpLays Tryz.prog 145 #[] (ju 3) 3 (vU [0,1,2]) b 0 X w:=λm W V R x y=>
 w52 (x.getD 0 0) (x.getD 1 0) (x.getD 2 0) (y.getD 0 0) (y.getD 1 0) (y.getD 2 0) (sortWorldK (ju 3) 3 w b 0 m V W)
def aan(k:Nat)(x:aZ):(ju k x).length=k:=by simp[ju]
def aao(k:Nat)(x:aZ):∀v∈ju k x,v.oneCell'=true:=by
 intro v X;simp only[ju,gL] at X;obtain⟨i,_,rfl⟩:=X;rfl
def at8:oH Tryz.prog (look TT) 85 86 56 (.lex [0] E) false:=by
 have V:∀c∈[0],c<14:=au;refine aam (k:=14) aL aL V (λp X R W=> ?_) (λb X d W Q P O=> ?_);have h:=AnyF.slices_SortFunc_none Tryz.sortSg p X R W;exact h;have h:=AnyQ.slices_SortFunc Tryz.sortSg 14 Tryz.isAgg56 Tryz.sizeOf56 (ju 14) (aan 14) (aao 14) (vU [0]) (aak V) 86 #[] b 0 X d W (enters_of Tryz.func86 aL rfl) (at5 b d.size W) Q P O;exact h
def at9:oH Tryz.prog (look TT) 144 145 267 (.lex [0,1,2] E) false:=by
 have V:∀c∈[0,1,2],c<3:=au;refine aam (k:=3) aL aL V (λp X R W=> ?_) (λb X d W Q P O=> ?_);have h:=AnyF.slices_SortFunc_none Tryz.sortOb p X R W;exact h;have h:=AnyQ.slices_SortFunc Tryz.sortOb 3 Tryz.isAgg267 Tryz.sizeOf267 (ju 3) (aan 3) (aao 3) (vU [0,1,2]) (aak V) 145 #[] b 0 X d W (enters_of Tryz.func145 aL rfl) (at7 b d.size W) Q P O;exact h
def aua:oH Tryz.prog (look TT) 213 188 310 (.lex [1,0] E) false:=by
 have V:∀c∈[1,0],c<2:=au;refine aam (k:=2) aL aL V (λp X R W=> ?_) (λb X d W Q P O=> ?_);have h:=AnyF.slices_SortFunc_none Tryz.sortBr p X R W;exact h;have h:=AnyQ.slices_SortFunc Tryz.sortBr 2 Tryz.isAgg310 Tryz.sizeOf310 (ju 2) (aan 2) (aao 2) (vU [1,0]) (aak V) 188 #[] b 0 X d W (enters_of Tryz.func188 aL rfl) (at6 b d.size W) Q P O;exact h
def F5:s9 qE:=by
 intro x X;simp only[qE,dJ,NM,or_false] at X;rcases X with rfl|rfl|rfl|rfl|rfl|rfl;exact ly.of at9 qK;exact ly.of atI qK;exact ly.of at8 qK;exact ly.of aua qK;exact ly.of atM qK;unfold ly;rw[aE rfl];exact atS
end
theorem aub:cq 94 E E T18:=tk Tryz.func94 (ct:=J)
theorem auc:cq 33 E E YV:=tk Tryz.func33 (loops:=[(33,9,⟨[(62,.int I)],[]⟩),(33,16,⟨[(90,.int I),(6,.int I)],[]⟩)])
theorem aud:cq 133 E E T86:=tk Tryz.func133
theorem aue:cq 134 E E T87:=tk Tryz.func134
theorem auf:cq 135 E E T88:=tk Tryz.func135
theorem aug:cq 166 E E aii:=tk Tryz.func166 (ct:=J)
theorem auh:cq 183 E E aij:=tk Tryz.func183 (ct:=J) (loops:=[(183,2,⟨[(8,.int I)],[]⟩)])
theorem aui:cq 54 E E YW:=tk Tryz.func54 (loops:=[(54,4,⟨[(20,.int I)],[]⟩)])
theorem auj(X:s9 qE):cq 61 E E YX:=tk Tryz.func61 (loops:=[(61,7,⟨[(35,.int I),(6,.ah (.own 56))],[]⟩)]) (srts:=qE) (hsr:=X)
theorem auk:cq 88 E E YY:=tk Tryz.func88
theorem aul:cq 106 E E YZ:=tk Tryz.func106
theorem aum:cq 72 E E Y0:=tk Tryz.func72
theorem aun:cq 38 E E Y1:=tk Tryz.func38 (inl:=[59,79,58])
theorem auo(X:s9 qE):cq 62 E E aik:=tk Tryz.func62 (ct:=J) (loops:=[(62,6,⟨[(22,.int I),(4,.ah (.own 205))],[]⟩),(62,9,⟨[(28,.int I),(4,.ah (.own 205))],[]⟩)]) (inl:=[84]) (srts:=qE) (hsr:=X)
theorem aup:cq 181 E E aiu:=tk Tryz.func181 (ct:=J) (loops:=[(203,3,⟨[(9,.int I),(10,.int I)],[]⟩)]) (inl:=[203,204])
