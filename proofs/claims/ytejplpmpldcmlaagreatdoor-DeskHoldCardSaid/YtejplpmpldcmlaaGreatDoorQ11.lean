/- Part 11 of the proof. -/
import Derived.Test.YtejplpmpldcmlaaGreatDoorQ5
import Derived.Test.YtejplpmpldcmlaaGreatDoorQ10
import Derived.Shelf.SlSortCmp.WholeK
import Derived.Shelf.SlSortCmp.NoneTotal
import Derived.Shelf.SlicesG.Cmp
import Derived.Deep.RegionHeld3
import Derived.Deep.DrawnRows
set_option linter.all false
set_option maxRecDepth 100000
set_option maxHeartbeats 100000000
open Bool renaming and_eq_true->aw,false_eq_true->jp,or_eq_true->jy,true->J,false->E
open Nat renaming le_refl->b9,eq_zero_or_pos->A5,zero_le->Hh,mod_lt->Hj,mul_le_mul->J5,mul_comm->SR,div_add_mod->aiY,mul_one->ai6,div_lt_of_lt_mul->au0,lt_of_le_of_ne->au4,not_lt_zero->avg
open List renaming getElem?_eq_some_iff->ck,getD_eq_getElem?_getD->cz,getElem?_eq_getElem->cS,mem_cons->dP,map_cons->dU,getElem?_map->dW,replicate->eN,range->fw,all_eq_true->fO,mem_map->iq,pairwise_cons->jq,mem_of_getElem?->jI,map_congr_left->jT,getElem?_eq_none->kg,ext_getElem?->kG,getElem?_take->nj,map_map->ov,getElem_mem->ql,length_map->qX,getElem?_set_ne->rX,eq_nil_of_length_eq_zero->tw,getElem?_of_mem->tB,mem_cons_of_mem->CX,getElem?_set_self->G6,mem_singleton->J1,pairwise_iff_getElem->NZ,length_singleton->N0,mem_cons_self->N4,all_map->N9,not_mem_nil->SN,flatMap_cons->Zq,map_set->ai0,pairwise_map->au7,length_set->avc,length->Y
open Option renaming map_eq_some_iff->SH,some->U,none->Z
open Array renaming getElem?_eq_some_iff->oQ,length_toList->EX,getElem?_modify->SI,getElem?_toList->Zj,getElem?_setIfInBounds_ne->aiH,getElem?_setIfInBounds_self_of_lt->aH8,getElem?_append_left->aIb,getElem_toList->aIt,extract_size->aIE
open Go.World renaming cell?->ow,frozen?->Zx
open Int renaming natAbs_mul->Zv
open List.Pairwise renaming nil->xE
open Go.IntKind renaming i64->I
namespace Go.Proofs.YtejplpmpldcmlaaGreatDoor.Y
open Go.RowKit
noncomputable section
variable{M:ai}{W:bp}{N:au}{Q:aC}{X P:Nat}{L:bz}{H:ar}{R:World}{O:mI}{V:TypeId}
def TM:lA:=⟨EH,λ_ _=>Z⟩
def aud:ah8 TM false:=by
 refine⟨λf X (h:EH f=U X)=> ?_,λf X (h:EH f=U X)=> ?_,λf=>ah6 f⟩;unfold EH at h;split at h<;>cases h<;>first|exact at7|exact at8|exact at9|exact aua|exact aub|exact auc
 unfold EH at h;split at h<;>cases h<;>exact id
def hTM(f:FuncId)(X:Fn)(h:EH f=U X):LN TM f X:=⟨h,λ_=>rfl⟩
def auf{x y m n:Int}(X:x.natAbs<=m.natAbs)(W:y.natAbs<=n.natAbs):(x*y).natAbs<=(m*n).natAbs:=by
 rw[Zv,Zv];exact J5 X W
def aEe{a b c d:Int}(R:gh a b=J)(Q:gh c d=J)(W:World):Calls Tryz.prog 98 #[.agg #[.int I a,.int I b],.agg #[.int I c,.int I d]] W λe P=>e=.returned (.tuple #[.int I (s7 (a*d) (c*b)),.int I 0])/\Below W.heap.size W P:=by
 obtain⟨n,N⟩:=arT hTM a b c d;have M:=YX aud n 98 _ _ _ _ rfl rfl rfl rfl _ _ _ N (YY _) ⟨trivial,trivial,trivial,trivial,trivial⟩ W (λh=>by cases h) (YZ (by simp[uH]));refine Calls.mono M ?_;intro e P h;have O:IntKind.i64.wrap (a*d)=a*d/\IntKind.i64.wrap (c*b)=c*b:=by
  simp[gh] at R Q;have D:=auf (x:=a) (y:=d) (m:=1073741824) (n:=1073741824) aa aa;have B:=auf (x:=c) (y:=b) (m:=1073741824) (n:=1073741824) aa aa;rw[IntKind.wrap_i64,IntKind.wrap_i64];omega
 rw[ou,R,Q,O.1,O.2] at h;cases e with
 |returned v=>
  obtain⟨A,L,V,X,z,rfl,H,_,_⟩:=h;cases V;rcases L with _|⟨_|_|_,_|⟨_|_|_,_|_⟩⟩<;>first|exact X.elim|exact X.1.elim|exact X.2.elim|exact X.2.1.elim|exact X.2.2.elim|skip
  obtain⟨G,F,_⟩:=X;cases G;cases F;exact⟨rfl,H⟩
 |panicked w=>obtain⟨_,v,V,_⟩:=h;cases V
 |outgrown=>exact h.elim
def aEf(a b:Int)(W:World):Calls Tryz.prog 133 #[.int I a,.int I b] W λe R=>e=.returned (.int I (s7 a b))/\Below W.heap.size W R:=by
 obtain⟨n,Q⟩:=agT hTM a b;have P:=YX aud n 133 _ _ _ _ rfl rfl rfl rfl _ _ _ Q (YY _) ⟨trivial,trivial,trivial⟩ W (λh=>by cases h) (YZ (by simp[uH]));refine Calls.mono P ?_;intro e R h;cases e with
 |returned v=>
  obtain⟨L,O,V,X,H,rfl,N,_,_⟩:=h;cases V;rcases O with _|⟨_|_|_,_|_⟩<;>first|exact X.elim|exact X.1.elim|exact X.2.elim|skip
  obtain⟨M,_⟩:=X;cases M;exact⟨rfl,N⟩
 |panicked G=>obtain⟨_,v,V,_⟩:=h;cases V
 |outgrown=>exact h.elim
def aug{X:List K}{aA:au}(h:kO M (.dw (0+3) W X) E N=U aA):False:=by
 have h:pL 3 W (X.map (K.ab M)) N=U aA:=h;obtain⟨_,h⟩:=BC h;obtain⟨a,b,c,V⟩:=CR (JS aa h);rw[V] at h;have e:nE 3 W [a,b,c] N=if decide (0<=a)&&decide (a<b)&&decide (b<c)&&decide (c<=Y N)&&decide (c-a<((0:Nat):Int))&&N.all W.ok&&xY W.lt (bm N a.toNat b.toNat)&&xY W.lt (bm N b.toNat c.toNat) then U (N.take a.toNat++(bX W.lt (bm N a.toNat c.toNat)++N.drop c.toNat)) else none:=rfl;rw[e] at h;split at h;rename_i R;simp only[aw,cm] at R;omega;cases h
def auh(o:bp):∀l,xX o.lt (fC l)=xX o.lt l
 |[]=>rfl
 |x::r=>by
  have X:=auh o r;simp only[fC,dU,xX,N9] at X⊢;rw[X];congr 2;funext y;simp only[Function.comp,aif]
def aio{X:Bool}{aA:au}(h:iZ W X N=U aA):iZ W X (fC N)=U (fC aA):=by
 cases W with
 |dw k W R=>simp[iZ] at h
 |_=>
  simp only[iZ] at h⊢;rw[AW,atM,auh,atL];split at h;rename_i V;rw[aJ V];cases h;rfl;cases h
def KA:ma:=[J,J,J,J,J,J,J,J,J,J,J,J,J,J]
def NV(r:RE)(i:K):aq:=[.int I (.cell r i 0),.int I (.cell r i 1),.int I (.cell r i 2),.int I (.cell r i 3),.int I (.cell r i 4),.int I (.cell r i 5),.int I (.cell r i 6),.int I (.cell r i 7),.int I (.cell r i 8),.int I (.cell r i 9),.int I (.cell r i 10),.int I (.cell r i 11),.int I (.cell r i 12),.int I (.cell r i 13)]
def Zd(h:jH KA Q):∃X W V R P O N M L H G F D B,Q=[.mk (.int I X) [],.mk (.int I W) [],.mk (.int I V) [],.mk (.int I R) [],.mk (.int I P) [],.mk (.int I O) [],.mk (.int I N) [],.mk (.int I M) [],.mk (.int I L) [],.mk (.int I H) [],.mk (.int I G) [],.mk (.int I F) [],.mk (.int I D) [],.mk (.int I B) []]:=by
 rcases Q with _|⟨l,Q⟩;exact h.elim;obtain⟨⟨X,A⟩,h⟩:=h;subst A;rcases Q with _|⟨k,Q⟩;exact h.elim;obtain⟨⟨W,z⟩,h⟩:=h;subst z;rcases Q with _|⟨j,Q⟩;exact h.elim;obtain⟨⟨V,y⟩,h⟩:=h;subst y;rcases Q with _|⟨i,Q⟩;exact h.elim;obtain⟨⟨R,w⟩,h⟩:=h;subst w;rcases Q with _|⟨g,Q⟩;exact h.elim;obtain⟨⟨P,v⟩,h⟩:=h;subst v;rcases Q with _|⟨f,Q⟩;exact h.elim;obtain⟨⟨O,u⟩,h⟩:=h;subst u;rcases Q with _|⟨e,Q⟩;exact h.elim;obtain⟨⟨N,t⟩,h⟩:=h;subst t;rcases Q with _|⟨d,Q⟩;exact h.elim;obtain⟨⟨M,s⟩,h⟩:=h;subst s;rcases Q with _|⟨c,Q⟩;exact h.elim;obtain⟨⟨L,r⟩,h⟩:=h;subst r;rcases Q with _|⟨b,Q⟩;exact h.elim;obtain⟨⟨H,q⟩,h⟩:=h;subst q;rcases Q with _|⟨a,Q⟩;exact h.elim;obtain⟨⟨G,p⟩,h⟩:=h;subst p;rcases Q with _|⟨af,Q⟩;exact h.elim;obtain⟨⟨F,o⟩,h⟩:=h;subst o;rcases Q with _|⟨ag,Q⟩;exact h.elim;obtain⟨⟨D,n⟩,h⟩:=h;subst n;rcases Q with _|⟨al,Q⟩;exact h.elim;obtain⟨⟨B,m⟩,h⟩:=h;subst m;cases h;exact⟨X,W,V,R,P,O,N,M,L,H,G,F,D,B,rfl⟩
def aip:ER KA NV:=by
 refine⟨λO r i x X W=> ?_,λO r i x X W y V=> ?_⟩;obtain⟨R,Q,P,N,M,L,H,G,F,D,B,A,z,w,rfl⟩:=Zd W;simp[NV,C.cd,K.ab,aU,cz,X,bn];obtain⟨R,Q,P,N,M,L,H,G,F,D,B,A,z,w,rfl⟩:=Zd W;have e:∀(q:RE),q.rv (O.at y)=q.rv O:=λq=>RE.mS O y q
 have v:∀(q:K),q.ab (O.at y)=q.ab O:=λq=>K.fh O y q
 simp[NV,C.aE,C.ab,K.ab,aU,cz,e,v,X,bn]
def KB:ma:=[J,J,J,E,J]
def NW(r:RE)(i:K):aq:=[.int I (.cell r i 0),.int I (.cell r i 1),.int I (.cell r i 2),.bool (.cell r i 3),.int I (.cell r i 4)]
def Ze(h:jH KB Q):∃X W V R P,Q=[.mk (.int I X) [],.mk (.int I W) [],.mk (.int I V) [],.mk (.bool R) [],.mk (.int I P) []]:=by
 rcases Q with _|⟨G,Q⟩;exact h.elim;obtain⟨⟨X,O⟩,h⟩:=h;subst O;rcases Q with _|⟨F,Q⟩;exact h.elim;obtain⟨⟨W,N⟩,h⟩:=h;subst N;rcases Q with _|⟨D,Q⟩;exact h.elim;obtain⟨⟨V,M⟩,h⟩:=h;subst M;rcases Q with _|⟨B,Q⟩;exact h.elim;obtain⟨⟨R,L⟩,h⟩:=h;subst L;rcases Q with _|⟨A,Q⟩;exact h.elim;obtain⟨⟨P,H⟩,h⟩:=h;subst H;cases h;exact⟨X,W,V,R,P,rfl⟩
def aiq:ER KB NW:=by
 refine⟨λO r i x X W=> ?_,λO r i x X W y V=> ?_⟩;obtain⟨R,Q,P,N,M,rfl⟩:=Ze W;simp[NW,C.cd,K.ab,BE.ab,aU,cz,X,bn,gH];obtain⟨R,Q,P,N,M,rfl⟩:=Ze W;have e:∀(q:RE),q.rv (O.at y)=q.rv O:=λq=>RE.mS O y q
 have L:∀(q:K),q.ab (O.at y)=q.ab O:=λq=>K.fh O y q
 simp[NW,C.aE,C.ab,K.ab,BE.ab,aU,cz,e,L,X,bn,gH]
def aui{p:Sp}{L:dC}{Q:bG}{P:bv}{X:K}(h:∀W,gY p.S0 p.w0 W->p.R (.returned (.int I (X.ab M))) W):(T.ret (.int I X) Q P).aP p M L:=by
 intro y V W R;have:=h W R.base;simpa[C.ab,K.fh] using this
def UR(P:Program)(Q:Ty)(W:World)(V:bz)(R:ma):az [] W cg.none Q [] ⟨V,R,[],[]⟩ {(⟨[],[],Y V,Y R,[],0,0,[]⟩:S) with tmps:=[]} ⟨#[],[]⟩ W:=
 ⟨⟨gY.refl _ _,λi h=>by simp[aK,cw] at h,λi j h=>by simp[aK,cw] at h,λi t L h=>by simp[cw] at h,λq O N X M=>by simp at X⟩,rfl,rfl,rfl,rfl,UQ _ _,rfl,λt H h=>by simp at h,λq O N b X M G=>by simp at X⟩
def air(P:Program)(o:bp)(W:World)(x y:aC):Ending->World->Prop:=λX V=>Below W.heap.size W V/\∃c:Int,X=.returned (.int I c)/\(c<0<->o.lt x y=J)
def auj{g:FuncId}{V:Func}{c:Code}{n:Nat}{args:aq}{t:T}(L:Tryz.prog.funcs[g]?=U V)(H:V.body=U c){y:aC}(O:bz)(N:ma)
  (G:OI (pN Tryz.prog TT SG [] [] [] [] E []) n g c V.ntmps V.results.toList args ⟨[],[],Y O,Y N,[],0,0,[]⟩=t)(X:World)(F:(C.aE ⟨O,N,[],[]⟩ [] args).toArray= #[.agg (Q.map RV.val).toArray,.agg (y.map RV.val).toArray])
  (D:∀p:Sp,p.P=Tryz.prog->p.S0=[]->p.w0=X->p.R=air Tryz.prog W X Q y->t.aP p ⟨O,N,[],[]⟩ []):Calls Tryz.prog g #[.agg (Q.map RV.val).toArray,.agg (y.map RV.val).toArray] X (air Tryz.prog W X Q y):=by
 let p:Sp:=⟨Tryz.prog,look TT,[],X,cg.none,air Tryz.prog W X Q y,λ_ _ _=>False⟩;have B:jL p (pN Tryz.prog TT SG [] [] [] [] E []):=PF JQ Sg rfl Si (λz w b ob _ h=>by obtain⟨_,c,A,_⟩:=h;cases A) (λQ M=>by cases M);rw[<-F];exact amA (p:=p) B L H G (D p rfl rfl rfl rfl) (λQ M=>by simp[pN] at M) (UR Tryz.prog _ X O N)
def auk(x y:Int):s7 x y<0<->x<y:=by
 unfold s7;split;omega;split<;>omega
def aEg:T:=(.call 98 [(.agg [(.int I (.v 10)),(.int I (.v 11))]),(.agg [(.int I (.v 24)),(.int I (.v 25))])] [] [] [.int I,.int I] (.bM [(.int I (.v 28)),(.int I (.v 29))])
 (.ret (.int I (.v 28)) [] []))
def aEh:T:=(.call 133 [(.int I (.v 7)),(.int I (.v 3))] [] [] [.int I] (.int I (.v 8))
 (.ret (.int I (.v 8)) [] []))
def Sv:JR Tryz.prog KA 129 (.ratio 10 11):=by
 intro W x y M L H G;obtain⟨F,D,B,A,z,w,u,s,r,q,X,Q,o,m,rfl⟩:=Zd M;obtain⟨l,k,j,h,g,f,e,d,c,b,P,O,a,af,rfl⟩:=Zd L;refine auj (t:=aEg) (n:=100) (args:=[(.agg [(.int I (.v 0)),(.int I (.v 1)),(.int I (.v 2)),(.int I (.v 3)),(.int I (.v 4)),(.int I (.v 5)),(.int I (.v 6)),(.int I (.v 7)),(.int I (.v 8)),(.int I (.v 9)),(.int I (.v 10)),(.int I (.v 11)),(.int I (.v 12)),(.int I (.v 13))]),(.agg [(.int I (.v 14)),(.int I (.v 15)),(.int I (.v 16)),(.int I (.v 17)),(.int I (.v 18)),(.int I (.v 19)),(.int I (.v 20)),(.int I (.v 21)),(.int I (.v 22)),(.int I (.v 23)),(.int I (.v 24)),(.int I (.v 25)),(.int I (.v 26)),(.int I (.v 27))])]) rfl rfl [F,D,B,A,z,w,u,s,r,q,X,Q,o,m,l,k,j,h,g,f,e,d,c,b,P,O,a,af] [] aY W rfl ?_;rintro p hP hS hW hR;have h1:gh X Q=true:=H;have h2:gh P O=true:=G;intro yy V W' R;rw[hP];refine(aEe h1 h2 W').mono ?_;rintro en W2 ⟨rfl,hB⟩;refine⟨[.i (s7 (X*O) (P*Q)),.i 0],⟨trivial,trivial,trivial⟩,rfl,hB,⟨trivial,trivial,trivial⟩,aui λW3 N=> ?_⟩;rw[hS,hW] at N;rw[hR];refine⟨PI N,_,rfl, ?_⟩;simp[K.ab,ai.ext,ai.add,bp.lt,aI,bn,auk]
def Sw:JR Tryz.prog KB 319 (.lex [4] J):=by
 intro W x y O N o m;obtain⟨M,L,H,G,X,rfl⟩:=Ze O;obtain⟨F,D,B,A,Q,rfl⟩:=Ze N;refine auj (t:=aEh) (n:=100) (args:=[(.agg [(.int I (.v 0)),(.int I (.v 1)),(.int I (.v 2)),(.bool (.v 0)),(.int I (.v 3))]),(.agg [(.int I (.v 4)),(.int I (.v 5)),(.int I (.v 6)),(.bool (.v 1)),(.int I (.v 7))])]) rfl rfl [M,L,H,X,F,D,B,Q] [G,A] aY W rfl ?_;rintro p z w u s;intro l V r R;rw[z];refine(aEf Q X r).mono ?_;rintro k j ⟨rfl,q⟩;refine⟨[.i (s7 Q X)],⟨trivial,trivial⟩,rfl,q,⟨trivial,trivial⟩,aui λh P=> ?_⟩;rw[w,u] at P;rw[s];refine⟨PI P,_,rfl, ?_⟩;simp[K.ab,ai.ext,ai.add,bp.lt,jK,aI,bn,auk];omega
def aEi:qB Tryz.prog (look TT) 296 129 128 (.dw 0 (.ratio 10 11) []) false:=
 G1 (K:=KA) (n:=100) (args:=[(.ah (.v 0)),(.int I (.v 0)),(.int I (.v 1)),(.int I (.v 2)),(.fn 129 [])]) (loops:=[(296,1,⟨[(0,.ah (.own 128)),(10,.int I)],[]⟩)]) (srts:=[]) (chs:=[(296,3)]) (t:=Y3 128 NV) rfl rfl rfl aY (λx X=>by cases X) aY Sv aY (atW aip) (λW V h=>by obtain⟨a,b,c,rfl⟩:=CR h;rfl) (λW R aA h=>JS aa h)
def aEj:qB Tryz.prog (look TT) 259 129 128 (.dw 1 (.ratio 10 11) []) false:=
 G1 (K:=KA) (n:=100) (args:=[(.ah (.v 0)),(.int I (.v 0)),(.int I (.v 1)),(.int I (.v 2)),(.fn 129 [])]) (loops:=[(259,2,⟨[(0,.ah (.own 128)),(10,.int I),(11,.int I)],[]⟩)]) (srts:=[(296,129,128,.dw 0 (.ratio 10 11) [],E)]) (chs:=[]) (t:=Y4 128 129 296 (.ratio 10 11)) rfl rfl rfl aY (λx X=>by simp only[J1] at X;subst X;exact mP.of (aEi) oS) aY Sv aY (atY) (λW V h=>by obtain⟨a,b,c,rfl⟩:=CR h;rfl) (λW R aA h=>JS aa h)
def aEk:qB Tryz.prog (look TT) 208 129 128 (.dw 2 (.ratio 10 11) []) false:=
 G1 (K:=KA) (n:=100) (args:=[(.ah (.v 0)),(.int I (.v 0)),(.int I (.v 1)),(.fn 129 [])]) (loops:=[(208,1,⟨[(0,.ah (.own 128)),(8,.int I)],[]⟩),(208,4,⟨[(0,.ah (.own 128)),(9,.int I)],[]⟩)]) (srts:=[]) (chs:=[(208,6)]) (t:=Y5 128 129 NV) rfl rfl rfl aY (λx X=>by cases X) aY Sv aY (at1 aip (P4 10 11)) (λW V h=>by obtain⟨a,b,rfl⟩:=two h;rfl) (λW R aA h=>atU h)
def aul:∀N:Nat,qB Tryz.prog (look TT) 209 129 128 (.dw (N+3) (.ratio 10 11) []) E
 |0=>⟨wC aY,λW A n M Q aA O X L V H G P=>by
  simp only[bp.fill,cU] at V;subst V;exact(aug P).elim⟩
 |N+1=>G1 (K:=KA) (n:=100) (args:=[(.ah (.v 0)),(.int I (.v 0)),(.int I (.v 1)),(.int I (.v 2)),(.fn 129 [])]) (loops:=[(209,3,⟨[(0,.ah (.own 128)),(10,.int I),(11,.int I)],[]⟩),(209,9,⟨[(0,.ah (.own 128)),(13,.int I)],[]⟩),(209,15,⟨[(0,.ah (.own 128)),(14,.int I),(15,.int I)],[]⟩),(209,21,⟨[(0,.ah (.own 128)),(17,.int I)],[]⟩),(209,33,⟨[(0,.ah (.own 128)),(20,.int I),(21,.int I)],[]⟩)]) (srts:=[(259,129,128,.dw 1 (.ratio 10 11) [],E),(209,129,128,.dw (N+3) (.ratio 10 11) [],E)]) (chs:=[(209,11),(209,23)]) (t:=Y7 128 129 259 209 N (.ratio 10 11) NV) rfl rfl rfl aY (λx R=>by
   simp only[dP,SN,or_false] at R;rcases R with rfl|rfl;exact mP.of (aEj) oS;exact mP.of (aul N) oS) aY Sv aY (at4 aip (P4 10 11)) (λX F h=>by obtain⟨a,b,c,rfl⟩:=CR h;rfl) (λX Q aA h=>JS aa h)
def aEl:qB Tryz.prog (look TT) 128 129 128 (.ratio 10 11) true:=by
 refine⟨wC aY,λW A n B V aA O X z Q H G P=> ?_⟩;cases X with
 |cons _ _=>simp[bp.fill] at Q
 |nil=>
  simp only[bp.fill,cU] at Q;subst Q;have P:iZ (.ratio 10 11) J V=U aA:=P;refine aig (K:=KA) (o:=(.ratio 10 11)) (N:=0) (n:=100) (inl:=[170]) (args:=[(.ah (.v 0)),(.fn 129 [])]) (loops:=[(170,2,⟨[(0,.ah (.own 128)),(8,.int I),(7,.int I)],[]⟩),(170,7,⟨[(0,.ah (.own 128)),(6,.int I)],[]⟩),(170,9,⟨[(0,.ah (.own 128)),(8,.int I),(7,.int I)],[]⟩)]) (srts:=[(208,129,128,.dw 2 (.ratio 10 11) [],E),(209,129,128,.dw (Y V+1+3) (.ratio 10 11) [],E)]) (chs:=[]) (F:=λX R=>if X=[]/\Y R<Y V+1 then iZ (.ratio 10 11) J R else Z) (t:=Y8 128 129 208 209 (Y V+1) (.ratio 10 11)) rfl rfl rfl aY (λx L=> ?_) aY Sv aY (at6 (P4 10 11)) (λX y h=> ?_) (λX R D h=> ?_) (λX R D h=> ?_) H G ?_;simp only[dP,SN,or_false] at L;rcases L with rfl|rfl;exact mP.of (aEk) oS;exact mP.of (aul _) oS;have:X=[]:=tw h;subst this;rfl;split at h;rename_i M;rw[aJ (by rw[AW];exact M)];exact aio h;cases h;split at h;rename_i M;exact⟨by rw[M.1];rfl,aaW h⟩;cases h;rw[aJ ⟨rfl,aa⟩];exact P
def aEm:qB Tryz.prog (look TT) 342 319 419 (.dw 0 (.lex [4] J) []) false:=
 G1 (K:=KB) (n:=100) (args:=[(.ah (.v 0)),(.int I (.v 0)),(.int I (.v 1)),(.int I (.v 2)),(.fn 319 [])]) (loops:=[(342,1,⟨[(0,.ah (.own 419)),(10,.int I)],[]⟩)]) (srts:=[]) (chs:=[(342,3)]) (t:=Y3 419 NW) rfl rfl rfl aY (λx X=>by cases X) aY Sw aY (atW aiq) (λW V h=>by obtain⟨a,b,c,rfl⟩:=CR h;rfl) (λW R aA h=>JS aa h)
def aEn:qB Tryz.prog (look TT) 341 319 419 (.dw 1 (.lex [4] J) []) false:=
 G1 (K:=KB) (n:=100) (args:=[(.ah (.v 0)),(.int I (.v 0)),(.int I (.v 1)),(.int I (.v 2)),(.fn 319 [])]) (loops:=[(341,2,⟨[(0,.ah (.own 419)),(10,.int I),(11,.int I)],[]⟩)]) (srts:=[(342,319,419,.dw 0 (.lex [4] J) [],E)]) (chs:=[]) (t:=Y4 419 319 342 (.lex [4] J)) rfl rfl rfl aY (λx X=>by simp only[J1] at X;subst X;exact mP.of (aEm) oS) aY Sw aY (atY) (λW V h=>by obtain⟨a,b,c,rfl⟩:=CR h;rfl) (λW R aA h=>JS aa h)
def aEo:qB Tryz.prog (look TT) 338 319 419 (.dw 2 (.lex [4] J) []) false:=
 G1 (K:=KB) (n:=100) (args:=[(.ah (.v 0)),(.int I (.v 0)),(.int I (.v 1)),(.fn 319 [])]) (loops:=[(338,1,⟨[(0,.ah (.own 419)),(8,.int I)],[]⟩),(338,4,⟨[(0,.ah (.own 419)),(9,.int I)],[]⟩)]) (srts:=[]) (chs:=[(338,6)]) (t:=Y5 419 319 NW) rfl rfl rfl aY (λx X=>by cases X) aY Sw aY (at1 aiq (LP [4] J)) (λW V h=>by obtain⟨a,b,rfl⟩:=two h;rfl) (λW R aA h=>atU h)
def aum:∀N:Nat,qB Tryz.prog (look TT) 339 319 419 (.dw (N+3) (.lex [4] J) []) E
 |0=>⟨wC aY,λW A n M Q aA O X L V H G P=>by
  simp only[bp.fill,cU] at V;subst V;exact(aug P).elim⟩
 |N+1=>G1 (K:=KB) (n:=100) (args:=[(.ah (.v 0)),(.int I (.v 0)),(.int I (.v 1)),(.int I (.v 2)),(.fn 319 [])]) (loops:=[(339,3,⟨[(0,.ah (.own 419)),(10,.int I),(11,.int I)],[]⟩),(339,9,⟨[(0,.ah (.own 419)),(13,.int I)],[]⟩),(339,15,⟨[(0,.ah (.own 419)),(14,.int I),(15,.int I)],[]⟩),(339,21,⟨[(0,.ah (.own 419)),(17,.int I)],[]⟩),(339,33,⟨[(0,.ah (.own 419)),(20,.int I),(21,.int I)],[]⟩)]) (srts:=[(341,319,419,.dw 1 (.lex [4] J) [],E),(339,319,419,.dw (N+3) (.lex [4] J) [],E)]) (chs:=[(339,11),(339,23)]) (t:=Y7 419 319 341 339 N (.lex [4] J) NW) rfl rfl rfl aY (λx R=>by
   simp only[dP,SN,or_false] at R;rcases R with rfl|rfl;exact mP.of (aEn) oS;exact mP.of (aum N) oS) aY Sw aY (at4 aiq (LP [4] J)) (λX F h=>by obtain⟨a,b,c,rfl⟩:=CR h;rfl) (λX Q aA h=>JS aa h)
def aEp:qB Tryz.prog (look TT) 318 319 419 (.lex [4] J) true:=by
 refine⟨wC aY,λW A n B V aA O X z Q H G P=> ?_⟩;cases X with
 |cons _ _=>simp[bp.fill] at Q
 |nil=>
  simp only[bp.fill,cU] at Q;subst Q;have P:iZ (.lex [4] J) J V=U aA:=P;refine aig (K:=KB) (o:=(.lex [4] J)) (N:=0) (n:=100) (inl:=[332]) (args:=[(.ah (.v 0)),(.fn 319 [])]) (loops:=[(332,2,⟨[(0,.ah (.own 419)),(8,.int I),(7,.int I)],[]⟩),(332,7,⟨[(0,.ah (.own 419)),(6,.int I)],[]⟩),(332,9,⟨[(0,.ah (.own 419)),(8,.int I),(7,.int I)],[]⟩)]) (srts:=[(338,319,419,.dw 2 (.lex [4] J) [],E),(339,319,419,.dw (Y V+1+3) (.lex [4] J) [],E)]) (chs:=[]) (F:=λX R=>if X=[]/\Y R<Y V+1 then iZ (.lex [4] J) J R else Z) (t:=Y8 419 319 338 339 (Y V+1) (.lex [4] J)) rfl rfl rfl aY (λx L=> ?_) aY Sw aY (at6 (LP [4] J)) (λX y h=> ?_) (λX R D h=> ?_) (λX R D h=> ?_) H G ?_;simp only[dP,SN,or_false] at L;rcases L with rfl|rfl;exact mP.of (aEo) oS;exact mP.of (aum _) oS;have:X=[]:=tw h;subst this;rfl;split at h;rename_i M;rw[aJ (by rw[AW];exact M)];exact aio h;cases h;split at h;rename_i M;exact⟨by rw[M.1];rfl,aaW h⟩;cases h;rw[aJ ⟨rfl,aa⟩];exact P
section
open Go.Shelf Go.RowKit Go.Lib Go.Sort
def eL{o:Option Func}{a b:Func}(h:o=U a)(e:a=b):o=U b:=h.trans (kh U e)
def Tryz.cmpInt_ren:Go.Shelf.Ren:=⟨λ|5=>133|7=>173|n=>n,λ|22=>3|3=>3|4=>4|n=>n,λ|n=>n⟩
def Tryz.cmpInt:Go.Proofs.SlLaysC2.n5 Tryz.prog Tryz.cmpInt_ren:={mixed:=by kernel_rfl,f5:=⟨Tryz.f133.name,dQ,eL Tryz.func133 (by kernel_rfl)⟩,f7:=⟨Tryz.f173.name,dQ,eL Tryz.func173 (by kernel_rfl)⟩,t3:=Tryz.underlying3,a3:=Tryz.isAgg3,z3:=Tryz.sizeOf3,v3:=Tryz.zeroValue3,t4:=Tryz.underlying4,a4:=Tryz.isAgg4,z4:=Tryz.sizeOf4,v4:=Tryz.zeroValue4,t22:=Tryz.underlying3,a22:=Tryz.isAgg3,z22:=Tryz.sizeOf3,v22:=Tryz.zeroValue3}
def Tryz.sortSg_ren:Go.Shelf.Ren:=⟨λ|6=>131|15=>172|14=>171|28=>217|29=>218|20=>208|21=>210|22=>211|23=>212|24=>213|25=>214|26=>215|27=>216|46=>260|47=>261|48=>262|49=>263|50=>264|57=>297|n=>n,λ|22=>30|24=>128|25=>247|3=>3|39=>285|0=>0|53=>336|55=>338|4=>4|46=>329|45=>328|50=>333|5=>5|9=>9|66=>373|70=>186|76=>402|77=>403|n=>n,λ|n=>n⟩
def Tryz.sortSg:Go.Proofs.SlLaysF0.n6 Tryz.prog Tryz.sortSg_ren:={mixed:=by kernel_rfl,f6:=⟨Tryz.f131.name,dQ,eL Tryz.func131 (by kernel_rfl)⟩,f14:=⟨Tryz.f171.name,dQ,eL Tryz.func171 (by kernel_rfl)⟩,f15:=eL Tryz.func172 (by kernel_rfl),f20:=⟨Tryz.f208.name,dQ,eL Tryz.func208 (by kernel_rfl)⟩,f21:=⟨Tryz.f210.name,dQ,eL Tryz.func210 (by kernel_rfl)⟩,f22:=⟨Tryz.f211.name,dQ,eL Tryz.func211 (by kernel_rfl)⟩,f23:=⟨Tryz.f212.name,dQ,eL Tryz.func212 (by kernel_rfl)⟩,f24:=⟨Tryz.f213.name,dQ,eL Tryz.func213 (by kernel_rfl)⟩,f25:=⟨Tryz.f214.name,dQ,eL Tryz.func214 (by kernel_rfl)⟩,f26:=⟨Tryz.f215.name,dQ,eL Tryz.func215 (by kernel_rfl)⟩,f27:=⟨Tryz.f216.name,dQ,eL Tryz.func216 (by kernel_rfl)⟩,f28:=eL Tryz.func217 (by kernel_rfl),f29:=eL Tryz.func218 (by kernel_rfl),f46:=⟨Tryz.f260.name,dQ,eL Tryz.func260 (by kernel_rfl)⟩,f47:=eL Tryz.func261 (by kernel_rfl),f48:=eL Tryz.func262 (by kernel_rfl),f49:=⟨Tryz.f263.name,dQ,eL Tryz.func263 (by kernel_rfl)⟩,f50:=⟨Tryz.f264.name,dQ,eL Tryz.func264 (by kernel_rfl)⟩,f57:=⟨Tryz.f297.name,dQ,eL Tryz.func297 (by kernel_rfl)⟩,t0:=Tryz.underlying0,a0:=Tryz.isAgg0,z0:=Tryz.sizeOf0,v0:=Tryz.zeroValue0,t3:=Tryz.underlying3,a3:=Tryz.isAgg3,z3:=Tryz.sizeOf3,v3:=Tryz.zeroValue3,t4:=Tryz.underlying4,a4:=Tryz.isAgg4,z4:=Tryz.sizeOf4,v4:=Tryz.zeroValue4,t5:=Tryz.underlying5,a5:=Tryz.isAgg5,z5:=Tryz.sizeOf5,v5:=Tryz.zeroValue5,t9:=Tryz.underlying9,a9:=Tryz.isAgg9,z9:=Tryz.sizeOf9,v9:=Tryz.zeroValue9,t22:=Tryz.underlying30,a22:=Tryz.isAgg30,z22:=Tryz.sizeOf30,v22:=Tryz.zeroValue30,t25:=Tryz.underlying247,a25:=Tryz.isAgg247,z25:=Tryz.sizeOf247,v25:=Tryz.zeroValue247,t39:=Tryz.underlying285,a39:=Tryz.isAgg285,z39:=Tryz.sizeOf285,v39:=Tryz.zeroValue285,t45:=Tryz.underlying328,a45:=Tryz.isAgg328,z45:=Tryz.sizeOf328,v45:=Tryz.zeroValue328,t46:=Tryz.underlying329,a46:=Tryz.isAgg329,z46:=Tryz.sizeOf329,v46:=Tryz.zeroValue329,t50:=Tryz.underlying333,a50:=Tryz.isAgg333,z50:=Tryz.sizeOf333,v50:=Tryz.zeroValue333,t53:=Tryz.underlying336,a53:=Tryz.isAgg336,z53:=Tryz.sizeOf336,v53:=Tryz.zeroValue336,t55:=Tryz.underlying338,a55:=Tryz.isAgg338,z55:=Tryz.sizeOf338,v55:=Tryz.zeroValue338,t66:=Tryz.underlying373,a66:=Tryz.isAgg373,z66:=Tryz.sizeOf373,v66:=Tryz.zeroValue373,t70:=Tryz.underlying186,a70:=Tryz.isAgg186,z70:=Tryz.sizeOf186,v70:=Tryz.zeroValue186,t76:=Tryz.underlying402,a76:=Tryz.isAgg402,z76:=Tryz.sizeOf402,v76:=Tryz.zeroValue402,t77:=Tryz.underlying403,a77:=Tryz.isAgg403,z77:=Tryz.sizeOf403,v77:=Tryz.zeroValue403}
def aEq(X O N M L H G F D B A z y x13 V x w v u t s p o n m l k j:Int)(W:World):Calls Tryz.prog 132 #[.agg #[.int I X,.int I O,.int I N,.int I M,.int I L,.int I H,.int I G,.int I F,.int I D,.int I B,.int I A,.int I z,.int I y,.int I x13],.agg #[.int I V,.int I x,.int I w,.int I v,.int I u,.int I t,.int I s,.int I p,.int I o,.int I n,.int I m,.int I l,.int I k,.int I j]] W λe Q=>e=.returned (.int I (Lib.compareInt X V))/\∃q i,Q=grow (W.drewN q) i:=by
 have R:=λP=>AnyG.cmp_Compare_int Tryz.cmpInt X V P
 change∀P,Calls Tryz.prog 133 _ _ _ at R;generalize Lib.compareInt X V=r at R⊢;go_enter Tryz.func132,Tryz.ntmps132
 go_wp2_with (go_at_call 133;refine(R _).mono ?_;rintro e Q ⟨rfl,rfl⟩)
 go_ret;exact⟨rfl,0,_,by rw[alloc_eq_grow,alloc_eq_grow,grow_grow];rfl⟩
end
section
attribute[local go_sem ↓] Go.wp_at_zero Go.wp_at_succ
open Go.Shelf Go.RowKit Go.Lib Go.Sort
def rW:Nat->Nat->List Nat->List Nat
 |0,_,g=>g
 |n+1,k,g=>if g.getD k 0=k then g else(rW n (g.getD k 0) g).set k ((rW n (g.getD k 0) g).getD (g.getD k 0) 0)
def aun{g:List Nat}:∀n k,(rW n k g).length=Y g
 |0,_=>rfl
 |n+1,k=>by
  simp only[rW];split;rfl;simp[aun n]
def auo{g:List Nat}(X:∀q,g.getD q 0<=q):∀n k q,k<q->(rW n k g).getD q 0=g.getD q 0
 |0,_,_,_=>rfl
 |n+1,k,q,h=>by
  simp only[rW];split;rfl;have:=X k;rw[cz,rX aa,<-cz];exact auo X n _ q aa
def InB(W:World)(b X:Nat)(g:List Nat):Prop:=∃da,W.heap[b]?=U (.cells da 3 (0,0))/\da.size=X/\∀q,q<Y g->da[q]?=U (.int I ((g.getD q 0:Nat):Int))
def aEs(W:World)(X V b n R k:Nat)(P:W.cell? ⟨X,0,Z⟩=U (.slice (U ⟨b,0,Z⟩) n R))(_hl:W.cell? ⟨V,0,Z⟩=U (.func (.func 91) #[] #[.pointer (U ⟨X,0,Z⟩),.pointer (U ⟨V,0,Z⟩)]))
  (O:(0:Int)<=k)(N:(k:Int)<(n:Int))(M:W.cell? ⟨b,k,Z⟩=U (.int I k)):Calls Tryz.prog 91 #[.int I k,.pointer (U ⟨X,0,Z⟩),.pointer (U ⟨V,0,Z⟩)] W λe Q=>e=.returned (.int I k)/\Q=W:=by
 have L:((k:Int)!=k)=false:=av;go_enter Tryz.func91,Tryz.ntmps91;go_wp2;go_ret;exact⟨rfl,rfl⟩
def aEt(W:World)(V R b n P k j:Nat)(F:V≠b)(z:W.cell? ⟨V,0,Z⟩=U (.slice (U ⟨b,0,Z⟩) n P))(y:W.cell? ⟨R,0,Z⟩=U (.func (.func 91) #[] #[.pointer (U ⟨V,0,Z⟩),.pointer (U ⟨R,0,Z⟩)]))
  (x:(0:Int)<=k)(w:(k:Int)<(n:Int))(v:W.cell? ⟨b,k,Z⟩=U (.int I j))(u:j≠k)(r:Int)(Q:World->Prop)(H:∀X,Q X->X.cell? ⟨V,0,Z⟩=U (.slice (U ⟨b,0,Z⟩) n P)/\X.cell? ⟨R,0,Z⟩=U (.func (.func 91) #[] #[.pointer (U ⟨V,0,Z⟩),.pointer (U ⟨R,0,Z⟩)])/\X.cell? ⟨b,k,Z⟩=U (.int I j)/\X.frozen? ⟨b,k,Z⟩=E)
  (D:Calls Tryz.prog 91 #[.int I j,.pointer (U ⟨V,0,Z⟩),.pointer (U ⟨R,0,Z⟩)] W.drew λe X=>e=.returned (.int I r)/\Q X):
  Calls Tryz.prog 91 #[.int I k,.pointer (U ⟨V,0,Z⟩),.pointer (U ⟨R,0,Z⟩)] W λe X=>e=.returned (.int I r)/\∃O,Q O/\X=O.setCell ⟨b,k,Z⟩ (.int I r):=by
 have t:((j:Int)!=k)=true:=dh;have B:∀X,Q X->X.cell? ⟨V,0,Z⟩=U (.slice (U ⟨b,0,Z⟩) n P)/\X.cell? ⟨b,k,Z⟩=U (.int I j)/\X.frozen? ⟨b,k,Z⟩=E/\(X.setCell ⟨b,k,Z⟩ (.int I r)).cell? ⟨V,0,Z⟩=U (.slice (U ⟨b,0,Z⟩) n P)/\(X.setCell ⟨b,k,Z⟩ (.int I r)).cell? ⟨b,k,Z⟩=U (.int I r):=λX N=>by
  obtain⟨M,A,L,G⟩:=H X N;exact⟨M,L,G,(World.cell?_setCell_far _ _ _ _ (Ne.symm F)).trans M,World.cell?_setCell_same' _ _ _ (by rw[L];rfl)⟩
 clear H;go_enter Tryz.func91,Tryz.ntmps91;go_wp2
 go_region_with (first|(go_at_call 91;refine D.mono ?_;rintro e O ⟨rfl,N⟩;obtain⟨M,A,L,G,s⟩:=B O N))
 all_goals go_wp2
 all_goals go_ret
 all_goals exact⟨rfl,_,N,rfl⟩
def aup(b V:Nat)(W:World)(g:List Nat)(X:World):Prop:=W.grownBy X (U b)/\InB X b V g
def auq{R Q b n A sz:Nat}(z:R≠b)(t:Q≠b)(hn:(n:Int)<=1099511627776):∀(N k:Nat)(W:World)(g:List Nat),k<N->k<n->Y g=n->(∀q,g.getD q 0<=q)->
  W.cell? ⟨R,0,Z⟩=U (.slice (U ⟨b,0,Z⟩) n A)->W.cell? ⟨Q,0,Z⟩=U (.func (.func 91) #[] #[.pointer (U ⟨R,0,Z⟩),.pointer (U ⟨Q,0,Z⟩)])->InB W b sz g->
  Calls Tryz.prog 91 #[.int I k,.pointer (U ⟨R,0,Z⟩),.pointer (U ⟨Q,0,Z⟩)] W λe P=>e=.returned (.int I (((rW N k g).getD k 0:Nat):Int))/\aup b sz W (rW N k g) P
 |0,k,W,g,h,_,_,_,_,_,_=>aZ h (avg _)
 |N+1,k,W,g,hN,s,r,y,H,G,hb=>by
  obtain⟨da,x,p,w⟩:=hb;have o:∀q,q<n->W.cell? ⟨b,q,Z⟩=U (.int I ((g.getD q 0:Nat):Int)):=λq O=>by
   have:=w q aa;simp only[ow,x];simpa using this
  by_cases M:g.getD k 0=k;have L:rW (N+1) k g=g:=by simp only[rW,aJ M]
  rw[L];have:=o k s;rw[M] at this⊢;refine(aEs W R Q b n A k H G aa aa this).mono ?_;rintro e P ⟨rfl,rfl⟩;exact⟨rfl,World.grownBy.refl _ _,da,x,p,w⟩;have L:rW (N+1) k g=(rW N (g.getD k 0) g).set k ((rW N (g.getD k 0) g).getD (g.getD k 0) 0):=by simp only[rW,aQ M]
  have m:g.getD k 0<k:=au4 (y k) M;generalize l:g.getD k 0=j at M L m;generalize v:rW N j g=X at L;have an:Y X=n:=by rw[<-v,aun,r]
  have ag:X.getD k 0=j:=by rw[<-v,auo y N j k m,l]
  rw[L];have i:(X.set k (X.getD j 0)).getD k 0=X.getD j 0:=by
   rw[cz,G6 aa];rfl
  rw[i];have f:=auq z t hn N j W.drew g aa aa r y H G ⟨da,x,p,w⟩;rw[v] at f;have d:=o k s;rw[l] at d;refine(aEt W R Q b n A k j z H G aa aa d aa ((X.getD j 0:Nat):Int) (aup b sz W.drew X) ?_ f).mono ?_;rintro P ⟨V,F,D,c,B⟩;have hf:P.cell? ⟨b,k,Z⟩=U (.int I (j:Int)):=by
   have:=B k aa;rw[ag] at this;simp only[ow,D];simpa using this
  exact⟨V.cell H (by simpa using z),V.cell G (by simpa using t),hf,by simp[Zx,D]⟩;rintro e P ⟨rfl,a,⟨V,F,D,c,B⟩,rfl⟩;refine⟨rfl,⟨V.os,V.tape,V.output,by rw[World.size_setCell];exact V.size,λq O af=> ?_⟩, ?_⟩;exact(Below.heap_setCell a _ _ q (by intro e;exact af (by rw[e]))).trans (V.block q O af);refine⟨F.setIfInBounds k (.int I ((X.getD j 0:Nat):Int)), ?_,by simpa using c,λq O=> ?_⟩;exact Go.Proofs.YtejplpmpldcmlaaGreatDoor.Bx.set (show Go.Proofs.YtejplpmpldcmlaaGreatDoor.Bx a b 3 F from D) _;rw[avc] at O;have al:k<F.size:=by
   have:=B k aa;exact(oQ.1 this).1
  by_cases u:q=k;subst u;rw[i,aH8 al];rw[aiH (Ne.symm u),B q O,cz,cz,rX (Ne.symm u)]
end
def tq(X:au):ar:=X.map λW=>(aI 0 W).toNat
def Sx(X:au)(q:Nat):(tq X).getD q 0=(aI 0 (X.getD q [])).toNat:=by
 simp only[tq,cz,dW];cases X[q]? with
 |none=>rfl
 |some W=>rfl
def aur{X:au}(h:md X=J):∀(n:Nat)(i:Int),0<=i->i<Y X->tq (rj n i X)=rW n i.toNat (tq X)
 |0,_,_,_=>rfl
 |n+1,i,V,R=>by
  obtain⟨Q,N,P⟩:=aaU h V R;have O:=aur h n _ Q P;simp only[rj,rW,Sx];by_cases W:aI 0 (X.getD i.toNat [])=i;rw[aJ W,aJ aa];rw[aQ W,aQ aa,<-O,Sx];simp only[tq,ai0]
def aEu:akH Tryz.prog (look TT) 91 3:=by
 refine⟨wC aY, ?_⟩;intro W b n B R aA i z y tg tl f d a af M L H;have N:bD (look TT) (.sl 3)=[.int I]:=by rfl
 obtain⟨b0,h0,h1,G,ag⟩:=Pe H;obtain⟨hn,b1⟩:=tS M;have x:=fQ.yb M;rw[N] at L⊢;rcases L.mem with hz|⟨b',da,hA,w,al,an⟩;exfalso;omega;cases hA;have v:∀(q:Nat)(X:aC),R[q]?=U X->∃c,X=[c]/\c.val=.int I (aI 0 X):=λq X V=>by
  have u:=x.len q X V;rw[N] at u
  match X,u with
  |[c],_=>
   obtain⟨m,hm⟩:=x.int q 0 [c] c I V rfl (by rw[N];rfl);exact⟨c,rfl,by simp[aI,hm,bn]⟩
 have t:∀q:Nat,q<Y R->((tq R).getD q 0:Int)=aI 0 (R.getD q [])/\(tq R).getD q 0<=q:=λq V=>by
  have:=Fv G V;rw[Sx];omega
 have a0:InB W b da.size (tq R):=by
  refine⟨da,w,rfl,λq V=> ?_⟩;rw[tq,qX] at V;obtain⟨c,a1,a3⟩:=v q R[q] (cS V);have F:W.cell? ⟨b,0+q*1+0,Z⟩=U c.val:=by
   cases M with
   |sl e A b3 B R g1 g2 g3 gi gb go=>
    obtain⟨-,b2,b4,e2,-,g4⟩:=g3 q R[q] (cS V);cases e2;have:=g4 0 c (by rw[a1];rfl);rw[N] at this;exact this
  rw[a3] at F;simp only[ow,w] at F;have e3:((tq R).getD q 0:Int)=aI 0 R[q]:=by
   rw[(t q V).1,cz,cS V];rfl
  rw[e3];simpa using F
 have a4:∀q,(tq R).getD q 0<=q:=λq=>by
  by_cases V:q<Y R;exact(t q V).2;rw[Sx,cz,kg aa];show(0:Int).toNat<=q;simp
 have a9:(tq R).length=n:=by rw[tq,qX,hn]
 have ba:W.cell? ⟨z,0,Z⟩=U (.slice (U ⟨b,0,Z⟩) n B):=by simp[ow,f]
 have bb:W.cell? ⟨y,0,Z⟩=U (.func (.func 91) #[] #[.pointer (U ⟨z,0,Z⟩),.pointer (U ⟨y,0,Z⟩)]):=by simp[ow,d]
 have bc:((i.toNat:Nat):Int)=i:=aa;have s:=auq a af (sz:=da.size) aa (Y R) i.toNat W (tq R) aa aa a9 a4 ba bb a0;rw[bc] at s;refine s.mono ?_;rintro e w' ⟨rfl,bd,bf,bk,br,o⟩;have k:=aur G (Y R) i h0 h1;rw[<-ag] at k;rw[<-k] at o⊢;have b5:Y aA=Y R:=aaV H;have bs:=T5 H;have j:∀(q:Nat)(X:aC),aA[q]?=U X->∃c,X=[c]/\c.val=.int I (aI 0 X)/\0<=aI 0 X:=λq X V=>by
  obtain⟨p,Q⟩:=tB (bs X (jI V));obtain⟨c,P,O⟩:=v p X Q;have bt:p<Y R:=(ck.1 Q).1;have:=(Fv G bt).1;rw[cz,Q] at this;exact⟨c,P,O,this⟩
 have g:∀q,q<Y aA->(((tq aA).getD q 0:Nat):Int)=aI 0 (aA.getD q []):=λq V=>by
  obtain⟨c,-,-,c3⟩:=j q aA[q] (cS V);rw[Sx,cz,cS V];show((aI 0 aA[q]).toNat:Int)=aI 0 aA[q];omega
 refine⟨by rw[g _ aa],bd,aa,L.nil,.inr ⟨b,bf,rfl,bk,al,by rw[br];exact an, ?_,.inr rfl⟩⟩;apply kG;intro q;have bx:eG aA=aA.map λX=>Value.int I (aI 0 X):=by
  have:∀l:au,(∀X∈l,∃c,X=[c]/\c.val=.int I (aI 0 X))->eG l=l.map λX=>Value.int I (aI 0 X):=by
   intro l;induction l with
   |nil=>intro _;rfl
   |cons r l ih=>
    intro h;obtain⟨c,P,O⟩:=h r N4;have:=ih λX D=>h X (CX _ D)
    simp only[eG,Zq,dU] at this⊢;rw[this,<-O,P];rfl
  refine this aA λX D=> ?_
  obtain⟨p,Q⟩:=tB D;obtain⟨c,P,O,-⟩:=j p X Q;exact⟨c,P,O⟩
 rw[bx,nj,dW];simp only[N0,ai6];by_cases V:q<Y aA;rw[aJ V,Zj,o q (by rw[tq,qX];exact V),g q V,cS V];simp[cz,cS V];rw[aQ V,kg aa];rfl
section
attribute[local go_sem ↓] Go.wp_at_zero Go.wp_at_succ
open Go.Shelf Go.RowKit Go.Lib Go.Sort
def nT:List Int->Int
 |[]=>0
 |a::l=>if a=0 then nT l else a
def or2(b:Nat)(X V:Int)(W:World)(L:W.cell? ⟨b,0,Z⟩=U (.int I X))(H:W.cell? ⟨b,1,Z⟩=U (.int I V)):Calls Tryz.prog 204 #[.slice (U ⟨b,0,Z⟩) 2 2] W λe O=>e=.returned (.int I (nT [X,V]))/\O=W:=by
 by_cases R:X=0;have N:(X !=0)=false:=by simp[R]
 by_cases P:V=0
 ·have M:(V !=0)=false:=by simp[P]
  have Q:nT [X,V]=0:=by simp[nT,R,P]
  rw[Q];clear Q;clear R P;go_enter Tryz.func204,Tryz.ntmps204;go_wp2;refine wp_loop_rounds 3 ?_
  iterate 3 (rw[rounds_succ];go_wp2)
  go_ret;exact⟨rfl,rfl⟩
 ·have M:(V !=0)=true:=by simp[P]
  have Q:nT [X,V]=V:=by simp[nT,R,P]
  rw[Q];clear Q;clear R P;go_enter Tryz.func204,Tryz.ntmps204;go_wp2;refine wp_loop_rounds 3 ?_
  iterate 2 (rw[rounds_succ];go_wp2)
  go_ret;exact⟨rfl,rfl⟩
 ·have N:(X !=0)=true:=by simp[R]
  have Q:nT [X,V]=X:=by simp[nT,R]
  rw[Q];clear Q;clear R;go_enter Tryz.func204,Tryz.ntmps204;go_wp2;refine wp_loop_rounds 3 ?_
  iterate 1 (rw[rounds_succ];go_wp2)
  go_ret;exact⟨rfl,rfl⟩
def Sy(W:World)(V R:Obj)(X:Array Value)(t:TypeId)(i:Nat)(v:Value)(h:X[i]?=U v):(((W.alloc V).alloc R).alloc (.cells X t)).drew.cell? ⟨W.heap.size+1+1,i,Z⟩=U v:=by
 have e:(((W.alloc V).alloc R).alloc (.cells X t)).heap[W.heap.size+1+1]?=U (.cells X t):=by
  have:=heap_alloc_new ((W.alloc V).alloc R) (.cells X t);simpa using this
 show ow _ _=_;simp only[ow,World.drew,e];simpa using h
def aus(W:World)(X V R:Obj):∃q Q,(((W.alloc X).alloc V).alloc R).drew=grow (W.drewN q) Q:=⟨1, #[X]++ #[V]++ #[R],by rw[alloc_eq_grow,alloc_eq_grow,alloc_eq_grow,grow_grow,grow_grow];rfl⟩
def aEw(V R Q P:Int)(W:World):Calls Tryz.prog 236 #[.agg #[.int I V,.int I R],.agg #[.int I Q,.int I P]] W λe X=>e=.returned (.int I (nT [Lib.compareInt R P,Lib.compareInt V Q]))/\∃q L,X=grow (W.drewN q) L:=by
 have O:=λx y N=>AnyG.cmp_Compare_int Tryz.cmpInt x y N
 change∀x y N,Calls Tryz.prog 133 _ _ _ at O;generalize Lib.compareInt=M at O⊢;go_enter Tryz.func236,Tryz.ntmps236;go_wp2
 go_region_held3 (λX=>X.cell? ⟨W.heap.size,0,Z⟩=U (.int I V)/\X.cell? ⟨W.heap.size,1,Z⟩=U (.int I R)/\X.cell? ⟨W.heap.size+1,0,Z⟩=U (.int I Q)/\X.cell? ⟨W.heap.size+1,1,Z⟩=U (.int I P)) (go_keep)
  (first|(go_at_call 133;refine(O _ _ _).mono ?_;rintro e X ⟨rfl,rfl⟩)|(go_at_call 204;refine Calls.mono (or2 _ (M R P) (M V Q) _ (Sy _ _ _ _ _ _ _ rfl) (Sy _ _ _ _ _ _ _ rfl)) ?_;rintro e X ⟨rfl,rfl⟩))
 all_goals go_wp2
 all_goals go_ret
 exact⟨rfl,aus _ _ _ _⟩
def or3(b:Nat)(V R Q:Int)(W:World)(F:W.cell? ⟨b,0,Z⟩=U (.int I V))(D:W.cell? ⟨b,1,Z⟩=U (.int I R))(B:W.cell? ⟨b,2,Z⟩=U (.int I Q)):Calls Tryz.prog 204 #[.slice (U ⟨b,0,Z⟩) 3 3] W λe M=>e=.returned (.int I (nT [V,R,Q]))/\M=W:=by
 by_cases P:V=0;have L:(V !=0)=false:=by simp[P]
 by_cases O:R=0;have H:(R !=0)=false:=by simp[O]
 by_cases N:Q=0
 ·have G:(Q !=0)=false:=by simp[N]
  have X:nT [V,R,Q]=0:=by simp[nT,P,O,N]
  rw[X];clear X;clear P O N;go_enter Tryz.func204,Tryz.ntmps204;go_wp2;refine wp_loop_rounds 4 ?_
  iterate 4 (rw[rounds_succ];go_wp2)
  go_ret;exact⟨rfl,rfl⟩
 ·have G:(Q !=0)=true:=by simp[N]
  have X:nT [V,R,Q]=Q:=by simp[nT,P,O,N]
  rw[X];clear X;clear P O N;go_enter Tryz.func204,Tryz.ntmps204;go_wp2;refine wp_loop_rounds 4 ?_
  iterate 3 (rw[rounds_succ];go_wp2)
  go_ret;exact⟨rfl,rfl⟩
 ·have H:(R !=0)=true:=by simp[O]
  have X:nT [V,R,Q]=R:=by simp[nT,P,O]
  rw[X];clear X;clear P O;go_enter Tryz.func204,Tryz.ntmps204;go_wp2;refine wp_loop_rounds 4 ?_
  iterate 2 (rw[rounds_succ];go_wp2)
  go_ret;exact⟨rfl,rfl⟩
 ·have L:(V !=0)=true:=by simp[P]
  have X:nT [V,R,Q]=V:=by simp[nT,P]
  rw[X];clear X;clear P;go_enter Tryz.func204,Tryz.ntmps204;go_wp2;refine wp_loop_rounds 4 ?_
  iterate 1 (rw[rounds_succ];go_wp2)
  go_ret;exact⟨rfl,rfl⟩
def w52(V R Q P O N:Int)(W:World):Calls Tryz.prog 163 #[.agg #[.int I V,.int I R,.int I Q],.agg #[.int I P,.int I O,.int I N]] W λe X=>e=.returned (.int I (nT [Lib.compareInt V P,Lib.compareInt R O,Lib.compareInt Q N]))/\∃q G,X=grow (W.drewN q) G:=by
 have M:=λx y H=>AnyG.cmp_Compare_int Tryz.cmpInt x y H
 change∀x y H,Calls Tryz.prog 133 _ _ _ at M;generalize Lib.compareInt=L at M⊢;go_enter Tryz.func163,Tryz.ntmps163;go_wp2
 go_region_held3 (λX=>X.cell? ⟨W.heap.size,0,Z⟩=U (.int I V)/\X.cell? ⟨W.heap.size,1,Z⟩=U (.int I R)/\X.cell? ⟨W.heap.size,2,Z⟩=U (.int I Q)/\X.cell? ⟨W.heap.size+1,0,Z⟩=U (.int I P)/\X.cell? ⟨W.heap.size+1,1,Z⟩=U (.int I O)/\X.cell? ⟨W.heap.size+1,2,Z⟩=U (.int I N)) (go_keep)
  (first|(go_at_call 133;refine(M _ _ _).mono ?_;rintro e X ⟨rfl,rfl⟩)|(go_at_call 204;refine Calls.mono (or3 _ (L V P) (L R O) (L Q N) _ (Sy _ _ _ _ _ _ _ rfl) (Sy _ _ _ _ _ _ _ rfl) (Sy _ _ _ _ _ _ _ rfl)) ?_;rintro e X ⟨rfl,rfl⟩))
 all_goals go_wp2
 all_goals go_ret
 exact⟨rfl,aus _ _ _ _⟩
end
section
open Go.Shelf Go.RowKit
open Go.Sort (flatK get_flatK size_flatK HoldsK putRowK size_putRowK grow)
def IV(k:Nat)(x:bz):aC:=(fw k).map λi=>RV.mk (.int I (x.getD i 0)) []
def kA(k:Nat)(x:bz):gt:=(fw k).map λi=>Value.int I (x.getD i 0)
def ait(k:Nat)(x:bz):(IV k x).length=k:=by simp[IV]
def aiu(h:P<X):(IV X L)[P]?=U (RV.mk (.int I (L.getD P 0)) []):=by simp[IV,h]
def aEz(h:P<X):aI P (IV X L)=L.getD P 0:=by
 unfold aI;rw[cz,aiu h];rfl
def zh(X:ar)(x y:bz):Int:=nT (X.map λc=>Lib.compareInt (x.getD c 0) (y.getD c 0))
def aiv{k:Nat}{x y:bz}:∀{cs:ar},(∀c∈cs,c<k)->decide (zh cs x y<0)=jK E cs (IV k x) (IV k y)
 |[],_=>rfl
 |c::cs,h=>by
  have R:=aiv (x:=x) (y:=y) (cs:=cs) (λc W=>h c (by simp[W]));have W:c<k:=h c av;simp only[zh,dU,nT,jK,aEz W] at R⊢;generalize x.getD c 0=p;generalize y.getD c 0=q;by_cases V:p=q;rw[aJ V,aJ (by simp[Lib.compareInt,V])];exact R;rw[aQ V];by_cases X:p<q;have e:Lib.compareInt p q=-1:=by simp[Lib.compareInt,X]
  simp[e,X];have Q:p>q:=aa;have e:Lib.compareInt p q=1:=by simp[Lib.compareInt,X,Q]
  simp[e,X]
def aiw(h:∀c∈H,c<X):Go.Sort.SWO (ltOf (zh H)):=by
 have w:=LP H E;have e:∀x y,ltOf (zh H) x y=(bp.lex H E).lt (IV X x) (IV X y):=λx y=>aiv h
 exact⟨λx=>by rw[e];exact w.Vb _ rfl,λx y z W V=>by rw[e] at*;exact w.tr _ _ _ rfl rfl rfl W V,λx y z W V=>by rw[e] at*;exact w.nt _ _ _ rfl rfl rfl W V⟩
def aut:∀{k:Nat}{X:aC},jH (eN k J) X->Y X=k/\∀c∈X,c=.mk (.int I (bn c.val)) []
 |0,X,h=>by cases h;simp
 |k+1,[],h=>h.elim
 |k+1,c::r,h=>by
  obtain⟨⟨n,rfl⟩,W⟩:(∃n,c=.mk (.int I n) [])/\jH (eN k J) r:=h;obtain⟨V,R⟩:=aut W;exact⟨by simp[V],λc Q=>(dP.1 Q).elim (λe=>by subst e;rfl) (R c)⟩
def unI(X:aC):bz:=X.map λc=>bn c.val
def aEA(h:jH (eN X J) Q):IV X (unI Q)=Q:=by
 obtain⟨P,V⟩:=aut h;apply kG;intro i;by_cases R:i<X;rw[aiu R];have W:i<Y Q:=aa;rw[cS W,V _ (ql W)];simp[unI,cz,W];rw[kg (by rw[ait];omega),kg aa]
def aEB(h:∀x∈N,jH (eN X J) x):∃d:Array bz,N=d.toList.map (IV X):=by
 refine⟨(N.map unI).toArray, ?_⟩;simp only[ov]
 conv=>lhs;rw[<-List.map_id N]
 exact jT λx W=>(aEA (h x W)).symm
def auu(d:Array bz)(W:P<d.size*X):(eG (d.toList.map (IV X)))[P]?=U ((flatK (kA X) X d)[P]!):=by
 have Q:0<X:=by
  rcases A5 X with rfl|h;omega;exact h
 have O:P/X<d.size:=au0 (by rw[SR];exact W);have V:P%X<X:=Hj _ Q;have e:P=P/X*X+P%X:=by have:=aiY P X;rw[SR] at this;omega
 have:=OV (w:=X) (rows:=d.toList.map (IV X)) (λi N R=>by
  simp only[dW,SH] at R;obtain⟨x,_,rfl⟩:=R;exact ait X x) (i:=P/X) (j:=P%X) (row:=IV X d[P/X]!) (by simp[O]) (aiu V)
 rw[<-e] at this;rw[this,get_flatK _ _ _ _ W];congr 1;have:(kA X d[P/X]!)[P%X]?=U (.int I ((d[P/X]!).getD (P%X) 0)):=by simp[kA,V]
 rw[List.getElem!_eq_getElem?_getD,this];rfl
def aEC(d:Array bz):(eG (d.toList.map (IV X))).length=d.size*X:=by
 have:=Bz (w:=X) (rows:=d.toList.map (IV X)) (λi V W=>by
  simp only[dW,SH] at W;obtain⟨x,_,rfl⟩:=W;exact ait X x)
 simpa using this
def aED(Q:R.heap[X]?=U (.cells O V (0,0)))(j:Nat):R.frozen? ⟨X,j,Z⟩=false:=by
 simp[Zx,Q]
def aEE{Q:Ty}{n N k:Nat}{d:Array bz}(h:bJ R Q (.sl X) (.mk (.slice (U ⟨P,0,Z⟩) n N) (d.toList.map (IV k))))(M:R.heap[P]?=U (.cells O X (0,0))):HoldsK (kA k) k R P 0 d:=by
 intro j V;rw[size_flatK] at V;obtain⟨G,F,L,_,H⟩:=OW h j _ (auu d V);cases L;exact⟨H,aED M _⟩
def aEF{m:Nat}{d Q:Array bz}{os:Array Obj}(M:R.heap[P]?=U (.cells O V (0,0)))(B:HoldsK (kA X) X R P 0 d)(A:Q.size=d.size):
  R.grownBy (sortWorldK (kA X) X R P 0 m Q os) (U P)/\∃L,(sortWorldK (kA X) X R P 0 m Q os).heap[P]?=U (.cells L V (0,0))/\L.size=O.size/\L.toList.take (Q.size*X)=eG (Q.toList.map (IV X)):=by
 have H:P<R.heap.size:=(oQ.1 M).1;have z:(putRowK (kA X) X (Sort.ahead R m) P 0 Q).heap.size=R.heap.size:=by rw[size_putRowK];rfl
 have G:∀i,i<R.heap.size->(sortWorldK (kA X) X R P 0 m Q os).heap[i]?=(R.heap.modify P (Sort.onCells (Sort.putCells id 0 (flatK (kA X) X Q))))[i]?:=by
  intro i F;show(_++os)[i]?=_;rw[aIb (by rw[z];exact F)];rfl
 refine⟨⟨rfl,rfl,rfl, ?_,λi F y=> ?_⟩,Sort.putCells id 0 (flatK (kA X) X Q) O, ?_, ?_, ?_⟩;exact size_sortWorldK_c (kA X) X R P 0 m Q os;rw[G i F,SI,aQ (λD=>y (by rw[D]))];rw[G P H,SI,aJ rfl,M];rfl;simp[Sort.putCells];have D:=holdsK_sortWorldK_c (kA X) X R P 0 d Q m os B H A;have x:(sortWorldK (kA X) X R P 0 m Q os).heap[P]?=U (.cells (Sort.putCells id 0 (flatK (kA X) X Q) O) V (0,0)):=by rw[G P H,SI,aJ rfl,M];rfl
 apply kG;intro q;rw[nj];by_cases N:q<Q.size*X;rw[aJ N,auu Q N];have:=(D q (by rw[size_flatK];exact N)).1;simpa[ow,x] using this;rw[aQ N,kg (by rw[aEC];omega)]
def auv{lt:aC->aC->Bool}:∀{l:au},xX lt l=J->l.Pairwise (λx y=>lt x y=J\/lt y x=J)
 |[],_=>xE
 |x::r,h=>by
  simp only[xX,aw,fO,jy] at h;exact jq.2 ⟨h.1,auv h.2⟩
def aiy{f g:FuncId}{k:Nat}(a1:wB Tryz.prog f=J)(F:bD (look TT) (.sl V)=(eN k J).map EQ)(hc:∀c∈H,c<k)
  (a3:∀p R fv W,Calls Tryz.prog f #[.slice p 0 R,fv] W λP D=>P=.returned (.tuple #[])/\D=W)
  (a4:∀(b R:Nat)(d:Array bz)(W:World),HoldsK (kA k) k W b 0 d->b<W.heap.size->d.size<4611686018427387904->Calls Tryz.prog f #[.slice (U ⟨b,0,Z⟩) d.size R,.func (.func g) #[] #[]] W λP D=>P=.returned (.tuple #[])/\∃X n B,Go.Sort.PermIn 0 d.size d X/\Go.Sort.SortedIn (ltOf (zh H)) 0 d.size X/\D=sortWorldK (kA k) k W b 0 n X B):
  qB Tryz.prog (look TT) f g V (.lex H E) false:=by
 refine⟨wC a1,λW A n R w aA O ns bs v u L t=> ?_⟩;cases ns with
 |cons _ _=>simp[bp.fill] at v
 |nil=>
  simp only[bp.fill,cU] at v;subst v;have t:iZ (.lex H E) E w=U aA:=t;obtain⟨hl,bt⟩:=tS u;have hk:(bD (look TT) (.sl V)).length=k:=by rw[F];simp
  rw[hk] at L⊢;have Q:=aio t;simp only[iZ] at Q;split at Q
  case isFalse=>cases Q
  rename_i o;simp only[aw,cm,jy,jp,false_or] at o;obtain⟨l,_,a⟩:=o;have Q:=mH Q;have bx:Y aA=Y w:=by rw[<-AW aA,<-Q,mQ,AW]
  by_cases hn:n=0;subst hn;have h0:aA=[]:=tw aa;subst h0;refine(a3 A R _ W).mono ?_;rintro P W' ⟨rfl,rfl⟩;refine⟨rfl,⟨rfl,rfl,rfl,b9 _,λ_ _ _=>rfl⟩,⟨Hh _,L.nil, ?_⟩⟩;rcases L.mem with h|⟨b,da,rfl,N,s,r⟩;exact .inl h;cases R with
  |zero=>exact .inl rfl
  |succ c=>exact .inr ⟨b,da,rfl,N,s,r,by simp[eG],.inr rfl⟩
  rcases L.mem with h|⟨b,da,rfl,N,s,r⟩;omega;have hp:∀(j:Nat)(z:Value)(q:RK),(bD (look TT) (.sl V))[j]?≠U (.ae z q):=by
   intro j z q M;rw[F,dW] at M;cases G:(eN k J)[j]? with
   |none=>rw[G] at M;cases M
   |some b=>rw[G] at M;cases b<;>simp[EQ] at M
  have af:=atS hp u;obtain⟨d,hd⟩:=aEB (atQ F (fQ.yb u));have ag:d.size=n:=by
   have h3:(fC w).length=(d.toList.map (IV k)).length:=kh Y hd;rw[AW,qX,EX] at h3;exact h3.symm.trans hl
  rw[hd] at af Q a l;have al:=aEE af N;have G:b<W.heap.size:=(oQ.1 N).1;have a9:lx (U ⟨b,0,Z⟩) R=U b:=by
   cases R with
   |zero=>omega
   |succ c=>rfl
  have an:=a4 b R d W al G (by simp at l;omega);rw[ag] at an;refine Calls.mono an ?_;rintro P W' ⟨rfl,X,m,B,a0,ba,rfl⟩;have hs:X.size=d.size:=a0.1;obtain⟨g1,bb,g2,g3,g4⟩:=aEF (m:=m) (os:=B) N al hs;have bc:X.toList.Perm d.toList:=by
   have:=a0.2.2;rw[<-ag] at this;have e1:X.extract 0 d.size=X:=by rw[<-hs];exact aIE
   have e2:d.extract 0 d.size=d:=aIE
   rwa [e1,e2] at this
  have bd:gK (bp.lex H E).lt (X.toList.map (IV k)):=by
   refine au7.2 (NZ.2 λi j hi hj bf=> ?_);have bg:j<X.size:=by simpa using hj
   have bk:i<X.size:=by simpa using hi
   have:=ba i j (Hh _) bf aa;have V:=aiv (k:=k) (x:=X[j]) (y:=X[i]) hc;rw[getElem!_pos X j bg,getElem!_pos X i bk] at this;show jK E H (IV k X.toList[j]) (IV k X.toList[i])=E;rw[aIt,aIt,<-V];exact this
  have bl:X.toList.map (IV k)=fC aA:=by
   rw[<-Q,<-aAS (lt:=(bp.lex H E).lt) (asr E H) (ast E H) (bc.map (IV k)) (auv a)];exact(Vc bd).symm
  rw[a9];refine⟨rfl,g1,⟨aa,λh=>(by cases h),.inr ⟨b,bb,rfl,g2,s,by rw[g3,r], ?_,.inr rfl⟩⟩⟩;have br:Y aA=X.size:=aa;rw[br,g4,bl,atO]
end
section
open Go.Shelf Go.RowKit
open Go.Sort (HoldsK)
def Tryz.sortOb_ren:Go.Shelf.Ren:=⟨λ|6=>162|15=>172|14=>203|28=>217|29=>218|20=>241|21=>242|22=>243|23=>244|24=>245|25=>246|26=>247|27=>248|46=>290|47=>261|48=>262|49=>291|50=>292|57=>316|n=>n,λ|22=>271|24=>267|25=>273|3=>3|39=>285|0=>0|53=>336|55=>338|4=>4|46=>329|45=>328|50=>333|5=>5|9=>9|66=>373|70=>186|76=>402|77=>403|n=>n,λ|n=>n⟩
def Tryz.sortOb:Go.Proofs.SlLaysF0.n6 Tryz.prog Tryz.sortOb_ren:={mixed:=aY,f6:=⟨Tryz.f162.name,dQ,eL Tryz.func162 aY⟩,f14:=⟨Tryz.f203.name,dQ,eL Tryz.func203 aY⟩,f15:=eL Tryz.func172 aY,f20:=⟨Tryz.f241.name,dQ,eL Tryz.func241 aY⟩,f21:=⟨Tryz.f242.name,dQ,eL Tryz.func242 aY⟩,f22:=⟨Tryz.f243.name,dQ,eL Tryz.func243 aY⟩,f23:=⟨Tryz.f244.name,dQ,eL Tryz.func244 aY⟩,f24:=⟨Tryz.f245.name,dQ,eL Tryz.func245 aY⟩,f25:=⟨Tryz.f246.name,dQ,eL Tryz.func246 aY⟩,f26:=⟨Tryz.f247.name,dQ,eL Tryz.func247 aY⟩,f27:=⟨Tryz.f248.name,dQ,eL Tryz.func248 aY⟩,f28:=eL Tryz.func217 aY,f29:=eL Tryz.func218 aY,f46:=⟨Tryz.f290.name,dQ,eL Tryz.func290 aY⟩,f47:=eL Tryz.func261 aY,f48:=eL Tryz.func262 aY,f49:=⟨Tryz.f291.name,dQ,eL Tryz.func291 aY⟩,f50:=⟨Tryz.f292.name,dQ,eL Tryz.func292 aY⟩,f57:=⟨Tryz.f316.name,dQ,eL Tryz.func316 aY⟩,t0:=Tryz.underlying0,a0:=Tryz.isAgg0,z0:=Tryz.sizeOf0,v0:=Tryz.zeroValue0,t3:=Tryz.underlying3,a3:=Tryz.isAgg3,z3:=Tryz.sizeOf3,v3:=Tryz.zeroValue3,t4:=Tryz.underlying4,a4:=Tryz.isAgg4,z4:=Tryz.sizeOf4,v4:=Tryz.zeroValue4,t5:=Tryz.underlying5,a5:=Tryz.isAgg5,z5:=Tryz.sizeOf5,v5:=Tryz.zeroValue5,t9:=Tryz.underlying9,a9:=Tryz.isAgg9,z9:=Tryz.sizeOf9,v9:=Tryz.zeroValue9,t22:=Tryz.underlying271,a22:=Tryz.isAgg271,z22:=Tryz.sizeOf271,v22:=Tryz.zeroValue271,t25:=Tryz.underlying273,a25:=Tryz.isAgg273,z25:=Tryz.sizeOf273,v25:=Tryz.zeroValue273,t39:=Tryz.underlying285,a39:=Tryz.isAgg285,z39:=Tryz.sizeOf285,v39:=Tryz.zeroValue285,t45:=Tryz.underlying328,a45:=Tryz.isAgg328,z45:=Tryz.sizeOf328,v45:=Tryz.zeroValue328,t46:=Tryz.underlying329,a46:=Tryz.isAgg329,z46:=Tryz.sizeOf329,v46:=Tryz.zeroValue329,t50:=Tryz.underlying333,a50:=Tryz.isAgg333,z50:=Tryz.sizeOf333,v50:=Tryz.zeroValue333,t53:=Tryz.underlying336,a53:=Tryz.isAgg336,z53:=Tryz.sizeOf336,v53:=Tryz.zeroValue336,t55:=Tryz.underlying338,a55:=Tryz.isAgg338,z55:=Tryz.sizeOf338,v55:=Tryz.zeroValue338,t66:=Tryz.underlying373,a66:=Tryz.isAgg373,z66:=Tryz.sizeOf373,v66:=Tryz.zeroValue373,t70:=Tryz.underlying186,a70:=Tryz.isAgg186,z70:=Tryz.sizeOf186,v70:=Tryz.zeroValue186,t76:=Tryz.underlying402,a76:=Tryz.isAgg402,z76:=Tryz.sizeOf402,v76:=Tryz.zeroValue402,t77:=Tryz.underlying403,a77:=Tryz.isAgg403,z77:=Tryz.sizeOf403,v77:=Tryz.zeroValue403}
def Tryz.sortBr_ren:Go.Shelf.Ren:=⟨λ|6=>280|15=>172|14=>305|28=>217|29=>218|20=>322|21=>323|22=>324|23=>325|24=>326|25=>327|26=>328|27=>329|46=>334|47=>261|48=>262|49=>335|50=>336|57=>340|n=>n,λ|22=>302|24=>306|25=>363|3=>3|39=>285|0=>0|53=>336|55=>338|4=>4|46=>329|45=>328|50=>333|5=>5|9=>9|66=>373|70=>186|76=>402|77=>403|n=>n,λ|n=>n⟩
def Tryz.sortBr:Go.Proofs.SlLaysF0.n6 Tryz.prog Tryz.sortBr_ren:={mixed:=aY,f6:=⟨Tryz.f280.name,dQ,eL Tryz.func280 aY⟩,f14:=⟨Tryz.f305.name,dQ,eL Tryz.func305 aY⟩,f15:=eL Tryz.func172 aY,f20:=⟨Tryz.f322.name,dQ,eL Tryz.func322 aY⟩,f21:=⟨Tryz.f323.name,dQ,eL Tryz.func323 aY⟩,f22:=⟨Tryz.f324.name,dQ,eL Tryz.func324 aY⟩,f23:=⟨Tryz.f325.name,dQ,eL Tryz.func325 aY⟩,f24:=⟨Tryz.f326.name,dQ,eL Tryz.func326 aY⟩,f25:=⟨Tryz.f327.name,dQ,eL Tryz.func327 aY⟩,f26:=⟨Tryz.f328.name,dQ,eL Tryz.func328 aY⟩,f27:=⟨Tryz.f329.name,dQ,eL Tryz.func329 aY⟩,f28:=eL Tryz.func217 aY,f29:=eL Tryz.func218 aY,f46:=⟨Tryz.f334.name,dQ,eL Tryz.func334 aY⟩,f47:=eL Tryz.func261 aY,f48:=eL Tryz.func262 aY,f49:=⟨Tryz.f335.name,dQ,eL Tryz.func335 aY⟩,f50:=⟨Tryz.f336.name,dQ,eL Tryz.func336 aY⟩,f57:=⟨Tryz.f340.name,dQ,eL Tryz.func340 aY⟩,t0:=Tryz.underlying0,a0:=Tryz.isAgg0,z0:=Tryz.sizeOf0,v0:=Tryz.zeroValue0,t3:=Tryz.underlying3,a3:=Tryz.isAgg3,z3:=Tryz.sizeOf3,v3:=Tryz.zeroValue3,t4:=Tryz.underlying4,a4:=Tryz.isAgg4,z4:=Tryz.sizeOf4,v4:=Tryz.zeroValue4,t5:=Tryz.underlying5,a5:=Tryz.isAgg5,z5:=Tryz.sizeOf5,v5:=Tryz.zeroValue5,t9:=Tryz.underlying9,a9:=Tryz.isAgg9,z9:=Tryz.sizeOf9,v9:=Tryz.zeroValue9,t22:=Tryz.underlying302,a22:=Tryz.isAgg302,z22:=Tryz.sizeOf302,v22:=Tryz.zeroValue302,t25:=Tryz.underlying363,a25:=Tryz.isAgg363,z25:=Tryz.sizeOf363,v25:=Tryz.zeroValue363,t39:=Tryz.underlying285,a39:=Tryz.isAgg285,z39:=Tryz.sizeOf285,v39:=Tryz.zeroValue285,t45:=Tryz.underlying328,a45:=Tryz.isAgg328,z45:=Tryz.sizeOf328,v45:=Tryz.zeroValue328,t46:=Tryz.underlying329,a46:=Tryz.isAgg329,z46:=Tryz.sizeOf329,v46:=Tryz.zeroValue329,t50:=Tryz.underlying333,a50:=Tryz.isAgg333,z50:=Tryz.sizeOf333,v50:=Tryz.zeroValue333,t53:=Tryz.underlying336,a53:=Tryz.isAgg336,z53:=Tryz.sizeOf336,v53:=Tryz.zeroValue336,t55:=Tryz.underlying338,a55:=Tryz.isAgg338,z55:=Tryz.sizeOf338,v55:=Tryz.zeroValue338,t66:=Tryz.underlying373,a66:=Tryz.isAgg373,z66:=Tryz.sizeOf373,v66:=Tryz.zeroValue373,t70:=Tryz.underlying186,a70:=Tryz.isAgg186,z70:=Tryz.sizeOf186,v70:=Tryz.zeroValue186,t76:=Tryz.underlying402,a76:=Tryz.isAgg402,z76:=Tryz.sizeOf402,v76:=Tryz.zeroValue402,t77:=Tryz.underlying403,a77:=Tryz.isAgg403,z77:=Tryz.sizeOf403,v77:=Tryz.zeroValue403}
def aEG(a:Int):nT [a]=a:=by
 simp only[nT];split<;>omega
def aEH(b:Nat)(X:Nat)(w:World):CmpLays Tryz.prog 132 #[] (kA 14) 14 (zh [0]) b 0 X w:=λm W V R x y=>by
 have h:=aEq (x.getD 0 0) (x.getD 1 0) (x.getD 2 0) (x.getD 3 0) (x.getD 4 0) (x.getD 5 0) (x.getD 6 0) (x.getD 7 0) (x.getD 8 0) (x.getD 9 0) (x.getD 10 0) (x.getD 11 0) (x.getD 12 0) (x.getD 13 0) (y.getD 0 0) (y.getD 1 0) (y.getD 2 0) (y.getD 3 0) (y.getD 4 0) (y.getD 5 0) (y.getD 6 0) (y.getD 7 0) (y.getD 8 0) (y.getD 9 0) (y.getD 10 0) (y.getD 11 0) (y.getD 12 0) (y.getD 13 0) (sortWorldK (kA 14) 14 w b 0 m V W);have e:zh [0] x y=Lib.compareInt (x.getD 0 0) (y.getD 0 0):=aEG _;rw[e];exact h
def aEI(b:Nat)(X:Nat)(w:World):CmpLays Tryz.prog 236 #[] (kA 2) 2 (zh [1,0]) b 0 X w:=λm W V R x y=>
 aEw (x.getD 0 0) (x.getD 1 0) (y.getD 0 0) (y.getD 1 0) (sortWorldK (kA 2) 2 w b 0 m V W)
def aEJ(b:Nat)(X:Nat)(w:World):CmpLays Tryz.prog 163 #[] (kA 3) 3 (zh [0,1,2]) b 0 X w:=λm W V R x y=>
 w52 (x.getD 0 0) (x.getD 1 0) (x.getD 2 0) (y.getD 0 0) (y.getD 1 0) (y.getD 2 0) (sortWorldK (kA 3) 3 w b 0 m V W)
def aiz(k:Nat)(x:bz):(kA k x).length=k:=by simp[kA]
def aiA(k:Nat)(x:bz):∀v∈kA k x,v.oneCell'=true:=by
 intro v X;simp only[kA,iq] at X;obtain⟨i,_,rfl⟩:=X;rfl
def aEK:qB Tryz.prog (look TT) 131 132 128 (.lex [0] E) false:=by
 have V:∀c∈[0],c<14:=av;refine aiy (k:=14) aY aY V (λp X R W=> ?_) (λb X d W Q P O=> ?_);have h:=AnyF.slices_SortFunc_none Tryz.sortSg p X R W;exact h;have h:=AnyQ.slices_SortFunc Tryz.sortSg 14 Tryz.isAgg128 Tryz.sizeOf128 (kA 14) (aiz 14) (aiA 14) (zh [0]) (aiw V) 132 #[] b 0 X d W (enters_of Tryz.func132 aY rfl) (aEH b d.size W) Q P O;exact h
def aEL:qB Tryz.prog (look TT) 162 163 267 (.lex [0,1,2] E) false:=by
 have V:∀c∈[0,1,2],c<3:=av;refine aiy (k:=3) aY aY V (λp X R W=> ?_) (λb X d W Q P O=> ?_);have h:=AnyF.slices_SortFunc_none Tryz.sortOb p X R W;exact h;have h:=AnyQ.slices_SortFunc Tryz.sortOb 3 Tryz.isAgg267 Tryz.sizeOf267 (kA 3) (aiz 3) (aiA 3) (zh [0,1,2]) (aiw V) 163 #[] b 0 X d W (enters_of Tryz.func163 aY rfl) (aEJ b d.size W) Q P O;exact h
def aEM:qB Tryz.prog (look TT) 280 236 306 (.lex [1,0] E) false:=by
 have V:∀c∈[1,0],c<2:=av;refine aiy (k:=2) aY aY V (λp X R W=> ?_) (λb X d W Q P O=> ?_);have h:=AnyF.slices_SortFunc_none Tryz.sortBr p X R W;exact h;have h:=AnyQ.slices_SortFunc Tryz.sortBr 2 Tryz.isAgg306 Tryz.sizeOf306 (kA 2) (aiz 2) (aiA 2) (zh [1,0]) (aiw V) 236 #[] b 0 X d W (enters_of Tryz.func236 aY rfl) (aEI b d.size W) Q P O;exact h
def JZ:vV tj:=by
 intro x X;simp only[tj,dP,SN,or_false] at X;rcases X with rfl|rfl|rfl|rfl|rfl|rfl;exact mP.of aEL oS;exact mP.of aEl oS;exact mP.of aEK oS;exact mP.of aEM oS;exact mP.of aEp oS;unfold mP;rw[aJ rfl];exact aEu
end
theorem aEN:bF 70 E E T18:=tk Tryz.func70 (ct:=J)
theorem aEO:bF 24 E E X5:=tk Tryz.func24 (loops:=[(24,9,⟨[(62,.int I)],[]⟩),(24,16,⟨[(90,.int I),(6,.int I)],[]⟩)])
theorem aEP:bF 76 E E T86:=tk Tryz.func76
theorem aEQ:bF 77 E E T87:=tk Tryz.func77
theorem aER:bF 78 E E T88:=tk Tryz.func78
theorem aES:bF 197 E E ary:=tk Tryz.func197 (ct:=J)
theorem aET:bF 231 E E arz:=tk Tryz.func231 (ct:=J) (loops:=[(231,2,⟨[(8,.int I)],[]⟩)])
theorem aEU:bF 83 E E X6:=tk Tryz.func83 (loops:=[(83,4,⟨[(20,.int I)],[]⟩)])
theorem aEV(X:vV tj):bF 92 E E T77:=tk Tryz.func92 (loops:=[(92,7,⟨[(35,.int I),(6,.ah (.own 128))],[]⟩)]) (srts:=tj) (hsr:=X)
theorem aEW:bF 134 E E X7:=tk Tryz.func134
theorem aEX:bF 174 E E afM:=tk Tryz.func174
theorem aEY:bF 118 E E X8:=tk Tryz.func118
theorem aEZ:bF 51 E E Nt:=tk Tryz.func51 (inl:=[88,125,87])
theorem aE0(X:vV tj):bF 93 E E X9:=tk Tryz.func93 (loops:=[(93,6,⟨[(22,.int I),(4,.ah (.own 226))],[]⟩),(93,9,⟨[(28,.int I),(4,.ah (.own 226))],[]⟩)]) (inl:=[130]) (srts:=tj) (hsr:=X)
theorem aE1:bF 229 E E arE:=tk Tryz.func229 (ct:=J) (loops:=[(270,3,⟨[(9,.int I),(10,.int I)],[]⟩)]) (inl:=[270,271])
