/- Part 11 of the proof. -/
import Derived.Test.YtejplpmpldcmlaaGreatDoorV5
import Derived.Test.YtejplpmpldcmlaaGreatDoorV10
import Derived.Shelf.SlSortCmp.WholeK
import Derived.Shelf.SlSortCmp.NoneTotal
import Derived.Shelf.SlicesG.Cmp
import Derived.Deep.RegionHeld3
import Derived.Deep.DrawnRows
set_option linter.all false
set_option maxRecDepth 100000
set_option maxHeartbeats 100000000
open Bool renaming and_eq_true->aw,false_eq_true->jB,or_eq_true->jL,true->J,false->E
open List renaming getD_eq_getElem?_getD->cw,getElem?_eq_some_iff->cu,getElem?_eq_getElem->cP,getElem?_map->dS,map_cons->dU,mem_cons->dV,replicate->eF,all_eq_true->fZ,mem_of_getElem?->jK,map_congr_left->jA,getElem?_eq_none->km,pairwise_cons->jC,range->e8,mem_map->iD,ext_getElem?->kU,eq_nil_of_length_eq_zero->tM,getElem?_take->nD,getElem?_set_ne->ss,getElem?_of_mem->tO,getElem_mem->pM,length_map->pN,map_map->oJ,mem_cons_of_mem->Dd,getElem?_set_self->Hk,pairwise_iff_getElem->Oe,mem_singleton->Hm,mem_cons_self->Oj,length_singleton->ZC,not_mem_nil->SS,flatMap_cons->ZJ,all_map->Oo,pairwise_map->avB,map_set->ajo,length_set->avF,length->Y
open Nat renaming le_refl->bY,eq_zero_or_pos->Bm,mul_le_mul->Dg,zero_le->Hx,mod_lt->Hy,mul_comm->SZ,div_lt_of_lt_mul->avt,div_add_mod->ajk,mul_one->ZV,lt_of_le_of_ne->avy,not_lt_zero->avJ
open Option renaming map_eq_some_iff->SL,some->U,none->Z
open Array renaming getElem?_eq_some_iff->oY,length_toList->E3,getElem?_modify->SM,getElem?_setIfInBounds_ne->ai4,getElem?_toList->ZD,getElem?_setIfInBounds_self_of_lt->aIP,getElem?_append_left->aIT,getElem_toList->aJd,extract_size->aJo
open Go.World renaming cell?->oK,frozen?->ZR
open Int renaming natAbs_mul->ZP
open List.Pairwise renaming nil->xR
open Go.IntKind renaming i64->I
namespace Go.Proofs.YtejplpmpldcmlaaGreatDoor.Y
open Go.RowKit
noncomputable section
variable{M:ai}{W:bu}{N:ar}{Q:aF}{X P:Nat}{L:bA}{H:aq}{R:World}{O:mR}{V:TypeId}
def TM:lM:=⟨EQ,λ_ _=>Z⟩
def auG:aiv TM false:=by
 refine⟨λf X (h:EQ f=U X)=> ?_,λf X (h:EQ f=U X)=> ?_,λf=>ait f⟩;unfold EQ at h;split at h<;>cases h<;>first|exact auA|exact auB|exact auC|exact auD|exact auE|exact auF
 unfold EQ at h;split at h<;>cases h<;>exact id
def hTM(f:FuncId)(X:Fn)(h:EQ f=U X):LW TM f X:=⟨h,λ_=>rfl⟩
def auI{x y m n:Int}(X:x.natAbs<=m.natAbs)(W:y.natAbs<=n.natAbs):(x*y).natAbs<=(m*n).natAbs:=by
 rw[ZP,ZP];exact Dg X W
def aEQ{a b c d:Int}(R:gC a b=J)(Q:gC c d=J)(W:World):Calls Tryz.prog 98 #[.agg #[.int I a,.int I b],.agg #[.int I c,.int I d]] W λe P=>e=.returned (.tuple #[.int I (tC (a*d) (c*b)),.int I 0])/\Below W.heap.size W P:=by
 obtain⟨n,N⟩:=asd hTM a b c d;have M:=Zd auG n 98 _ _ _ _ rfl rfl rfl rfl _ _ _ N (Ze _) ⟨trivial,trivial,trivial,trivial,trivial⟩ W (λh=>by cases h) (Zf (by simp[uR]));refine Calls.mono M ?_;intro e P h;have O:IntKind.i64.wrap (a*d)=a*d/\IntKind.i64.wrap (c*b)=c*b:=by
  simp[gC] at R Q;have D:=auI (x:=a) (y:=d) (m:=1073741824) (n:=1073741824) aa aa;have B:=auI (x:=c) (y:=b) (m:=1073741824) (n:=1073741824) aa aa;rw[IntKind.wrap_i64,IntKind.wrap_i64];omega
 rw[oH,R,Q,O.1,O.2] at h;cases e with
 |returned v=>
  obtain⟨A,L,V,X,z,rfl,H,_,_⟩:=h;cases V;rcases L with _|⟨_|_|_,_|⟨_|_|_,_|_⟩⟩<;>first|exact X.elim|exact X.1.elim|exact X.2.elim|exact X.2.1.elim|exact X.2.2.elim|skip
  obtain⟨G,F,_⟩:=X;cases G;cases F;exact⟨rfl,H⟩
 |panicked w=>obtain⟨_,v,V,_⟩:=h;cases V
 |outgrown=>exact h.elim
def aER(a b:Int)(W:World):Calls Tryz.prog 133 #[.int I a,.int I b] W λe R=>e=.returned (.int I (tC a b))/\Below W.heap.size W R:=by
 obtain⟨n,Q⟩:=ahg hTM a b;have P:=Zd auG n 133 _ _ _ _ rfl rfl rfl rfl _ _ _ Q (Ze _) ⟨trivial,trivial,trivial⟩ W (λh=>by cases h) (Zf (by simp[uR]));refine Calls.mono P ?_;intro e R h;cases e with
 |returned v=>
  obtain⟨L,O,V,X,H,rfl,N,_,_⟩:=h;cases V;rcases O with _|⟨_|_|_,_|_⟩<;>first|exact X.elim|exact X.1.elim|exact X.2.elim|skip
  obtain⟨M,_⟩:=X;cases M;exact⟨rfl,N⟩
 |panicked G=>obtain⟨_,v,V,_⟩:=h;cases V
 |outgrown=>exact h.elim
def auJ{X:List K}{aE:ar}(h:lg M (.dD (0+3) W X) E N=U aE):False:=by
 have h:p7 3 W (X.map (K.ab M)) N=U aE:=h;obtain⟨_,h⟩:=BU h;obtain⟨a,b,c,V⟩:=Da (J1 aa h);rw[V] at h;have e:nO 3 W [a,b,c] N=if decide (0<=a)&&decide (a<b)&&decide (b<c)&&decide (c<=Y N)&&decide (c-a<((0:Nat):Int))&&N.all W.ok&&yo W.lt (bp N a.toNat b.toNat)&&yo W.lt (bp N b.toNat c.toNat) then U (N.take a.toNat++(bT W.lt (bp N a.toNat c.toNat)++N.drop c.toNat)) else none:=rfl;rw[e] at h;split at h;rename_i R;simp only[aw,ce] at R;omega;cases h
def auK(o:bu):∀l,ym o.lt (fH l)=ym o.lt l
 |[]=>rfl
 |x::r=>by
  have X:=auK o r;simp only[fH,dU,ym,Oo] at X⊢;rw[X];congr 2;funext y;simp only[Function.comp,aiC]
def aiL{X:Bool}{aE:ar}(h:jh W X N=U aE):jh W X (fH N)=U (fH aE):=by
 cases W with
 |dD k W R=>simp[jh] at h
 |_=>
  simp only[jh] at h⊢;rw[Bf,aug,auK,auf];split at h;rename_i V;rw[aL V];cases h;rfl;cases h
def KA:my:=[J,J,J,J,J,J,J,J,J,J,J,J,J,J]
def Oa(r:RE)(i:K):ap:=[.int I (.cell r i 0),.int I (.cell r i 1),.int I (.cell r i 2),.int I (.cell r i 3),.int I (.cell r i 4),.int I (.cell r i 5),.int I (.cell r i 6),.int I (.cell r i 7),.int I (.cell r i 8),.int I (.cell r i 9),.int I (.cell r i 10),.int I (.cell r i 11),.int I (.cell r i 12),.int I (.cell r i 13)]
def Zt(h:jP KA Q):∃X W V R P O N M L H G F D B,Q=[.mk (.int I X) [],.mk (.int I W) [],.mk (.int I V) [],.mk (.int I R) [],.mk (.int I P) [],.mk (.int I O) [],.mk (.int I N) [],.mk (.int I M) [],.mk (.int I L) [],.mk (.int I H) [],.mk (.int I G) [],.mk (.int I F) [],.mk (.int I D) [],.mk (.int I B) []]:=by
 rcases Q with _|⟨l,Q⟩;exact h.elim;obtain⟨⟨X,A⟩,h⟩:=h;subst A;rcases Q with _|⟨k,Q⟩;exact h.elim;obtain⟨⟨W,z⟩,h⟩:=h;subst z;rcases Q with _|⟨j,Q⟩;exact h.elim;obtain⟨⟨V,y⟩,h⟩:=h;subst y;rcases Q with _|⟨i,Q⟩;exact h.elim;obtain⟨⟨R,w⟩,h⟩:=h;subst w;rcases Q with _|⟨g,Q⟩;exact h.elim;obtain⟨⟨P,v⟩,h⟩:=h;subst v;rcases Q with _|⟨f,Q⟩;exact h.elim;obtain⟨⟨O,u⟩,h⟩:=h;subst u;rcases Q with _|⟨e,Q⟩;exact h.elim;obtain⟨⟨N,t⟩,h⟩:=h;subst t;rcases Q with _|⟨d,Q⟩;exact h.elim;obtain⟨⟨M,s⟩,h⟩:=h;subst s;rcases Q with _|⟨c,Q⟩;exact h.elim;obtain⟨⟨L,r⟩,h⟩:=h;subst r;rcases Q with _|⟨b,Q⟩;exact h.elim;obtain⟨⟨H,q⟩,h⟩:=h;subst q;rcases Q with _|⟨a,Q⟩;exact h.elim;obtain⟨⟨G,p⟩,h⟩:=h;subst p;rcases Q with _|⟨af,Q⟩;exact h.elim;obtain⟨⟨F,o⟩,h⟩:=h;subst o;rcases Q with _|⟨ag,Q⟩;exact h.elim;obtain⟨⟨D,n⟩,h⟩:=h;subst n;rcases Q with _|⟨al,Q⟩;exact h.elim;obtain⟨⟨B,m⟩,h⟩:=h;subst m;cases h;exact⟨X,W,V,R,P,O,N,M,L,H,G,F,D,B,rfl⟩
def aiM:EW KA Oa:=by
 refine⟨λO r i x X W=> ?_,λO r i x X W y V=> ?_⟩;obtain⟨R,Q,P,N,M,L,H,G,F,D,B,A,z,w,rfl⟩:=Zt W;simp[Oa,C.cj,K.ab,aQ,cw,X,bn];obtain⟨R,Q,P,N,M,L,H,G,F,D,B,A,z,w,rfl⟩:=Zt W;have e:∀(q:RE),q.rv (O.at y)=q.rv O:=λq=>RE.nf O y q
 have v:∀(q:K),q.ab (O.at y)=q.ab O:=λq=>K.fq O y q
 simp[Oa,C.aG,C.ab,K.ab,aQ,cw,e,v,X,bn]
def KB:my:=[J,J,J,E,J]
def Ob(r:RE)(i:K):ap:=[.int I (.cell r i 0),.int I (.cell r i 1),.int I (.cell r i 2),.bool (.cell r i 3),.int I (.cell r i 4)]
def Zu(h:jP KB Q):∃X W V R P,Q=[.mk (.int I X) [],.mk (.int I W) [],.mk (.int I V) [],.mk (.bool R) [],.mk (.int I P) []]:=by
 rcases Q with _|⟨G,Q⟩;exact h.elim;obtain⟨⟨X,O⟩,h⟩:=h;subst O;rcases Q with _|⟨F,Q⟩;exact h.elim;obtain⟨⟨W,N⟩,h⟩:=h;subst N;rcases Q with _|⟨D,Q⟩;exact h.elim;obtain⟨⟨V,M⟩,h⟩:=h;subst M;rcases Q with _|⟨B,Q⟩;exact h.elim;obtain⟨⟨R,L⟩,h⟩:=h;subst L;rcases Q with _|⟨A,Q⟩;exact h.elim;obtain⟨⟨P,H⟩,h⟩:=h;subst H;cases h;exact⟨X,W,V,R,P,rfl⟩
def aiN:EW KB Ob:=by
 refine⟨λO r i x X W=> ?_,λO r i x X W y V=> ?_⟩;obtain⟨R,Q,P,N,M,rfl⟩:=Zu W;simp[Ob,C.cj,K.ab,BE.ab,aQ,cw,X,bn,gA];obtain⟨R,Q,P,N,M,rfl⟩:=Zu W;have e:∀(q:RE),q.rv (O.at y)=q.rv O:=λq=>RE.nf O y q
 have L:∀(q:K),q.ab (O.at y)=q.ab O:=λq=>K.fq O y q
 simp[Ob,C.aG,C.ab,K.ab,BE.ab,aQ,cw,e,L,X,bn,gA]
def auL{p:Sp}{L:dG}{Q:bG}{P:bz}{X:K}(h:∀W,im p.S0 p.w0 W->p.R (.returned (.int I (X.ab M))) W):(T.ret (.int I X) Q P).aS p M L:=by
 intro y V W R;have:=h W R.base;simpa[C.ab,K.fq] using this
def UV(P:Program)(Q:Ty)(W:World)(V:bA)(R:my):az [] W cq.none Q [] ⟨V,R,[],[]⟩ {(⟨[],[],Y V,Y R,[],0,0,[]⟩:S) with tmps:=[]} ⟨#[],[]⟩ W:=
 ⟨⟨im.refl _ _,λi h=>by simp[aP,cz] at h,λi j h=>by simp[aP,cz] at h,λi t L h=>by simp[cz] at h,λq O N X M=>by simp at X⟩,rfl,rfl,rfl,rfl,UU _ _,rfl,λt H h=>by simp at h,λq O N b X M G=>by simp at X⟩
def aiO(P:Program)(o:bu)(W:World)(x y:aF):Ending->World->Prop:=λX V=>Below W.heap.size W V/\∃c:Int,X=.returned (.int I c)/\(c<0<->o.lt x y=J)
def auM{g:FuncId}{V:Func}{c:Code}{n:Nat}{args:ap}{t:T}(L:Tryz.prog.funcs[g]?=U V)(H:V.body=U c){y:aF}(O:bA)(N:my)
  (G:OX (p9 Tryz.prog TT SG [] [] [] [] E []) n g c V.ntmps V.results.toList args ⟨[],[],Y O,Y N,[],0,0,[]⟩=t)(X:World)(F:(C.aG ⟨O,N,[],[]⟩ [] args).toArray= #[.agg (Q.map RV.val).toArray,.agg (y.map RV.val).toArray])
  (D:∀p:Sp,p.P=Tryz.prog->p.S0=[]->p.w0=X->p.R=aiO Tryz.prog W X Q y->t.aS p ⟨O,N,[],[]⟩ []):Calls Tryz.prog g #[.agg (Q.map RV.val).toArray,.agg (y.map RV.val).toArray] X (aiO Tryz.prog W X Q y):=by
 let p:Sp:=⟨Tryz.prog,look TT,[],X,cq.none,aiO Tryz.prog W X Q y,λ_ _ _=>False⟩;have B:jS p (p9 Tryz.prog TT SG [] [] [] [] E []):=PU JZ Sn rfl Sq (λz w b ob _ h=>by obtain⟨_,c,A,_⟩:=h;cases A) (λQ M=>by cases M);rw[<-F];exact amW (p:=p) B L H G (D p rfl rfl rfl rfl) (λQ M=>by simp[p9] at M) (UV Tryz.prog _ X O N)
def auN(x y:Int):tC x y<0<->x<y:=by
 unfold tC;split;omega;split<;>omega
def aES:T:=(.call 98 [(.agg [(.int I (.v 10)),(.int I (.v 11))]),(.agg [(.int I (.v 24)),(.int I (.v 25))])] [] [] [.int I,.int I] (.bO [(.int I (.v 28)),(.int I (.v 29))])
 (.ret (.int I (.v 28)) [] []))
def aET:T:=(.call 133 [(.int I (.v 7)),(.int I (.v 3))] [] [] [.int I] (.int I (.v 8))
 (.ret (.int I (.v 8)) [] []))
def SA:J0 Tryz.prog KA 129 (.ratio 10 11):=by
 intro W x y M L H G;obtain⟨F,D,B,A,z,w,u,s,r,q,X,Q,o,m,rfl⟩:=Zt M;obtain⟨l,k,j,h,g,f,e,d,c,b,P,O,a,af,rfl⟩:=Zt L;refine auM (t:=aES) (n:=100) (args:=[(.agg [(.int I (.v 0)),(.int I (.v 1)),(.int I (.v 2)),(.int I (.v 3)),(.int I (.v 4)),(.int I (.v 5)),(.int I (.v 6)),(.int I (.v 7)),(.int I (.v 8)),(.int I (.v 9)),(.int I (.v 10)),(.int I (.v 11)),(.int I (.v 12)),(.int I (.v 13))]),(.agg [(.int I (.v 14)),(.int I (.v 15)),(.int I (.v 16)),(.int I (.v 17)),(.int I (.v 18)),(.int I (.v 19)),(.int I (.v 20)),(.int I (.v 21)),(.int I (.v 22)),(.int I (.v 23)),(.int I (.v 24)),(.int I (.v 25)),(.int I (.v 26)),(.int I (.v 27))])]) rfl rfl [F,D,B,A,z,w,u,s,r,q,X,Q,o,m,l,k,j,h,g,f,e,d,c,b,P,O,a,af] [] aX W rfl ?_;rintro p hP hS hW hR;have h1:gC X Q=true:=H;have h2:gC P O=true:=G;intro yy V W' R;rw[hP];refine(aEQ h1 h2 W').mono ?_;rintro en W2 ⟨rfl,hB⟩;refine⟨[.i (tC (X*O) (P*Q)),.i 0],⟨trivial,trivial,trivial⟩,rfl,hB,⟨trivial,trivial,trivial⟩,auL λW3 N=> ?_⟩;rw[hS,hW] at N;rw[hR];refine⟨PY N,_,rfl, ?_⟩;simp[K.ab,ai.ext,ai.add,bu.lt,aM,bn,auN]
def SB:J0 Tryz.prog KB 319 (.lex [4] J):=by
 intro W x y O N o m;obtain⟨M,L,H,G,X,rfl⟩:=Zu O;obtain⟨F,D,B,A,Q,rfl⟩:=Zu N;refine auM (t:=aET) (n:=100) (args:=[(.agg [(.int I (.v 0)),(.int I (.v 1)),(.int I (.v 2)),(.bool (.v 0)),(.int I (.v 3))]),(.agg [(.int I (.v 4)),(.int I (.v 5)),(.int I (.v 6)),(.bool (.v 1)),(.int I (.v 7))])]) rfl rfl [M,L,H,X,F,D,B,Q] [G,A] aX W rfl ?_;rintro p z w u s;intro l V r R;rw[z];refine(aER Q X r).mono ?_;rintro k j ⟨rfl,q⟩;refine⟨[.i (tC Q X)],⟨trivial,trivial⟩,rfl,q,⟨trivial,trivial⟩,auL λh P=> ?_⟩;rw[w,u] at P;rw[s];refine⟨PY P,_,rfl, ?_⟩;simp[K.ab,ai.ext,ai.add,bu.lt,jR,aM,bn,auN];omega
def aEU:qO Tryz.prog (look TT) 296 129 128 (.dD 0 (.ratio 10 11) []) false:=
 Hf (K:=KA) (n:=100) (args:=[(.ah (.v 0)),(.int I (.v 0)),(.int I (.v 1)),(.int I (.v 2)),(.fn 129 [])]) (loops:=[(296,1,⟨[(0,.ah (.own 128)),(10,.int I)],[]⟩)]) (srts:=[]) (chs:=[(296,3)]) (t:=Zj 128 Oa) rfl rfl rfl aX (λx X=>by cases X) aX SA aX (aup aiM) (λW V h=>by obtain⟨a,b,c,rfl⟩:=Da h;rfl) (λW R aE h=>J1 aa h)
def aEV:qO Tryz.prog (look TT) 259 129 128 (.dD 1 (.ratio 10 11) []) false:=
 Hf (K:=KA) (n:=100) (args:=[(.ah (.v 0)),(.int I (.v 0)),(.int I (.v 1)),(.int I (.v 2)),(.fn 129 [])]) (loops:=[(259,2,⟨[(0,.ah (.own 128)),(10,.int I),(11,.int I)],[]⟩)]) (srts:=[(296,129,128,.dD 0 (.ratio 10 11) [],E)]) (chs:=[]) (t:=Zk 128 129 296 (.ratio 10 11)) rfl rfl rfl aX (λx X=>by simp only[Hm] at X;subst X;exact mY.of (aEU) o7) aX SA aX (aur) (λW V h=>by obtain⟨a,b,c,rfl⟩:=Da h;rfl) (λW R aE h=>J1 aa h)
def aEW:qO Tryz.prog (look TT) 208 129 128 (.dD 2 (.ratio 10 11) []) false:=
 Hf (K:=KA) (n:=100) (args:=[(.ah (.v 0)),(.int I (.v 0)),(.int I (.v 1)),(.fn 129 [])]) (loops:=[(208,1,⟨[(0,.ah (.own 128)),(8,.int I)],[]⟩),(208,4,⟨[(0,.ah (.own 128)),(9,.int I)],[]⟩)]) (srts:=[]) (chs:=[(208,6)]) (t:=Zl 128 129 Oa) rfl rfl rfl aX (λx X=>by cases X) aX SA aX (auu aiM (Qf 10 11)) (λW V h=>by obtain⟨a,b,rfl⟩:=two h;rfl) (λW R aE h=>aun h)
def auO:∀N:Nat,qO Tryz.prog (look TT) 209 129 128 (.dD (N+3) (.ratio 10 11) []) E
 |0=>⟨wG aX,λW A n M Q aE O X L V H G P=>by
  simp only[bu.fill,cX] at V;subst V;exact(auJ P).elim⟩
 |N+1=>Hf (K:=KA) (n:=100) (args:=[(.ah (.v 0)),(.int I (.v 0)),(.int I (.v 1)),(.int I (.v 2)),(.fn 129 [])]) (loops:=[(209,3,⟨[(0,.ah (.own 128)),(10,.int I),(11,.int I)],[]⟩),(209,9,⟨[(0,.ah (.own 128)),(13,.int I)],[]⟩),(209,15,⟨[(0,.ah (.own 128)),(14,.int I),(15,.int I)],[]⟩),(209,21,⟨[(0,.ah (.own 128)),(17,.int I)],[]⟩),(209,33,⟨[(0,.ah (.own 128)),(20,.int I),(21,.int I)],[]⟩)]) (srts:=[(259,129,128,.dD 1 (.ratio 10 11) [],E),(209,129,128,.dD (N+3) (.ratio 10 11) [],E)]) (chs:=[(209,11),(209,23)]) (t:=Zn 128 129 259 209 N (.ratio 10 11) Oa) rfl rfl rfl aX (λx R=>by
   simp only[dV,SS,or_false] at R;rcases R with rfl|rfl;exact mY.of (aEV) o7;exact mY.of (auO N) o7) aX SA aX (aux aiM (Qf 10 11)) (λX F h=>by obtain⟨a,b,c,rfl⟩:=Da h;rfl) (λX Q aE h=>J1 aa h)
def aEX:qO Tryz.prog (look TT) 128 129 128 (.ratio 10 11) true:=by
 refine⟨wG aX,λW A n B V aE O X z Q H G P=> ?_⟩;cases X with
 |cons _ _=>simp[bu.fill] at Q
 |nil=>
  simp only[bu.fill,cX] at Q;subst Q;have P:jh (.ratio 10 11) J V=U aE:=P;refine aiD (K:=KA) (o:=(.ratio 10 11)) (N:=0) (n:=100) (inl:=[170]) (args:=[(.ah (.v 0)),(.fn 129 [])]) (loops:=[(170,2,⟨[(0,.ah (.own 128)),(8,.int I),(7,.int I)],[]⟩),(170,7,⟨[(0,.ah (.own 128)),(6,.int I)],[]⟩),(170,9,⟨[(0,.ah (.own 128)),(8,.int I),(7,.int I)],[]⟩)]) (srts:=[(208,129,128,.dD 2 (.ratio 10 11) [],E),(209,129,128,.dD (Y V+1+3) (.ratio 10 11) [],E)]) (chs:=[]) (F:=λX R=>if X=[]/\Y R<Y V+1 then jh (.ratio 10 11) J R else Z) (t:=Zo 128 129 208 209 (Y V+1) (.ratio 10 11)) rfl rfl rfl aX (λx L=> ?_) aX SA aX (auz (Qf 10 11)) (λX y h=> ?_) (λX R D h=> ?_) (λX R D h=> ?_) H G ?_;simp only[dV,SS,or_false] at L;rcases L with rfl|rfl;exact mY.of (aEW) o7;exact mY.of (auO _) o7;have:X=[]:=tM h;subst this;rfl;split at h;rename_i M;rw[aL (by rw[Bf];exact M)];exact aiL h;cases h;split at h;rename_i M;exact⟨by rw[M.1];rfl,abi h⟩;cases h;rw[aL ⟨rfl,aa⟩];exact P
def aEY:qO Tryz.prog (look TT) 342 319 419 (.dD 0 (.lex [4] J) []) false:=
 Hf (K:=KB) (n:=100) (args:=[(.ah (.v 0)),(.int I (.v 0)),(.int I (.v 1)),(.int I (.v 2)),(.fn 319 [])]) (loops:=[(342,1,⟨[(0,.ah (.own 419)),(10,.int I)],[]⟩)]) (srts:=[]) (chs:=[(342,3)]) (t:=Zj 419 Ob) rfl rfl rfl aX (λx X=>by cases X) aX SB aX (aup aiN) (λW V h=>by obtain⟨a,b,c,rfl⟩:=Da h;rfl) (λW R aE h=>J1 aa h)
def aEZ:qO Tryz.prog (look TT) 341 319 419 (.dD 1 (.lex [4] J) []) false:=
 Hf (K:=KB) (n:=100) (args:=[(.ah (.v 0)),(.int I (.v 0)),(.int I (.v 1)),(.int I (.v 2)),(.fn 319 [])]) (loops:=[(341,2,⟨[(0,.ah (.own 419)),(10,.int I),(11,.int I)],[]⟩)]) (srts:=[(342,319,419,.dD 0 (.lex [4] J) [],E)]) (chs:=[]) (t:=Zk 419 319 342 (.lex [4] J)) rfl rfl rfl aX (λx X=>by simp only[Hm] at X;subst X;exact mY.of (aEY) o7) aX SB aX (aur) (λW V h=>by obtain⟨a,b,c,rfl⟩:=Da h;rfl) (λW R aE h=>J1 aa h)
def aE0:qO Tryz.prog (look TT) 338 319 419 (.dD 2 (.lex [4] J) []) false:=
 Hf (K:=KB) (n:=100) (args:=[(.ah (.v 0)),(.int I (.v 0)),(.int I (.v 1)),(.fn 319 [])]) (loops:=[(338,1,⟨[(0,.ah (.own 419)),(8,.int I)],[]⟩),(338,4,⟨[(0,.ah (.own 419)),(9,.int I)],[]⟩)]) (srts:=[]) (chs:=[(338,6)]) (t:=Zl 419 319 Ob) rfl rfl rfl aX (λx X=>by cases X) aX SB aX (auu aiN (LY [4] J)) (λW V h=>by obtain⟨a,b,rfl⟩:=two h;rfl) (λW R aE h=>aun h)
def auP:∀N:Nat,qO Tryz.prog (look TT) 339 319 419 (.dD (N+3) (.lex [4] J) []) E
 |0=>⟨wG aX,λW A n M Q aE O X L V H G P=>by
  simp only[bu.fill,cX] at V;subst V;exact(auJ P).elim⟩
 |N+1=>Hf (K:=KB) (n:=100) (args:=[(.ah (.v 0)),(.int I (.v 0)),(.int I (.v 1)),(.int I (.v 2)),(.fn 319 [])]) (loops:=[(339,3,⟨[(0,.ah (.own 419)),(10,.int I),(11,.int I)],[]⟩),(339,9,⟨[(0,.ah (.own 419)),(13,.int I)],[]⟩),(339,15,⟨[(0,.ah (.own 419)),(14,.int I),(15,.int I)],[]⟩),(339,21,⟨[(0,.ah (.own 419)),(17,.int I)],[]⟩),(339,33,⟨[(0,.ah (.own 419)),(20,.int I),(21,.int I)],[]⟩)]) (srts:=[(341,319,419,.dD 1 (.lex [4] J) [],E),(339,319,419,.dD (N+3) (.lex [4] J) [],E)]) (chs:=[(339,11),(339,23)]) (t:=Zn 419 319 341 339 N (.lex [4] J) Ob) rfl rfl rfl aX (λx R=>by
   simp only[dV,SS,or_false] at R;rcases R with rfl|rfl;exact mY.of (aEZ) o7;exact mY.of (auP N) o7) aX SB aX (aux aiN (LY [4] J)) (λX F h=>by obtain⟨a,b,c,rfl⟩:=Da h;rfl) (λX Q aE h=>J1 aa h)
def aE1:qO Tryz.prog (look TT) 318 319 419 (.lex [4] J) true:=by
 refine⟨wG aX,λW A n B V aE O X z Q H G P=> ?_⟩;cases X with
 |cons _ _=>simp[bu.fill] at Q
 |nil=>
  simp only[bu.fill,cX] at Q;subst Q;have P:jh (.lex [4] J) J V=U aE:=P;refine aiD (K:=KB) (o:=(.lex [4] J)) (N:=0) (n:=100) (inl:=[332]) (args:=[(.ah (.v 0)),(.fn 319 [])]) (loops:=[(332,2,⟨[(0,.ah (.own 419)),(8,.int I),(7,.int I)],[]⟩),(332,7,⟨[(0,.ah (.own 419)),(6,.int I)],[]⟩),(332,9,⟨[(0,.ah (.own 419)),(8,.int I),(7,.int I)],[]⟩)]) (srts:=[(338,319,419,.dD 2 (.lex [4] J) [],E),(339,319,419,.dD (Y V+1+3) (.lex [4] J) [],E)]) (chs:=[]) (F:=λX R=>if X=[]/\Y R<Y V+1 then jh (.lex [4] J) J R else Z) (t:=Zo 419 319 338 339 (Y V+1) (.lex [4] J)) rfl rfl rfl aX (λx L=> ?_) aX SB aX (auz (LY [4] J)) (λX y h=> ?_) (λX R D h=> ?_) (λX R D h=> ?_) H G ?_;simp only[dV,SS,or_false] at L;rcases L with rfl|rfl;exact mY.of (aE0) o7;exact mY.of (auP _) o7;have:X=[]:=tM h;subst this;rfl;split at h;rename_i M;rw[aL (by rw[Bf];exact M)];exact aiL h;cases h;split at h;rename_i M;exact⟨by rw[M.1];rfl,abi h⟩;cases h;rw[aL ⟨rfl,aa⟩];exact P
section
open Go.Shelf Go.RowKit Go.Lib Go.Sort
def eV{o:Option Func}{a b:Func}(h:o=U a)(e:a=b):o=U b:=h.trans (ko U e)
def Tryz.cmpInt_ren:Go.Shelf.Ren:=⟨λ|5=>133|7=>173|n=>n,λ|22=>3|3=>3|4=>4|n=>n,λ|n=>n⟩
def Tryz.cmpInt:Go.Proofs.SlLaysC2.n5 Tryz.prog Tryz.cmpInt_ren:={mixed:=by kernel_rfl,f5:=⟨Tryz.f133.name,dX,eV Tryz.func133 (by kernel_rfl)⟩,f7:=⟨Tryz.f173.name,dX,eV Tryz.func173 (by kernel_rfl)⟩,t3:=Tryz.underlying3,a3:=Tryz.isAgg3,z3:=Tryz.sizeOf3,v3:=Tryz.zeroValue3,t4:=Tryz.underlying4,a4:=Tryz.isAgg4,z4:=Tryz.sizeOf4,v4:=Tryz.zeroValue4,t22:=Tryz.underlying3,a22:=Tryz.isAgg3,z22:=Tryz.sizeOf3,v22:=Tryz.zeroValue3}
def Tryz.sortSg_ren:Go.Shelf.Ren:=⟨λ|6=>131|15=>172|14=>171|28=>217|29=>218|20=>208|21=>210|22=>211|23=>212|24=>213|25=>214|26=>215|27=>216|46=>260|47=>261|48=>262|49=>263|50=>264|57=>297|n=>n,λ|22=>30|24=>128|25=>247|3=>3|39=>285|0=>0|53=>336|55=>338|4=>4|46=>329|45=>328|50=>333|5=>5|9=>9|66=>373|70=>186|76=>402|77=>403|n=>n,λ|n=>n⟩
def Tryz.sortSg:Go.Proofs.SlLaysF0.n6 Tryz.prog Tryz.sortSg_ren:={mixed:=by kernel_rfl,f6:=⟨Tryz.f131.name,dX,eV Tryz.func131 (by kernel_rfl)⟩,f14:=⟨Tryz.f171.name,dX,eV Tryz.func171 (by kernel_rfl)⟩,f15:=eV Tryz.func172 (by kernel_rfl),f20:=⟨Tryz.f208.name,dX,eV Tryz.func208 (by kernel_rfl)⟩,f21:=⟨Tryz.f210.name,dX,eV Tryz.func210 (by kernel_rfl)⟩,f22:=⟨Tryz.f211.name,dX,eV Tryz.func211 (by kernel_rfl)⟩,f23:=⟨Tryz.f212.name,dX,eV Tryz.func212 (by kernel_rfl)⟩,f24:=⟨Tryz.f213.name,dX,eV Tryz.func213 (by kernel_rfl)⟩,f25:=⟨Tryz.f214.name,dX,eV Tryz.func214 (by kernel_rfl)⟩,f26:=⟨Tryz.f215.name,dX,eV Tryz.func215 (by kernel_rfl)⟩,f27:=⟨Tryz.f216.name,dX,eV Tryz.func216 (by kernel_rfl)⟩,f28:=eV Tryz.func217 (by kernel_rfl),f29:=eV Tryz.func218 (by kernel_rfl),f46:=⟨Tryz.f260.name,dX,eV Tryz.func260 (by kernel_rfl)⟩,f47:=eV Tryz.func261 (by kernel_rfl),f48:=eV Tryz.func262 (by kernel_rfl),f49:=⟨Tryz.f263.name,dX,eV Tryz.func263 (by kernel_rfl)⟩,f50:=⟨Tryz.f264.name,dX,eV Tryz.func264 (by kernel_rfl)⟩,f57:=⟨Tryz.f297.name,dX,eV Tryz.func297 (by kernel_rfl)⟩,t0:=Tryz.underlying0,a0:=Tryz.isAgg0,z0:=Tryz.sizeOf0,v0:=Tryz.zeroValue0,t3:=Tryz.underlying3,a3:=Tryz.isAgg3,z3:=Tryz.sizeOf3,v3:=Tryz.zeroValue3,t4:=Tryz.underlying4,a4:=Tryz.isAgg4,z4:=Tryz.sizeOf4,v4:=Tryz.zeroValue4,t5:=Tryz.underlying5,a5:=Tryz.isAgg5,z5:=Tryz.sizeOf5,v5:=Tryz.zeroValue5,t9:=Tryz.underlying9,a9:=Tryz.isAgg9,z9:=Tryz.sizeOf9,v9:=Tryz.zeroValue9,t22:=Tryz.underlying30,a22:=Tryz.isAgg30,z22:=Tryz.sizeOf30,v22:=Tryz.zeroValue30,t25:=Tryz.underlying247,a25:=Tryz.isAgg247,z25:=Tryz.sizeOf247,v25:=Tryz.zeroValue247,t39:=Tryz.underlying285,a39:=Tryz.isAgg285,z39:=Tryz.sizeOf285,v39:=Tryz.zeroValue285,t45:=Tryz.underlying328,a45:=Tryz.isAgg328,z45:=Tryz.sizeOf328,v45:=Tryz.zeroValue328,t46:=Tryz.underlying329,a46:=Tryz.isAgg329,z46:=Tryz.sizeOf329,v46:=Tryz.zeroValue329,t50:=Tryz.underlying333,a50:=Tryz.isAgg333,z50:=Tryz.sizeOf333,v50:=Tryz.zeroValue333,t53:=Tryz.underlying336,a53:=Tryz.isAgg336,z53:=Tryz.sizeOf336,v53:=Tryz.zeroValue336,t55:=Tryz.underlying338,a55:=Tryz.isAgg338,z55:=Tryz.sizeOf338,v55:=Tryz.zeroValue338,t66:=Tryz.underlying373,a66:=Tryz.isAgg373,z66:=Tryz.sizeOf373,v66:=Tryz.zeroValue373,t70:=Tryz.underlying186,a70:=Tryz.isAgg186,z70:=Tryz.sizeOf186,v70:=Tryz.zeroValue186,t76:=Tryz.underlying402,a76:=Tryz.isAgg402,z76:=Tryz.sizeOf402,v76:=Tryz.zeroValue402,t77:=Tryz.underlying403,a77:=Tryz.isAgg403,z77:=Tryz.sizeOf403,v77:=Tryz.zeroValue403}
def aE2(X O N M L H G F D B A z y x13 V x w v u t s p o n m l k j:Int)(W:World):Calls Tryz.prog 132 #[.agg #[.int I X,.int I O,.int I N,.int I M,.int I L,.int I H,.int I G,.int I F,.int I D,.int I B,.int I A,.int I z,.int I y,.int I x13],.agg #[.int I V,.int I x,.int I w,.int I v,.int I u,.int I t,.int I s,.int I p,.int I o,.int I n,.int I m,.int I l,.int I k,.int I j]] W λe Q=>e=.returned (.int I (Lib.compareInt X V))/\∃q i,Q=grow (W.drewN q) i:=by
 have R:=λP=>AnyG.cmp_Compare_int Tryz.cmpInt X V P
 change∀P,Calls Tryz.prog 133 _ _ _ at R;generalize Lib.compareInt X V=r at R⊢;go_enter Tryz.func132,Tryz.ntmps132
 go_wp2_with (go_at_call 133;refine(R _).mono ?_;rintro e Q ⟨rfl,rfl⟩)
 go_ret;exact⟨rfl,0,_,by rw[alloc_eq_grow,alloc_eq_grow,grow_grow];rfl⟩
end
section
attribute[local go_sem ↓] Go.wp_at_zero Go.wp_at_succ
open Go.Shelf Go.RowKit Go.Lib Go.Sort
def sq:Nat->Nat->List Nat->List Nat
 |0,_,g=>g
 |n+1,k,g=>if g.getD k 0=k then g else(sq n (g.getD k 0) g).set k ((sq n (g.getD k 0) g).getD (g.getD k 0) 0)
def auQ{g:List Nat}:∀n k,(sq n k g).length=Y g
 |0,_=>rfl
 |n+1,k=>by
  simp only[sq];split;rfl;simp[auQ n]
def auR{g:List Nat}(X:∀q,g.getD q 0<=q):∀n k q,k<q->(sq n k g).getD q 0=g.getD q 0
 |0,_,_,_=>rfl
 |n+1,k,q,h=>by
  simp only[sq];split;rfl;have:=X k;rw[cw,ss aa,<-cw];exact auR X n _ q aa
def InB(W:World)(b X:Nat)(g:List Nat):Prop:=∃di,W.heap[b]?=U (.cells di 3 (0,0))/\di.size=X/\∀q,q<Y g->di[q]?=U (.int I ((g.getD q 0:Nat):Int))
def aE4(W:World)(X V b n R k:Nat)(P:W.cell? ⟨X,0,Z⟩=U (.slice (U ⟨b,0,Z⟩) n R))(_hl:W.cell? ⟨V,0,Z⟩=U (.func (.func 91) #[] #[.pointer (U ⟨X,0,Z⟩),.pointer (U ⟨V,0,Z⟩)]))
  (O:(0:Int)<=k)(N:(k:Int)<(n:Int))(M:W.cell? ⟨b,k,Z⟩=U (.int I k)):Calls Tryz.prog 91 #[.int I k,.pointer (U ⟨X,0,Z⟩),.pointer (U ⟨V,0,Z⟩)] W λe Q=>e=.returned (.int I k)/\Q=W:=by
 have L:((k:Int)!=k)=false:=av;go_enter Tryz.func91,Tryz.ntmps91;go_wp2;go_ret;exact⟨rfl,rfl⟩
def aE5(W:World)(V R b n P k j:Nat)(F:V≠b)(z:W.cell? ⟨V,0,Z⟩=U (.slice (U ⟨b,0,Z⟩) n P))(y:W.cell? ⟨R,0,Z⟩=U (.func (.func 91) #[] #[.pointer (U ⟨V,0,Z⟩),.pointer (U ⟨R,0,Z⟩)]))
  (x:(0:Int)<=k)(w:(k:Int)<(n:Int))(v:W.cell? ⟨b,k,Z⟩=U (.int I j))(u:j≠k)(r:Int)(Q:World->Prop)(H:∀X,Q X->X.cell? ⟨V,0,Z⟩=U (.slice (U ⟨b,0,Z⟩) n P)/\X.cell? ⟨R,0,Z⟩=U (.func (.func 91) #[] #[.pointer (U ⟨V,0,Z⟩),.pointer (U ⟨R,0,Z⟩)])/\X.cell? ⟨b,k,Z⟩=U (.int I j)/\X.frozen? ⟨b,k,Z⟩=E)
  (D:Calls Tryz.prog 91 #[.int I j,.pointer (U ⟨V,0,Z⟩),.pointer (U ⟨R,0,Z⟩)] W.drew λe X=>e=.returned (.int I r)/\Q X):
  Calls Tryz.prog 91 #[.int I k,.pointer (U ⟨V,0,Z⟩),.pointer (U ⟨R,0,Z⟩)] W λe X=>e=.returned (.int I r)/\∃O,Q O/\X=O.setCell ⟨b,k,Z⟩ (.int I r):=by
 have t:((j:Int)!=k)=true:=dl;have B:∀X,Q X->X.cell? ⟨V,0,Z⟩=U (.slice (U ⟨b,0,Z⟩) n P)/\X.cell? ⟨b,k,Z⟩=U (.int I j)/\X.frozen? ⟨b,k,Z⟩=E/\(X.setCell ⟨b,k,Z⟩ (.int I r)).cell? ⟨V,0,Z⟩=U (.slice (U ⟨b,0,Z⟩) n P)/\(X.setCell ⟨b,k,Z⟩ (.int I r)).cell? ⟨b,k,Z⟩=U (.int I r):=λX N=>by
  obtain⟨M,A,L,G⟩:=H X N;exact⟨M,L,G,(World.cell?_setCell_far _ _ _ _ (Ne.symm F)).trans M,World.cell?_setCell_same' _ _ _ (by rw[L];rfl)⟩
 clear H;go_enter Tryz.func91,Tryz.ntmps91;go_wp2
 go_region_with (first|(go_at_call 91;refine D.mono ?_;rintro e O ⟨rfl,N⟩;obtain⟨M,A,L,G,s⟩:=B O N))
 all_goals go_wp2
 all_goals go_ret
 all_goals exact⟨rfl,_,N,rfl⟩
def auS(b V:Nat)(W:World)(g:List Nat)(X:World):Prop:=W.grownBy X (U b)/\InB X b V g
def auT{R Q b n A sz:Nat}(z:R≠b)(t:Q≠b)(hn:(n:Int)<=1099511627776):∀(N k:Nat)(W:World)(g:List Nat),k<N->k<n->Y g=n->(∀q,g.getD q 0<=q)->
  W.cell? ⟨R,0,Z⟩=U (.slice (U ⟨b,0,Z⟩) n A)->W.cell? ⟨Q,0,Z⟩=U (.func (.func 91) #[] #[.pointer (U ⟨R,0,Z⟩),.pointer (U ⟨Q,0,Z⟩)])->InB W b sz g->
  Calls Tryz.prog 91 #[.int I k,.pointer (U ⟨R,0,Z⟩),.pointer (U ⟨Q,0,Z⟩)] W λe P=>e=.returned (.int I (((sq N k g).getD k 0:Nat):Int))/\auS b sz W (sq N k g) P
 |0,k,W,g,h,_,_,_,_,_,_=>aZ h (avJ _)
 |N+1,k,W,g,hN,s,r,y,H,G,hb=>by
  obtain⟨di,x,p,w⟩:=hb;have o:∀q,q<n->W.cell? ⟨b,q,Z⟩=U (.int I ((g.getD q 0:Nat):Int)):=λq O=>by
   have:=w q aa;simp only[oK,x];simpa using this
  by_cases M:g.getD k 0=k;have L:sq (N+1) k g=g:=by simp only[sq,aL M]
  rw[L];have:=o k s;rw[M] at this⊢;refine(aE4 W R Q b n A k H G aa aa this).mono ?_;rintro e P ⟨rfl,rfl⟩;exact⟨rfl,World.grownBy.refl _ _,di,x,p,w⟩;have L:sq (N+1) k g=(sq N (g.getD k 0) g).set k ((sq N (g.getD k 0) g).getD (g.getD k 0) 0):=by simp only[sq,aT M]
  have m:g.getD k 0<k:=avy (y k) M;generalize l:g.getD k 0=j at M L m;generalize v:sq N j g=X at L;have an:Y X=n:=by rw[<-v,auQ,r]
  have ag:X.getD k 0=j:=by rw[<-v,auR y N j k m,l]
  rw[L];have i:(X.set k (X.getD j 0)).getD k 0=X.getD j 0:=by
   rw[cw,Hk aa];rfl
  rw[i];have f:=auT z t hn N j W.drew g aa aa r y H G ⟨di,x,p,w⟩;rw[v] at f;have d:=o k s;rw[l] at d;refine(aE5 W R Q b n A k j z H G aa aa d aa ((X.getD j 0:Nat):Int) (auS b sz W.drew X) ?_ f).mono ?_;rintro P ⟨V,F,D,c,B⟩;have hf:P.cell? ⟨b,k,Z⟩=U (.int I (j:Int)):=by
   have:=B k aa;rw[ag] at this;simp only[oK,D];simpa using this
  exact⟨V.cell H (by simpa using z),V.cell G (by simpa using t),hf,by simp[ZR,D]⟩;rintro e P ⟨rfl,a,⟨V,F,D,c,B⟩,rfl⟩;refine⟨rfl,⟨V.os,V.tape,V.output,by rw[World.size_setCell];exact V.size,λq O af=> ?_⟩, ?_⟩;exact(Below.heap_setCell a _ _ q (by intro e;exact af (by rw[e]))).trans (V.block q O af);refine⟨F.setIfInBounds k (.int I ((X.getD j 0:Nat):Int)), ?_,by simpa using c,λq O=> ?_⟩;exact Go.Proofs.YtejplpmpldcmlaaGreatDoor.Bx.set (show Go.Proofs.YtejplpmpldcmlaaGreatDoor.Bx a b 3 F from D) _;rw[avF] at O;have al:k<F.size:=by
   have:=B k aa;exact(oY.1 this).1
  by_cases u:q=k;subst u;rw[i,aIP al];rw[ai4 (Ne.symm u),B q O,cw,cw,ss (Ne.symm u)]
end
def tL(X:ar):aq:=X.map λW=>(aM 0 W).toNat
def SC(X:ar)(q:Nat):(tL X).getD q 0=(aM 0 (X.getD q [])).toNat:=by
 simp only[tL,cw,dS];cases X[q]? with
 |none=>rfl
 |some W=>rfl
def auU{X:ar}(h:mB X=J):∀(n:Nat)(i:Int),0<=i->i<Y X->tL (rH n i X)=sq n i.toNat (tL X)
 |0,_,_,_=>rfl
 |n+1,i,V,R=>by
  obtain⟨Q,N,P⟩:=abg h V R;have O:=auU h n _ Q P;simp only[rH,sq,SC];by_cases W:aM 0 (X.getD i.toNat [])=i;rw[aL W,aL aa];rw[aT W,aT aa,<-O,SC];simp only[tL,ajo]
def aE6:ak3 Tryz.prog (look TT) 91 3:=by
 refine⟨wG aX, ?_⟩;intro W b n B R aE i z y tg tl f d a af M L H;have N:bE (look TT) (.sl 3)=[.int I]:=by rfl
 obtain⟨bt,h0,h1,G,ag⟩:=Ps H;obtain⟨hn,bx⟩:=ue M;have x:=gc.yr M;rw[N] at L⊢;rcases L.mem with hz|⟨b',di,hA,w,al,an⟩;exfalso;omega;cases hA;have v:∀(q:Nat)(X:aF),R[q]?=U X->∃c,X=[c]/\c.val=.int I (aM 0 X):=λq X V=>by
  have u:=x.len q X V;rw[N] at u
  match X,u with
  |[c],_=>
   obtain⟨m,hm⟩:=x.int q 0 [c] c I V rfl (by rw[N];rfl);exact⟨c,rfl,by simp[aM,hm,bn]⟩
 have t:∀q:Nat,q<Y R->((tL R).getD q 0:Int)=aM 0 (R.getD q [])/\(tL R).getD q 0<=q:=λq V=>by
  have:=FD G V;rw[SC];omega
 have aA:InB W b di.size (tL R):=by
  refine⟨di,w,rfl,λq V=> ?_⟩;rw[tL,pN] at V;obtain⟨c,aC,a0⟩:=v q R[q] (cP V);have F:W.cell? ⟨b,0+q*1+0,Z⟩=U c.val:=by
   cases M with
   |sl e A b0 B R g1 g2 g3 gi gb go=>
    obtain⟨-,b2,b1,e2,-,g4⟩:=g3 q R[q] (cP V);cases e2;have:=g4 0 c (by rw[aC];rfl);rw[N] at this;exact this
  rw[a0] at F;simp only[oK,w] at F;have e3:((tL R).getD q 0:Int)=aM 0 R[q]:=by
   rw[(t q V).1,cw,cP V];rfl
  rw[e3];simpa using F
 have a1:∀q,(tL R).getD q 0<=q:=λq=>by
  by_cases V:q<Y R;exact(t q V).2;rw[SC,cw,km aa];show(0:Int).toNat<=q;simp
 have a3:(tL R).length=n:=by rw[tL,pN,hn]
 have a4:W.cell? ⟨z,0,Z⟩=U (.slice (U ⟨b,0,Z⟩) n B):=by simp[oK,f]
 have a9:W.cell? ⟨y,0,Z⟩=U (.func (.func 91) #[] #[.pointer (U ⟨z,0,Z⟩),.pointer (U ⟨y,0,Z⟩)]):=by simp[oK,d]
 have ba:((i.toNat:Nat):Int)=i:=aa;have s:=auT a af (sz:=di.size) aa (Y R) i.toNat W (tL R) aa aa a3 a1 a4 a9 aA;rw[ba] at s;refine s.mono ?_;rintro e w' ⟨rfl,bb,bc,bd,bf,o⟩;have k:=auU G (Y R) i h0 h1;rw[<-ag] at k;rw[<-k] at o⊢;have b3:Y aE=Y R:=abh H;have bk:=Ua H;have j:∀(q:Nat)(X:aF),aE[q]?=U X->∃c,X=[c]/\c.val=.int I (aM 0 X)/\0<=aM 0 X:=λq X V=>by
  obtain⟨p,Q⟩:=tO (bk X (jK V));obtain⟨c,P,O⟩:=v p X Q;have br:p<Y R:=(cu.1 Q).1;have:=(FD G br).1;rw[cw,Q] at this;exact⟨c,P,O,this⟩
 have g:∀q,q<Y aE->(((tL aE).getD q 0:Nat):Int)=aM 0 (aE.getD q []):=λq V=>by
  obtain⟨c,-,-,c3⟩:=j q aE[q] (cP V);rw[SC,cw,cP V];show((aM 0 aE[q]).toNat:Int)=aM 0 aE[q];omega
 refine⟨by rw[g _ aa],bb,aa,L.nil,.inr ⟨b,bc,rfl,bd,al,by rw[bf];exact an, ?_,.inr rfl⟩⟩;apply kU;intro q;have bs:eO aE=aE.map λX=>Value.int I (aM 0 X):=by
  have:∀l:ar,(∀X∈l,∃c,X=[c]/\c.val=.int I (aM 0 X))->eO l=l.map λX=>Value.int I (aM 0 X):=by
   intro l;induction l with
   |nil=>intro _;rfl
   |cons r l ih=>
    intro h;obtain⟨c,P,O⟩:=h r Oj;have:=ih λX D=>h X (Dd _ D)
    simp only[eO,ZJ,dU] at this⊢;rw[this,<-O,P];rfl
  refine this aE λX D=> ?_
  obtain⟨p,Q⟩:=tO D;obtain⟨c,P,O,-⟩:=j p X Q;exact⟨c,P,O⟩
 rw[bs,nD,dS];simp only[ZC,ZV];by_cases V:q<Y aE;rw[aL V,ZD,o q (by rw[tL,pN];exact V),g q V,cP V];simp[cw,cP V];rw[aT V,km aa];rfl
section
attribute[local go_sem ↓] Go.wp_at_zero Go.wp_at_succ
open Go.Shelf Go.RowKit Go.Lib Go.Sort
def oa:List Int->Int
 |[]=>0
 |a::l=>if a=0 then oa l else a
def or2(b:Nat)(X V:Int)(W:World)(L:W.cell? ⟨b,0,Z⟩=U (.int I X))(H:W.cell? ⟨b,1,Z⟩=U (.int I V)):Calls Tryz.prog 204 #[.slice (U ⟨b,0,Z⟩) 2 2] W λe O=>e=.returned (.int I (oa [X,V]))/\O=W:=by
 by_cases R:X=0;have N:(X !=0)=false:=by simp[R]
 by_cases P:V=0
 ·have M:(V !=0)=false:=by simp[P]
  have Q:oa [X,V]=0:=by simp[oa,R,P]
  rw[Q];clear Q;clear R P;go_enter Tryz.func204,Tryz.ntmps204;go_wp2;refine wp_loop_rounds 3 ?_
  iterate 3 (rw[rounds_succ];go_wp2)
  go_ret;exact⟨rfl,rfl⟩
 ·have M:(V !=0)=true:=by simp[P]
  have Q:oa [X,V]=V:=by simp[oa,R,P]
  rw[Q];clear Q;clear R P;go_enter Tryz.func204,Tryz.ntmps204;go_wp2;refine wp_loop_rounds 3 ?_
  iterate 2 (rw[rounds_succ];go_wp2)
  go_ret;exact⟨rfl,rfl⟩
 ·have N:(X !=0)=true:=by simp[R]
  have Q:oa [X,V]=X:=by simp[oa,R]
  rw[Q];clear Q;clear R;go_enter Tryz.func204,Tryz.ntmps204;go_wp2;refine wp_loop_rounds 3 ?_
  iterate 1 (rw[rounds_succ];go_wp2)
  go_ret;exact⟨rfl,rfl⟩
def SD(W:World)(V R:Obj)(X:Array Value)(t:TypeId)(i:Nat)(v:Value)(h:X[i]?=U v):(((W.alloc V).alloc R).alloc (.cells X t)).drew.cell? ⟨W.heap.size+1+1,i,Z⟩=U v:=by
 have e:(((W.alloc V).alloc R).alloc (.cells X t)).heap[W.heap.size+1+1]?=U (.cells X t):=by
  have:=heap_alloc_new ((W.alloc V).alloc R) (.cells X t);simpa using this
 show oK _ _=_;simp only[oK,World.drew,e];simpa using h
def auV(W:World)(X V R:Obj):∃q Q,(((W.alloc X).alloc V).alloc R).drew=grow (W.drewN q) Q:=⟨1, #[X]++ #[V]++ #[R],by rw[alloc_eq_grow,alloc_eq_grow,alloc_eq_grow,grow_grow,grow_grow];rfl⟩
def aE8(V R Q P:Int)(W:World):Calls Tryz.prog 236 #[.agg #[.int I V,.int I R],.agg #[.int I Q,.int I P]] W λe X=>e=.returned (.int I (oa [Lib.compareInt R P,Lib.compareInt V Q]))/\∃q L,X=grow (W.drewN q) L:=by
 have O:=λx y N=>AnyG.cmp_Compare_int Tryz.cmpInt x y N
 change∀x y N,Calls Tryz.prog 133 _ _ _ at O;generalize Lib.compareInt=M at O⊢;go_enter Tryz.func236,Tryz.ntmps236;go_wp2
 go_region_held3 (λX=>X.cell? ⟨W.heap.size,0,Z⟩=U (.int I V)/\X.cell? ⟨W.heap.size,1,Z⟩=U (.int I R)/\X.cell? ⟨W.heap.size+1,0,Z⟩=U (.int I Q)/\X.cell? ⟨W.heap.size+1,1,Z⟩=U (.int I P)) (go_keep)
  (first|(go_at_call 133;refine(O _ _ _).mono ?_;rintro e X ⟨rfl,rfl⟩)|(go_at_call 204;refine Calls.mono (or2 _ (M R P) (M V Q) _ (SD _ _ _ _ _ _ _ rfl) (SD _ _ _ _ _ _ _ rfl)) ?_;rintro e X ⟨rfl,rfl⟩))
 all_goals go_wp2
 all_goals go_ret
 exact⟨rfl,auV _ _ _ _⟩
def or3(b:Nat)(V R Q:Int)(W:World)(F:W.cell? ⟨b,0,Z⟩=U (.int I V))(D:W.cell? ⟨b,1,Z⟩=U (.int I R))(B:W.cell? ⟨b,2,Z⟩=U (.int I Q)):Calls Tryz.prog 204 #[.slice (U ⟨b,0,Z⟩) 3 3] W λe M=>e=.returned (.int I (oa [V,R,Q]))/\M=W:=by
 by_cases P:V=0;have L:(V !=0)=false:=by simp[P]
 by_cases O:R=0;have H:(R !=0)=false:=by simp[O]
 by_cases N:Q=0
 ·have G:(Q !=0)=false:=by simp[N]
  have X:oa [V,R,Q]=0:=by simp[oa,P,O,N]
  rw[X];clear X;clear P O N;go_enter Tryz.func204,Tryz.ntmps204;go_wp2;refine wp_loop_rounds 4 ?_
  iterate 4 (rw[rounds_succ];go_wp2)
  go_ret;exact⟨rfl,rfl⟩
 ·have G:(Q !=0)=true:=by simp[N]
  have X:oa [V,R,Q]=Q:=by simp[oa,P,O,N]
  rw[X];clear X;clear P O N;go_enter Tryz.func204,Tryz.ntmps204;go_wp2;refine wp_loop_rounds 4 ?_
  iterate 3 (rw[rounds_succ];go_wp2)
  go_ret;exact⟨rfl,rfl⟩
 ·have H:(R !=0)=true:=by simp[O]
  have X:oa [V,R,Q]=R:=by simp[oa,P,O]
  rw[X];clear X;clear P O;go_enter Tryz.func204,Tryz.ntmps204;go_wp2;refine wp_loop_rounds 4 ?_
  iterate 2 (rw[rounds_succ];go_wp2)
  go_ret;exact⟨rfl,rfl⟩
 ·have L:(V !=0)=true:=by simp[P]
  have X:oa [V,R,Q]=V:=by simp[oa,P]
  rw[X];clear X;clear P;go_enter Tryz.func204,Tryz.ntmps204;go_wp2;refine wp_loop_rounds 4 ?_
  iterate 1 (rw[rounds_succ];go_wp2)
  go_ret;exact⟨rfl,rfl⟩
def w52(V R Q P O N:Int)(W:World):Calls Tryz.prog 163 #[.agg #[.int I V,.int I R,.int I Q],.agg #[.int I P,.int I O,.int I N]] W λe X=>e=.returned (.int I (oa [Lib.compareInt V P,Lib.compareInt R O,Lib.compareInt Q N]))/\∃q G,X=grow (W.drewN q) G:=by
 have M:=λx y H=>AnyG.cmp_Compare_int Tryz.cmpInt x y H
 change∀x y H,Calls Tryz.prog 133 _ _ _ at M;generalize Lib.compareInt=L at M⊢;go_enter Tryz.func163,Tryz.ntmps163;go_wp2
 go_region_held3 (λX=>X.cell? ⟨W.heap.size,0,Z⟩=U (.int I V)/\X.cell? ⟨W.heap.size,1,Z⟩=U (.int I R)/\X.cell? ⟨W.heap.size,2,Z⟩=U (.int I Q)/\X.cell? ⟨W.heap.size+1,0,Z⟩=U (.int I P)/\X.cell? ⟨W.heap.size+1,1,Z⟩=U (.int I O)/\X.cell? ⟨W.heap.size+1,2,Z⟩=U (.int I N)) (go_keep)
  (first|(go_at_call 133;refine(M _ _ _).mono ?_;rintro e X ⟨rfl,rfl⟩)|(go_at_call 204;refine Calls.mono (or3 _ (L V P) (L R O) (L Q N) _ (SD _ _ _ _ _ _ _ rfl) (SD _ _ _ _ _ _ _ rfl) (SD _ _ _ _ _ _ _ rfl)) ?_;rintro e X ⟨rfl,rfl⟩))
 all_goals go_wp2
 all_goals go_ret
 exact⟨rfl,auV _ _ _ _⟩
end
section
open Go.Shelf Go.RowKit
open Go.Sort (flatK get_flatK size_flatK HoldsK putRowK size_putRowK grow)
def IV(k:Nat)(x:bA):aF:=(e8 k).map λi=>RV.mk (.int I (x.getD i 0)) []
def kF(k:Nat)(x:bA):gG:=(e8 k).map λi=>Value.int I (x.getD i 0)
def aiQ(k:Nat)(x:bA):(IV k x).length=k:=by simp[IV]
def aiR(h:P<X):(IV X L)[P]?=U (RV.mk (.int I (L.getD P 0)) []):=by simp[IV,h]
def aFb(h:P<X):aM P (IV X L)=L.getD P 0:=by
 unfold aM;rw[cw,aiR h];rfl
def zD(X:aq)(x y:bA):Int:=oa (X.map λc=>Lib.compareInt (x.getD c 0) (y.getD c 0))
def aiS{k:Nat}{x y:bA}:∀{cs:aq},(∀c∈cs,c<k)->decide (zD cs x y<0)=jR E cs (IV k x) (IV k y)
 |[],_=>rfl
 |c::cs,h=>by
  have R:=aiS (x:=x) (y:=y) (cs:=cs) (λc W=>h c (by simp[W]));have W:c<k:=h c av;simp only[zD,dU,oa,jR,aFb W] at R⊢;generalize x.getD c 0=p;generalize y.getD c 0=q;by_cases V:p=q;rw[aL V,aL (by simp[Lib.compareInt,V])];exact R;rw[aT V];by_cases X:p<q;have e:Lib.compareInt p q=-1:=by simp[Lib.compareInt,X]
  simp[e,X];have Q:p>q:=aa;have e:Lib.compareInt p q=1:=by simp[Lib.compareInt,X,Q]
  simp[e,X]
def aiT(h:∀c∈H,c<X):Go.Sort.SWO (ltOf (zD H)):=by
 have w:=LY H E;have e:∀x y,ltOf (zD H) x y=(bu.lex H E).lt (IV X x) (IV X y):=λx y=>aiS h
 exact⟨λx=>by rw[e];exact w.Vg _ rfl,λx y z W V=>by rw[e] at*;exact w.tr _ _ _ rfl rfl rfl W V,λx y z W V=>by rw[e] at*;exact w.nt _ _ _ rfl rfl rfl W V⟩
def auW:∀{k:Nat}{X:aF},jP (eF k J) X->Y X=k/\∀c∈X,c=.mk (.int I (bn c.val)) []
 |0,X,h=>by cases h;simp
 |k+1,[],h=>h.elim
 |k+1,c::r,h=>by
  obtain⟨⟨n,rfl⟩,W⟩:(∃n,c=.mk (.int I n) [])/\jP (eF k J) r:=h;obtain⟨V,R⟩:=auW W;exact⟨by simp[V],λc Q=>(dV.1 Q).elim (λe=>by subst e;rfl) (R c)⟩
def unI(X:aF):bA:=X.map λc=>bn c.val
def aFc(h:jP (eF X J) Q):IV X (unI Q)=Q:=by
 obtain⟨P,V⟩:=auW h;apply kU;intro i;by_cases R:i<X;rw[aiR R];have W:i<Y Q:=aa;rw[cP W,V _ (pM W)];simp[unI,cw,W];rw[km (by rw[aiQ];omega),km aa]
def aFd(h:∀x∈N,jP (eF X J) x):∃d:Array bA,N=d.toList.map (IV X):=by
 refine⟨(N.map unI).toArray, ?_⟩;simp only[oJ]
 conv=>lhs;rw[<-List.map_id N]
 exact jA λx W=>(aFc (h x W)).symm
def auX(d:Array bA)(W:P<d.size*X):(eO (d.toList.map (IV X)))[P]?=U ((flatK (kF X) X d)[P]!):=by
 have Q:0<X:=by
  rcases Bm X with rfl|h;omega;exact h
 have O:P/X<d.size:=avt (by rw[SZ];exact W);have V:P%X<X:=Hy _ Q;have e:P=P/X*X+P%X:=by have:=ajk P X;rw[SZ] at this;omega
 have:=Pb (w:=X) (rows:=d.toList.map (IV X)) (λi N R=>by
  simp only[dS,SL] at R;obtain⟨x,_,rfl⟩:=R;exact aiQ X x) (i:=P/X) (j:=P%X) (row:=IV X d[P/X]!) (by simp[O]) (aiR V)
 rw[<-e] at this;rw[this,get_flatK _ _ _ _ W];congr 1;have:(kF X d[P/X]!)[P%X]?=U (.int I ((d[P/X]!).getD (P%X) 0)):=by simp[kF,V]
 rw[List.getElem!_eq_getElem?_getD,this];rfl
def aFe(d:Array bA):(eO (d.toList.map (IV X))).length=d.size*X:=by
 have:=BR (w:=X) (rows:=d.toList.map (IV X)) (λi V W=>by
  simp only[dS,SL] at W;obtain⟨x,_,rfl⟩:=W;exact aiQ X x)
 simpa using this
def aFf(Q:R.heap[X]?=U (.cells O V (0,0)))(j:Nat):R.frozen? ⟨X,j,Z⟩=false:=by
 simp[ZR,Q]
def aFg{Q:Ty}{n N k:Nat}{d:Array bA}(h:bJ R Q (.sl X) (.mk (.slice (U ⟨P,0,Z⟩) n N) (d.toList.map (IV k))))(M:R.heap[P]?=U (.cells O X (0,0))):HoldsK (kF k) k R P 0 d:=by
 intro j V;rw[size_flatK] at V;obtain⟨G,F,L,_,H⟩:=Pc h j _ (auX d V);cases L;exact⟨H,aFf M _⟩
def aFh{m:Nat}{d Q:Array bA}{os:Array Obj}(M:R.heap[P]?=U (.cells O V (0,0)))(B:HoldsK (kF X) X R P 0 d)(A:Q.size=d.size):
  R.grownBy (sortWorldK (kF X) X R P 0 m Q os) (U P)/\∃L,(sortWorldK (kF X) X R P 0 m Q os).heap[P]?=U (.cells L V (0,0))/\L.size=O.size/\L.toList.take (Q.size*X)=eO (Q.toList.map (IV X)):=by
 have H:P<R.heap.size:=(oY.1 M).1;have z:(putRowK (kF X) X (Sort.ahead R m) P 0 Q).heap.size=R.heap.size:=by rw[size_putRowK];rfl
 have G:∀i,i<R.heap.size->(sortWorldK (kF X) X R P 0 m Q os).heap[i]?=(R.heap.modify P (Sort.onCells (Sort.putCells id 0 (flatK (kF X) X Q))))[i]?:=by
  intro i F;show(_++os)[i]?=_;rw[aIT (by rw[z];exact F)];rfl
 refine⟨⟨rfl,rfl,rfl, ?_,λi F y=> ?_⟩,Sort.putCells id 0 (flatK (kF X) X Q) O, ?_, ?_, ?_⟩;exact size_sortWorldK_c (kF X) X R P 0 m Q os;rw[G i F,SM,aT (λD=>y (by rw[D]))];rw[G P H,SM,aL rfl,M];rfl;simp[Sort.putCells];have D:=holdsK_sortWorldK_c (kF X) X R P 0 d Q m os B H A;have x:(sortWorldK (kF X) X R P 0 m Q os).heap[P]?=U (.cells (Sort.putCells id 0 (flatK (kF X) X Q) O) V (0,0)):=by rw[G P H,SM,aL rfl,M];rfl
 apply kU;intro q;rw[nD];by_cases N:q<Q.size*X;rw[aL N,auX Q N];have:=(D q (by rw[size_flatK];exact N)).1;simpa[oK,x] using this;rw[aT N,km (by rw[aFe];omega)]
def auY{lt:aF->aF->Bool}:∀{l:ar},ym lt l=J->l.Pairwise (λx y=>lt x y=J\/lt y x=J)
 |[],_=>xR
 |x::r,h=>by
  simp only[ym,aw,fZ,jL] at h;exact jC.2 ⟨h.1,auY h.2⟩
def aiV{f g:FuncId}{k:Nat}(aC:wF Tryz.prog f=J)(F:bE (look TT) (.sl V)=(eF k J).map EV)(hc:∀c∈H,c<k)
  (a0:∀p R fv W,Calls Tryz.prog f #[.slice p 0 R,fv] W λP D=>P=.returned (.tuple #[])/\D=W)
  (a1:∀(b R:Nat)(d:Array bA)(W:World),HoldsK (kF k) k W b 0 d->b<W.heap.size->d.size<4611686018427387904->Calls Tryz.prog f #[.slice (U ⟨b,0,Z⟩) d.size R,.func (.func g) #[] #[]] W λP D=>P=.returned (.tuple #[])/\∃X n B,Go.Sort.PermIn 0 d.size d X/\Go.Sort.SortedIn (ltOf (zD H)) 0 d.size X/\D=sortWorldK (kF k) k W b 0 n X B):
  qO Tryz.prog (look TT) f g V (.lex H E) false:=by
 refine⟨wG aC,λW A n R w aE O ns bl v u L t=> ?_⟩;cases ns with
 |cons _ _=>simp[bu.fill] at v
 |nil=>
  simp only[bu.fill,cX] at v;subst v;have t:jh (.lex H E) E w=U aE:=t;obtain⟨hl,br⟩:=ue u;have hk:(bE (look TT) (.sl V)).length=k:=by rw[F];simp
  rw[hk] at L⊢;have Q:=aiL t;simp only[jh] at Q;split at Q
  case isFalse=>cases Q
  rename_i o;simp only[aw,ce,jL,jB,false_or] at o;obtain⟨l,_,a⟩:=o;have Q:=mQ Q;have bs:Y aE=Y w:=by rw[<-Bf aE,<-Q,mZ,Bf]
  by_cases hn:n=0;subst hn;have h0:aE=[]:=tM aa;subst h0;refine(a0 A R _ W).mono ?_;rintro P W' ⟨rfl,rfl⟩;refine⟨rfl,⟨rfl,rfl,rfl,bY _,λ_ _ _=>rfl⟩,⟨Hx _,L.nil, ?_⟩⟩;rcases L.mem with h|⟨b,di,rfl,N,s,r⟩;exact .inl h;cases R with
  |zero=>exact .inl rfl
  |succ c=>exact .inr ⟨b,di,rfl,N,s,r,by simp[eO],.inr rfl⟩
  rcases L.mem with h|⟨b,di,rfl,N,s,r⟩;omega;have hp:∀(j:Nat)(z:Value)(q:RK),(bE (look TT) (.sl V))[j]?≠U (.ae z q):=by
   intro j z q M;rw[F,dS] at M;cases G:(eF k J)[j]? with
   |none=>rw[G] at M;cases M
   |some b=>rw[G] at M;cases b<;>simp[EV] at M
  have af:=aul hp u;obtain⟨d,hd⟩:=aFd (auk F (gc.yr u));have ag:d.size=n:=by
   have h3:(fH w).length=(d.toList.map (IV k)).length:=ko Y hd;rw[Bf,pN,E3] at h3;exact h3.symm.trans hl
  rw[hd] at af Q a l;have al:=aFg af N;have G:b<W.heap.size:=(oY.1 N).1;have a3:lJ (U ⟨b,0,Z⟩) R=U b:=by
   cases R with
   |zero=>omega
   |succ c=>rfl
  have an:=a1 b R d W al G (by simp at l;omega);rw[ag] at an;refine Calls.mono an ?_;rintro P W' ⟨rfl,X,m,B,aA,a4,rfl⟩;have hs:X.size=d.size:=aA.1;obtain⟨g1,a9,g2,g3,g4⟩:=aFh (m:=m) (os:=B) N al hs;have ba:X.toList.Perm d.toList:=by
   have:=aA.2.2;rw[<-ag] at this;have e1:X.extract 0 d.size=X:=by rw[<-hs];exact aJo
   have e2:d.extract 0 d.size=d:=aJo
   rwa [e1,e2] at this
  have bb:gW (bu.lex H E).lt (X.toList.map (IV k)):=by
   refine avB.2 (Oe.2 λi j hi hj bc=> ?_);have bd:j<X.size:=by simpa using hj
   have bf:i<X.size:=by simpa using hi
   have:=a4 i j (Hx _) bc aa;have V:=aiS (k:=k) (x:=X[j]) (y:=X[i]) hc;rw[getElem!_pos X j bd,getElem!_pos X i bf] at this;show jR E H (IV k X.toList[j]) (IV k X.toList[i])=E;rw[aJd,aJd,<-V];exact this
  have bg:X.toList.map (IV k)=fH aE:=by
   rw[<-Q,<-aBl (lt:=(bu.lex H E).lt) (asN E H) (asO E H) (ba.map (IV k)) (auY a)];exact(Vh bb).symm
  rw[a3];refine⟨rfl,g1,⟨aa,λh=>(by cases h),.inr ⟨b,a9,rfl,g2,s,by rw[g3,r], ?_,.inr rfl⟩⟩⟩;have bk:Y aE=X.size:=aa;rw[bk,g4,bg,aui]
end
section
open Go.Shelf Go.RowKit
open Go.Sort (HoldsK)
def Tryz.sortOb_ren:Go.Shelf.Ren:=⟨λ|6=>162|15=>172|14=>203|28=>217|29=>218|20=>241|21=>242|22=>243|23=>244|24=>245|25=>246|26=>247|27=>248|46=>290|47=>261|48=>262|49=>291|50=>292|57=>316|n=>n,λ|22=>271|24=>267|25=>273|3=>3|39=>285|0=>0|53=>336|55=>338|4=>4|46=>329|45=>328|50=>333|5=>5|9=>9|66=>373|70=>186|76=>402|77=>403|n=>n,λ|n=>n⟩
def Tryz.sortOb:Go.Proofs.SlLaysF0.n6 Tryz.prog Tryz.sortOb_ren:={mixed:=aX,f6:=⟨Tryz.f162.name,dX,eV Tryz.func162 aX⟩,f14:=⟨Tryz.f203.name,dX,eV Tryz.func203 aX⟩,f15:=eV Tryz.func172 aX,f20:=⟨Tryz.f241.name,dX,eV Tryz.func241 aX⟩,f21:=⟨Tryz.f242.name,dX,eV Tryz.func242 aX⟩,f22:=⟨Tryz.f243.name,dX,eV Tryz.func243 aX⟩,f23:=⟨Tryz.f244.name,dX,eV Tryz.func244 aX⟩,f24:=⟨Tryz.f245.name,dX,eV Tryz.func245 aX⟩,f25:=⟨Tryz.f246.name,dX,eV Tryz.func246 aX⟩,f26:=⟨Tryz.f247.name,dX,eV Tryz.func247 aX⟩,f27:=⟨Tryz.f248.name,dX,eV Tryz.func248 aX⟩,f28:=eV Tryz.func217 aX,f29:=eV Tryz.func218 aX,f46:=⟨Tryz.f290.name,dX,eV Tryz.func290 aX⟩,f47:=eV Tryz.func261 aX,f48:=eV Tryz.func262 aX,f49:=⟨Tryz.f291.name,dX,eV Tryz.func291 aX⟩,f50:=⟨Tryz.f292.name,dX,eV Tryz.func292 aX⟩,f57:=⟨Tryz.f316.name,dX,eV Tryz.func316 aX⟩,t0:=Tryz.underlying0,a0:=Tryz.isAgg0,z0:=Tryz.sizeOf0,v0:=Tryz.zeroValue0,t3:=Tryz.underlying3,a3:=Tryz.isAgg3,z3:=Tryz.sizeOf3,v3:=Tryz.zeroValue3,t4:=Tryz.underlying4,a4:=Tryz.isAgg4,z4:=Tryz.sizeOf4,v4:=Tryz.zeroValue4,t5:=Tryz.underlying5,a5:=Tryz.isAgg5,z5:=Tryz.sizeOf5,v5:=Tryz.zeroValue5,t9:=Tryz.underlying9,a9:=Tryz.isAgg9,z9:=Tryz.sizeOf9,v9:=Tryz.zeroValue9,t22:=Tryz.underlying271,a22:=Tryz.isAgg271,z22:=Tryz.sizeOf271,v22:=Tryz.zeroValue271,t25:=Tryz.underlying273,a25:=Tryz.isAgg273,z25:=Tryz.sizeOf273,v25:=Tryz.zeroValue273,t39:=Tryz.underlying285,a39:=Tryz.isAgg285,z39:=Tryz.sizeOf285,v39:=Tryz.zeroValue285,t45:=Tryz.underlying328,a45:=Tryz.isAgg328,z45:=Tryz.sizeOf328,v45:=Tryz.zeroValue328,t46:=Tryz.underlying329,a46:=Tryz.isAgg329,z46:=Tryz.sizeOf329,v46:=Tryz.zeroValue329,t50:=Tryz.underlying333,a50:=Tryz.isAgg333,z50:=Tryz.sizeOf333,v50:=Tryz.zeroValue333,t53:=Tryz.underlying336,a53:=Tryz.isAgg336,z53:=Tryz.sizeOf336,v53:=Tryz.zeroValue336,t55:=Tryz.underlying338,a55:=Tryz.isAgg338,z55:=Tryz.sizeOf338,v55:=Tryz.zeroValue338,t66:=Tryz.underlying373,a66:=Tryz.isAgg373,z66:=Tryz.sizeOf373,v66:=Tryz.zeroValue373,t70:=Tryz.underlying186,a70:=Tryz.isAgg186,z70:=Tryz.sizeOf186,v70:=Tryz.zeroValue186,t76:=Tryz.underlying402,a76:=Tryz.isAgg402,z76:=Tryz.sizeOf402,v76:=Tryz.zeroValue402,t77:=Tryz.underlying403,a77:=Tryz.isAgg403,z77:=Tryz.sizeOf403,v77:=Tryz.zeroValue403}
def Tryz.sortBr_ren:Go.Shelf.Ren:=⟨λ|6=>280|15=>172|14=>305|28=>217|29=>218|20=>322|21=>323|22=>324|23=>325|24=>326|25=>327|26=>328|27=>329|46=>334|47=>261|48=>262|49=>335|50=>336|57=>340|n=>n,λ|22=>302|24=>306|25=>363|3=>3|39=>285|0=>0|53=>336|55=>338|4=>4|46=>329|45=>328|50=>333|5=>5|9=>9|66=>373|70=>186|76=>402|77=>403|n=>n,λ|n=>n⟩
def Tryz.sortBr:Go.Proofs.SlLaysF0.n6 Tryz.prog Tryz.sortBr_ren:={mixed:=aX,f6:=⟨Tryz.f280.name,dX,eV Tryz.func280 aX⟩,f14:=⟨Tryz.f305.name,dX,eV Tryz.func305 aX⟩,f15:=eV Tryz.func172 aX,f20:=⟨Tryz.f322.name,dX,eV Tryz.func322 aX⟩,f21:=⟨Tryz.f323.name,dX,eV Tryz.func323 aX⟩,f22:=⟨Tryz.f324.name,dX,eV Tryz.func324 aX⟩,f23:=⟨Tryz.f325.name,dX,eV Tryz.func325 aX⟩,f24:=⟨Tryz.f326.name,dX,eV Tryz.func326 aX⟩,f25:=⟨Tryz.f327.name,dX,eV Tryz.func327 aX⟩,f26:=⟨Tryz.f328.name,dX,eV Tryz.func328 aX⟩,f27:=⟨Tryz.f329.name,dX,eV Tryz.func329 aX⟩,f28:=eV Tryz.func217 aX,f29:=eV Tryz.func218 aX,f46:=⟨Tryz.f334.name,dX,eV Tryz.func334 aX⟩,f47:=eV Tryz.func261 aX,f48:=eV Tryz.func262 aX,f49:=⟨Tryz.f335.name,dX,eV Tryz.func335 aX⟩,f50:=⟨Tryz.f336.name,dX,eV Tryz.func336 aX⟩,f57:=⟨Tryz.f340.name,dX,eV Tryz.func340 aX⟩,t0:=Tryz.underlying0,a0:=Tryz.isAgg0,z0:=Tryz.sizeOf0,v0:=Tryz.zeroValue0,t3:=Tryz.underlying3,a3:=Tryz.isAgg3,z3:=Tryz.sizeOf3,v3:=Tryz.zeroValue3,t4:=Tryz.underlying4,a4:=Tryz.isAgg4,z4:=Tryz.sizeOf4,v4:=Tryz.zeroValue4,t5:=Tryz.underlying5,a5:=Tryz.isAgg5,z5:=Tryz.sizeOf5,v5:=Tryz.zeroValue5,t9:=Tryz.underlying9,a9:=Tryz.isAgg9,z9:=Tryz.sizeOf9,v9:=Tryz.zeroValue9,t22:=Tryz.underlying302,a22:=Tryz.isAgg302,z22:=Tryz.sizeOf302,v22:=Tryz.zeroValue302,t25:=Tryz.underlying363,a25:=Tryz.isAgg363,z25:=Tryz.sizeOf363,v25:=Tryz.zeroValue363,t39:=Tryz.underlying285,a39:=Tryz.isAgg285,z39:=Tryz.sizeOf285,v39:=Tryz.zeroValue285,t45:=Tryz.underlying328,a45:=Tryz.isAgg328,z45:=Tryz.sizeOf328,v45:=Tryz.zeroValue328,t46:=Tryz.underlying329,a46:=Tryz.isAgg329,z46:=Tryz.sizeOf329,v46:=Tryz.zeroValue329,t50:=Tryz.underlying333,a50:=Tryz.isAgg333,z50:=Tryz.sizeOf333,v50:=Tryz.zeroValue333,t53:=Tryz.underlying336,a53:=Tryz.isAgg336,z53:=Tryz.sizeOf336,v53:=Tryz.zeroValue336,t55:=Tryz.underlying338,a55:=Tryz.isAgg338,z55:=Tryz.sizeOf338,v55:=Tryz.zeroValue338,t66:=Tryz.underlying373,a66:=Tryz.isAgg373,z66:=Tryz.sizeOf373,v66:=Tryz.zeroValue373,t70:=Tryz.underlying186,a70:=Tryz.isAgg186,z70:=Tryz.sizeOf186,v70:=Tryz.zeroValue186,t76:=Tryz.underlying402,a76:=Tryz.isAgg402,z76:=Tryz.sizeOf402,v76:=Tryz.zeroValue402,t77:=Tryz.underlying403,a77:=Tryz.isAgg403,z77:=Tryz.sizeOf403,v77:=Tryz.zeroValue403}
def aFi(a:Int):oa [a]=a:=by
 simp only[oa];split<;>omega
def aFj(b:Nat)(X:Nat)(w:World):CmpLays Tryz.prog 132 #[] (kF 14) 14 (zD [0]) b 0 X w:=λm W V R x y=>by
 have h:=aE2 (x.getD 0 0) (x.getD 1 0) (x.getD 2 0) (x.getD 3 0) (x.getD 4 0) (x.getD 5 0) (x.getD 6 0) (x.getD 7 0) (x.getD 8 0) (x.getD 9 0) (x.getD 10 0) (x.getD 11 0) (x.getD 12 0) (x.getD 13 0) (y.getD 0 0) (y.getD 1 0) (y.getD 2 0) (y.getD 3 0) (y.getD 4 0) (y.getD 5 0) (y.getD 6 0) (y.getD 7 0) (y.getD 8 0) (y.getD 9 0) (y.getD 10 0) (y.getD 11 0) (y.getD 12 0) (y.getD 13 0) (sortWorldK (kF 14) 14 w b 0 m V W);have e:zD [0] x y=Lib.compareInt (x.getD 0 0) (y.getD 0 0):=aFi _;rw[e];exact h
def aFk(b:Nat)(X:Nat)(w:World):CmpLays Tryz.prog 236 #[] (kF 2) 2 (zD [1,0]) b 0 X w:=λm W V R x y=>
 aE8 (x.getD 0 0) (x.getD 1 0) (y.getD 0 0) (y.getD 1 0) (sortWorldK (kF 2) 2 w b 0 m V W)
def aFl(b:Nat)(X:Nat)(w:World):CmpLays Tryz.prog 163 #[] (kF 3) 3 (zD [0,1,2]) b 0 X w:=λm W V R x y=>
 w52 (x.getD 0 0) (x.getD 1 0) (x.getD 2 0) (y.getD 0 0) (y.getD 1 0) (y.getD 2 0) (sortWorldK (kF 3) 3 w b 0 m V W)
def aiW(k:Nat)(x:bA):(kF k x).length=k:=by simp[kF]
def aiX(k:Nat)(x:bA):∀v∈kF k x,v.oneCell'=true:=by
 intro v X;simp only[kF,iD] at X;obtain⟨i,_,rfl⟩:=X;rfl
def aFm:qO Tryz.prog (look TT) 131 132 128 (.lex [0] E) false:=by
 have V:∀c∈[0],c<14:=av;refine aiV (k:=14) aX aX V (λp X R W=> ?_) (λb X d W Q P O=> ?_);have h:=AnyF.slices_SortFunc_none Tryz.sortSg p X R W;exact h;have h:=AnyQ.slices_SortFunc Tryz.sortSg 14 Tryz.isAgg128 Tryz.sizeOf128 (kF 14) (aiW 14) (aiX 14) (zD [0]) (aiT V) 132 #[] b 0 X d W (enters_of Tryz.func132 aX rfl) (aFj b d.size W) Q P O;exact h
def aFn:qO Tryz.prog (look TT) 162 163 267 (.lex [0,1,2] E) false:=by
 have V:∀c∈[0,1,2],c<3:=av;refine aiV (k:=3) aX aX V (λp X R W=> ?_) (λb X d W Q P O=> ?_);have h:=AnyF.slices_SortFunc_none Tryz.sortOb p X R W;exact h;have h:=AnyQ.slices_SortFunc Tryz.sortOb 3 Tryz.isAgg267 Tryz.sizeOf267 (kF 3) (aiW 3) (aiX 3) (zD [0,1,2]) (aiT V) 163 #[] b 0 X d W (enters_of Tryz.func163 aX rfl) (aFl b d.size W) Q P O;exact h
def aFo:qO Tryz.prog (look TT) 280 236 306 (.lex [1,0] E) false:=by
 have V:∀c∈[1,0],c<2:=av;refine aiV (k:=2) aX aX V (λp X R W=> ?_) (λb X d W Q P O=> ?_);have h:=AnyF.slices_SortFunc_none Tryz.sortBr p X R W;exact h;have h:=AnyQ.slices_SortFunc Tryz.sortBr 2 Tryz.isAgg306 Tryz.sizeOf306 (kF 2) (aiW 2) (aiX 2) (zD [1,0]) (aiT V) 236 #[] b 0 X d W (enters_of Tryz.func236 aX rfl) (aFk b d.size W) Q P O;exact h
def J8:v8 tK:=by
 intro x X;simp only[tK,dV,SS,or_false] at X;rcases X with rfl|rfl|rfl|rfl|rfl|rfl;exact mY.of aFn o7;exact mY.of aEX o7;exact mY.of aFm o7;exact mY.of aFo o7;exact mY.of aE1 o7;unfold mY;rw[aL rfl];exact aE6
end
theorem aFp:bC 70 E E T18:=tk Tryz.func70 (ct:=J)
theorem aFq:bC 24 E E Yk:=tk Tryz.func24 (loops:=[(24,9,⟨[(62,.int I)],[]⟩),(24,16,⟨[(90,.int I),(6,.int I)],[]⟩)])
theorem aFr:bC 76 E E T86:=tk Tryz.func76
theorem aFs:bC 77 E E T87:=tk Tryz.func77
theorem aFt:bC 78 E E T88:=tk Tryz.func78
theorem aFu:bC 197 E E arR:=tk Tryz.func197 (ct:=J)
theorem aFv:bC 231 E E arS:=tk Tryz.func231 (ct:=J) (loops:=[(231,2,⟨[(8,.int I)],[]⟩)])
theorem aFw:bC 83 E E Yl:=tk Tryz.func83 (loops:=[(83,4,⟨[(20,.int I)],[]⟩)])
theorem aFx(X:v8 tK):bC 92 E E T77:=tk Tryz.func92 (loops:=[(92,7,⟨[(35,.int I),(6,.ah (.own 128))],[]⟩)]) (srts:=tK) (hsr:=X)
theorem aFy:bC 134 E E Ym:=tk Tryz.func134
theorem aFz:bC 174 E E af6:=tk Tryz.func174
theorem aFA:bC 118 E E Yn:=tk Tryz.func118
theorem aFB:bC 51 E E NE:=tk Tryz.func51 (inl:=[88,125,87])
theorem aFC(X:v8 tK):bC 93 E E Yo:=tk Tryz.func93 (loops:=[(93,6,⟨[(22,.int I),(4,.ah (.own 226))],[]⟩),(93,9,⟨[(28,.int I),(4,.ah (.own 226))],[]⟩)]) (inl:=[130]) (srts:=tK) (hsr:=X)
theorem aFD:bC 229 E E arX:=tk Tryz.func229 (ct:=J) (loops:=[(270,3,⟨[(9,.int I),(10,.int I)],[]⟩)]) (inl:=[270,271])
