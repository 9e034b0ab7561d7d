/- Part 11 of the proof. -/
import Derived.Test.YtieaiocljdpebaaGreatDoorQ5
import Derived.Test.YtieaiocljdpebaaGreatDoorQ10
import Derived.Shelf.SlSortCmp.WholeK
import Derived.Shelf.SlSortCmp.NoneTotal
import Derived.Shelf.SlicesG.Cmp
import Derived.Deep.RegionHeld3
import Derived.Deep.DrawnRows
set_option linter.all false
set_option maxRecDepth 100000
set_option maxHeartbeats 100000000
open Bool renaming and_eq_true->aA,or_eq_true->jy,false_eq_true->jR,true->J,false->E
open Nat renaming le_refl->cg,eq_zero_or_pos->BG,zero_le->FJ,mod_lt->Ia,mul_le_mul->Ub,mul_comm->Uc,div_add_mod->ajS,div_lt_of_lt_mul->aw2,lt_of_le_of_ne->aw7,not_lt_zero->axf,mul_one->axs
open List renaming getElem?_eq_some_iff->cj,getElem?_eq_getElem->cL,getD_eq_getElem?_getD->dL,mem_cons->dS,getElem?_map->dX,replicate->eH,map_cons->eW,range->fj,all_eq_true->f9,mem_map->iL,pairwise_cons->jS,getElem?_eq_none->ke,mem_of_getElem?->ki,map_congr_left->kJ,ext_getElem?->kK,getElem?_take->nA,getElem_mem->pl,map_map->pn,length_map->qJ,getElem?_set_ne->sI,eq_nil_of_length_eq_zero->uc,getElem?_of_mem->ue,mem_cons_of_mem->Fy,getElem?_set_self->H0,pairwise_iff_getElem->Oz,mem_cons_self->OE,all_map->OL,mem_singleton->T3,not_mem_nil->T7,length_singleton->aaV,flatMap_cons->aa3,map_set->ajV,pairwise_map->aw9,length_set->axd,length->Y
open Option renaming map_eq_some_iff->TX,some->U,none->Z
open Go.World renaming cell?->oC,frozen?->abc
open Array renaming getElem?_eq_some_iff->pi,length_toList->FA,getElem?_modify->TY,getElem?_toList->aaW,getElem?_setIfInBounds_ne->ajE,getElem?_setIfInBounds_self_of_lt->aKg,getElem?_append_left->aKl,getElem_toList->aKE,extract_size->aKO
open List.Pairwise renaming nil->yq
open Int renaming natAbs_mul->aba
open Go.IntKind renaming i64->I
namespace Go.Proofs.YtieaiocljdpebaaGreatDoor.Y
open Go.RowKit
noncomputable section
variable{M:ai}{W:bq}{N:ar}{Q:aM}{X P:Nat}{L:bw}{H:aq}{R:World}{O:mG}{V:TypeId}
def TM:lJ:=⟨Fe,λ_ _=>Z⟩
def awk:aii TM false:=by
 refine⟨λf X (h:Fe f=U X)=> ?_,λf X (h:Fe f=U X)=> ?_,λf=>aig f⟩;unfold Fe at h;split at h<;>cases h<;>first|exact awe|exact awf|exact awg|exact awh|exact awi|exact awj
 unfold Fe at h;split at h<;>cases h<;>exact id
def hTM(f:FuncId)(X:Fn)(h:Fe f=U X):Mv TM f X:=⟨h,λ_=>rfl⟩
def awm{x y m n:Int}(X:x.natAbs<=m.natAbs)(W:y.natAbs<=n.natAbs):(x*y).natAbs<=(m*n).natAbs:=by
 rw[aba,aba];exact Ub X W
def aGv{a b c d:Int}(R:ga a b=J)(Q:ga c d=J)(W:World):Calls Tryz.prog 142 #[.agg #[.int I a,.int I b],.agg #[.int I c,.int I d]] W λe P=>e=.returned (.tuple #[.int I (tU (a*d) (c*b)),.int I 0])/\Below W.heap.size W P:=by
 obtain⟨n,N⟩:=atg hTM a b c d;have M:=Z9 awk n 142 _ _ _ _ rfl rfl rfl rfl _ _ _ N (aab _) ⟨trivial,trivial,trivial,trivial,trivial⟩ W (λh=>by cases h) (aac (by simp[vA]));refine Calls.mono M ?_;intro e P h;have O:IntKind.i64.wrap (a*d)=a*d/\IntKind.i64.wrap (c*b)=c*b:=by
  simp[ga] at R Q;have D:=awm (x:=a) (y:=d) (m:=1073741824) (n:=1073741824) aa aa;have B:=awm (x:=c) (y:=b) (m:=1073741824) (n:=1073741824) aa aa;rw[IntKind.wrap_i64,IntKind.wrap_i64];omega
 rw[oz,R,Q,O.1,O.2] at h;cases e with
 |returned v=>
  obtain⟨A,L,V,X,z,rfl,H,_,_⟩:=h;cases V;rcases L with _|⟨_|_|_,_|⟨_|_|_,_|_⟩⟩<;>first|exact X.elim|exact X.1.elim|exact X.2.elim|exact X.2.1.elim|exact X.2.2.elim|skip
  obtain⟨G,F,_⟩:=X;cases G;cases F;exact⟨rfl,H⟩
 |panicked w=>obtain⟨_,v,V,_⟩:=h;cases V
 |outgrown=>exact h.elim
def aGw(a b:Int)(W:World):Calls Tryz.prog 110 #[.int I a,.int I b] W λe R=>e=.returned (.int I (tU a b))/\Below W.heap.size W R:=by
 obtain⟨n,Q⟩:=ahM hTM a b;have P:=Z9 awk n 110 _ _ _ _ rfl rfl rfl rfl _ _ _ Q (aab _) ⟨trivial,trivial,trivial⟩ W (λh=>by cases h) (aac (by simp[vA]));refine Calls.mono P ?_;intro e R h;cases e with
 |returned v=>
  obtain⟨L,O,V,X,H,rfl,N,_,_⟩:=h;cases V;rcases O with _|⟨_|_|_,_|_⟩<;>first|exact X.elim|exact X.1.elim|exact X.2.elim|skip
  obtain⟨M,_⟩:=X;cases M;exact⟨rfl,N⟩
 |panicked G=>obtain⟨_,v,V,_⟩:=h;cases V
 |outgrown=>exact h.elim
def awn{X:List K}{aJ:ar}(h:lf M (.dp (0+3) W X) E N=U aJ):False:=by
 have h:qg 3 W (X.map (K.ab M)) N=U aJ:=h;obtain⟨_,h⟩:=Cf h;obtain⟨a,b,c,V⟩:=Dl (Km aa h);rw[V] at h;have e:nL 3 W [a,b,c] N=if decide (0<=a)&&decide (a<b)&&decide (b<c)&&decide (c<=Y N)&&decide (c-a<((0:Nat):Int))&&N.all W.ok&&yK W.lt (bo N a.toNat b.toNat)&&yK W.lt (bo N b.toNat c.toNat) then U (N.take a.toNat++(bX W.lt (bo N a.toNat c.toNat)++N.drop c.toNat)) else none:=rfl;rw[e] at h;split at h;rename_i R;simp only[aA,cz] at R;omega;cases h
def awo(o:bq):∀l,yJ o.lt (fK l)=yJ o.lt l
 |[]=>rfl
 |x::r=>by
  have X:=awo o r;simp only[fK,eW,yJ,OL] at X⊢;rw[X];congr 2;funext y;simp only[Function.comp,aip]
def ajk{X:Bool}{aJ:ar}(h:jA W X N=U aJ):jA W X (fK N)=U (fK aJ):=by
 cases W with
 |dp k W R=>simp[jA] at h
 |_=>
  simp only[jA] at h⊢;rw[Bw,auQ,awo,auP];split at h;rename_i V;rw[aL V];cases h;rfl;cases h
def KA:mf:=[J,J,J,J,J,J,J,J,J,J,J,J,J,J]
def Ov(r:RE)(i:K):ap:=[.int I (.cell r i 0),.int I (.cell r i 1),.int I (.cell r i 2),.int I (.cell r i 3),.int I (.cell r i 4),.int I (.cell r i 5),.int I (.cell r i 6),.int I (.cell r i 7),.int I (.cell r i 8),.int I (.cell r i 9),.int I (.cell r i 10),.int I (.cell r i 11),.int I (.cell r i 12),.int I (.cell r i 13)]
def aaO(h:kb KA Q):∃X W V R P O N M L H G F D B,Q=[.mk (.int I X) [],.mk (.int I W) [],.mk (.int I V) [],.mk (.int I R) [],.mk (.int I P) [],.mk (.int I O) [],.mk (.int I N) [],.mk (.int I M) [],.mk (.int I L) [],.mk (.int I H) [],.mk (.int I G) [],.mk (.int I F) [],.mk (.int I D) [],.mk (.int I B) []]:=by
 rcases Q with _|⟨l,Q⟩;exact h.elim;obtain⟨⟨X,A⟩,h⟩:=h;subst A;rcases Q with _|⟨k,Q⟩;exact h.elim;obtain⟨⟨W,z⟩,h⟩:=h;subst z;rcases Q with _|⟨j,Q⟩;exact h.elim;obtain⟨⟨V,y⟩,h⟩:=h;subst y;rcases Q with _|⟨i,Q⟩;exact h.elim;obtain⟨⟨R,w⟩,h⟩:=h;subst w;rcases Q with _|⟨g,Q⟩;exact h.elim;obtain⟨⟨P,v⟩,h⟩:=h;subst v;rcases Q with _|⟨f,Q⟩;exact h.elim;obtain⟨⟨O,u⟩,h⟩:=h;subst u;rcases Q with _|⟨e,Q⟩;exact h.elim;obtain⟨⟨N,t⟩,h⟩:=h;subst t;rcases Q with _|⟨d,Q⟩;exact h.elim;obtain⟨⟨M,s⟩,h⟩:=h;subst s;rcases Q with _|⟨c,Q⟩;exact h.elim;obtain⟨⟨L,r⟩,h⟩:=h;subst r;rcases Q with _|⟨b,Q⟩;exact h.elim;obtain⟨⟨H,q⟩,h⟩:=h;subst q;rcases Q with _|⟨a,Q⟩;exact h.elim;obtain⟨⟨G,p⟩,h⟩:=h;subst p;rcases Q with _|⟨ac,Q⟩;exact h.elim;obtain⟨⟨F,o⟩,h⟩:=h;subst o;rcases Q with _|⟨af,Q⟩;exact h.elim;obtain⟨⟨D,n⟩,h⟩:=h;subst n;rcases Q with _|⟨ag,Q⟩;exact h.elim;obtain⟨⟨B,m⟩,h⟩:=h;subst m;cases h;exact⟨X,W,V,R,P,O,N,M,L,H,G,F,D,B,rfl⟩
def ajl:Fo KA Ov:=by
 refine⟨λO r i x X W=> ?_,λO r i x X W y V=> ?_⟩;obtain⟨R,Q,P,N,M,L,H,G,F,D,B,A,z,w,rfl⟩:=aaO W;simp[Ov,C.cq,K.ab,aZ,dL,X,bp];obtain⟨R,Q,P,N,M,L,H,G,F,D,B,A,z,w,rfl⟩:=aaO W;have e:∀(q:RE),q.rv (O.at y)=q.rv O:=λq=>RE.mP O y q
 have v:∀(q:K),q.ab (O.at y)=q.ab O:=λq=>K.fl O y q
 simp[Ov,C.aK,C.ab,K.ab,aZ,dL,e,v,X,bp]
def KB:mf:=[J,J,J,E,J]
def Ow(r:RE)(i:K):ap:=[.int I (.cell r i 0),.int I (.cell r i 1),.int I (.cell r i 2),.bool (.cell r i 3),.int I (.cell r i 4)]
def aaP(h:kb KB Q):∃X W V R P,Q=[.mk (.int I X) [],.mk (.int I W) [],.mk (.int I V) [],.mk (.bool R) [],.mk (.int I P) []]:=by
 rcases Q with _|⟨G,Q⟩;exact h.elim;obtain⟨⟨X,O⟩,h⟩:=h;subst O;rcases Q with _|⟨F,Q⟩;exact h.elim;obtain⟨⟨W,N⟩,h⟩:=h;subst N;rcases Q with _|⟨D,Q⟩;exact h.elim;obtain⟨⟨V,M⟩,h⟩:=h;subst M;rcases Q with _|⟨B,Q⟩;exact h.elim;obtain⟨⟨R,L⟩,h⟩:=h;subst L;rcases Q with _|⟨A,Q⟩;exact h.elim;obtain⟨⟨P,H⟩,h⟩:=h;subst H;cases h;exact⟨X,W,V,R,P,rfl⟩
def ajm:Fo KB Ow:=by
 refine⟨λO r i x X W=> ?_,λO r i x X W y V=> ?_⟩;obtain⟨R,Q,P,N,M,rfl⟩:=aaP W;simp[Ow,C.cq,K.ab,BE.ab,aZ,dL,X,bp,fW];obtain⟨R,Q,P,N,M,rfl⟩:=aaP W;have e:∀(q:RE),q.rv (O.at y)=q.rv O:=λq=>RE.mP O y q
 have L:∀(q:K),q.ab (O.at y)=q.ab O:=λq=>K.fl O y q
 simp[Ow,C.aK,C.ab,K.ab,BE.ab,aZ,dL,e,L,X,bp,fW]
def awp{p:Sp}{L:dP}{Q:bK}{P:bz}{X:K}(h:∀W,iu p.S0 p.w0 W->p.R (.returned (.int I (X.ab M))) W):(T.ret (.int I X) Q P).ba p M L:=by
 intro y V W R;have:=h W R.base;simpa[C.ab,K.fl] using this
def Wb(P:Program)(Q:Ty)(W:World)(V:bw)(R:mf):aE [] W cF.none Q [] ⟨V,R,[],[]⟩ {(⟨[],[],Y V,Y R,[],0,0,[]⟩:S) with tmps:=[]} ⟨#[],[]⟩ W:=
 ⟨⟨iu.refl _ _,λi h=>by simp[aW,cJ] at h,λi j h=>by simp[aW,cJ] at h,λi t L h=>by simp[cJ] at h,λq O N X M=>by simp at X⟩,rfl,rfl,rfl,rfl,Wa _ _,rfl,λt H h=>by simp at h,λq O N b X M G=>by simp at X⟩
def ajn(P:Program)(o:bq)(W:World)(x y:aM):Ending->World->Prop:=λX V=>Below W.heap.size W V/\∃c:Int,X=.returned (.int I c)/\(c<0<->o.lt x y=J)
def awq{g:FuncId}{V:Func}{c:Code}{n:Nat}{args:ap}{t:T}(L:Tryz.prog.funcs[g]?=U V)(H:V.body=U c){y:aM}(O:bw)(N:mf)
  (G:Pl (qX Tryz.prog TT SG [] [] [] [] E []) n g c V.ntmps V.results.toList args ⟨[],[],Y O,Y N,[],0,0,[]⟩=t)(X:World)(F:(C.aK ⟨O,N,[],[]⟩ [] args).toArray= #[.agg (Q.map RV.val).toArray,.agg (y.map RV.val).toArray])
  (D:∀p:Sp,p.P=Tryz.prog->p.S0=[]->p.w0=X->p.R=ajn Tryz.prog W X Q y->t.ba p ⟨O,N,[],[]⟩ []):Calls Tryz.prog g #[.agg (Q.map RV.val).toArray,.agg (y.map RV.val).toArray] X (ajn Tryz.prog W X Q y):=by
 let p:Sp:=⟨Tryz.prog,look TT,[],X,cF.none,ajn Tryz.prog W X Q y,λ_ _ _=>False⟩;have B:mq p (qX Tryz.prog TT SG [] [] [] [] E []):=VU N3 Z5 rfl Z6 (λz w b ob _ h=>by obtain⟨_,c,A,_⟩:=h;cases A) (λQ M=>by cases M);rw[<-F];exact anl (p:=p) B L H G (D p rfl rfl rfl rfl) (λQ M=>by simp[qX] at M) (Wb Tryz.prog _ X O N)
def awr(x y:Int):tU x y<0<->x<y:=by
 unfold tU;split;omega;split<;>omega
def aGx:T:=(.call 142 [(.agg [(.int I (.v 10)),(.int I (.v 11))]),(.agg [(.int I (.v 24)),(.int I (.v 25))])] [] [] [.int I,.int I] (.b9 [(.int I (.v 28)),(.int I (.v 29))])
 (.ret (.int I (.v 28)) [] []))
def aGy:T:=(.call 110 [(.int I (.v 7)),(.int I (.v 3))] [] [] [.int I] (.int I (.v 8))
 (.ret (.int I (.v 8)) [] []))
def TN:Kl Tryz.prog KA 141 (.ratio 10 11):=by
 intro W x y M L H G;obtain⟨F,D,B,A,z,w,u,s,r,q,X,Q,o,m,rfl⟩:=aaO M;obtain⟨l,k,j,h,g,f,e,d,c,b,P,O,a,ac,rfl⟩:=aaO L;refine awq (t:=aGx) (n:=100) (args:=[(.agg [(.int I (.v 0)),(.int I (.v 1)),(.int I (.v 2)),(.int I (.v 3)),(.int I (.v 4)),(.int I (.v 5)),(.int I (.v 6)),(.int I (.v 7)),(.int I (.v 8)),(.int I (.v 9)),(.int I (.v 10)),(.int I (.v 11)),(.int I (.v 12)),(.int I (.v 13))]),(.agg [(.int I (.v 14)),(.int I (.v 15)),(.int I (.v 16)),(.int I (.v 17)),(.int I (.v 18)),(.int I (.v 19)),(.int I (.v 20)),(.int I (.v 21)),(.int I (.v 22)),(.int I (.v 23)),(.int I (.v 24)),(.int I (.v 25)),(.int I (.v 26)),(.int I (.v 27))])]) rfl rfl [F,D,B,A,z,w,u,s,r,q,X,Q,o,m,l,k,j,h,g,f,e,d,c,b,P,O,a,ac] [] bh W rfl ?_;rintro p hP hS hW hR;have h1:ga X Q=true:=H;have h2:ga P O=true:=G;intro yy V W' R;rw[hP];refine(aGv h1 h2 W').mono ?_;rintro en W2 ⟨rfl,hB⟩;refine⟨[.i (tU (X*O) (P*Q)),.i 0],⟨trivial,trivial,trivial⟩,rfl,hB,⟨trivial,trivial,trivial⟩,awp λW3 N=> ?_⟩;rw[hS,hW] at N;rw[hR];refine⟨Qe N,_,rfl, ?_⟩;simp[K.ab,ai.ext,ai.add,bq.lt,aN,bp,awr]
def TO:Kl Tryz.prog KB 323 (.lex [4] J):=by
 intro W x y O N o m;obtain⟨M,L,H,G,X,rfl⟩:=aaP O;obtain⟨F,D,B,A,Q,rfl⟩:=aaP N;refine awq (t:=aGy) (n:=100) (args:=[(.agg [(.int I (.v 0)),(.int I (.v 1)),(.int I (.v 2)),(.bool (.v 0)),(.int I (.v 3))]),(.agg [(.int I (.v 4)),(.int I (.v 5)),(.int I (.v 6)),(.bool (.v 1)),(.int I (.v 7))])]) rfl rfl [M,L,H,X,F,D,B,Q] [G,A] bh W rfl ?_;rintro p z w u s;intro l V r R;rw[z];refine(aGw Q X r).mono ?_;rintro k j ⟨rfl,q⟩;refine⟨[.i (tU Q X)],⟨trivial,trivial⟩,rfl,q,⟨trivial,trivial⟩,awp λh P=> ?_⟩;rw[w,u] at P;rw[s];refine⟨Qe P,_,rfl, ?_⟩;simp[K.ab,ai.ext,ai.add,bq.lt,kg,aN,bp,awr];omega
def aGz:qV Tryz.prog (look TT) 358 141 90 (.dp 0 (.ratio 10 11) []) false:=
 HM (K:=KA) (n:=100) (args:=[(.aj (.v 0)),(.int I (.v 0)),(.int I (.v 1)),(.int I (.v 2)),(.fn 141 [])]) (loops:=[(358,1,⟨[(0,.aj (.own 90)),(10,.int I)],[]⟩)]) (srts:=[]) (chs:=[(358,3)]) (t:=aak 90 Ov) rfl rfl rfl bh (λx X=>by cases X) bh TN bh (auZ ajl) (λW V h=>by obtain⟨a,b,c,rfl⟩:=Dl h;rfl) (λW R aJ h=>Km aa h)
def aGA:qV Tryz.prog (look TT) 320 141 90 (.dp 1 (.ratio 10 11) []) false:=
 HM (K:=KA) (n:=100) (args:=[(.aj (.v 0)),(.int I (.v 0)),(.int I (.v 1)),(.int I (.v 2)),(.fn 141 [])]) (loops:=[(320,2,⟨[(0,.aj (.own 90)),(10,.int I),(11,.int I)],[]⟩)]) (srts:=[(358,141,90,.dp 0 (.ratio 10 11) [],E)]) (chs:=[]) (t:=aal 90 141 358 (.ratio 10 11)) rfl rfl rfl bh (λx X=>by simp only[T3] at X;subst X;exact mM.of (aGz) po) bh TN bh (au1) (λW V h=>by obtain⟨a,b,c,rfl⟩:=Dl h;rfl) (λW R aJ h=>Km aa h)
def aGB:qV Tryz.prog (look TT) 273 141 90 (.dp 2 (.ratio 10 11) []) false:=
 HM (K:=KA) (n:=100) (args:=[(.aj (.v 0)),(.int I (.v 0)),(.int I (.v 1)),(.fn 141 [])]) (loops:=[(273,1,⟨[(0,.aj (.own 90)),(8,.int I)],[]⟩),(273,4,⟨[(0,.aj (.own 90)),(9,.int I)],[]⟩)]) (srts:=[]) (chs:=[(273,6)]) (t:=aam 90 141 Ov) rfl rfl rfl bh (λx X=>by cases X) bh TN bh (au4 ajl (Tf 10 11)) (λW V h=>by obtain⟨a,b,rfl⟩:=two h;rfl) (λW R aJ h=>auX h)
def aws:∀N:Nat,qV Tryz.prog (look TT) 274 141 90 (.dp (N+3) (.ratio 10 11) []) E
 |0=>⟨yR bh,λW A n M Q aJ O X L V H G P=>by
  simp only[bq.fill,cS] at V;subst V;exact(awn P).elim⟩
 |N+1=>HM (K:=KA) (n:=100) (args:=[(.aj (.v 0)),(.int I (.v 0)),(.int I (.v 1)),(.int I (.v 2)),(.fn 141 [])]) (loops:=[(274,3,⟨[(0,.aj (.own 90)),(10,.int I),(11,.int I)],[]⟩),(274,9,⟨[(0,.aj (.own 90)),(13,.int I)],[]⟩),(274,15,⟨[(0,.aj (.own 90)),(14,.int I),(15,.int I)],[]⟩),(274,21,⟨[(0,.aj (.own 90)),(17,.int I)],[]⟩),(274,33,⟨[(0,.aj (.own 90)),(20,.int I),(21,.int I)],[]⟩)]) (srts:=[(320,141,90,.dp 1 (.ratio 10 11) [],E),(274,141,90,.dp (N+3) (.ratio 10 11) [],E)]) (chs:=[(274,11),(274,23)]) (t:=aao 90 141 320 274 N (.ratio 10 11) Ov) rfl rfl rfl bh (λx R=>by
   simp only[dS,T7,or_false] at R;rcases R with rfl|rfl;exact mM.of (aGA) po;exact mM.of (aws N) po) bh TN bh (au7 ajl (Tf 10 11)) (λX F h=>by obtain⟨a,b,c,rfl⟩:=Dl h;rfl) (λX Q aJ h=>Km aa h)
def aGC:qV Tryz.prog (look TT) 140 141 90 (.ratio 10 11) true:=by
 refine⟨yR bh,λW A n B V aJ O X z Q H G P=> ?_⟩;cases X with
 |cons _ _=>simp[bq.fill] at Q
 |nil=>
  simp only[bq.fill,cS] at Q;subst Q;have P:jA (.ratio 10 11) J V=U aJ:=P;refine aiq (K:=KA) (o:=(.ratio 10 11)) (N:=0) (n:=100) (inl:=[209]) (args:=[(.aj (.v 0)),(.fn 141 [])]) (loops:=[(209,2,⟨[(0,.aj (.own 90)),(8,.int I),(7,.int I)],[]⟩),(209,7,⟨[(0,.aj (.own 90)),(6,.int I)],[]⟩),(209,9,⟨[(0,.aj (.own 90)),(8,.int I),(7,.int I)],[]⟩)]) (srts:=[(273,141,90,.dp 2 (.ratio 10 11) [],E),(274,141,90,.dp (Y V+1+3) (.ratio 10 11) [],E)]) (chs:=[]) (F:=λX R=>if X=[]/\Y R<Y V+1 then jA (.ratio 10 11) J R else Z) (t:=aap 90 141 273 274 (Y V+1) (.ratio 10 11)) rfl rfl rfl bh (λx L=> ?_) bh TN bh (au9 (Tf 10 11)) (λX y h=> ?_) (λX R D h=> ?_) (λX R D h=> ?_) H G ?_;simp only[dS,T7,or_false] at L;rcases L with rfl|rfl;exact mM.of (aGB) po;exact mM.of (aws _) po;have:X=[]:=uc h;subst this;rfl;split at h;rename_i M;rw[aL (by rw[Bw];exact M)];exact ajk h;cases h;split at h;rename_i M;exact⟨by rw[M.1];rfl,acB h⟩;cases h;rw[aL ⟨rfl,aa⟩];exact P
def aGD:qV Tryz.prog (look TT) 379 323 393 (.dp 0 (.lex [4] J) []) false:=
 HM (K:=KB) (n:=100) (args:=[(.aj (.v 0)),(.int I (.v 0)),(.int I (.v 1)),(.int I (.v 2)),(.fn 323 [])]) (loops:=[(379,1,⟨[(0,.aj (.own 393)),(10,.int I)],[]⟩)]) (srts:=[]) (chs:=[(379,3)]) (t:=aak 393 Ow) rfl rfl rfl bh (λx X=>by cases X) bh TO bh (auZ ajm) (λW V h=>by obtain⟨a,b,c,rfl⟩:=Dl h;rfl) (λW R aJ h=>Km aa h)
def aGE:qV Tryz.prog (look TT) 378 323 393 (.dp 1 (.lex [4] J) []) false:=
 HM (K:=KB) (n:=100) (args:=[(.aj (.v 0)),(.int I (.v 0)),(.int I (.v 1)),(.int I (.v 2)),(.fn 323 [])]) (loops:=[(378,2,⟨[(0,.aj (.own 393)),(10,.int I),(11,.int I)],[]⟩)]) (srts:=[(379,323,393,.dp 0 (.lex [4] J) [],E)]) (chs:=[]) (t:=aal 393 323 379 (.lex [4] J)) rfl rfl rfl bh (λx X=>by simp only[T3] at X;subst X;exact mM.of (aGD) po) bh TO bh (au1) (λW V h=>by obtain⟨a,b,c,rfl⟩:=Dl h;rfl) (λW R aJ h=>Km aa h)
def aGF:qV Tryz.prog (look TT) 373 323 393 (.dp 2 (.lex [4] J) []) false:=
 HM (K:=KB) (n:=100) (args:=[(.aj (.v 0)),(.int I (.v 0)),(.int I (.v 1)),(.fn 323 [])]) (loops:=[(373,1,⟨[(0,.aj (.own 393)),(8,.int I)],[]⟩),(373,4,⟨[(0,.aj (.own 393)),(9,.int I)],[]⟩)]) (srts:=[]) (chs:=[(373,6)]) (t:=aam 393 323 Ow) rfl rfl rfl bh (λx X=>by cases X) bh TO bh (au4 ajm (N6 [4] J)) (λW V h=>by obtain⟨a,b,rfl⟩:=two h;rfl) (λW R aJ h=>auX h)
def awt:∀N:Nat,qV Tryz.prog (look TT) 374 323 393 (.dp (N+3) (.lex [4] J) []) E
 |0=>⟨yR bh,λW A n M Q aJ O X L V H G P=>by
  simp only[bq.fill,cS] at V;subst V;exact(awn P).elim⟩
 |N+1=>HM (K:=KB) (n:=100) (args:=[(.aj (.v 0)),(.int I (.v 0)),(.int I (.v 1)),(.int I (.v 2)),(.fn 323 [])]) (loops:=[(374,3,⟨[(0,.aj (.own 393)),(10,.int I),(11,.int I)],[]⟩),(374,9,⟨[(0,.aj (.own 393)),(13,.int I)],[]⟩),(374,15,⟨[(0,.aj (.own 393)),(14,.int I),(15,.int I)],[]⟩),(374,21,⟨[(0,.aj (.own 393)),(17,.int I)],[]⟩),(374,33,⟨[(0,.aj (.own 393)),(20,.int I),(21,.int I)],[]⟩)]) (srts:=[(378,323,393,.dp 1 (.lex [4] J) [],E),(374,323,393,.dp (N+3) (.lex [4] J) [],E)]) (chs:=[(374,11),(374,23)]) (t:=aao 393 323 378 374 N (.lex [4] J) Ow) rfl rfl rfl bh (λx R=>by
   simp only[dS,T7,or_false] at R;rcases R with rfl|rfl;exact mM.of (aGE) po;exact mM.of (awt N) po) bh TO bh (au7 ajm (N6 [4] J)) (λX F h=>by obtain⟨a,b,c,rfl⟩:=Dl h;rfl) (λX Q aJ h=>Km aa h)
def aGG:qV Tryz.prog (look TT) 322 323 393 (.lex [4] J) true:=by
 refine⟨yR bh,λW A n B V aJ O X z Q H G P=> ?_⟩;cases X with
 |cons _ _=>simp[bq.fill] at Q
 |nil=>
  simp only[bq.fill,cS] at Q;subst Q;have P:jA (.lex [4] J) J V=U aJ:=P;refine aiq (K:=KB) (o:=(.lex [4] J)) (N:=0) (n:=100) (inl:=[360]) (args:=[(.aj (.v 0)),(.fn 323 [])]) (loops:=[(360,2,⟨[(0,.aj (.own 393)),(8,.int I),(7,.int I)],[]⟩),(360,7,⟨[(0,.aj (.own 393)),(6,.int I)],[]⟩),(360,9,⟨[(0,.aj (.own 393)),(8,.int I),(7,.int I)],[]⟩)]) (srts:=[(373,323,393,.dp 2 (.lex [4] J) [],E),(374,323,393,.dp (Y V+1+3) (.lex [4] J) [],E)]) (chs:=[]) (F:=λX R=>if X=[]/\Y R<Y V+1 then jA (.lex [4] J) J R else Z) (t:=aap 393 323 373 374 (Y V+1) (.lex [4] J)) rfl rfl rfl bh (λx L=> ?_) bh TO bh (au9 (N6 [4] J)) (λX y h=> ?_) (λX R D h=> ?_) (λX R D h=> ?_) H G ?_;simp only[dS,T7,or_false] at L;rcases L with rfl|rfl;exact mM.of (aGF) po;exact mM.of (awt _) po;have:X=[]:=uc h;subst this;rfl;split at h;rename_i M;rw[aL (by rw[Bw];exact M)];exact ajk h;cases h;split at h;rename_i M;exact⟨by rw[M.1];rfl,acB h⟩;cases h;rw[aL ⟨rfl,aa⟩];exact P
section
open Go.Shelf Go.RowKit Go.Lib Go.Sort
def eM{o:Option Func}{a b:Func}(h:o=U a)(e:a=b):o=U b:=h.trans (ku U e)
def Tryz.cmpInt_ren:Go.Shelf.Ren:=⟨λ|5=>110|7=>192|n=>n,λ|22=>3|3=>3|4=>4|n=>n,λ|n=>n⟩
def Tryz.cmpInt:Go.Proofs.SlLaysC2.n5 Tryz.prog Tryz.cmpInt_ren:={mixed:=by kernel_rfl,f5:=⟨Tryz.f110.name,dM,eM Tryz.func110 (by kernel_rfl)⟩,f7:=⟨Tryz.f192.name,dM,eM Tryz.func192 (by kernel_rfl)⟩,t3:=Tryz.underlying3,a3:=Tryz.isAgg3,z3:=Tryz.sizeOf3,v3:=Tryz.zeroValue3,t4:=Tryz.underlying4,a4:=Tryz.isAgg4,z4:=Tryz.sizeOf4,v4:=Tryz.zeroValue4,t22:=Tryz.underlying3,a22:=Tryz.isAgg3,z22:=Tryz.sizeOf3,v22:=Tryz.zeroValue3}
def Tryz.sortSg_ren:Go.Shelf.Ren:=⟨λ|6=>223|15=>108|14=>283|28=>190|29=>191|20=>273|21=>326|22=>327|23=>328|24=>329|25=>330|26=>331|27=>332|46=>362|47=>254|48=>255|49=>363|50=>364|57=>375|n=>n,λ|22=>30|24=>90|25=>234|3=>3|39=>205|0=>0|53=>287|55=>289|4=>4|46=>280|45=>279|50=>284|5=>5|9=>9|66=>336|70=>166|76=>382|77=>298|n=>n,λ|n=>n⟩
def Tryz.sortSg:Go.Proofs.SlLaysF0.n6 Tryz.prog Tryz.sortSg_ren:={mixed:=by kernel_rfl,f6:=⟨Tryz.f223.name,dM,eM Tryz.func223 (by kernel_rfl)⟩,f14:=⟨Tryz.f283.name,dM,eM Tryz.func283 (by kernel_rfl)⟩,f15:=eM Tryz.func108 (by kernel_rfl),f20:=⟨Tryz.f273.name,dM,eM Tryz.func273 (by kernel_rfl)⟩,f21:=⟨Tryz.f326.name,dM,eM Tryz.func326 (by kernel_rfl)⟩,f22:=⟨Tryz.f327.name,dM,eM Tryz.func327 (by kernel_rfl)⟩,f23:=⟨Tryz.f328.name,dM,eM Tryz.func328 (by kernel_rfl)⟩,f24:=⟨Tryz.f329.name,dM,eM Tryz.func329 (by kernel_rfl)⟩,f25:=⟨Tryz.f330.name,dM,eM Tryz.func330 (by kernel_rfl)⟩,f26:=⟨Tryz.f331.name,dM,eM Tryz.func331 (by kernel_rfl)⟩,f27:=⟨Tryz.f332.name,dM,eM Tryz.func332 (by kernel_rfl)⟩,f28:=eM Tryz.func190 (by kernel_rfl),f29:=eM Tryz.func191 (by kernel_rfl),f46:=⟨Tryz.f362.name,dM,eM Tryz.func362 (by kernel_rfl)⟩,f47:=eM Tryz.func254 (by kernel_rfl),f48:=eM Tryz.func255 (by kernel_rfl),f49:=⟨Tryz.f363.name,dM,eM Tryz.func363 (by kernel_rfl)⟩,f50:=⟨Tryz.f364.name,dM,eM Tryz.func364 (by kernel_rfl)⟩,f57:=⟨Tryz.f375.name,dM,eM Tryz.func375 (by kernel_rfl)⟩,t0:=Tryz.underlying0,a0:=Tryz.isAgg0,z0:=Tryz.sizeOf0,v0:=Tryz.zeroValue0,t3:=Tryz.underlying3,a3:=Tryz.isAgg3,z3:=Tryz.sizeOf3,v3:=Tryz.zeroValue3,t4:=Tryz.underlying4,a4:=Tryz.isAgg4,z4:=Tryz.sizeOf4,v4:=Tryz.zeroValue4,t5:=Tryz.underlying5,a5:=Tryz.isAgg5,z5:=Tryz.sizeOf5,v5:=Tryz.zeroValue5,t9:=Tryz.underlying9,a9:=Tryz.isAgg9,z9:=Tryz.sizeOf9,v9:=Tryz.zeroValue9,t22:=Tryz.underlying30,a22:=Tryz.isAgg30,z22:=Tryz.sizeOf30,v22:=Tryz.zeroValue30,t25:=Tryz.underlying234,a25:=Tryz.isAgg234,z25:=Tryz.sizeOf234,v25:=Tryz.zeroValue234,t39:=Tryz.underlying205,a39:=Tryz.isAgg205,z39:=Tryz.sizeOf205,v39:=Tryz.zeroValue205,t45:=Tryz.underlying279,a45:=Tryz.isAgg279,z45:=Tryz.sizeOf279,v45:=Tryz.zeroValue279,t46:=Tryz.underlying280,a46:=Tryz.isAgg280,z46:=Tryz.sizeOf280,v46:=Tryz.zeroValue280,t50:=Tryz.underlying284,a50:=Tryz.isAgg284,z50:=Tryz.sizeOf284,v50:=Tryz.zeroValue284,t53:=Tryz.underlying287,a53:=Tryz.isAgg287,z53:=Tryz.sizeOf287,v53:=Tryz.zeroValue287,t55:=Tryz.underlying289,a55:=Tryz.isAgg289,z55:=Tryz.sizeOf289,v55:=Tryz.zeroValue289,t66:=Tryz.underlying336,a66:=Tryz.isAgg336,z66:=Tryz.sizeOf336,v66:=Tryz.zeroValue336,t70:=Tryz.underlying166,a70:=Tryz.isAgg166,z70:=Tryz.sizeOf166,v70:=Tryz.zeroValue166,t76:=Tryz.underlying382,a76:=Tryz.isAgg382,z76:=Tryz.sizeOf382,v76:=Tryz.zeroValue382,t77:=Tryz.underlying298,a77:=Tryz.isAgg298,z77:=Tryz.sizeOf298,v77:=Tryz.zeroValue298}
def aGH(X O N M L H G F D B A z y Ol V x w v u t s p o n m l k j:Int)(W:World):Calls Tryz.prog 224 #[.agg #[.int I X,.int I O,.int I N,.int I M,.int I L,.int I H,.int I G,.int I F,.int I D,.int I B,.int I A,.int I z,.int I y,.int I Ol],.agg #[.int I V,.int I x,.int I w,.int I v,.int I u,.int I t,.int I s,.int I p,.int I o,.int I n,.int I m,.int I l,.int I k,.int I j]] W λe Q=>e=.returned (.int I (Lib.compareInt X V))/\∃q i,Q=grow (W.drewN q) i:=by
 have R:=λP=>AnyG.cmp_Compare_int Tryz.cmpInt X V P
 change∀P,Calls Tryz.prog 110 _ _ _ at R;generalize Lib.compareInt X V=r at R⊢;go_enter Tryz.func224,Tryz.ntmps224
 go_wp2_with (go_at_call 110;refine(R _).mono ?_;rintro e Q ⟨rfl,rfl⟩)
 go_ret;exact⟨rfl,0,_,by rw[alloc_eq_grow,alloc_eq_grow,grow_grow];rfl⟩
end
section
attribute[local go_sem ↓] Go.wp_at_zero Go.wp_at_succ
open Go.Shelf Go.RowKit Go.Lib Go.Sort
def sG:Nat->Nat->List Nat->List Nat
 |0,_,g=>g
 |n+1,k,g=>if g.getD k 0=k then g else(sG n (g.getD k 0) g).set k ((sG n (g.getD k 0) g).getD (g.getD k 0) 0)
def awu{g:List Nat}:∀n k,(sG n k g).length=Y g
 |0,_=>rfl
 |n+1,k=>by
  simp only[sG];split;rfl;simp[awu n]
def awv{g:List Nat}(X:∀q,g.getD q 0<=q):∀n k q,k<q->(sG n k g).getD q 0=g.getD q 0
 |0,_,_,_=>rfl
 |n+1,k,q,h=>by
  simp only[sG];split;rfl;have:=X k;rw[dL,sI aa,<-dL];exact awv X n _ q aa
def InB(W:World)(b V:Nat)(g:List Nat):Prop:=∃X,W.heap[b]?=U (.cells X 3 (0,0))/\X.size=V/\∀q,q<Y g->X[q]?=U (.int I ((g.getD q 0:Nat):Int))
def aGI(W:World)(X V b n R k:Nat)(P:W.cell? ⟨X,0,Z⟩=U (.slice (U ⟨b,0,Z⟩) n R))(_hl:W.cell? ⟨V,0,Z⟩=U (.func (.func 130) #[] #[.pointer (U ⟨X,0,Z⟩),.pointer (U ⟨V,0,Z⟩)]))
  (O:(0:Int)<=k)(N:(k:Int)<(n:Int))(M:W.cell? ⟨b,k,Z⟩=U (.int I k)):Calls Tryz.prog 130 #[.int I k,.pointer (U ⟨X,0,Z⟩),.pointer (U ⟨V,0,Z⟩)] W λe Q=>e=.returned (.int I k)/\Q=W:=by
 have L:((k:Int)!=k)=false:=aw;go_enter Tryz.func130,Tryz.ntmps130;go_wp2;go_ret;exact⟨rfl,rfl⟩
def aGJ(W:World)(V R b n P k j:Nat)(F:V≠b)(z:W.cell? ⟨V,0,Z⟩=U (.slice (U ⟨b,0,Z⟩) n P))(y:W.cell? ⟨R,0,Z⟩=U (.func (.func 130) #[] #[.pointer (U ⟨V,0,Z⟩),.pointer (U ⟨R,0,Z⟩)]))
  (x:(0:Int)<=k)(w:(k:Int)<(n:Int))(v:W.cell? ⟨b,k,Z⟩=U (.int I j))(u:j≠k)(r:Int)(Q:World->Prop)(H:∀X,Q X->X.cell? ⟨V,0,Z⟩=U (.slice (U ⟨b,0,Z⟩) n P)/\X.cell? ⟨R,0,Z⟩=U (.func (.func 130) #[] #[.pointer (U ⟨V,0,Z⟩),.pointer (U ⟨R,0,Z⟩)])/\X.cell? ⟨b,k,Z⟩=U (.int I j)/\X.frozen? ⟨b,k,Z⟩=E)
  (D:Calls Tryz.prog 130 #[.int I j,.pointer (U ⟨V,0,Z⟩),.pointer (U ⟨R,0,Z⟩)] W.drew λe X=>e=.returned (.int I r)/\Q X):
  Calls Tryz.prog 130 #[.int I k,.pointer (U ⟨V,0,Z⟩),.pointer (U ⟨R,0,Z⟩)] W λe X=>e=.returned (.int I r)/\∃O,Q O/\X=O.setCell ⟨b,k,Z⟩ (.int I r):=by
 have t:((j:Int)!=k)=true:=dh;have B:∀X,Q X->X.cell? ⟨V,0,Z⟩=U (.slice (U ⟨b,0,Z⟩) n P)/\X.cell? ⟨b,k,Z⟩=U (.int I j)/\X.frozen? ⟨b,k,Z⟩=E/\(X.setCell ⟨b,k,Z⟩ (.int I r)).cell? ⟨V,0,Z⟩=U (.slice (U ⟨b,0,Z⟩) n P)/\(X.setCell ⟨b,k,Z⟩ (.int I r)).cell? ⟨b,k,Z⟩=U (.int I r):=λX N=>by
  obtain⟨M,A,L,G⟩:=H X N;exact⟨M,L,G,(World.cell?_setCell_far _ _ _ _ (Ne.symm F)).trans M,World.cell?_setCell_same' _ _ _ (by rw[L];rfl)⟩
 clear H;go_enter Tryz.func130,Tryz.ntmps130;go_wp2
 go_region_with (first|(go_at_call 130;refine D.mono ?_;rintro e O ⟨rfl,N⟩;obtain⟨M,A,L,G,s⟩:=B O N))
 all_goals go_wp2
 all_goals go_ret
 all_goals exact⟨rfl,_,N,rfl⟩
def aww(b V:Nat)(W:World)(g:List Nat)(X:World):Prop:=W.grownBy X (U b)/\InB X b V g
def awx{R Q b n A sz:Nat}(z:R≠b)(t:Q≠b)(hn:(n:Int)<=1099511627776):∀(N k:Nat)(W:World)(g:List Nat),k<N->k<n->Y g=n->(∀q,g.getD q 0<=q)->
  W.cell? ⟨R,0,Z⟩=U (.slice (U ⟨b,0,Z⟩) n A)->W.cell? ⟨Q,0,Z⟩=U (.func (.func 130) #[] #[.pointer (U ⟨R,0,Z⟩),.pointer (U ⟨Q,0,Z⟩)])->InB W b sz g->
  Calls Tryz.prog 130 #[.int I k,.pointer (U ⟨R,0,Z⟩),.pointer (U ⟨Q,0,Z⟩)] W λe P=>e=.returned (.int I (((sG N k g).getD k 0:Nat):Int))/\aww b sz W (sG N k g) P
 |0,k,W,g,h,_,_,_,_,_,_=>aG h (axf _)
 |N+1,k,W,g,hN,s,r,y,H,G,hb=>by
  obtain⟨p,x,o,w⟩:=hb;have m:∀q,q<n->W.cell? ⟨b,q,Z⟩=U (.int I ((g.getD q 0:Nat):Int)):=λq O=>by
   have:=w q aa;simp only[oC,x];simpa using this
  by_cases M:g.getD k 0=k;have L:sG (N+1) k g=g:=by simp only[sG,aL M]
  rw[L];have:=m k s;rw[M] at this⊢;refine(aGI W R Q b n A k H G aa aa this).mono ?_;rintro e P ⟨rfl,rfl⟩;exact⟨rfl,World.grownBy.refl _ _,p,x,o,w⟩;have L:sG (N+1) k g=(sG N (g.getD k 0) g).set k ((sG N (g.getD k 0) g).getD (g.getD k 0) 0):=by simp only[sG,aP M]
  have l:g.getD k 0<k:=aw7 (y k) M;generalize i:g.getD k 0=j at M L l;generalize v:sG N j g=X at L;have qU:Y X=n:=by rw[<-v,awu,r]
  have af:X.getD k 0=j:=by rw[<-v,awv y N j k l,i]
  rw[L];have f:(X.set k (X.getD j 0)).getD k 0=X.getD j 0:=by
   rw[dL,H0 aa];rfl
  rw[f];have d:=awx z t hn N j W.drew g aa aa r y H G ⟨p,x,o,w⟩;rw[v] at d;have c:=m k s;rw[i] at c;refine(aGJ W R Q b n A k j z H G aa aa c aa ((X.getD j 0:Nat):Int) (aww b sz W.drew X) ?_ d).mono ?_;rintro P ⟨V,F,D,a,B⟩;have hf:P.cell? ⟨b,k,Z⟩=U (.int I (j:Int)):=by
   have:=B k aa;rw[af] at this;simp only[oC,D];simpa using this
  exact⟨V.cell H (by simpa using z),V.cell G (by simpa using t),hf,by simp[abc,D]⟩;rintro e P ⟨rfl,w1,⟨V,F,D,a,B⟩,rfl⟩;refine⟨rfl,⟨V.os,V.tape,V.output,by rw[World.size_setCell];exact V.size,λq O ac=> ?_⟩, ?_⟩;exact(Below.heap_setCell w1 _ _ q (by intro e;exact ac (by rw[e]))).trans (V.block q O ac);refine⟨F.setIfInBounds k (.int I ((X.getD j 0:Nat):Int)), ?_,by simpa using a,λq O=> ?_⟩;exact Go.Proofs.YtieaiocljdpebaaGreatDoor.Bx.set (show Go.Proofs.YtieaiocljdpebaaGreatDoor.Bx w1 b 3 F from D) _;rw[axd] at O;have ag:k<F.size:=by
   have:=B k aa;exact(pi.1 this).1
  by_cases u:q=k;subst u;rw[f,aKg ag];rw[ajE (Ne.symm u),B q O,dL,dL,sI (Ne.symm u)]
end
def ub(X:ar):aq:=X.map λW=>(aN 0 W).toNat
def TP(X:ar)(q:Nat):(ub X).getD q 0=(aN 0 (X.getD q [])).toNat:=by
 simp only[ub,dL,dX];cases X[q]? with
 |none=>rfl
 |some W=>rfl
def awy{X:ar}(h:lc X=J):∀(n:Nat)(i:Int),0<=i->i<Y X->ub (rR n i X)=sG n i.toNat (ub X)
 |0,_,_,_=>rfl
 |n+1,i,V,R=>by
  obtain⟨Q,N,P⟩:=acz h V R;have O:=awy h n _ Q P;simp only[rR,sG,TP];by_cases W:aN 0 (X.getD i.toNat [])=i;rw[aL W,aL aa];rw[aP W,aP aa,<-O,TP];simp only[ub,ajV]
def aGK:alB Tryz.prog (look TT) 130 3:=by
 refine⟨yR bh, ?_⟩;intro W b n z R aJ i y x tg tl d yO a ac M L H;have N:bH (look TT) (.sl 3)=[.int I]:=by rfl
 obtain⟨b0,h0,h1,G,af⟩:=PL H;obtain⟨hn,b1⟩:=uy M;have w:=gg.yN M;rw[N] at L⊢;rcases L.mem with hz|⟨b',F,hA,v,ag,al⟩;exfalso;omega;cases hA;have u:∀(q:Nat)(X:aM),R[q]?=U X->∃c,X=[c]/\c.val=.int I (aN 0 X):=λq X V=>by
  have t:=w.len q X V;rw[N] at t
  match X,t with
  |[c],_=>
   obtain⟨m,hm⟩:=w.int q 0 [c] c I V rfl (by rw[N];rfl);exact⟨c,rfl,by simp[aN,hm,bp]⟩
 have s:∀q:Nat,q<Y R->((ub R).getD q 0:Int)=aN 0 (R.getD q [])/\(ub R).getD q 0<=q:=λq V=>by
  have:=F8 G V;rw[TP];omega
 have an:InB W b F.size (ub R):=by
  refine⟨F,v,rfl,λq V=> ?_⟩;rw[ub,qJ] at V;obtain⟨c,a0,a1⟩:=u q R[q] (cL V);have D:W.cell? ⟨b,0+q*1+0,Z⟩=U c.val:=by
   cases M with
   |sl e A b3 z R g1 g2 g3 gi gb go=>
    obtain⟨-,b2,b4,e2,-,g4⟩:=g3 q R[q] (cL V);cases e2;have:=g4 0 c (by rw[a0];rfl);rw[N] at this;exact this
  rw[a1] at D;simp only[oC,v] at D;have e3:((ub R).getD q 0:Int)=aN 0 R[q]:=by
   rw[(s q V).1,dL,cL V];rfl
  rw[e3];simpa using D
 have a3:∀q,(ub R).getD q 0<=q:=λq=>by
  by_cases V:q<Y R;exact(s q V).2;rw[TP,dL,ke aa];show(0:Int).toNat<=q;simp
 have a4:(ub R).length=n:=by rw[ub,qJ,hn]
 have a9:W.cell? ⟨y,0,Z⟩=U (.slice (U ⟨b,0,Z⟩) n z):=by simp[oC,d]
 have dH:W.cell? ⟨x,0,Z⟩=U (.func (.func 130) #[] #[.pointer (U ⟨y,0,Z⟩),.pointer (U ⟨x,0,Z⟩)]):=by simp[oC,yO]
 have bb:((i.toNat:Nat):Int)=i:=aa;have o:=awx a ac (sz:=F.size) aa (Y R) i.toNat W (ub R) aa aa a4 a3 a9 dH an;rw[bb] at o;refine o.mono ?_;rintro e w' ⟨rfl,bd,bf,bk,br,k⟩;have j:=awy G (Y R) i h0 h1;rw[<-af] at j;rw[<-j] at k⊢;have b5:Y aJ=Y R:=acA H;have bs:=Vi H;have g:∀(q:Nat)(X:aM),aJ[q]?=U X->∃c,X=[c]/\c.val=.int I (aN 0 X)/\0<=aN 0 X:=λq X V=>by
  obtain⟨p,Q⟩:=ue (bs X (ki V));obtain⟨c,P,O⟩:=u p X Q;have bt:p<Y R:=(cj.1 Q).1;have:=(F8 G bt).1;rw[dL,Q] at this;exact⟨c,P,O,this⟩
 have f:∀q,q<Y aJ->(((ub aJ).getD q 0:Nat):Int)=aN 0 (aJ.getD q []):=λq V=>by
  obtain⟨c,-,-,c3⟩:=g q aJ[q] (cL V);rw[TP,dL,cL V];show((aN 0 aJ[q]).toNat:Int)=aN 0 aJ[q];omega
 refine⟨by rw[f _ aa],bd,aa,L.nil,.inr ⟨b,bf,rfl,bk,ag,by rw[br];exact al, ?_,.inr rfl⟩⟩;apply kK;intro q;have bx:eI aJ=aJ.map λX=>Value.int I (aN 0 X):=by
  have:∀l:ar,(∀X∈l,∃c,X=[c]/\c.val=.int I (aN 0 X))->eI l=l.map λX=>Value.int I (aN 0 X):=by
   intro l;induction l with
   |nil=>intro _;rfl
   |cons r l ih=>
    intro h;obtain⟨c,P,O⟩:=h r OE;have:=ih λX B=>h X (Fy _ B)
    simp only[eI,aa3,eW] at this⊢;rw[this,<-O,P];rfl
  refine this aJ λX B=> ?_
  obtain⟨p,Q⟩:=ue B;obtain⟨c,P,O,-⟩:=g p X Q;exact⟨c,P,O⟩
 rw[bx,nA,dX];simp only[aaV,axs];by_cases V:q<Y aJ;rw[aL V,aaW,k q (by rw[ub,qJ];exact V),f q V,cL V];simp[dL,cL V];rw[aP V,ke aa];rfl
section
attribute[local go_sem ↓] Go.wp_at_zero Go.wp_at_succ
open Go.Shelf Go.RowKit Go.Lib Go.Sort
def nV:List Int->Int
 |[]=>0
 |a::l=>if a=0 then nV l else a
def or2(b:Nat)(X V:Int)(W:World)(L:W.cell? ⟨b,0,Z⟩=U (.int I X))(H:W.cell? ⟨b,1,Z⟩=U (.int I V)):Calls Tryz.prog 109 #[.slice (U ⟨b,0,Z⟩) 2 2] W λe O=>e=.returned (.int I (nV [X,V]))/\O=W:=by
 by_cases R:X=0;have N:(X !=0)=false:=by simp[R]
 by_cases P:V=0
 ·have M:(V !=0)=false:=by simp[P]
  have Q:nV [X,V]=0:=by simp[nV,R,P]
  rw[Q];clear Q;clear R P;go_enter Tryz.func109,Tryz.ntmps109;go_wp2;refine wp_loop_rounds 3 ?_
  iterate 3 (rw[rounds_succ];go_wp2)
  go_ret;exact⟨rfl,rfl⟩
 ·have M:(V !=0)=true:=by simp[P]
  have Q:nV [X,V]=V:=by simp[nV,R,P]
  rw[Q];clear Q;clear R P;go_enter Tryz.func109,Tryz.ntmps109;go_wp2;refine wp_loop_rounds 3 ?_
  iterate 2 (rw[rounds_succ];go_wp2)
  go_ret;exact⟨rfl,rfl⟩
 ·have N:(X !=0)=true:=by simp[R]
  have Q:nV [X,V]=X:=by simp[nV,R]
  rw[Q];clear Q;clear R;go_enter Tryz.func109,Tryz.ntmps109;go_wp2;refine wp_loop_rounds 3 ?_
  iterate 1 (rw[rounds_succ];go_wp2)
  go_ret;exact⟨rfl,rfl⟩
def TQ(W:World)(V R:Obj)(X:Array Value)(t:TypeId)(i:Nat)(v:Value)(h:X[i]?=U v):(((W.alloc V).alloc R).alloc (.cells X t)).drew.cell? ⟨W.heap.size+1+1,i,Z⟩=U v:=by
 have e:(((W.alloc V).alloc R).alloc (.cells X t)).heap[W.heap.size+1+1]?=U (.cells X t):=by
  have:=heap_alloc_new ((W.alloc V).alloc R) (.cells X t);simpa using this
 show oC _ _=_;simp only[oC,World.drew,e];simpa using h
def awz(W:World)(X V R:Obj):∃q Q,(((W.alloc X).alloc V).alloc R).drew=grow (W.drewN q) Q:=⟨1, #[X]++ #[V]++ #[R],by rw[alloc_eq_grow,alloc_eq_grow,alloc_eq_grow,grow_grow,grow_grow];rfl⟩
def aGM(V R Q P:Int)(W:World):Calls Tryz.prog 178 #[.agg #[.int I V,.int I R],.agg #[.int I Q,.int I P]] W λe X=>e=.returned (.int I (nV [Lib.compareInt R P,Lib.compareInt V Q]))/\∃q L,X=grow (W.drewN q) L:=by
 have O:=λx y N=>AnyG.cmp_Compare_int Tryz.cmpInt x y N
 change∀x y N,Calls Tryz.prog 110 _ _ _ at O;generalize Lib.compareInt=M at O⊢;go_enter Tryz.func178,Tryz.ntmps178;go_wp2
 go_region_held3 (λX=>X.cell? ⟨W.heap.size,0,Z⟩=U (.int I V)/\X.cell? ⟨W.heap.size,1,Z⟩=U (.int I R)/\X.cell? ⟨W.heap.size+1,0,Z⟩=U (.int I Q)/\X.cell? ⟨W.heap.size+1,1,Z⟩=U (.int I P)) (go_keep)
  (first|(go_at_call 110;refine(O _ _ _).mono ?_;rintro e X ⟨rfl,rfl⟩)|(go_at_call 109;refine Calls.mono (or2 _ (M R P) (M V Q) _ (TQ _ _ _ _ _ _ _ rfl) (TQ _ _ _ _ _ _ _ rfl)) ?_;rintro e X ⟨rfl,rfl⟩))
 all_goals go_wp2
 all_goals go_ret
 exact⟨rfl,awz _ _ _ _⟩
def or3(b:Nat)(V R Q:Int)(W:World)(F:W.cell? ⟨b,0,Z⟩=U (.int I V))(D:W.cell? ⟨b,1,Z⟩=U (.int I R))(B:W.cell? ⟨b,2,Z⟩=U (.int I Q)):Calls Tryz.prog 109 #[.slice (U ⟨b,0,Z⟩) 3 3] W λe M=>e=.returned (.int I (nV [V,R,Q]))/\M=W:=by
 by_cases P:V=0;have L:(V !=0)=false:=by simp[P]
 by_cases O:R=0;have H:(R !=0)=false:=by simp[O]
 by_cases N:Q=0
 ·have G:(Q !=0)=false:=by simp[N]
  have X:nV [V,R,Q]=0:=by simp[nV,P,O,N]
  rw[X];clear X;clear P O N;go_enter Tryz.func109,Tryz.ntmps109;go_wp2;refine wp_loop_rounds 4 ?_
  iterate 4 (rw[rounds_succ];go_wp2)
  go_ret;exact⟨rfl,rfl⟩
 ·have G:(Q !=0)=true:=by simp[N]
  have X:nV [V,R,Q]=Q:=by simp[nV,P,O,N]
  rw[X];clear X;clear P O N;go_enter Tryz.func109,Tryz.ntmps109;go_wp2;refine wp_loop_rounds 4 ?_
  iterate 3 (rw[rounds_succ];go_wp2)
  go_ret;exact⟨rfl,rfl⟩
 ·have H:(R !=0)=true:=by simp[O]
  have X:nV [V,R,Q]=R:=by simp[nV,P,O]
  rw[X];clear X;clear P O;go_enter Tryz.func109,Tryz.ntmps109;go_wp2;refine wp_loop_rounds 4 ?_
  iterate 2 (rw[rounds_succ];go_wp2)
  go_ret;exact⟨rfl,rfl⟩
 ·have L:(V !=0)=true:=by simp[P]
  have X:nV [V,R,Q]=V:=by simp[nV,P]
  rw[X];clear X;clear P;go_enter Tryz.func109,Tryz.ntmps109;go_wp2;refine wp_loop_rounds 4 ?_
  iterate 1 (rw[rounds_succ];go_wp2)
  go_ret;exact⟨rfl,rfl⟩
def w52(V R Q P O N:Int)(W:World):Calls Tryz.prog 52 #[.agg #[.int I V,.int I R,.int I Q],.agg #[.int I P,.int I O,.int I N]] W λe X=>e=.returned (.int I (nV [Lib.compareInt V P,Lib.compareInt R O,Lib.compareInt Q N]))/\∃q G,X=grow (W.drewN q) G:=by
 have M:=λx y H=>AnyG.cmp_Compare_int Tryz.cmpInt x y H
 change∀x y H,Calls Tryz.prog 110 _ _ _ at M;generalize Lib.compareInt=L at M⊢;go_enter Tryz.func52,Tryz.ntmps52;go_wp2
 go_region_held3 (λX=>X.cell? ⟨W.heap.size,0,Z⟩=U (.int I V)/\X.cell? ⟨W.heap.size,1,Z⟩=U (.int I R)/\X.cell? ⟨W.heap.size,2,Z⟩=U (.int I Q)/\X.cell? ⟨W.heap.size+1,0,Z⟩=U (.int I P)/\X.cell? ⟨W.heap.size+1,1,Z⟩=U (.int I O)/\X.cell? ⟨W.heap.size+1,2,Z⟩=U (.int I N)) (go_keep)
  (first|(go_at_call 110;refine(M _ _ _).mono ?_;rintro e X ⟨rfl,rfl⟩)|(go_at_call 109;refine Calls.mono (or3 _ (L V P) (L R O) (L Q N) _ (TQ _ _ _ _ _ _ _ rfl) (TQ _ _ _ _ _ _ _ rfl) (TQ _ _ _ _ _ _ _ rfl)) ?_;rintro e X ⟨rfl,rfl⟩))
 all_goals go_wp2
 all_goals go_ret
 exact⟨rfl,awz _ _ _ _⟩
end
section
open Go.Shelf Go.RowKit
open Go.Sort (flatK get_flatK size_flatK HoldsK putRowK size_putRowK grow)
def IV(k:Nat)(x:bw):aM:=(fj k).map λi=>RV.mk (.int I (x.getD i 0)) []
def kH(k:Nat)(x:bw):gE:=(fj k).map λi=>Value.int I (x.getD i 0)
def ajp(k:Nat)(x:bw):(IV k x).length=k:=by simp[IV]
def ajq(h:P<X):(IV X L)[P]?=U (RV.mk (.int I (L.getD P 0)) []):=by simp[IV,h]
def aGP(h:P<X):aN P (IV X L)=L.getD P 0:=by
 unfold aN;rw[dL,ajq h];rfl
def zN(X:aq)(x y:bw):Int:=nV (X.map λc=>Lib.compareInt (x.getD c 0) (y.getD c 0))
def ajr{k:Nat}{x y:bw}:∀{cs:aq},(∀c∈cs,c<k)->decide (zN cs x y<0)=kg E cs (IV k x) (IV k y)
 |[],_=>rfl
 |c::cs,h=>by
  have R:=ajr (x:=x) (y:=y) (cs:=cs) (λc W=>h c (by simp[W]));have W:c<k:=h c aw;simp only[zN,eW,nV,kg,aGP W] at R⊢;generalize x.getD c 0=p;generalize y.getD c 0=q;by_cases V:p=q;rw[aL V,aL (by simp[Lib.compareInt,V])];exact R;rw[aP V];by_cases X:p<q;have e:Lib.compareInt p q=-1:=by simp[Lib.compareInt,X]
  simp[e,X];have Q:p>q:=aa;have e:Lib.compareInt p q=1:=by simp[Lib.compareInt,X,Q]
  simp[e,X]
def ajs(h:∀c∈H,c<X):Go.Sort.SWO (ltOf (zN H)):=by
 have w:=N6 H E;have e:∀x y,ltOf (zN H) x y=(bq.lex H E).lt (IV X x) (IV X y):=λx y=>ajr h
 exact⟨λx=>by rw[e];exact w.irr _ rfl,λx y z W V=>by rw[e] at*;exact w.tr _ _ _ rfl rfl rfl W V,λx y z W V=>by rw[e] at*;exact w.nt _ _ _ rfl rfl rfl W V⟩
def awA:∀{k:Nat}{X:aM},kb (eH k J) X->Y X=k/\∀c∈X,c=.mk (.int I (bp c.val)) []
 |0,X,h=>by cases h;simp
 |k+1,[],h=>h.elim
 |k+1,c::r,h=>by
  obtain⟨⟨n,rfl⟩,W⟩:(∃n,c=.mk (.int I n) [])/\kb (eH k J) r:=h;obtain⟨V,R⟩:=awA W;exact⟨by simp[V],λc Q=>(dS.1 Q).elim (λe=>by subst e;rfl) (R c)⟩
def unI(X:aM):bw:=X.map λc=>bp c.val
def aGQ(h:kb (eH X J) Q):IV X (unI Q)=Q:=by
 obtain⟨P,V⟩:=awA h;apply kK;intro i;by_cases R:i<X;rw[ajq R];have W:i<Y Q:=aa;rw[cL W,V _ (pl W)];simp[unI,dL,W];rw[ke (by rw[ajp];omega),ke aa]
def aGR(h:∀x∈N,kb (eH X J) x):∃d:Array bw,N=d.toList.map (IV X):=by
 refine⟨(N.map unI).toArray, ?_⟩;simp only[pn]
 conv=>lhs;rw[<-List.map_id N]
 exact kJ λx W=>(aGQ (h x W)).symm
def awB(d:Array bw)(W:P<d.size*X):(eI (d.toList.map (IV X)))[P]?=U ((flatK (kH X) X d)[P]!):=by
 have Q:0<X:=by
  rcases BG X with rfl|h;omega;exact h
 have O:P/X<d.size:=aw2 (by rw[Uc];exact W);have V:P%X<X:=Ia _ Q;have e:P=P/X*X+P%X:=by have:=ajS P X;rw[Uc] at this;omega
 have:=Pw (w:=X) (rows:=d.toList.map (IV X)) (λi N R=>by
  simp only[dX,TX] at R;obtain⟨x,_,rfl⟩:=R;exact ajp X x) (i:=P/X) (j:=P%X) (row:=IV X d[P/X]!) (by simp[O]) (ajq V)
 rw[<-e] at this;rw[this,get_flatK _ _ _ _ W];congr 1;have:(kH X d[P/X]!)[P%X]?=U (.int I ((d[P/X]!).getD (P%X) 0)):=by simp[kH,V]
 rw[List.getElem!_eq_getElem?_getD,this];rfl
def aGS(d:Array bw):(eI (d.toList.map (IV X))).length=d.size*X:=by
 have:=Cc (w:=X) (rows:=d.toList.map (IV X)) (λi V W=>by
  simp only[dX,TX] at W;obtain⟨x,_,rfl⟩:=W;exact ajp X x)
 simpa using this
def aGT(Q:R.heap[X]?=U (.cells O V (0,0)))(j:Nat):R.frozen? ⟨X,j,Z⟩=false:=by
 simp[abc,Q]
def aGU{Q:Ty}{n N k:Nat}{d:Array bw}(h:bI R Q (.sl X) (.mk (.slice (U ⟨P,0,Z⟩) n N) (d.toList.map (IV k))))(M:R.heap[P]?=U (.cells O X (0,0))):HoldsK (kH k) k R P 0 d:=by
 intro j V;rw[size_flatK] at V;obtain⟨G,F,L,_,H⟩:=Px h j _ (awB d V);cases L;exact⟨H,aGT M _⟩
def aGV{m:Nat}{d Q:Array bw}{os:Array Obj}(M:R.heap[P]?=U (.cells O V (0,0)))(B:HoldsK (kH X) X R P 0 d)(A:Q.size=d.size):
  R.grownBy (sortWorldK (kH X) X R P 0 m Q os) (U P)/\∃L,(sortWorldK (kH X) X R P 0 m Q os).heap[P]?=U (.cells L V (0,0))/\L.size=O.size/\L.toList.take (Q.size*X)=eI (Q.toList.map (IV X)):=by
 have H:P<R.heap.size:=(pi.1 M).1;have z:(putRowK (kH X) X (Sort.ahead R m) P 0 Q).heap.size=R.heap.size:=by rw[size_putRowK];rfl
 have G:∀i,i<R.heap.size->(sortWorldK (kH X) X R P 0 m Q os).heap[i]?=(R.heap.modify P (Sort.onCells (Sort.putCells id 0 (flatK (kH X) X Q))))[i]?:=by
  intro i F;show(_++os)[i]?=_;rw[aKl (by rw[z];exact F)];rfl
 refine⟨⟨rfl,rfl,rfl, ?_,λi F y=> ?_⟩,Sort.putCells id 0 (flatK (kH X) X Q) O, ?_, ?_, ?_⟩;exact size_sortWorldK_c (kH X) X R P 0 m Q os;rw[G i F,TY,aP (λD=>y (by rw[D]))];rw[G P H,TY,aL rfl,M];rfl;simp[Sort.putCells];have D:=holdsK_sortWorldK_c (kH X) X R P 0 d Q m os B H A;have x:(sortWorldK (kH X) X R P 0 m Q os).heap[P]?=U (.cells (Sort.putCells id 0 (flatK (kH X) X Q) O) V (0,0)):=by rw[G P H,TY,aL rfl,M];rfl
 apply kK;intro q;rw[nA];by_cases N:q<Q.size*X;rw[aL N,awB Q N];have:=(D q (by rw[size_flatK];exact N)).1;simpa[oC,x] using this;rw[aP N,ke (by rw[aGS];omega)]
def awC{lt:aM->aM->Bool}:∀{l:ar},yJ lt l=J->l.Pairwise (λx y=>lt x y=J\/lt y x=J)
 |[],_=>yq
 |x::r,h=>by
  simp only[yJ,aA,f9,jy] at h;exact jS.2 ⟨h.1,awC h.2⟩
def aju{f g:FuncId}{k:Nat}(a1:xu Tryz.prog f=J)(F:bH (look TT) (.sl V)=(eH k J).map Fm)(hc:∀c∈H,c<k)
  (a3:∀p R fv W,Calls Tryz.prog f #[.slice p 0 R,fv] W λP D=>P=.returned (.tuple #[])/\D=W)
  (a4:∀(b R:Nat)(d:Array bw)(W:World),HoldsK (kH k) k W b 0 d->b<W.heap.size->d.size<4611686018427387904->Calls Tryz.prog f #[.slice (U ⟨b,0,Z⟩) d.size R,.func (.func g) #[] #[]] W λP D=>P=.returned (.tuple #[])/\∃X n B,Go.Sort.PermIn 0 d.size d X/\Go.Sort.SortedIn (ltOf (zN H)) 0 d.size X/\D=sortWorldK (kH k) k W b 0 n X B):
  qV Tryz.prog (look TT) f g V (.lex H E) false:=by
 refine⟨yR a1,λW A n R w aJ O ns bx v u L t=> ?_⟩;cases ns with
 |cons _ _=>simp[bq.fill] at v
 |nil=>
  simp only[bq.fill,cS] at v;subst v;have t:jA (.lex H E) E w=U aJ:=t;obtain⟨hl,b0⟩:=uy u;have hk:(bH (look TT) (.sl V)).length=k:=by rw[F];simp
  rw[hk] at L⊢;have Q:=ajk t;simp only[jA] at Q;split at Q
  case isFalse=>cases Q
  rename_i o;simp only[aA,cz,jy,jR,false_or] at o;obtain⟨l,_,a⟩:=o;have Q:=me Q;have b1:Y aJ=Y w:=by rw[<-Bw aJ,<-Q,lZ,Bw]
  by_cases hn:n=0;subst hn;have h0:aJ=[]:=uc aa;subst h0;refine(a3 A R _ W).mono ?_;rintro P W' ⟨rfl,rfl⟩;refine⟨rfl,⟨rfl,rfl,rfl,cg _,λ_ _ _=>rfl⟩,⟨FJ _,L.nil, ?_⟩⟩;rcases L.mem with h|⟨b,ac,rfl,N,s,r⟩;exact .inl h;cases R with
  |zero=>exact .inl rfl
  |succ c=>exact .inr ⟨b,ac,rfl,N,s,r,by simp[eI],.inr rfl⟩
  rcases L.mem with h|⟨b,ac,rfl,N,s,r⟩;omega;have hp:∀(j:Nat)(z:Value)(q:RK),(bH (look TT) (.sl V))[j]?≠U (.aS z q):=by
   intro j z q M;rw[F,dX] at M;cases G:(eH k J)[j]? with
   |none=>rw[G] at M;cases M
   |some b=>rw[G] at M;cases b<;>simp[Fm] at M
  have af:=auV hp u;obtain⟨d,hd⟩:=aGR (auU F (gg.yN u));have ag:d.size=n:=by
   have h3:(fK w).length=(d.toList.map (IV k)).length:=ku Y hd;rw[Bw,qJ,FA] at h3;exact h3.symm.trans hl
  rw[hd] at af Q a l;have al:=aGU af N;have G:b<W.heap.size:=(pi.1 N).1;have a9:lG (U ⟨b,0,Z⟩) R=U b:=by
   cases R with
   |zero=>omega
   |succ c=>rfl
  have an:=a4 b R d W al G (by simp at l;omega);rw[ag] at an;refine Calls.mono an ?_;rintro P W' ⟨rfl,X,m,B,a0,bb,rfl⟩;have hs:X.size=d.size:=a0.1;obtain⟨g1,bd,g2,g3,g4⟩:=aGV (m:=m) (os:=B) N al hs;have bf:X.toList.Perm d.toList:=by
   have:=a0.2.2;rw[<-ag] at this;have e1:X.extract 0 d.size=X:=by rw[<-hs];exact aKO
   have e2:d.extract 0 d.size=d:=aKO
   rwa [e1,e2] at this
  have bg:gT (bq.lex H E).lt (X.toList.map (IV k)):=by
   refine aw9.2 (Oz.2 λi j hi hj bk=> ?_);have bl:j<X.size:=by simpa using hj
   have br:i<X.size:=by simpa using hi
   have:=bb i j (FJ _) bk aa;have V:=ajr (k:=k) (x:=X[j]) (y:=X[i]) hc;rw[getElem!_pos X j bl,getElem!_pos X i br] at this;show kg E H (IV k X.toList[j]) (IV k X.toList[i])=E;rw[aKE,aKE,<-V];exact this
  have bs:X.toList.map (IV k)=fK aJ:=by
   rw[<-Q,<-aCG (lt:=(bq.lex H E).lt) (atJ E H) (atK E H) (bf.map (IV k)) (awC a)];exact(aag bg).symm
  rw[a9];refine⟨rfl,g1,⟨aa,λh=>(by cases h),.inr ⟨b,bd,rfl,g2,s,by rw[g3,r], ?_,.inr rfl⟩⟩⟩;have bt:Y aJ=X.size:=aa;rw[bt,g4,bs,auS]
end
section
open Go.Shelf Go.RowKit
open Go.Sort (HoldsK)
def Tryz.sortOb_ren:Go.Shelf.Ren:=⟨λ|6=>51|15=>108|14=>107|28=>190|29=>191|20=>182|21=>183|22=>184|23=>185|24=>186|25=>187|26=>188|27=>189|46=>253|47=>254|48=>255|49=>256|50=>257|57=>311|n=>n,λ|22=>121|24=>118|25=>123|3=>3|39=>205|0=>0|53=>287|55=>289|4=>4|46=>280|45=>279|50=>284|5=>5|9=>9|66=>336|70=>166|76=>382|77=>298|n=>n,λ|n=>n⟩
def Tryz.sortOb:Go.Proofs.SlLaysF0.n6 Tryz.prog Tryz.sortOb_ren:={mixed:=bh,f6:=⟨Tryz.f51.name,dM,eM Tryz.func51 bh⟩,f14:=⟨Tryz.f107.name,dM,eM Tryz.func107 bh⟩,f15:=eM Tryz.func108 bh,f20:=⟨Tryz.f182.name,dM,eM Tryz.func182 bh⟩,f21:=⟨Tryz.f183.name,dM,eM Tryz.func183 bh⟩,f22:=⟨Tryz.f184.name,dM,eM Tryz.func184 bh⟩,f23:=⟨Tryz.f185.name,dM,eM Tryz.func185 bh⟩,f24:=⟨Tryz.f186.name,dM,eM Tryz.func186 bh⟩,f25:=⟨Tryz.f187.name,dM,eM Tryz.func187 bh⟩,f26:=⟨Tryz.f188.name,dM,eM Tryz.func188 bh⟩,f27:=⟨Tryz.f189.name,dM,eM Tryz.func189 bh⟩,f28:=eM Tryz.func190 bh,f29:=eM Tryz.func191 bh,f46:=⟨Tryz.f253.name,dM,eM Tryz.func253 bh⟩,f47:=eM Tryz.func254 bh,f48:=eM Tryz.func255 bh,f49:=⟨Tryz.f256.name,dM,eM Tryz.func256 bh⟩,f50:=⟨Tryz.f257.name,dM,eM Tryz.func257 bh⟩,f57:=⟨Tryz.f311.name,dM,eM Tryz.func311 bh⟩,t0:=Tryz.underlying0,a0:=Tryz.isAgg0,z0:=Tryz.sizeOf0,v0:=Tryz.zeroValue0,t3:=Tryz.underlying3,a3:=Tryz.isAgg3,z3:=Tryz.sizeOf3,v3:=Tryz.zeroValue3,t4:=Tryz.underlying4,a4:=Tryz.isAgg4,z4:=Tryz.sizeOf4,v4:=Tryz.zeroValue4,t5:=Tryz.underlying5,a5:=Tryz.isAgg5,z5:=Tryz.sizeOf5,v5:=Tryz.zeroValue5,t9:=Tryz.underlying9,a9:=Tryz.isAgg9,z9:=Tryz.sizeOf9,v9:=Tryz.zeroValue9,t22:=Tryz.underlying121,a22:=Tryz.isAgg121,z22:=Tryz.sizeOf121,v22:=Tryz.zeroValue121,t25:=Tryz.underlying123,a25:=Tryz.isAgg123,z25:=Tryz.sizeOf123,v25:=Tryz.zeroValue123,t39:=Tryz.underlying205,a39:=Tryz.isAgg205,z39:=Tryz.sizeOf205,v39:=Tryz.zeroValue205,t45:=Tryz.underlying279,a45:=Tryz.isAgg279,z45:=Tryz.sizeOf279,v45:=Tryz.zeroValue279,t46:=Tryz.underlying280,a46:=Tryz.isAgg280,z46:=Tryz.sizeOf280,v46:=Tryz.zeroValue280,t50:=Tryz.underlying284,a50:=Tryz.isAgg284,z50:=Tryz.sizeOf284,v50:=Tryz.zeroValue284,t53:=Tryz.underlying287,a53:=Tryz.isAgg287,z53:=Tryz.sizeOf287,v53:=Tryz.zeroValue287,t55:=Tryz.underlying289,a55:=Tryz.isAgg289,z55:=Tryz.sizeOf289,v55:=Tryz.zeroValue289,t66:=Tryz.underlying336,a66:=Tryz.isAgg336,z66:=Tryz.sizeOf336,v66:=Tryz.zeroValue336,t70:=Tryz.underlying166,a70:=Tryz.isAgg166,z70:=Tryz.sizeOf166,v70:=Tryz.zeroValue166,t76:=Tryz.underlying382,a76:=Tryz.isAgg382,z76:=Tryz.sizeOf382,v76:=Tryz.zeroValue382,t77:=Tryz.underlying298,a77:=Tryz.isAgg298,z77:=Tryz.sizeOf298,v77:=Tryz.zeroValue298}
def Tryz.sortBr_ren:Go.Shelf.Ren:=⟨λ|6=>243|15=>108|14=>300|28=>190|29=>191|20=>345|21=>346|22=>347|23=>348|24=>349|25=>350|26=>351|27=>352|46=>368|47=>254|48=>255|49=>369|50=>370|57=>377|n=>n,λ|22=>196|24=>200|25=>274|3=>3|39=>205|0=>0|53=>287|55=>289|4=>4|46=>280|45=>279|50=>284|5=>5|9=>9|66=>336|70=>166|76=>382|77=>298|n=>n,λ|n=>n⟩
def Tryz.sortBr:Go.Proofs.SlLaysF0.n6 Tryz.prog Tryz.sortBr_ren:={mixed:=bh,f6:=⟨Tryz.f243.name,dM,eM Tryz.func243 bh⟩,f14:=⟨Tryz.f300.name,dM,eM Tryz.func300 bh⟩,f15:=eM Tryz.func108 bh,f20:=⟨Tryz.f345.name,dM,eM Tryz.func345 bh⟩,f21:=⟨Tryz.f346.name,dM,eM Tryz.func346 bh⟩,f22:=⟨Tryz.f347.name,dM,eM Tryz.func347 bh⟩,f23:=⟨Tryz.f348.name,dM,eM Tryz.func348 bh⟩,f24:=⟨Tryz.f349.name,dM,eM Tryz.func349 bh⟩,f25:=⟨Tryz.f350.name,dM,eM Tryz.func350 bh⟩,f26:=⟨Tryz.f351.name,dM,eM Tryz.func351 bh⟩,f27:=⟨Tryz.f352.name,dM,eM Tryz.func352 bh⟩,f28:=eM Tryz.func190 bh,f29:=eM Tryz.func191 bh,f46:=⟨Tryz.f368.name,dM,eM Tryz.func368 bh⟩,f47:=eM Tryz.func254 bh,f48:=eM Tryz.func255 bh,f49:=⟨Tryz.f369.name,dM,eM Tryz.func369 bh⟩,f50:=⟨Tryz.f370.name,dM,eM Tryz.func370 bh⟩,f57:=⟨Tryz.f377.name,dM,eM Tryz.func377 bh⟩,t0:=Tryz.underlying0,a0:=Tryz.isAgg0,z0:=Tryz.sizeOf0,v0:=Tryz.zeroValue0,t3:=Tryz.underlying3,a3:=Tryz.isAgg3,z3:=Tryz.sizeOf3,v3:=Tryz.zeroValue3,t4:=Tryz.underlying4,a4:=Tryz.isAgg4,z4:=Tryz.sizeOf4,v4:=Tryz.zeroValue4,t5:=Tryz.underlying5,a5:=Tryz.isAgg5,z5:=Tryz.sizeOf5,v5:=Tryz.zeroValue5,t9:=Tryz.underlying9,a9:=Tryz.isAgg9,z9:=Tryz.sizeOf9,v9:=Tryz.zeroValue9,t22:=Tryz.underlying196,a22:=Tryz.isAgg196,z22:=Tryz.sizeOf196,v22:=Tryz.zeroValue196,t25:=Tryz.underlying274,a25:=Tryz.isAgg274,z25:=Tryz.sizeOf274,v25:=Tryz.zeroValue274,t39:=Tryz.underlying205,a39:=Tryz.isAgg205,z39:=Tryz.sizeOf205,v39:=Tryz.zeroValue205,t45:=Tryz.underlying279,a45:=Tryz.isAgg279,z45:=Tryz.sizeOf279,v45:=Tryz.zeroValue279,t46:=Tryz.underlying280,a46:=Tryz.isAgg280,z46:=Tryz.sizeOf280,v46:=Tryz.zeroValue280,t50:=Tryz.underlying284,a50:=Tryz.isAgg284,z50:=Tryz.sizeOf284,v50:=Tryz.zeroValue284,t53:=Tryz.underlying287,a53:=Tryz.isAgg287,z53:=Tryz.sizeOf287,v53:=Tryz.zeroValue287,t55:=Tryz.underlying289,a55:=Tryz.isAgg289,z55:=Tryz.sizeOf289,v55:=Tryz.zeroValue289,t66:=Tryz.underlying336,a66:=Tryz.isAgg336,z66:=Tryz.sizeOf336,v66:=Tryz.zeroValue336,t70:=Tryz.underlying166,a70:=Tryz.isAgg166,z70:=Tryz.sizeOf166,v70:=Tryz.zeroValue166,t76:=Tryz.underlying382,a76:=Tryz.isAgg382,z76:=Tryz.sizeOf382,v76:=Tryz.zeroValue382,t77:=Tryz.underlying298,a77:=Tryz.isAgg298,z77:=Tryz.sizeOf298,v77:=Tryz.zeroValue298}
def aGW(a:Int):nV [a]=a:=by
 simp only[nV];split<;>omega
def aGX(b:Nat)(X:Nat)(w:World):CmpLays Tryz.prog 224 #[] (kH 14) 14 (zN [0]) b 0 X w:=λm W V R x y=>by
 have h:=aGH (x.getD 0 0) (x.getD 1 0) (x.getD 2 0) (x.getD 3 0) (x.getD 4 0) (x.getD 5 0) (x.getD 6 0) (x.getD 7 0) (x.getD 8 0) (x.getD 9 0) (x.getD 10 0) (x.getD 11 0) (x.getD 12 0) (x.getD 13 0) (y.getD 0 0) (y.getD 1 0) (y.getD 2 0) (y.getD 3 0) (y.getD 4 0) (y.getD 5 0) (y.getD 6 0) (y.getD 7 0) (y.getD 8 0) (y.getD 9 0) (y.getD 10 0) (y.getD 11 0) (y.getD 12 0) (y.getD 13 0) (sortWorldK (kH 14) 14 w b 0 m V W);have e:zN [0] x y=Lib.compareInt (x.getD 0 0) (y.getD 0 0):=aGW _;rw[e];exact h
def aGY(b:Nat)(X:Nat)(w:World):CmpLays Tryz.prog 178 #[] (kH 2) 2 (zN [1,0]) b 0 X w:=λm W V R x y=>
 aGM (x.getD 0 0) (x.getD 1 0) (y.getD 0 0) (y.getD 1 0) (sortWorldK (kH 2) 2 w b 0 m V W)
def aGZ(b:Nat)(X:Nat)(w:World):CmpLays Tryz.prog 52 #[] (kH 3) 3 (zN [0,1,2]) b 0 X w:=λm W V R x y=>
 w52 (x.getD 0 0) (x.getD 1 0) (x.getD 2 0) (y.getD 0 0) (y.getD 1 0) (y.getD 2 0) (sortWorldK (kH 3) 3 w b 0 m V W)
def ajv(k:Nat)(x:bw):(kH k x).length=k:=by simp[kH]
def ajw(k:Nat)(x:bw):∀v∈kH k x,v.oneCell'=true:=by
 intro v X;simp only[kH,iL] at X;obtain⟨i,_,rfl⟩:=X;rfl
def aG0:qV Tryz.prog (look TT) 223 224 90 (.lex [0] E) false:=by
 have V:∀c∈[0],c<14:=aw;refine aju (k:=14) bh bh V (λp X R W=> ?_) (λb X d W Q P O=> ?_);have h:=AnyF.slices_SortFunc_none Tryz.sortSg p X R W;exact h;have h:=AnyQ.slices_SortFunc Tryz.sortSg 14 Tryz.isAgg90 Tryz.sizeOf90 (kH 14) (ajv 14) (ajw 14) (zN [0]) (ajs V) 224 #[] b 0 X d W (enters_of Tryz.func224 bh rfl) (aGX b d.size W) Q P O;exact h
def aG1:qV Tryz.prog (look TT) 51 52 118 (.lex [0,1,2] E) false:=by
 have V:∀c∈[0,1,2],c<3:=aw;refine aju (k:=3) bh bh V (λp X R W=> ?_) (λb X d W Q P O=> ?_);have h:=AnyF.slices_SortFunc_none Tryz.sortOb p X R W;exact h;have h:=AnyQ.slices_SortFunc Tryz.sortOb 3 Tryz.isAgg118 Tryz.sizeOf118 (kH 3) (ajv 3) (ajw 3) (zN [0,1,2]) (ajs V) 52 #[] b 0 X d W (enters_of Tryz.func52 bh rfl) (aGZ b d.size W) Q P O;exact h
def aG2:qV Tryz.prog (look TT) 243 178 200 (.lex [1,0] E) false:=by
 have V:∀c∈[1,0],c<2:=aw;refine aju (k:=2) bh bh V (λp X R W=> ?_) (λb X d W Q P O=> ?_);have h:=AnyF.slices_SortFunc_none Tryz.sortBr p X R W;exact h;have h:=AnyQ.slices_SortFunc Tryz.sortBr 2 Tryz.isAgg200 Tryz.sizeOf200 (kH 2) (ajv 2) (ajw 2) (zN [1,0]) (ajs V) 178 #[] b 0 X d W (enters_of Tryz.func178 bh rfl) (aGY b d.size W) Q P O;exact h
def KK:wK t7:=by
 intro x X;simp only[t7,dS,T7,or_false] at X;rcases X with rfl|rfl|rfl|rfl|rfl|rfl;exact mM.of aG1 po;exact mM.of aGC po;exact mM.of aG0 po;exact mM.of aG2 po;exact mM.of aGG po;unfold mM;rw[aL rfl];exact aGK
end
def aG3:bB 12 E E T12:=tk Tryz.func12 (loops:=[(12,5,⟨[(12,.int I)],[]⟩)])
def aG4:bB 33 E E Zs:=tk Tryz.func33
def aG5:bB 18 E E T18:=tk Tryz.func18 (ct:=J)
def aG6:bB 20 E E T20:=tk Tryz.func20 (ct:=J) (loops:=[(20,4,⟨[(5,.int I)],[]⟩)])
def aG7:bB 37 E E Zt:=tk Tryz.func37 (loops:=[(37,9,⟨[(62,.int I)],[]⟩),(37,16,⟨[(90,.int I),(6,.int I)],[]⟩)])
def aG8:bB 86 E E T86:=tk Tryz.func86 (ct:=J)
def aG9:bB 87 E E T87:=tk Tryz.func87 (ct:=J)
def aHa:bB 88 E E T88:=tk Tryz.func88 (ct:=J)
def aHb:bB 102 E E as4:=tk Tryz.func102 (ct:=J)
def aHc:bB 173 E E as5:=tk Tryz.func173 (ct:=J) (loops:=[(173,2,⟨[(8,.int I)],[]⟩)])
def aHd:bB 181 E E agV:=tk Tryz.func181
def aHe:bB 135 E E Zu:=tk Tryz.func135 (loops:=[(135,4,⟨[(20,.int I)],[]⟩)])
def aHf(X:wK t7):bB 77 E E T77:=tk Tryz.func77 (loops:=[(77,7,⟨[(35,.int I),(6,.aj (.own 90))],[]⟩)]) (srts:=t7) (hsr:=X)
def aHg:bB 225 E E Zv:=tk Tryz.func225
def aHh:bB 284 E E agX:=tk Tryz.func284
def aHi:bB 207 E E Zw:=tk Tryz.func207
def aHj:bB 25 E E NQ:=tk Tryz.func25 (inl:=[71,132,70])
def aHk(X:wK t7):bB 155 E E SD:=tk Tryz.func155 (loops:=[(155,6,⟨[(22,.int I),(4,.aj (.own 258))],[]⟩),(155,9,⟨[(28,.int I),(4,.aj (.own 258))],[]⟩)]) (inl:=[222]) (srts:=t7) (hsr:=X)
def aHl:bB 143 E E atb:=tk Tryz.func143 (ct:=J) (loops:=[(211,3,⟨[(9,.int I),(10,.int I)],[]⟩)]) (inl:=[211,212])
