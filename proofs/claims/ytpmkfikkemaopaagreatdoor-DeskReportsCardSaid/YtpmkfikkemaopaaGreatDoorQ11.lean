/- Part 11 of the proof. -/
import Derived.Test.YtpmkfikkemaopaaGreatDoorQ5
import Derived.Test.YtpmkfikkemaopaaGreatDoorQ10
import Derived.Shelf.SlSortCmp.WholeK
import Derived.Shelf.SlSortCmp.NoneTotal
import Derived.Shelf.SlicesG.Cmp
import Derived.Deep.RegionHeld3
import Derived.Deep.DrawnRows
set_option linter.all false
set_option maxRecDepth 100000
set_option maxHeartbeats 100000000
open Bool renaming and_eq_true->az,false_eq_true->iW,or_eq_true->jd,true->J,false->E
open List renaming getElem?_eq_some_iff->bZ,getElem?_eq_getElem->cK,getD_eq_getElem?_getD->dB,getElem?_map->dN,mem_cons->dP,all_eq_true->fp,replicate->eI,map_cons->eE,mem_of_getElem?->jm,getElem?_eq_none->jK,pairwise_cons->jL,map_congr_left->kb,ext_getElem?->ke,mem_map->hJ,range->fU,eq_nil_of_length_eq_zero->rZ,getElem?_take->mB,getElem?_of_mem->qW,getElem?_set_ne->qX,getElem_mem->pA,length_map->qY,map_map->oc,mem_cons_of_mem->Da,getElem?_set_self->Fc,pairwise_iff_getElem->LO,mem_cons_self->LR,mem_singleton->P9,length_singleton->Wc,not_mem_nil->Qb,flatMap_cons->Wl,all_map->LW,pairwise_map->aqw,map_set->ae1,length_set->aqA,length->Y
open Nat renaming le_refl->cd,eq_zero_or_pos->zt,mod_lt->Fo,mul_comm->Qg,mul_le_mul->Wr,zero_le->Ww,div_lt_of_lt_mul->aqo,div_add_mod->aeZ,lt_of_le_of_ne->aqt,mul_one->aqO
open Option renaming map_eq_some_iff->P3,some->U,none->Z
open Array renaming getElem?_eq_some_iff->n9,length_toList->Dc,getElem?_modify->P4,getElem?_setIfInBounds_ne->aeM,getElem?_toList->We,getElem?_setIfInBounds_self_of_lt->aC6,getElem?_append_left->aDa,getElem_toList->aDr,extract_size->aDC
open Go.World renaming cell?->nF,frozen?->Wt
open List.Pairwise renaming nil->xK
open Int renaming natAbs_mul->aqI
open Go.IntKind renaming i64->I
namespace Go.Proofs.YtpmkfikkemaopaaGreatDoor.Y
open Go.RowKit
noncomputable section
variable{M:ak}{W:bm}{N:ax}{Q:aH}{X P:Nat}{L:bq}{H:aw}{R:World}{O:lW}{V:TypeId}
def TM:kL:=⟨CX,λ_ _=>Z⟩
def apD:aed TM false:=by
 refine⟨λf X (h:CX f=U X)=> ?_,λf X (h:CX f=U X)=> ?_,λf=>aeb f⟩;unfold CX at h;split at h<;>cases h<;>first|exact apx|exact apy|exact apz|exact apA|exact apB|exact apC
 unfold CX at h;split at h<;>cases h<;>exact id
def hTM(f:FuncId)(X:Fn)(h:CX f=U X):JM TM f X:=⟨h,λ_=>rfl⟩
def apF{x y m n:Int}(X:x.natAbs<=m.natAbs)(W:y.natAbs<=n.natAbs):(x*y).natAbs<=(m*n).natAbs:=by
 rw[aqI,aqI];exact Wr X W
def azc{a b c d:Int}(R:fY a b=J)(Q:fY c d=J)(W:World):Calls Tryz.prog 83 #[.agg #[.int I a,.int I b],.agg #[.int I c,.int I d]] W λe P=>e=.returned (.tuple #[.int I (rQ (a*d) (c*b)),.int I 0])/\Below W.heap.size W P:=by
 obtain⟨n,N⟩:=anJ hTM a b c d;have M:=VJ apD n 83 _ _ _ _ rfl rfl rfl rfl _ _ _ N (VK _) ⟨trivial,trivial,trivial,trivial,trivial⟩ W (λh=>by cases h) (VL (by simp[tJ]));refine Calls.mono M ?_;intro e P h;have O:IntKind.i64.wrap (a*d)=a*d/\IntKind.i64.wrap (c*b)=c*b:=by
  simp[fY] at R Q;have D:=apF (x:=a) (y:=d) (m:=1073741824) (n:=1073741824) ae ae;have B:=apF (x:=c) (y:=b) (m:=1073741824) (n:=1073741824) ae ae;rw[IntKind.wrap_i64,IntKind.wrap_i64];omega
 rw[nD,R,Q,O.1,O.2] at h;cases e with
 |returned v=>
  obtain⟨A,L,V,X,z,rfl,H,_,_⟩:=h;cases V;rcases L with _|⟨_|_|_,_|⟨_|_|_,_|_⟩⟩<;>first|exact X.elim|exact X.1.elim|exact X.2.elim|exact X.2.1.elim|exact X.2.2.elim|skip
  obtain⟨G,F,_⟩:=X;cases G;cases F;exact⟨rfl,H⟩
 |panicked w=>obtain⟨_,v,V,_⟩:=h;cases V
 |outgrown=>exact h.elim
def azd(a b:Int)(W:World):Calls Tryz.prog 119 #[.int I a,.int I b] W λe R=>e=.returned (.int I (rQ a b))/\Below W.heap.size W R:=by
 obtain⟨n,Q⟩:=adg hTM a b;have P:=VJ apD n 119 _ _ _ _ rfl rfl rfl rfl _ _ _ Q (VK _) ⟨trivial,trivial,trivial⟩ W (λh=>by cases h) (VL (by simp[tJ]));refine Calls.mono P ?_;intro e R h;cases e with
 |returned v=>
  obtain⟨L,O,V,X,H,rfl,N,_,_⟩:=h;cases V;rcases O with _|⟨_|_|_,_|_⟩<;>first|exact X.elim|exact X.1.elim|exact X.2.elim|skip
  obtain⟨M,_⟩:=X;cases M;exact⟨rfl,N⟩
 |panicked G=>obtain⟨_,v,V,_⟩:=h;cases V
 |outgrown=>exact h.elim
def apG{X:List K}{aE:ax}(h:ki M (.dh (0+3) W X) E N=U aE):False:=by
 have h:oW 3 W (X.map (K.ah M)) N=U aE:=h;obtain⟨_,h⟩:=zY h;obtain⟨a,b,c,V⟩:=Bb (HW ae h);rw[V] at h;have e:mI 3 W [a,b,c] N=if decide (0<=a)&&decide (a<b)&&decide (b<c)&&decide (c<=Y N)&&decide (c-a<((0:Nat):Int))&&N.all W.ok&&wG W.lt (bc N a.toNat b.toNat)&&wG W.lt (bc N b.toNat c.toNat) then U (N.take a.toNat++(bT W.lt (bc N a.toNat c.toNat)++N.drop c.toNat)) else none:=rfl;rw[e] at h;split at h;rename_i R;simp only[az,cF] at R;omega;cases h
def apH(o:bm):∀l,wF o.lt (fe l)=wF o.lt l
 |[]=>rfl
 |x::r=>by
  have X:=apH o r;simp only[fe,eE,wF,LW] at X⊢;rw[X];congr 2;funext y;simp only[Function.comp,aek]
def aet{X:Bool}{aE:ax}(h:iQ W X N=U aE):iQ W X (fe N)=U (fe aE):=by
 cases W with
 |dh k W R=>simp[iQ] at h
 |_=>
  simp only[iQ] at h⊢;rw[zn,apb,apH,apa];split at h;rename_i V;rw[aI V];cases h;rfl;cases h
def KA:lA:=[J,J,J,J,J,J,J,J,J,J,J,J,J,J]
def LJ(r:RE)(i:K):av:=[.int I (.cell r i 0),.int I (.cell r i 1),.int I (.cell r i 2),.int I (.cell r i 3),.int I (.cell r i 4),.int I (.cell r i 5),.int I (.cell r i 6),.int I (.cell r i 7),.int I (.cell r i 8),.int I (.cell r i 9),.int I (.cell r i 10),.int I (.cell r i 11),.int I (.cell r i 12),.int I (.cell r i 13)]
def V4(h:jl KA Q):∃X W V R P O N M L H G F D B,Q=[.mk (.int I X) [],.mk (.int I W) [],.mk (.int I V) [],.mk (.int I R) [],.mk (.int I P) [],.mk (.int I O) [],.mk (.int I N) [],.mk (.int I M) [],.mk (.int I L) [],.mk (.int I H) [],.mk (.int I G) [],.mk (.int I F) [],.mk (.int I D) [],.mk (.int I B) []]:=by
 rcases Q with _|⟨l,Q⟩;exact h.elim;obtain⟨⟨X,A⟩,h⟩:=h;subst A;rcases Q with _|⟨k,Q⟩;exact h.elim;obtain⟨⟨W,z⟩,h⟩:=h;subst z;rcases Q with _|⟨j,Q⟩;exact h.elim;obtain⟨⟨V,y⟩,h⟩:=h;subst y;rcases Q with _|⟨i,Q⟩;exact h.elim;obtain⟨⟨R,w⟩,h⟩:=h;subst w;rcases Q with _|⟨g,Q⟩;exact h.elim;obtain⟨⟨P,v⟩,h⟩:=h;subst v;rcases Q with _|⟨f,Q⟩;exact h.elim;obtain⟨⟨O,u⟩,h⟩:=h;subst u;rcases Q with _|⟨e,Q⟩;exact h.elim;obtain⟨⟨N,t⟩,h⟩:=h;subst t;rcases Q with _|⟨d,Q⟩;exact h.elim;obtain⟨⟨M,s⟩,h⟩:=h;subst s;rcases Q with _|⟨c,Q⟩;exact h.elim;obtain⟨⟨L,r⟩,h⟩:=h;subst r;rcases Q with _|⟨b,Q⟩;exact h.elim;obtain⟨⟨H,q⟩,h⟩:=h;subst q;rcases Q with _|⟨a,Q⟩;exact h.elim;obtain⟨⟨G,p⟩,h⟩:=h;subst p;rcases Q with _|⟨aa,Q⟩;exact h.elim;obtain⟨⟨F,o⟩,h⟩:=h;subst o;rcases Q with _|⟨ab,Q⟩;exact h.elim;obtain⟨⟨D,n⟩,h⟩:=h;subst n;rcases Q with _|⟨ac,Q⟩;exact h.elim;obtain⟨⟨B,m⟩,h⟩:=h;subst m;cases h;exact⟨X,W,V,R,P,O,N,M,L,H,G,F,D,B,rfl⟩
def aeu:C6 KA LJ:=by
 refine⟨λO r i x X W=> ?_,λO r i x X W y V=> ?_⟩;obtain⟨R,Q,P,N,M,L,H,G,F,D,B,A,z,w,rfl⟩:=V4 W;simp[LJ,C.cj,K.ah,bQ,dB,X,bS];obtain⟨R,Q,P,N,M,L,H,G,F,D,B,A,z,w,rfl⟩:=V4 W;have e:∀(q:RE),q.rv (O.at y)=q.rv O:=λq=>RE.me O y q
 have v:∀(q:K),q.ah (O.at y)=q.ah O:=λq=>K.eN O y q
 simp[LJ,C.aF,C.ah,K.ah,bQ,dB,e,v,X,bS]
def KB:lA:=[J,J,J,E,J]
def LL(r:RE)(i:K):av:=[.int I (.cell r i 0),.int I (.cell r i 1),.int I (.cell r i 2),.bool (.cell r i 3),.int I (.cell r i 4)]
def V5(h:jl KB Q):∃X W V R P,Q=[.mk (.int I X) [],.mk (.int I W) [],.mk (.int I V) [],.mk (.bool R) [],.mk (.int I P) []]:=by
 rcases Q with _|⟨G,Q⟩;exact h.elim;obtain⟨⟨X,O⟩,h⟩:=h;subst O;rcases Q with _|⟨F,Q⟩;exact h.elim;obtain⟨⟨W,N⟩,h⟩:=h;subst N;rcases Q with _|⟨D,Q⟩;exact h.elim;obtain⟨⟨V,M⟩,h⟩:=h;subst M;rcases Q with _|⟨B,Q⟩;exact h.elim;obtain⟨⟨R,L⟩,h⟩:=h;subst L;rcases Q with _|⟨A,Q⟩;exact h.elim;obtain⟨⟨P,H⟩,h⟩:=h;subst H;cases h;exact⟨X,W,V,R,P,rfl⟩
def aev:C6 KB LL:=by
 refine⟨λO r i x X W=> ?_,λO r i x X W y V=> ?_⟩;obtain⟨R,Q,P,N,M,rfl⟩:=V5 W;simp[LL,C.cj,K.ah,BE.ah,bQ,dB,X,bS,jp];obtain⟨R,Q,P,N,M,rfl⟩:=V5 W;have e:∀(q:RE),q.rv (O.at y)=q.rv O:=λq=>RE.me O y q
 have L:∀(q:K),q.ah (O.at y)=q.ah O:=λq=>K.eN O y q
 simp[LL,C.aF,C.ah,K.ah,BE.ah,bQ,dB,e,L,X,bS,jp]
def apI{p:Sp}{L:dm}{Q:bE}{P:bp}{X:K}(h:∀W,ij p.S0 p.w0 W->p.R (.returned (.int I (X.ah M))) W):(T.ret (.int I X) Q P).aP p M L:=by
 intro y V W R;have:=h W R.base;simpa[C.ah,K.eN] using this
def Sm(P:Program)(Q:Ty)(W:World)(V:bq)(R:lA):aC [] W b9.none Q [] ⟨V,R,[],[]⟩ {(⟨[],[],Y V,Y R,[],0,0,[]⟩:S) with tmps:=[]} ⟨#[],[]⟩ W:=
 ⟨⟨ij.refl _ _,λi h=>by simp[aL,cg] at h,λi j h=>by simp[aL,cg] at h,λi t L h=>by simp[cg] at h,λq O N X M=>by simp at X⟩,rfl,rfl,rfl,rfl,Sk _ _,rfl,λt H h=>by simp at h,λq O N b X M G=>by simp at X⟩
def aew(P:Program)(o:bm)(W:World)(x y:aH):Ending->World->Prop:=λX V=>Below W.heap.size W V/\∃c:Int,X=.returned (.int I c)/\(c<0<->o.lt x y=J)
def apJ{g:FuncId}{V:Func}{c:Code}{n:Nat}{args:av}{t:T}(L:Tryz.prog.funcs[g]?=U V)(H:V.body=U c){y:aH}(O:bq)(N:lA)
  (G:Mx (oY Tryz.prog TT SG [] [] [] [] E []) n g c V.ntmps V.results.toList args ⟨[],[],Y O,Y N,[],0,0,[]⟩=t)(X:World)(F:(C.aF ⟨O,N,[],[]⟩ [] args).toArray= #[.agg (Q.map RV.val).toArray,.agg (y.map RV.val).toArray])
  (D:∀p:Sp,p.P=Tryz.prog->p.S0=[]->p.w0=X->p.R=aew Tryz.prog W X Q y->t.aP p ⟨O,N,[],[]⟩ []):Calls Tryz.prog g #[.agg (Q.map RV.val).toArray,.agg (y.map RV.val).toArray] X (aew Tryz.prog W X Q y):=by
 let p:Sp:=⟨Tryz.prog,look TT,[],X,b9.none,aew Tryz.prog W X Q y,λ_ _ _=>False⟩;have B:jr p (oY Tryz.prog TT SG [] [] [] [] E []):=No HT PD rfl PE (λz w b ob _ h=>by obtain⟨_,c,A,_⟩:=h;cases A) (λQ M=>by cases M);rw[<-F];exact aiv (p:=p) B L H G (D p rfl rfl rfl rfl) (λQ M=>by simp[oY] at M) (Sm Tryz.prog _ X O N)
def apK(x y:Int):rQ x y<0<->x<y:=by
 unfold rQ;split;omega;split<;>omega
def aze:T:=(.call 83 [(.agg [(.int I (.v 10)),(.int I (.v 11))]),(.agg [(.int I (.v 24)),(.int I (.v 25))])] [] [] [.int I,.int I] (.bP [(.int I (.v 28)),(.int I (.v 29))])
 (.ret (.int I (.v 28)) [] []))
def azf:T:=(.call 119 [(.int I (.v 7)),(.int I (.v 3))] [] [] [.int I] (.int I (.v 8))
 (.ret (.int I (.v 8)) [] []))
def PO:HV Tryz.prog KA 115 (.ratio 10 11):=by
 intro W x y M L H G;obtain⟨F,D,B,A,z,w,u,s,r,q,X,Q,o,m,rfl⟩:=V4 M;obtain⟨l,k,j,h,g,f,e,d,c,b,P,O,a,aa,rfl⟩:=V4 L;refine apJ (t:=aze) (n:=100) (args:=[(.agg [(.int I (.v 0)),(.int I (.v 1)),(.int I (.v 2)),(.int I (.v 3)),(.int I (.v 4)),(.int I (.v 5)),(.int I (.v 6)),(.int I (.v 7)),(.int I (.v 8)),(.int I (.v 9)),(.int I (.v 10)),(.int I (.v 11)),(.int I (.v 12)),(.int I (.v 13))]),(.agg [(.int I (.v 14)),(.int I (.v 15)),(.int I (.v 16)),(.int I (.v 17)),(.int I (.v 18)),(.int I (.v 19)),(.int I (.v 20)),(.int I (.v 21)),(.int I (.v 22)),(.int I (.v 23)),(.int I (.v 24)),(.int I (.v 25)),(.int I (.v 26)),(.int I (.v 27))])]) rfl rfl [F,D,B,A,z,w,u,s,r,q,X,Q,o,m,l,k,j,h,g,f,e,d,c,b,P,O,a,aa] [] aT W rfl ?_;rintro p hP hS hW hR;have h1:fY X Q=true:=H;have h2:fY P O=true:=G;intro yy V W' R;rw[hP];refine(azc h1 h2 W').mono ?_;rintro en W2 ⟨rfl,hB⟩;refine⟨[.i (rQ (X*O) (P*Q)),.i 0],⟨trivial,trivial,trivial⟩,rfl,hB,⟨trivial,trivial,trivial⟩,apI λW3 N=> ?_⟩;rw[hS,hW] at N;rw[hR];refine⟨Nr N,_,rfl, ?_⟩;simp[K.ah,ak.ext,ak.add,bm.lt,aN,bS,apK]
def PQ:HV Tryz.prog KB 311 (.lex [4] J):=by
 intro W x y O N o m;obtain⟨M,L,H,G,X,rfl⟩:=V5 O;obtain⟨F,D,B,A,Q,rfl⟩:=V5 N;refine apJ (t:=azf) (n:=100) (args:=[(.agg [(.int I (.v 0)),(.int I (.v 1)),(.int I (.v 2)),(.bool (.v 0)),(.int I (.v 3))]),(.agg [(.int I (.v 4)),(.int I (.v 5)),(.int I (.v 6)),(.bool (.v 1)),(.int I (.v 7))])]) rfl rfl [M,L,H,X,F,D,B,Q] [G,A] aT W rfl ?_;rintro p z w u s;intro l V r R;rw[z];refine(azd Q X r).mono ?_;rintro k j ⟨rfl,q⟩;refine⟨[.i (rQ Q X)],⟨trivial,trivial⟩,rfl,q,⟨trivial,trivial⟩,apI λh P=> ?_⟩;rw[w,u] at P;rw[s];refine⟨Nr P,_,rfl, ?_⟩;simp[K.ah,ak.ext,ak.add,bm.lt,jq,aN,bS,apK];omega
def azg:pK Tryz.prog (look TT) 286 115 97 (.dh 0 (.ratio 10 11) []) false:=
 E6 (K:=KA) (n:=100) (args:=[(.am (.v 0)),(.int I (.v 0)),(.int I (.v 1)),(.int I (.v 2)),(.fn 115 [])]) (loops:=[(286,1,⟨[(0,.am (.own 97)),(10,.int I)],[]⟩)]) (srts:=[]) (chs:=[(286,3)]) (t:=VP 97 LJ) rfl rfl rfl aT (λx X=>by cases X) aT PO aT (apk aeu) (λW V h=>by obtain⟨a,b,c,rfl⟩:=Bb h;rfl) (λW R aE h=>HW ae h)
def azh:pK Tryz.prog (look TT) 243 115 97 (.dh 1 (.ratio 10 11) []) false:=
 E6 (K:=KA) (n:=100) (args:=[(.am (.v 0)),(.int I (.v 0)),(.int I (.v 1)),(.int I (.v 2)),(.fn 115 [])]) (loops:=[(243,2,⟨[(0,.am (.own 97)),(10,.int I),(11,.int I)],[]⟩)]) (srts:=[(286,115,97,.dh 0 (.ratio 10 11) [],E)]) (chs:=[]) (t:=VQ 97 115 286 (.ratio 10 11)) rfl rfl rfl aT (λx X=>by simp only[P9] at X;subst X;exact mc.of (azg) od) aT PO aT (apm) (λW V h=>by obtain⟨a,b,c,rfl⟩:=Bb h;rfl) (λW R aE h=>HW ae h)
def azi:pK Tryz.prog (look TT) 199 115 97 (.dh 2 (.ratio 10 11) []) false:=
 E6 (K:=KA) (n:=100) (args:=[(.am (.v 0)),(.int I (.v 0)),(.int I (.v 1)),(.fn 115 [])]) (loops:=[(199,1,⟨[(0,.am (.own 97)),(8,.int I)],[]⟩),(199,4,⟨[(0,.am (.own 97)),(9,.int I)],[]⟩)]) (srts:=[]) (chs:=[(199,6)]) (t:=VR 97 115 LJ) rfl rfl rfl aT (λx X=>by cases X) aT PO aT (apq aeu (NH 10 11)) (λW V h=>by obtain⟨a,b,rfl⟩:=two h;rfl) (λW R aE h=>api h)
def apL:∀N:Nat,pK Tryz.prog (look TT) 200 115 97 (.dh (N+3) (.ratio 10 11) []) E
 |0=>⟨u7 aT,λW A n M Q aE O X L V H G P=>by
  simp only[bm.fill,cG] at V;subst V;exact(apG P).elim⟩
 |N+1=>E6 (K:=KA) (n:=100) (args:=[(.am (.v 0)),(.int I (.v 0)),(.int I (.v 1)),(.int I (.v 2)),(.fn 115 [])]) (loops:=[(200,3,⟨[(0,.am (.own 97)),(10,.int I),(11,.int I)],[]⟩),(200,9,⟨[(0,.am (.own 97)),(13,.int I)],[]⟩),(200,15,⟨[(0,.am (.own 97)),(14,.int I),(15,.int I)],[]⟩),(200,21,⟨[(0,.am (.own 97)),(17,.int I)],[]⟩),(200,33,⟨[(0,.am (.own 97)),(20,.int I),(21,.int I)],[]⟩)]) (srts:=[(243,115,97,.dh 1 (.ratio 10 11) [],E),(200,115,97,.dh (N+3) (.ratio 10 11) [],E)]) (chs:=[(200,11),(200,23)]) (t:=VT 97 115 243 200 N (.ratio 10 11) LJ) rfl rfl rfl aT (λx R=>by
   simp only[dP,Qb,or_false] at R;rcases R with rfl|rfl;exact mc.of (azh) od;exact mc.of (apL N) od) aT PO aT (apu aeu (NH 10 11)) (λX F h=>by obtain⟨a,b,c,rfl⟩:=Bb h;rfl) (λX Q aE h=>HW ae h)
def azj:pK Tryz.prog (look TT) 114 115 97 (.ratio 10 11) true:=by
 refine⟨u7 aT,λW A n B V aE O X z Q H G P=> ?_⟩;cases X with
 |cons _ _=>simp[bm.fill] at Q
 |nil=>
  simp only[bm.fill,cG] at Q;subst Q;have P:iQ (.ratio 10 11) J V=U aE:=P;refine ael (K:=KA) (o:=(.ratio 10 11)) (N:=0) (n:=100) (inl:=[159]) (args:=[(.am (.v 0)),(.fn 115 [])]) (loops:=[(159,2,⟨[(0,.am (.own 97)),(8,.int I),(7,.int I)],[]⟩),(159,7,⟨[(0,.am (.own 97)),(6,.int I)],[]⟩),(159,9,⟨[(0,.am (.own 97)),(8,.int I),(7,.int I)],[]⟩)]) (srts:=[(199,115,97,.dh 2 (.ratio 10 11) [],E),(200,115,97,.dh (Y V+1+3) (.ratio 10 11) [],E)]) (chs:=[]) (F:=λX R=>if X=[]/\Y R<Y V+1 then iQ (.ratio 10 11) J R else Z) (t:=VU 97 115 199 200 (Y V+1) (.ratio 10 11)) rfl rfl rfl aT (λx L=> ?_) aT PO aT (apw (NH 10 11)) (λX y h=> ?_) (λX R D h=> ?_) (λX R D h=> ?_) H G ?_;simp only[dP,Qb,or_false] at L;rcases L with rfl|rfl;exact mc.of (azi) od;exact mc.of (apL _) od;have:X=[]:=rZ h;subst this;rfl;split at h;rename_i M;rw[aI (by rw[zn];exact M)];exact aet h;cases h;split at h;rename_i M;exact⟨by rw[M.1];rfl,X0 h⟩;cases h;rw[aI ⟨rfl,ae⟩];exact P
def azk:pK Tryz.prog (look TT) 335 311 411 (.dh 0 (.lex [4] J) []) false:=
 E6 (K:=KB) (n:=100) (args:=[(.am (.v 0)),(.int I (.v 0)),(.int I (.v 1)),(.int I (.v 2)),(.fn 311 [])]) (loops:=[(335,1,⟨[(0,.am (.own 411)),(10,.int I)],[]⟩)]) (srts:=[]) (chs:=[(335,3)]) (t:=VP 411 LL) rfl rfl rfl aT (λx X=>by cases X) aT PQ aT (apk aev) (λW V h=>by obtain⟨a,b,c,rfl⟩:=Bb h;rfl) (λW R aE h=>HW ae h)
def azl:pK Tryz.prog (look TT) 334 311 411 (.dh 1 (.lex [4] J) []) false:=
 E6 (K:=KB) (n:=100) (args:=[(.am (.v 0)),(.int I (.v 0)),(.int I (.v 1)),(.int I (.v 2)),(.fn 311 [])]) (loops:=[(334,2,⟨[(0,.am (.own 411)),(10,.int I),(11,.int I)],[]⟩)]) (srts:=[(335,311,411,.dh 0 (.lex [4] J) [],E)]) (chs:=[]) (t:=VQ 411 311 335 (.lex [4] J)) rfl rfl rfl aT (λx X=>by simp only[P9] at X;subst X;exact mc.of (azk) od) aT PQ aT (apm) (λW V h=>by obtain⟨a,b,c,rfl⟩:=Bb h;rfl) (λW R aE h=>HW ae h)
def azm:pK Tryz.prog (look TT) 331 311 411 (.dh 2 (.lex [4] J) []) false:=
 E6 (K:=KB) (n:=100) (args:=[(.am (.v 0)),(.int I (.v 0)),(.int I (.v 1)),(.fn 311 [])]) (loops:=[(331,1,⟨[(0,.am (.own 411)),(8,.int I)],[]⟩),(331,4,⟨[(0,.am (.own 411)),(9,.int I)],[]⟩)]) (srts:=[]) (chs:=[(331,6)]) (t:=VR 411 311 LL) rfl rfl rfl aT (λx X=>by cases X) aT PQ aT (apq aev (JO [4] J)) (λW V h=>by obtain⟨a,b,rfl⟩:=two h;rfl) (λW R aE h=>api h)
def apM:∀N:Nat,pK Tryz.prog (look TT) 332 311 411 (.dh (N+3) (.lex [4] J) []) E
 |0=>⟨u7 aT,λW A n M Q aE O X L V H G P=>by
  simp only[bm.fill,cG] at V;subst V;exact(apG P).elim⟩
 |N+1=>E6 (K:=KB) (n:=100) (args:=[(.am (.v 0)),(.int I (.v 0)),(.int I (.v 1)),(.int I (.v 2)),(.fn 311 [])]) (loops:=[(332,3,⟨[(0,.am (.own 411)),(10,.int I),(11,.int I)],[]⟩),(332,9,⟨[(0,.am (.own 411)),(13,.int I)],[]⟩),(332,15,⟨[(0,.am (.own 411)),(14,.int I),(15,.int I)],[]⟩),(332,21,⟨[(0,.am (.own 411)),(17,.int I)],[]⟩),(332,33,⟨[(0,.am (.own 411)),(20,.int I),(21,.int I)],[]⟩)]) (srts:=[(334,311,411,.dh 1 (.lex [4] J) [],E),(332,311,411,.dh (N+3) (.lex [4] J) [],E)]) (chs:=[(332,11),(332,23)]) (t:=VT 411 311 334 332 N (.lex [4] J) LL) rfl rfl rfl aT (λx R=>by
   simp only[dP,Qb,or_false] at R;rcases R with rfl|rfl;exact mc.of (azl) od;exact mc.of (apM N) od) aT PQ aT (apu aev (JO [4] J)) (λX F h=>by obtain⟨a,b,c,rfl⟩:=Bb h;rfl) (λX Q aE h=>HW ae h)
def azn:pK Tryz.prog (look TT) 310 311 411 (.lex [4] J) true:=by
 refine⟨u7 aT,λW A n B V aE O X z Q H G P=> ?_⟩;cases X with
 |cons _ _=>simp[bm.fill] at Q
 |nil=>
  simp only[bm.fill,cG] at Q;subst Q;have P:iQ (.lex [4] J) J V=U aE:=P;refine ael (K:=KB) (o:=(.lex [4] J)) (N:=0) (n:=100) (inl:=[325]) (args:=[(.am (.v 0)),(.fn 311 [])]) (loops:=[(325,2,⟨[(0,.am (.own 411)),(8,.int I),(7,.int I)],[]⟩),(325,7,⟨[(0,.am (.own 411)),(6,.int I)],[]⟩),(325,9,⟨[(0,.am (.own 411)),(8,.int I),(7,.int I)],[]⟩)]) (srts:=[(331,311,411,.dh 2 (.lex [4] J) [],E),(332,311,411,.dh (Y V+1+3) (.lex [4] J) [],E)]) (chs:=[]) (F:=λX R=>if X=[]/\Y R<Y V+1 then iQ (.lex [4] J) J R else Z) (t:=VU 411 311 331 332 (Y V+1) (.lex [4] J)) rfl rfl rfl aT (λx L=> ?_) aT PQ aT (apw (JO [4] J)) (λX y h=> ?_) (λX R D h=> ?_) (λX R D h=> ?_) H G ?_;simp only[dP,Qb,or_false] at L;rcases L with rfl|rfl;exact mc.of (azm) od;exact mc.of (apM _) od;have:X=[]:=rZ h;subst this;rfl;split at h;rename_i M;rw[aI (by rw[zn];exact M)];exact aet h;cases h;split at h;rename_i M;exact⟨by rw[M.1];rfl,X0 h⟩;cases h;rw[aI ⟨rfl,ae⟩];exact P
section
open Go.Shelf Go.RowKit Go.Lib Go.Sort
def ey{o:Option Func}{a b:Func}(h:o=U a)(e:a=b):o=U b:=h.trans (jW U e)
def Tryz.cmpInt_ren:Go.Shelf.Ren:=⟨λ|5=>119|7=>162|n=>n,λ|22=>3|3=>3|4=>4|n=>n,λ|n=>n⟩
def Tryz.cmpInt:Go.Proofs.SlLaysC2.n5 Tryz.prog Tryz.cmpInt_ren:={mixed:=by kernel_rfl,f5:=⟨Tryz.f119.name,eY,ey Tryz.func119 (by kernel_rfl)⟩,f7:=⟨Tryz.f162.name,eY,ey Tryz.func162 (by kernel_rfl)⟩,t3:=Tryz.underlying3,a3:=Tryz.isAgg3,z3:=Tryz.sizeOf3,v3:=Tryz.zeroValue3,t4:=Tryz.underlying4,a4:=Tryz.isAgg4,z4:=Tryz.sizeOf4,v4:=Tryz.zeroValue4,t22:=Tryz.underlying3,a22:=Tryz.isAgg3,z22:=Tryz.sizeOf3,v22:=Tryz.zeroValue3}
def Tryz.sortSg_ren:Go.Shelf.Ren:=⟨λ|6=>117|15=>161|14=>160|28=>208|29=>209|20=>199|21=>201|22=>202|23=>203|24=>204|25=>205|26=>206|27=>207|46=>244|47=>245|48=>246|49=>247|50=>248|57=>287|n=>n,λ|22=>30|24=>97|25=>221|3=>3|39=>274|0=>0|53=>316|55=>318|4=>4|46=>309|45=>308|50=>313|5=>5|9=>9|66=>366|70=>166|76=>394|77=>395|n=>n,λ|n=>n⟩
def Tryz.sortSg:Go.Proofs.SlLaysF0.n6 Tryz.prog Tryz.sortSg_ren:={mixed:=by kernel_rfl,f6:=⟨Tryz.f117.name,eY,ey Tryz.func117 (by kernel_rfl)⟩,f14:=⟨Tryz.f160.name,eY,ey Tryz.func160 (by kernel_rfl)⟩,f15:=ey Tryz.func161 (by kernel_rfl),f20:=⟨Tryz.f199.name,eY,ey Tryz.func199 (by kernel_rfl)⟩,f21:=⟨Tryz.f201.name,eY,ey Tryz.func201 (by kernel_rfl)⟩,f22:=⟨Tryz.f202.name,eY,ey Tryz.func202 (by kernel_rfl)⟩,f23:=⟨Tryz.f203.name,eY,ey Tryz.func203 (by kernel_rfl)⟩,f24:=⟨Tryz.f204.name,eY,ey Tryz.func204 (by kernel_rfl)⟩,f25:=⟨Tryz.f205.name,eY,ey Tryz.func205 (by kernel_rfl)⟩,f26:=⟨Tryz.f206.name,eY,ey Tryz.func206 (by kernel_rfl)⟩,f27:=⟨Tryz.f207.name,eY,ey Tryz.func207 (by kernel_rfl)⟩,f28:=ey Tryz.func208 (by kernel_rfl),f29:=ey Tryz.func209 (by kernel_rfl),f46:=⟨Tryz.f244.name,eY,ey Tryz.func244 (by kernel_rfl)⟩,f47:=ey Tryz.func245 (by kernel_rfl),f48:=ey Tryz.func246 (by kernel_rfl),f49:=⟨Tryz.f247.name,eY,ey Tryz.func247 (by kernel_rfl)⟩,f50:=⟨Tryz.f248.name,eY,ey Tryz.func248 (by kernel_rfl)⟩,f57:=⟨Tryz.f287.name,eY,ey Tryz.func287 (by kernel_rfl)⟩,t0:=Tryz.underlying0,a0:=Tryz.isAgg0,z0:=Tryz.sizeOf0,v0:=Tryz.zeroValue0,t3:=Tryz.underlying3,a3:=Tryz.isAgg3,z3:=Tryz.sizeOf3,v3:=Tryz.zeroValue3,t4:=Tryz.underlying4,a4:=Tryz.isAgg4,z4:=Tryz.sizeOf4,v4:=Tryz.zeroValue4,t5:=Tryz.underlying5,a5:=Tryz.isAgg5,z5:=Tryz.sizeOf5,v5:=Tryz.zeroValue5,t9:=Tryz.underlying9,a9:=Tryz.isAgg9,z9:=Tryz.sizeOf9,v9:=Tryz.zeroValue9,t22:=Tryz.underlying30,a22:=Tryz.isAgg30,z22:=Tryz.sizeOf30,v22:=Tryz.zeroValue30,t25:=Tryz.underlying221,a25:=Tryz.isAgg221,z25:=Tryz.sizeOf221,v25:=Tryz.zeroValue221,t39:=Tryz.underlying274,a39:=Tryz.isAgg274,z39:=Tryz.sizeOf274,v39:=Tryz.zeroValue274,t45:=Tryz.underlying308,a45:=Tryz.isAgg308,z45:=Tryz.sizeOf308,v45:=Tryz.zeroValue308,t46:=Tryz.underlying309,a46:=Tryz.isAgg309,z46:=Tryz.sizeOf309,v46:=Tryz.zeroValue309,t50:=Tryz.underlying313,a50:=Tryz.isAgg313,z50:=Tryz.sizeOf313,v50:=Tryz.zeroValue313,t53:=Tryz.underlying316,a53:=Tryz.isAgg316,z53:=Tryz.sizeOf316,v53:=Tryz.zeroValue316,t55:=Tryz.underlying318,a55:=Tryz.isAgg318,z55:=Tryz.sizeOf318,v55:=Tryz.zeroValue318,t66:=Tryz.underlying366,a66:=Tryz.isAgg366,z66:=Tryz.sizeOf366,v66:=Tryz.zeroValue366,t70:=Tryz.underlying166,a70:=Tryz.isAgg166,z70:=Tryz.sizeOf166,v70:=Tryz.zeroValue166,t76:=Tryz.underlying394,a76:=Tryz.isAgg394,z76:=Tryz.sizeOf394,v76:=Tryz.zeroValue394,t77:=Tryz.underlying395,a77:=Tryz.isAgg395,z77:=Tryz.sizeOf395,v77:=Tryz.zeroValue395}
def azo(X O N M L H G F D B A z y x13 V x w v u t s p o n m l k j:Int)(W:World):Calls Tryz.prog 118 #[.agg #[.int I X,.int I O,.int I N,.int I M,.int I L,.int I H,.int I G,.int I F,.int I D,.int I B,.int I A,.int I z,.int I y,.int I x13],.agg #[.int I V,.int I x,.int I w,.int I v,.int I u,.int I t,.int I s,.int I p,.int I o,.int I n,.int I m,.int I l,.int I k,.int I j]] W λe Q=>e=.returned (.int I (Lib.compareInt X V))/\∃q i,Q=grow (W.drewN q) i:=by
 have R:=λP=>AnyG.cmp_Compare_int Tryz.cmpInt X V P
 change∀P,Calls Tryz.prog 119 _ _ _ at R;generalize Lib.compareInt X V=r at R⊢;go_enter Tryz.func118,Tryz.ntmps118
 go_wp2_with (go_at_call 119;refine(R _).mono ?_;rintro e Q ⟨rfl,rfl⟩)
 go_ret;exact⟨rfl,0,_,by rw[alloc_eq_grow,alloc_eq_grow,grow_grow];rfl⟩
end
section
attribute[local go_sem ↓] Go.wp_at_zero Go.wp_at_succ
open Go.Shelf Go.RowKit Go.Lib Go.Sort
def qV:Nat->Nat->List Nat->List Nat
 |0,_,g=>g
 |n+1,k,g=>if g.getD k 0=k then g else(qV n (g.getD k 0) g).set k ((qV n (g.getD k 0) g).getD (g.getD k 0) 0)
def apN{g:List Nat}:∀n k,(qV n k g).length=Y g
 |0,_=>rfl
 |n+1,k=>by
  simp only[qV];split;rfl;simp[apN n]
def apO{g:List Nat}(X:∀q,g.getD q 0<=q):∀n k q,k<q->(qV n k g).getD q 0=g.getD q 0
 |0,_,_,_=>rfl
 |n+1,k,q,h=>by
  simp only[qV];split;rfl;have:=X k;rw[dB,qX ae,<-dB];exact apO X n _ q ae
def InB(W:World)(b V:Nat)(g:List Nat):Prop:=∃X,W.heap[b]?=U (.cells X 3 (0,0))/\X.size=V/\∀q,q<Y g->X[q]?=U (.int I ((g.getD q 0:Nat):Int))
def azq(W:World)(X V b n R k:Nat)(P:W.cell? ⟨X,0,Z⟩=U (.slice (U ⟨b,0,Z⟩) n R))(_hl:W.cell? ⟨V,0,Z⟩=U (.func (.func 76) #[] #[.pointer (U ⟨X,0,Z⟩),.pointer (U ⟨V,0,Z⟩)]))
  (O:(0:Int)<=k)(N:(k:Int)<(n:Int))(M:W.cell? ⟨b,k,Z⟩=U (.int I k)):Calls Tryz.prog 76 #[.int I k,.pointer (U ⟨X,0,Z⟩),.pointer (U ⟨V,0,Z⟩)] W λe Q=>e=.returned (.int I k)/\Q=W:=by
 have L:((k:Int)!=k)=false:=ay;go_enter Tryz.func76,Tryz.ntmps76;go_wp2;go_ret;exact⟨rfl,rfl⟩
def azr(W:World)(V R b n P k j:Nat)(F:V≠b)(z:W.cell? ⟨V,0,Z⟩=U (.slice (U ⟨b,0,Z⟩) n P))(y:W.cell? ⟨R,0,Z⟩=U (.func (.func 76) #[] #[.pointer (U ⟨V,0,Z⟩),.pointer (U ⟨R,0,Z⟩)]))
  (x:(0:Int)<=k)(w:(k:Int)<(n:Int))(v:W.cell? ⟨b,k,Z⟩=U (.int I j))(u:j≠k)(r:Int)(Q:World->Prop)(H:∀X,Q X->X.cell? ⟨V,0,Z⟩=U (.slice (U ⟨b,0,Z⟩) n P)/\X.cell? ⟨R,0,Z⟩=U (.func (.func 76) #[] #[.pointer (U ⟨V,0,Z⟩),.pointer (U ⟨R,0,Z⟩)])/\X.cell? ⟨b,k,Z⟩=U (.int I j)/\X.frozen? ⟨b,k,Z⟩=E)
  (D:Calls Tryz.prog 76 #[.int I j,.pointer (U ⟨V,0,Z⟩),.pointer (U ⟨R,0,Z⟩)] W.drew λe X=>e=.returned (.int I r)/\Q X):
  Calls Tryz.prog 76 #[.int I k,.pointer (U ⟨V,0,Z⟩),.pointer (U ⟨R,0,Z⟩)] W λe X=>e=.returned (.int I r)/\∃O,Q O/\X=O.setCell ⟨b,k,Z⟩ (.int I r):=by
 have t:((j:Int)!=k)=true:=dF;have B:∀X,Q X->X.cell? ⟨V,0,Z⟩=U (.slice (U ⟨b,0,Z⟩) n P)/\X.cell? ⟨b,k,Z⟩=U (.int I j)/\X.frozen? ⟨b,k,Z⟩=E/\(X.setCell ⟨b,k,Z⟩ (.int I r)).cell? ⟨V,0,Z⟩=U (.slice (U ⟨b,0,Z⟩) n P)/\(X.setCell ⟨b,k,Z⟩ (.int I r)).cell? ⟨b,k,Z⟩=U (.int I r):=λX N=>by
  obtain⟨M,A,L,G⟩:=H X N;exact⟨M,L,G,(World.cell?_setCell_far _ _ _ _ (Ne.symm F)).trans M,World.cell?_setCell_same' _ _ _ (by rw[L];rfl)⟩
 clear H;go_enter Tryz.func76,Tryz.ntmps76;go_wp2
 go_region_with (first|(go_at_call 76;refine D.mono ?_;rintro e O ⟨rfl,N⟩;obtain⟨M,A,L,G,s⟩:=B O N))
 all_goals go_wp2
 all_goals go_ret
 all_goals exact⟨rfl,_,N,rfl⟩
def apP(b V:Nat)(W:World)(g:List Nat)(X:World):Prop:=W.grownBy X (U b)/\InB X b V g
def apQ{R Q b n A sz:Nat}(z:R≠b)(t:Q≠b)(hn:(n:Int)<=1099511627776):∀(N k:Nat)(W:World)(g:List Nat),k<N->k<n->Y g=n->(∀q,g.getD q 0<=q)->
  W.cell? ⟨R,0,Z⟩=U (.slice (U ⟨b,0,Z⟩) n A)->W.cell? ⟨Q,0,Z⟩=U (.func (.func 76) #[] #[.pointer (U ⟨R,0,Z⟩),.pointer (U ⟨Q,0,Z⟩)])->InB W b sz g->
  Calls Tryz.prog 76 #[.int I k,.pointer (U ⟨R,0,Z⟩),.pointer (U ⟨Q,0,Z⟩)] W λe P=>e=.returned (.int I (((qV N k g).getD k 0:Nat):Int))/\apP b sz W (qV N k g) P
 |0,k,W,g,h,_,_,_,_,_,_=>aY h (Nat.not_lt_zero _)
 |N+1,k,W,g,hN,s,r,y,H,G,hb=>by
  obtain⟨p,x,o,w⟩:=hb;have m:∀q,q<n->W.cell? ⟨b,q,Z⟩=U (.int I ((g.getD q 0:Nat):Int)):=λq O=>by
   have:=w q ae;simp only[nF,x];simpa using this
  by_cases M:g.getD k 0=k;have L:qV (N+1) k g=g:=by simp only[qV,aI M]
  rw[L];have:=m k s;rw[M] at this⊢;refine(azq W R Q b n A k H G ae ae this).mono ?_;rintro e P ⟨rfl,rfl⟩;exact⟨rfl,World.grownBy.refl _ _,p,x,o,w⟩;have L:qV (N+1) k g=(qV N (g.getD k 0) g).set k ((qV N (g.getD k 0) g).getD (g.getD k 0) 0):=by simp only[qV,aK M]
  have l:g.getD k 0<k:=aqt (y k) M;generalize i:g.getD k 0=j at M L l;generalize v:qV N j g=X at L;have af:Y X=n:=by rw[<-v,apN,r]
  have ab:X.getD k 0=j:=by rw[<-v,apO y N j k l,i]
  rw[L];have f:(X.set k (X.getD j 0)).getD k 0=X.getD j 0:=by
   rw[dB,Fc ae];rfl
  rw[f];have d:=apQ z t hn N j W.drew g ae ae r y H G ⟨p,x,o,w⟩;rw[v] at d;have c:=m k s;rw[i] at c;refine(azr W R Q b n A k j z H G ae ae c ae ((X.getD j 0:Nat):Int) (apP b sz W.drew X) ?_ d).mono ?_;rintro P ⟨V,F,D,a,B⟩;have hf:P.cell? ⟨b,k,Z⟩=U (.int I (j:Int)):=by
   have:=B k ae;rw[ab] at this;simp only[nF,D];simpa using this
  exact⟨V.cell H (by simpa using z),V.cell G (by simpa using t),hf,by simp[Wt,D]⟩;rintro e P ⟨rfl,w1,⟨V,F,D,a,B⟩,rfl⟩;refine⟨rfl,⟨V.os,V.tape,V.output,by rw[World.size_setCell];exact V.size,λq O aa=> ?_⟩, ?_⟩;exact(Below.heap_setCell w1 _ _ q (by intro e;exact aa (by rw[e]))).trans (V.block q O aa);refine⟨F.setIfInBounds k (.int I ((X.getD j 0:Nat):Int)), ?_,by simpa using a,λq O=> ?_⟩;exact Go.Proofs.YtpmkfikkemaopaaGreatDoor.Bx.set (show Go.Proofs.YtpmkfikkemaopaaGreatDoor.Bx w1 b 3 F from D) _;rw[aqA] at O;have ac:k<F.size:=by
   have:=B k ae;exact(n9.1 this).1
  by_cases u:q=k;subst u;rw[f,aC6 ac];rw[aeM (Ne.symm u),B q O,dB,dB,qX (Ne.symm u)]
end
def rY(X:ax):aw:=X.map λW=>(aN 0 W).toNat
def PS(X:ax)(q:Nat):(rY X).getD q 0=(aN 0 (X.getD q [])).toNat:=by
 simp only[rY,dB,dN];cases X[q]? with
 |none=>rfl
 |some W=>rfl
def apR{X:ax}(h:lD X=J):∀(n:Nat)(i:Int),0<=i->i<Y X->rY (qo n i X)=qV n i.toNat (rY X)
 |0,_,_,_=>rfl
 |n+1,i,V,R=>by
  obtain⟨Q,N,P⟩:=XY h V R;have O:=apR h n _ Q P;simp only[qo,qV,PS];by_cases W:aN 0 (X.getD i.toNat [])=i;rw[aI W,aI ae];rw[aK W,aK ae,<-O,PS];simp only[rY,ae1]
def azs:agJ Tryz.prog (look TT) 76 3:=by
 refine⟨u7 aT, ?_⟩;intro W b n z R aE i y x tg tl d a aa ab M L H;have N:bD (look TT) (.sl 3)=[.int I]:=by rfl
 obtain⟨bx,h0,h1,G,ac⟩:=MY H;obtain⟨hn,b0⟩:=pJ M;have w:=fz.wJ M;rw[N] at L⊢;rcases L.mem with hz|⟨b',F,hA,v,af,ag⟩;exfalso;omega;cases hA;have u:∀(q:Nat)(X:aH),R[q]?=U X->∃c,X=[c]/\c.val=.int I (aN 0 X):=λq X V=>by
  have t:=w.len q X V;rw[N] at t
  match X,t with
  |[c],_=>
   obtain⟨m,hm⟩:=w.int q 0 [c] c I V rfl (by rw[N];rfl);exact⟨c,rfl,by simp[aN,hm,bS]⟩
 have s:∀q:Nat,q<Y R->((rY R).getD q 0:Int)=aN 0 (R.getD q [])/\(rY R).getD q 0<=q:=λq V=>by
  have:=DH G V;rw[PS];omega
 have al:InB W b F.size (rY R):=by
  refine⟨F,v,rfl,λq V=> ?_⟩;rw[rY,qY] at V;obtain⟨c,an,a0⟩:=u q R[q] (cK V);have D:W.cell? ⟨b,0+q*1+0,Z⟩=U c.val:=by
   cases M with
   |sl e A b1 z R g1 g2 g3 gi gb go=>
    obtain⟨-,b2,b3,e2,-,g4⟩:=g3 q R[q] (cK V);cases e2;have:=g4 0 c (by rw[an];rfl);rw[N] at this;exact this
  rw[a0] at D;simp only[nF,v] at D;have e3:((rY R).getD q 0:Int)=aN 0 R[q]:=by
   rw[(s q V).1,dB,cK V];rfl
  rw[e3];simpa using D
 have a1:∀q,(rY R).getD q 0<=q:=λq=>by
  by_cases V:q<Y R;exact(s q V).2;rw[PS,dB,jK ae];show(0:Int).toNat<=q;simp
 have a3:(rY R).length=n:=by rw[rY,qY,hn]
 have a4:W.cell? ⟨y,0,Z⟩=U (.slice (U ⟨b,0,Z⟩) n z):=by simp[nF,d]
 have a9:W.cell? ⟨x,0,Z⟩=U (.func (.func 76) #[] #[.pointer (U ⟨y,0,Z⟩),.pointer (U ⟨x,0,Z⟩)]):=by simp[nF,a]
 have ba:((i.toNat:Nat):Int)=i:=ae;have o:=apQ aa ab (sz:=F.size) ae (Y R) i.toNat W (rY R) ae ae a3 a1 a4 a9 al;rw[ba] at o;refine o.mono ?_;rintro e w' ⟨rfl,bb,bd,bf,bk,k⟩;have j:=apR G (Y R) i h0 h1;rw[<-ac] at j;rw[<-j] at k⊢;have b4:Y aE=Y R:=XZ H;have br:=Rk H;have g:∀(q:Nat)(X:aH),aE[q]?=U X->∃c,X=[c]/\c.val=.int I (aN 0 X)/\0<=aN 0 X:=λq X V=>by
  obtain⟨p,Q⟩:=qW (br X (jm V));obtain⟨c,P,O⟩:=u p X Q;have bs:p<Y R:=(bZ.1 Q).1;have:=(DH G bs).1;rw[dB,Q] at this;exact⟨c,P,O,this⟩
 have f:∀q,q<Y aE->(((rY aE).getD q 0:Nat):Int)=aN 0 (aE.getD q []):=λq V=>by
  obtain⟨c,-,-,c3⟩:=g q aE[q] (cK V);rw[PS,dB,cK V];show((aN 0 aE[q]).toNat:Int)=aN 0 aE[q];omega
 refine⟨by rw[f _ ae],bb,ae,L.nil,.inr ⟨b,bd,rfl,bf,af,by rw[bk];exact ag, ?_,.inr rfl⟩⟩;apply ke;intro q;have bt:eo aE=aE.map λX=>Value.int I (aN 0 X):=by
  have:∀l:ax,(∀X∈l,∃c,X=[c]/\c.val=.int I (aN 0 X))->eo l=l.map λX=>Value.int I (aN 0 X):=by
   intro l;induction l with
   |nil=>intro _;rfl
   |cons r l ih=>
    intro h;obtain⟨c,P,O⟩:=h r LR;have:=ih λX B=>h X (Da _ B)
    simp only[eo,Wl,eE] at this⊢;rw[this,<-O,P];rfl
  refine this aE λX B=> ?_
  obtain⟨p,Q⟩:=qW B;obtain⟨c,P,O,-⟩:=g p X Q;exact⟨c,P,O⟩
 rw[bt,mB,dN];simp only[Wc,aqO];by_cases V:q<Y aE;rw[aI V,We,k q (by rw[rY,qY];exact V),f q V,cK V];simp[dB,cK V];rw[aK V,jK ae];rfl
section
attribute[local go_sem ↓] Go.wp_at_zero Go.wp_at_succ
open Go.Shelf Go.RowKit Go.Lib Go.Sort
def mS:List Int->Int
 |[]=>0
 |a::l=>if a=0 then mS l else a
def or2(b:Nat)(X V:Int)(W:World)(L:W.cell? ⟨b,0,Z⟩=U (.int I X))(H:W.cell? ⟨b,1,Z⟩=U (.int I V)):Calls Tryz.prog 193 #[.slice (U ⟨b,0,Z⟩) 2 2] W λe O=>e=.returned (.int I (mS [X,V]))/\O=W:=by
 by_cases R:X=0;have N:(X !=0)=false:=by simp[R]
 by_cases P:V=0
 ·have M:(V !=0)=false:=by simp[P]
  have Q:mS [X,V]=0:=by simp[mS,R,P]
  rw[Q];clear Q;clear R P;go_enter Tryz.func193,Tryz.ntmps193;go_wp2;refine wp_loop_rounds 3 ?_
  iterate 3 (rw[rounds_succ];go_wp2)
  go_ret;exact⟨rfl,rfl⟩
 ·have M:(V !=0)=true:=by simp[P]
  have Q:mS [X,V]=V:=by simp[mS,R,P]
  rw[Q];clear Q;clear R P;go_enter Tryz.func193,Tryz.ntmps193;go_wp2;refine wp_loop_rounds 3 ?_
  iterate 2 (rw[rounds_succ];go_wp2)
  go_ret;exact⟨rfl,rfl⟩
 ·have N:(X !=0)=true:=by simp[R]
  have Q:mS [X,V]=X:=by simp[mS,R]
  rw[Q];clear Q;clear R;go_enter Tryz.func193,Tryz.ntmps193;go_wp2;refine wp_loop_rounds 3 ?_
  iterate 1 (rw[rounds_succ];go_wp2)
  go_ret;exact⟨rfl,rfl⟩
def PU(W:World)(V R:Obj)(X:Array Value)(t:TypeId)(i:Nat)(v:Value)(h:X[i]?=U v):(((W.alloc V).alloc R).alloc (.cells X t)).drew.cell? ⟨W.heap.size+1+1,i,Z⟩=U v:=by
 have e:(((W.alloc V).alloc R).alloc (.cells X t)).heap[W.heap.size+1+1]?=U (.cells X t):=by
  have:=heap_alloc_new ((W.alloc V).alloc R) (.cells X t);simpa using this
 show nF _ _=_;simp only[nF,World.drew,e];simpa using h
def apS(W:World)(X V R:Obj):∃q Q,(((W.alloc X).alloc V).alloc R).drew=grow (W.drewN q) Q:=⟨1, #[X]++ #[V]++ #[R],by rw[alloc_eq_grow,alloc_eq_grow,alloc_eq_grow,grow_grow,grow_grow];rfl⟩
def azu(V R Q P:Int)(W:World):Calls Tryz.prog 227 #[.agg #[.int I V,.int I R],.agg #[.int I Q,.int I P]] W λe X=>e=.returned (.int I (mS [Lib.compareInt R P,Lib.compareInt V Q]))/\∃q L,X=grow (W.drewN q) L:=by
 have O:=λx y N=>AnyG.cmp_Compare_int Tryz.cmpInt x y N
 change∀x y N,Calls Tryz.prog 119 _ _ _ at O;generalize Lib.compareInt=M at O⊢;go_enter Tryz.func227,Tryz.ntmps227;go_wp2
 go_region_held3 (λX=>X.cell? ⟨W.heap.size,0,Z⟩=U (.int I V)/\X.cell? ⟨W.heap.size,1,Z⟩=U (.int I R)/\X.cell? ⟨W.heap.size+1,0,Z⟩=U (.int I Q)/\X.cell? ⟨W.heap.size+1,1,Z⟩=U (.int I P)) (go_keep)
  (first|(go_at_call 119;refine(O _ _ _).mono ?_;rintro e X ⟨rfl,rfl⟩)|(go_at_call 193;refine Calls.mono (or2 _ (M R P) (M V Q) _ (PU _ _ _ _ _ _ _ rfl) (PU _ _ _ _ _ _ _ rfl)) ?_;rintro e X ⟨rfl,rfl⟩))
 all_goals go_wp2
 all_goals go_ret
 exact⟨rfl,apS _ _ _ _⟩
def or3(b:Nat)(V R Q:Int)(W:World)(F:W.cell? ⟨b,0,Z⟩=U (.int I V))(D:W.cell? ⟨b,1,Z⟩=U (.int I R))(B:W.cell? ⟨b,2,Z⟩=U (.int I Q)):Calls Tryz.prog 193 #[.slice (U ⟨b,0,Z⟩) 3 3] W λe M=>e=.returned (.int I (mS [V,R,Q]))/\M=W:=by
 by_cases P:V=0;have L:(V !=0)=false:=by simp[P]
 by_cases O:R=0;have H:(R !=0)=false:=by simp[O]
 by_cases N:Q=0
 ·have G:(Q !=0)=false:=by simp[N]
  have X:mS [V,R,Q]=0:=by simp[mS,P,O,N]
  rw[X];clear X;clear P O N;go_enter Tryz.func193,Tryz.ntmps193;go_wp2;refine wp_loop_rounds 4 ?_
  iterate 4 (rw[rounds_succ];go_wp2)
  go_ret;exact⟨rfl,rfl⟩
 ·have G:(Q !=0)=true:=by simp[N]
  have X:mS [V,R,Q]=Q:=by simp[mS,P,O,N]
  rw[X];clear X;clear P O N;go_enter Tryz.func193,Tryz.ntmps193;go_wp2;refine wp_loop_rounds 4 ?_
  iterate 3 (rw[rounds_succ];go_wp2)
  go_ret;exact⟨rfl,rfl⟩
 ·have H:(R !=0)=true:=by simp[O]
  have X:mS [V,R,Q]=R:=by simp[mS,P,O]
  rw[X];clear X;clear P O;go_enter Tryz.func193,Tryz.ntmps193;go_wp2;refine wp_loop_rounds 4 ?_
  iterate 2 (rw[rounds_succ];go_wp2)
  go_ret;exact⟨rfl,rfl⟩
 ·have L:(V !=0)=true:=by simp[P]
  have X:mS [V,R,Q]=V:=by simp[mS,P]
  rw[X];clear X;clear P;go_enter Tryz.func193,Tryz.ntmps193;go_wp2;refine wp_loop_rounds 4 ?_
  iterate 1 (rw[rounds_succ];go_wp2)
  go_ret;exact⟨rfl,rfl⟩
def w52(V R Q P O N:Int)(W:World):Calls Tryz.prog 149 #[.agg #[.int I V,.int I R,.int I Q],.agg #[.int I P,.int I O,.int I N]] W λe X=>e=.returned (.int I (mS [Lib.compareInt V P,Lib.compareInt R O,Lib.compareInt Q N]))/\∃q G,X=grow (W.drewN q) G:=by
 have M:=λx y H=>AnyG.cmp_Compare_int Tryz.cmpInt x y H
 change∀x y H,Calls Tryz.prog 119 _ _ _ at M;generalize Lib.compareInt=L at M⊢;go_enter Tryz.func149,Tryz.ntmps149;go_wp2
 go_region_held3 (λX=>X.cell? ⟨W.heap.size,0,Z⟩=U (.int I V)/\X.cell? ⟨W.heap.size,1,Z⟩=U (.int I R)/\X.cell? ⟨W.heap.size,2,Z⟩=U (.int I Q)/\X.cell? ⟨W.heap.size+1,0,Z⟩=U (.int I P)/\X.cell? ⟨W.heap.size+1,1,Z⟩=U (.int I O)/\X.cell? ⟨W.heap.size+1,2,Z⟩=U (.int I N)) (go_keep)
  (first|(go_at_call 119;refine(M _ _ _).mono ?_;rintro e X ⟨rfl,rfl⟩)|(go_at_call 193;refine Calls.mono (or3 _ (L V P) (L R O) (L Q N) _ (PU _ _ _ _ _ _ _ rfl) (PU _ _ _ _ _ _ _ rfl) (PU _ _ _ _ _ _ _ rfl)) ?_;rintro e X ⟨rfl,rfl⟩))
 all_goals go_wp2
 all_goals go_ret
 exact⟨rfl,apS _ _ _ _⟩
end
section
open Go.Shelf Go.RowKit
open Go.Sort (flatK get_flatK size_flatK HoldsK putRowK size_putRowK grow)
def IV(k:Nat)(x:bq):aH:=(fU k).map λi=>RV.mk (.int I (x.getD i 0)) []
def jV(k:Nat)(x:bq):gc:=(fU k).map λi=>Value.int I (x.getD i 0)
def aey(k:Nat)(x:bq):(IV k x).length=k:=by simp[IV]
def aez(h:P<X):(IV X L)[P]?=U (RV.mk (.int I (L.getD P 0)) []):=by simp[IV,h]
def azx(h:P<X):aN P (IV X L)=L.getD P 0:=by
 unfold aN;rw[dB,aez h];rfl
def xH(X:aw)(x y:bq):Int:=mS (X.map λc=>Lib.compareInt (x.getD c 0) (y.getD c 0))
def aeA{k:Nat}{x y:bq}:∀{cs:aw},(∀c∈cs,c<k)->decide (xH cs x y<0)=jq E cs (IV k x) (IV k y)
 |[],_=>rfl
 |c::cs,h=>by
  have R:=aeA (x:=x) (y:=y) (cs:=cs) (λc W=>h c (by simp[W]));have W:c<k:=h c ay;simp only[xH,eE,mS,jq,azx W] at R⊢;generalize x.getD c 0=p;generalize y.getD c 0=q;by_cases V:p=q;rw[aI V,aI (by simp[Lib.compareInt,V])];exact R;rw[aK V];by_cases X:p<q;have e:Lib.compareInt p q=-1:=by simp[Lib.compareInt,X]
  simp[e,X];have Q:p>q:=ae;have e:Lib.compareInt p q=1:=by simp[Lib.compareInt,X,Q]
  simp[e,X]
def aeB(h:∀c∈H,c<X):Go.Sort.SWO (ltOf (xH H)):=by
 have w:=JO H E;have e:∀x y,ltOf (xH H) x y=(bm.lex H E).lt (IV X x) (IV X y):=λx y=>aeA h
 exact⟨λx=>by rw[e];exact w.SI _ rfl,λx y z W V=>by rw[e] at*;exact w.tr _ _ _ rfl rfl rfl W V,λx y z W V=>by rw[e] at*;exact w.nt _ _ _ rfl rfl rfl W V⟩
def apT:∀{k:Nat}{X:aH},jl (eI k J) X->Y X=k/\∀c∈X,c=.mk (.int I (bS c.val)) []
 |0,X,h=>by cases h;simp
 |k+1,[],h=>h.elim
 |k+1,c::r,h=>by
  obtain⟨⟨n,rfl⟩,W⟩:(∃n,c=.mk (.int I n) [])/\jl (eI k J) r:=h;obtain⟨V,R⟩:=apT W;exact⟨by simp[V],λc Q=>(dP.1 Q).elim (λe=>by subst e;rfl) (R c)⟩
def unI(X:aH):bq:=X.map λc=>bS c.val
def azy(h:jl (eI X J) Q):IV X (unI Q)=Q:=by
 obtain⟨P,V⟩:=apT h;apply ke;intro i;by_cases R:i<X;rw[aez R];have W:i<Y Q:=ae;rw[cK W,V _ (pA W)];simp[unI,dB,W];rw[jK (by rw[aey];omega),jK ae]
def azz(h:∀x∈N,jl (eI X J) x):∃d:Array bq,N=d.toList.map (IV X):=by
 refine⟨(N.map unI).toArray, ?_⟩;simp only[oc]
 conv=>lhs;rw[<-List.map_id N]
 exact kb λx W=>(azy (h x W)).symm
def apU(d:Array bq)(W:P<d.size*X):(eo (d.toList.map (IV X)))[P]?=U ((flatK (jV X) X d)[P]!):=by
 have Q:0<X:=by
  rcases zt X with rfl|h;omega;exact h
 have O:P/X<d.size:=aqo (by rw[Qg];exact W);have V:P%X<X:=Fo _ Q;have e:P=P/X*X+P%X:=by have:=aeZ P X;rw[Qg] at this;omega
 have:=MJ (w:=X) (rows:=d.toList.map (IV X)) (λi N R=>by
  simp only[dN,P3] at R;obtain⟨x,_,rfl⟩:=R;exact aey X x) (i:=P/X) (j:=P%X) (row:=IV X d[P/X]!) (by simp[O]) (aez V)
 rw[<-e] at this;rw[this,get_flatK _ _ _ _ W];congr 1;have:(jV X d[P/X]!)[P%X]?=U (.int I ((d[P/X]!).getD (P%X) 0)):=by simp[jV,V]
 rw[List.getElem!_eq_getElem?_getD,this];rfl
def azA(d:Array bq):(eo (d.toList.map (IV X))).length=d.size*X:=by
 have:=zV (w:=X) (rows:=d.toList.map (IV X)) (λi V W=>by
  simp only[dN,P3] at W;obtain⟨x,_,rfl⟩:=W;exact aey X x)
 simpa using this
def azB(Q:R.heap[X]?=U (.cells O V (0,0)))(j:Nat):R.frozen? ⟨X,j,Z⟩=false:=by
 simp[Wt,Q]
def azC{Q:Ty}{n N k:Nat}{d:Array bq}(h:bJ R Q (.sl X) (.mk (.slice (U ⟨P,0,Z⟩) n N) (d.toList.map (IV k))))(M:R.heap[P]?=U (.cells O X (0,0))):HoldsK (jV k) k R P 0 d:=by
 intro j V;rw[size_flatK] at V;obtain⟨G,F,L,_,H⟩:=MK h j _ (apU d V);cases L;exact⟨H,azB M _⟩
def azD{m:Nat}{d Q:Array bq}{os:Array Obj}(M:R.heap[P]?=U (.cells O V (0,0)))(B:HoldsK (jV X) X R P 0 d)(A:Q.size=d.size):
  R.grownBy (sortWorldK (jV X) X R P 0 m Q os) (U P)/\∃L,(sortWorldK (jV X) X R P 0 m Q os).heap[P]?=U (.cells L V (0,0))/\L.size=O.size/\L.toList.take (Q.size*X)=eo (Q.toList.map (IV X)):=by
 have H:P<R.heap.size:=(n9.1 M).1;have z:(putRowK (jV X) X (Sort.ahead R m) P 0 Q).heap.size=R.heap.size:=by rw[size_putRowK];rfl
 have G:∀i,i<R.heap.size->(sortWorldK (jV X) X R P 0 m Q os).heap[i]?=(R.heap.modify P (Sort.onCells (Sort.putCells id 0 (flatK (jV X) X Q))))[i]?:=by
  intro i F;show(_++os)[i]?=_;rw[aDa (by rw[z];exact F)];rfl
 refine⟨⟨rfl,rfl,rfl, ?_,λi F y=> ?_⟩,Sort.putCells id 0 (flatK (jV X) X Q) O, ?_, ?_, ?_⟩;exact size_sortWorldK_c (jV X) X R P 0 m Q os;rw[G i F,P4,aK (λD=>y (by rw[D]))];rw[G P H,P4,aI rfl,M];rfl;simp[Sort.putCells];have D:=holdsK_sortWorldK_c (jV X) X R P 0 d Q m os B H A;have x:(sortWorldK (jV X) X R P 0 m Q os).heap[P]?=U (.cells (Sort.putCells id 0 (flatK (jV X) X Q) O) V (0,0)):=by rw[G P H,P4,aI rfl,M];rfl
 apply ke;intro q;rw[mB];by_cases N:q<Q.size*X;rw[aI N,apU Q N];have:=(D q (by rw[size_flatK];exact N)).1;simpa[nF,x] using this;rw[aK N,jK (by rw[azA];omega)]
def apV{lt:aH->aH->Bool}:∀{l:ax},wF lt l=J->l.Pairwise (λx y=>lt x y=J\/lt y x=J)
 |[],_=>xK
 |x::r,h=>by
  simp only[wF,az,fp,jd] at h;exact jL.2 ⟨h.1,apV h.2⟩
def aeD{f g:FuncId}{k:Nat}(an:u6 Tryz.prog f=J)(F:bD (look TT) (.sl V)=(eI k J).map C5)(hc:∀c∈H,c<k)
  (a0:∀p R fv W,Calls Tryz.prog f #[.slice p 0 R,fv] W λP D=>P=.returned (.tuple #[])/\D=W)
  (a1:∀(b R:Nat)(d:Array bq)(W:World),HoldsK (jV k) k W b 0 d->b<W.heap.size->d.size<4611686018427387904->Calls Tryz.prog f #[.slice (U ⟨b,0,Z⟩) d.size R,.func (.func g) #[] #[]] W λP D=>P=.returned (.tuple #[])/\∃X n B,Go.Sort.PermIn 0 d.size d X/\Go.Sort.SortedIn (ltOf (xH H)) 0 d.size X/\D=sortWorldK (jV k) k W b 0 n X B):
  pK Tryz.prog (look TT) f g V (.lex H E) false:=by
 refine⟨u7 an,λW A n R w aE O ns br v u L t=> ?_⟩;cases ns with
 |cons _ _=>simp[bm.fill] at v
 |nil=>
  simp only[bm.fill,cG] at v;subst v;have t:iQ (.lex H E) E w=U aE:=t;obtain⟨hl,bs⟩:=pJ u;have hk:(bD (look TT) (.sl V)).length=k:=by rw[F];simp
  rw[hk] at L⊢;have Q:=aet t;simp only[iQ] at Q;split at Q
  case isFalse=>cases Q
  rename_i o;simp only[az,cF,jd,iW,false_or] at o;obtain⟨l,_,a⟩:=o;have Q:=lT Q;have bt:Y aE=Y w:=by rw[<-zn aE,<-Q,nO,zn]
  by_cases hn:n=0;subst hn;have h0:aE=[]:=rZ ae;subst h0;refine(a0 A R _ W).mono ?_;rintro P W' ⟨rfl,rfl⟩;refine⟨rfl,⟨rfl,rfl,rfl,cd _,λ_ _ _=>rfl⟩,⟨Ww _,L.nil, ?_⟩⟩;rcases L.mem with h|⟨b,aa,rfl,N,s,r⟩;exact .inl h;cases R with
  |zero=>exact .inl rfl
  |succ c=>exact .inr ⟨b,aa,rfl,N,s,r,by simp[eo],.inr rfl⟩
  rcases L.mem with h|⟨b,aa,rfl,N,s,r⟩;omega;have hp:∀(j:Nat)(z:Value)(q:RK),(bD (look TT) (.sl V))[j]?≠U (.ai z q):=by
   intro j z q M;rw[F,dN] at M;cases G:(eI k J)[j]? with
   |none=>rw[G] at M;cases M
   |some b=>rw[G] at M;cases b<;>simp[C5] at M
  have ab:=apg hp u;obtain⟨d,hd⟩:=azz (apf F (fz.wJ u));have ac:d.size=n:=by
   have h3:(fe w).length=(d.toList.map (IV k)).length:=jW Y hd;rw[zn,qY,Dc] at h3;exact h3.symm.trans hl
  rw[hd] at ab Q a l;have af:=azC ab N;have G:b<W.heap.size:=(n9.1 N).1;have a3:kH (U ⟨b,0,Z⟩) R=U b:=by
   cases R with
   |zero=>omega
   |succ c=>rfl
  have ag:=a1 b R d W af G (by simp at l;omega);rw[ac] at ag;refine Calls.mono ag ?_;rintro P W' ⟨rfl,X,m,B,al,a4,rfl⟩;have hs:X.size=d.size:=al.1;obtain⟨g1,a9,g2,g3,g4⟩:=azD (m:=m) (os:=B) N af hs;have ba:X.toList.Perm d.toList:=by
   have:=al.2.2;rw[<-ac] at this;have e1:X.extract 0 d.size=X:=by rw[<-hs];exact aDC
   have e2:d.extract 0 d.size=d:=aDC
   rwa [e1,e2] at this
  have bb:gw (bm.lex H E).lt (X.toList.map (IV k)):=by
   refine aqw.2 (LO.2 λi j hi hj bd=> ?_);have bf:j<X.size:=by simpa using hj
   have bg:i<X.size:=by simpa using hi
   have:=a4 i j (Ww _) bd ae;have V:=aeA (k:=k) (x:=X[j]) (y:=X[i]) hc;rw[getElem!_pos X j bf,getElem!_pos X i bg] at this;show jq E H (IV k X.toList[j]) (IV k X.toList[i])=E;rw[aDr,aDr,<-V];exact this
  have bk:X.toList.map (IV k)=fe aE:=by
   rw[<-Q,<-av2 (lt:=(bm.lex H E).lt) (an5 E H) (an6 E H) (ba.map (IV k)) (apV a)];exact(SJ bb).symm
  rw[a3];refine⟨rfl,g1,⟨ae,λh=>(by cases h),.inr ⟨b,a9,rfl,g2,s,by rw[g3,r], ?_,.inr rfl⟩⟩⟩;have bl:Y aE=X.size:=ae;rw[bl,g4,bk,apd]
end
section
open Go.Shelf Go.RowKit
open Go.Sort (HoldsK)
def Tryz.sortOb_ren:Go.Shelf.Ren:=⟨λ|6=>148|15=>161|14=>192|28=>208|29=>209|20=>232|21=>233|22=>234|23=>235|24=>236|25=>237|26=>238|27=>239|46=>274|47=>245|48=>246|49=>275|50=>276|57=>306|n=>n,λ|22=>247|24=>243|25=>249|3=>3|39=>274|0=>0|53=>316|55=>318|4=>4|46=>309|45=>308|50=>313|5=>5|9=>9|66=>366|70=>166|76=>394|77=>395|n=>n,λ|n=>n⟩
def Tryz.sortOb:Go.Proofs.SlLaysF0.n6 Tryz.prog Tryz.sortOb_ren:={mixed:=aT,f6:=⟨Tryz.f148.name,eY,ey Tryz.func148 aT⟩,f14:=⟨Tryz.f192.name,eY,ey Tryz.func192 aT⟩,f15:=ey Tryz.func161 aT,f20:=⟨Tryz.f232.name,eY,ey Tryz.func232 aT⟩,f21:=⟨Tryz.f233.name,eY,ey Tryz.func233 aT⟩,f22:=⟨Tryz.f234.name,eY,ey Tryz.func234 aT⟩,f23:=⟨Tryz.f235.name,eY,ey Tryz.func235 aT⟩,f24:=⟨Tryz.f236.name,eY,ey Tryz.func236 aT⟩,f25:=⟨Tryz.f237.name,eY,ey Tryz.func237 aT⟩,f26:=⟨Tryz.f238.name,eY,ey Tryz.func238 aT⟩,f27:=⟨Tryz.f239.name,eY,ey Tryz.func239 aT⟩,f28:=ey Tryz.func208 aT,f29:=ey Tryz.func209 aT,f46:=⟨Tryz.f274.name,eY,ey Tryz.func274 aT⟩,f47:=ey Tryz.func245 aT,f48:=ey Tryz.func246 aT,f49:=⟨Tryz.f275.name,eY,ey Tryz.func275 aT⟩,f50:=⟨Tryz.f276.name,eY,ey Tryz.func276 aT⟩,f57:=⟨Tryz.f306.name,eY,ey Tryz.func306 aT⟩,t0:=Tryz.underlying0,a0:=Tryz.isAgg0,z0:=Tryz.sizeOf0,v0:=Tryz.zeroValue0,t3:=Tryz.underlying3,a3:=Tryz.isAgg3,z3:=Tryz.sizeOf3,v3:=Tryz.zeroValue3,t4:=Tryz.underlying4,a4:=Tryz.isAgg4,z4:=Tryz.sizeOf4,v4:=Tryz.zeroValue4,t5:=Tryz.underlying5,a5:=Tryz.isAgg5,z5:=Tryz.sizeOf5,v5:=Tryz.zeroValue5,t9:=Tryz.underlying9,a9:=Tryz.isAgg9,z9:=Tryz.sizeOf9,v9:=Tryz.zeroValue9,t22:=Tryz.underlying247,a22:=Tryz.isAgg247,z22:=Tryz.sizeOf247,v22:=Tryz.zeroValue247,t25:=Tryz.underlying249,a25:=Tryz.isAgg249,z25:=Tryz.sizeOf249,v25:=Tryz.zeroValue249,t39:=Tryz.underlying274,a39:=Tryz.isAgg274,z39:=Tryz.sizeOf274,v39:=Tryz.zeroValue274,t45:=Tryz.underlying308,a45:=Tryz.isAgg308,z45:=Tryz.sizeOf308,v45:=Tryz.zeroValue308,t46:=Tryz.underlying309,a46:=Tryz.isAgg309,z46:=Tryz.sizeOf309,v46:=Tryz.zeroValue309,t50:=Tryz.underlying313,a50:=Tryz.isAgg313,z50:=Tryz.sizeOf313,v50:=Tryz.zeroValue313,t53:=Tryz.underlying316,a53:=Tryz.isAgg316,z53:=Tryz.sizeOf316,v53:=Tryz.zeroValue316,t55:=Tryz.underlying318,a55:=Tryz.isAgg318,z55:=Tryz.sizeOf318,v55:=Tryz.zeroValue318,t66:=Tryz.underlying366,a66:=Tryz.isAgg366,z66:=Tryz.sizeOf366,v66:=Tryz.zeroValue366,t70:=Tryz.underlying166,a70:=Tryz.isAgg166,z70:=Tryz.sizeOf166,v70:=Tryz.zeroValue166,t76:=Tryz.underlying394,a76:=Tryz.isAgg394,z76:=Tryz.sizeOf394,v76:=Tryz.zeroValue394,t77:=Tryz.underlying395,a77:=Tryz.isAgg395,z77:=Tryz.sizeOf395,v77:=Tryz.zeroValue395}
def Tryz.sortBr_ren:Go.Shelf.Ren:=⟨λ|6=>264|15=>161|14=>295|28=>208|29=>209|20=>314|21=>315|22=>316|23=>317|24=>318|25=>319|26=>320|27=>321|46=>327|47=>245|48=>246|49=>328|50=>329|57=>333|n=>n,λ|22=>291|24=>295|25=>343|3=>3|39=>274|0=>0|53=>316|55=>318|4=>4|46=>309|45=>308|50=>313|5=>5|9=>9|66=>366|70=>166|76=>394|77=>395|n=>n,λ|n=>n⟩
def Tryz.sortBr:Go.Proofs.SlLaysF0.n6 Tryz.prog Tryz.sortBr_ren:={mixed:=aT,f6:=⟨Tryz.f264.name,eY,ey Tryz.func264 aT⟩,f14:=⟨Tryz.f295.name,eY,ey Tryz.func295 aT⟩,f15:=ey Tryz.func161 aT,f20:=⟨Tryz.f314.name,eY,ey Tryz.func314 aT⟩,f21:=⟨Tryz.f315.name,eY,ey Tryz.func315 aT⟩,f22:=⟨Tryz.f316.name,eY,ey Tryz.func316 aT⟩,f23:=⟨Tryz.f317.name,eY,ey Tryz.func317 aT⟩,f24:=⟨Tryz.f318.name,eY,ey Tryz.func318 aT⟩,f25:=⟨Tryz.f319.name,eY,ey Tryz.func319 aT⟩,f26:=⟨Tryz.f320.name,eY,ey Tryz.func320 aT⟩,f27:=⟨Tryz.f321.name,eY,ey Tryz.func321 aT⟩,f28:=ey Tryz.func208 aT,f29:=ey Tryz.func209 aT,f46:=⟨Tryz.f327.name,eY,ey Tryz.func327 aT⟩,f47:=ey Tryz.func245 aT,f48:=ey Tryz.func246 aT,f49:=⟨Tryz.f328.name,eY,ey Tryz.func328 aT⟩,f50:=⟨Tryz.f329.name,eY,ey Tryz.func329 aT⟩,f57:=⟨Tryz.f333.name,eY,ey Tryz.func333 aT⟩,t0:=Tryz.underlying0,a0:=Tryz.isAgg0,z0:=Tryz.sizeOf0,v0:=Tryz.zeroValue0,t3:=Tryz.underlying3,a3:=Tryz.isAgg3,z3:=Tryz.sizeOf3,v3:=Tryz.zeroValue3,t4:=Tryz.underlying4,a4:=Tryz.isAgg4,z4:=Tryz.sizeOf4,v4:=Tryz.zeroValue4,t5:=Tryz.underlying5,a5:=Tryz.isAgg5,z5:=Tryz.sizeOf5,v5:=Tryz.zeroValue5,t9:=Tryz.underlying9,a9:=Tryz.isAgg9,z9:=Tryz.sizeOf9,v9:=Tryz.zeroValue9,t22:=Tryz.underlying291,a22:=Tryz.isAgg291,z22:=Tryz.sizeOf291,v22:=Tryz.zeroValue291,t25:=Tryz.underlying343,a25:=Tryz.isAgg343,z25:=Tryz.sizeOf343,v25:=Tryz.zeroValue343,t39:=Tryz.underlying274,a39:=Tryz.isAgg274,z39:=Tryz.sizeOf274,v39:=Tryz.zeroValue274,t45:=Tryz.underlying308,a45:=Tryz.isAgg308,z45:=Tryz.sizeOf308,v45:=Tryz.zeroValue308,t46:=Tryz.underlying309,a46:=Tryz.isAgg309,z46:=Tryz.sizeOf309,v46:=Tryz.zeroValue309,t50:=Tryz.underlying313,a50:=Tryz.isAgg313,z50:=Tryz.sizeOf313,v50:=Tryz.zeroValue313,t53:=Tryz.underlying316,a53:=Tryz.isAgg316,z53:=Tryz.sizeOf316,v53:=Tryz.zeroValue316,t55:=Tryz.underlying318,a55:=Tryz.isAgg318,z55:=Tryz.sizeOf318,v55:=Tryz.zeroValue318,t66:=Tryz.underlying366,a66:=Tryz.isAgg366,z66:=Tryz.sizeOf366,v66:=Tryz.zeroValue366,t70:=Tryz.underlying166,a70:=Tryz.isAgg166,z70:=Tryz.sizeOf166,v70:=Tryz.zeroValue166,t76:=Tryz.underlying394,a76:=Tryz.isAgg394,z76:=Tryz.sizeOf394,v76:=Tryz.zeroValue394,t77:=Tryz.underlying395,a77:=Tryz.isAgg395,z77:=Tryz.sizeOf395,v77:=Tryz.zeroValue395}
def azE(a:Int):mS [a]=a:=by
 simp only[mS];split<;>omega
def azF(b:Nat)(X:Nat)(w:World):CmpLays Tryz.prog 118 #[] (jV 14) 14 (xH [0]) b 0 X w:=λm W V R x y=>by
 have h:=azo (x.getD 0 0) (x.getD 1 0) (x.getD 2 0) (x.getD 3 0) (x.getD 4 0) (x.getD 5 0) (x.getD 6 0) (x.getD 7 0) (x.getD 8 0) (x.getD 9 0) (x.getD 10 0) (x.getD 11 0) (x.getD 12 0) (x.getD 13 0) (y.getD 0 0) (y.getD 1 0) (y.getD 2 0) (y.getD 3 0) (y.getD 4 0) (y.getD 5 0) (y.getD 6 0) (y.getD 7 0) (y.getD 8 0) (y.getD 9 0) (y.getD 10 0) (y.getD 11 0) (y.getD 12 0) (y.getD 13 0) (sortWorldK (jV 14) 14 w b 0 m V W);have e:xH [0] x y=Lib.compareInt (x.getD 0 0) (y.getD 0 0):=azE _;rw[e];exact h
def azG(b:Nat)(X:Nat)(w:World):CmpLays Tryz.prog 227 #[] (jV 2) 2 (xH [1,0]) b 0 X w:=λm W V R x y=>
 azu (x.getD 0 0) (x.getD 1 0) (y.getD 0 0) (y.getD 1 0) (sortWorldK (jV 2) 2 w b 0 m V W)
def azH(b:Nat)(X:Nat)(w:World):CmpLays Tryz.prog 149 #[] (jV 3) 3 (xH [0,1,2]) b 0 X w:=λm W V R x y=>
 w52 (x.getD 0 0) (x.getD 1 0) (x.getD 2 0) (y.getD 0 0) (y.getD 1 0) (y.getD 2 0) (sortWorldK (jV 3) 3 w b 0 m V W)
def aeE(k:Nat)(x:bq):(jV k x).length=k:=by simp[jV]
def aeF(k:Nat)(x:bq):∀v∈jV k x,v.oneCell'=true:=by
 intro v X;simp only[jV,hJ] at X;obtain⟨i,_,rfl⟩:=X;rfl
def azI:pK Tryz.prog (look TT) 117 118 97 (.lex [0] E) false:=by
 have V:∀c∈[0],c<14:=ay;refine aeD (k:=14) aT aT V (λp X R W=> ?_) (λb X d W Q P O=> ?_);have h:=AnyF.slices_SortFunc_none Tryz.sortSg p X R W;exact h;have h:=AnyQ.slices_SortFunc Tryz.sortSg 14 Tryz.isAgg97 Tryz.sizeOf97 (jV 14) (aeE 14) (aeF 14) (xH [0]) (aeB V) 118 #[] b 0 X d W (enters_of Tryz.func118 aT rfl) (azF b d.size W) Q P O;exact h
def azJ:pK Tryz.prog (look TT) 148 149 243 (.lex [0,1,2] E) false:=by
 have V:∀c∈[0,1,2],c<3:=ay;refine aeD (k:=3) aT aT V (λp X R W=> ?_) (λb X d W Q P O=> ?_);have h:=AnyF.slices_SortFunc_none Tryz.sortOb p X R W;exact h;have h:=AnyQ.slices_SortFunc Tryz.sortOb 3 Tryz.isAgg243 Tryz.sizeOf243 (jV 3) (aeE 3) (aeF 3) (xH [0,1,2]) (aeB V) 149 #[] b 0 X d W (enters_of Tryz.func149 aT rfl) (azH b d.size W) Q P O;exact h
def azK:pK Tryz.prog (look TT) 264 227 295 (.lex [1,0] E) false:=by
 have V:∀c∈[1,0],c<2:=ay;refine aeD (k:=2) aT aT V (λp X R W=> ?_) (λb X d W Q P O=> ?_);have h:=AnyF.slices_SortFunc_none Tryz.sortBr p X R W;exact h;have h:=AnyQ.slices_SortFunc Tryz.sortBr 2 Tryz.isAgg295 Tryz.sizeOf295 (jV 2) (aeE 2) (aeF 2) (xH [1,0]) (aeB V) 227 #[] b 0 X d W (enters_of Tryz.func227 aT rfl) (azG b d.size W) Q P O;exact h
def H5:uI rX:=by
 intro x X;simp only[rX,dP,Qb,or_false] at X;rcases X with rfl|rfl|rfl|rfl|rfl|rfl;exact mc.of azJ od;exact mc.of azj od;exact mc.of azI od;exact mc.of azK od;exact mc.of azn od;unfold mc;rw[aI rfl];exact azs
end
theorem azL:bG 60 E E T18:=tk Tryz.func60 (ct:=J)
theorem azM:bG 19 E E U0:=tk Tryz.func19 (loops:=[(19,9,⟨[(62,.int I)],[]⟩),(19,16,⟨[(90,.int I),(6,.int I)],[]⟩)])
theorem azN:bG 97 E E T86:=tk Tryz.func97
theorem azO:bG 98 E E T87:=tk Tryz.func98
theorem azP:bG 99 E E T88:=tk Tryz.func99
theorem azQ:bG 186 E E anb:=tk Tryz.func186 (ct:=J)
theorem azR:bG 222 E E anc:=tk Tryz.func222 (ct:=J) (loops:=[(222,2,⟨[(8,.int I)],[]⟩)])
theorem azS:bG 68 E E U4:=tk Tryz.func68 (loops:=[(68,4,⟨[(20,.int I)],[]⟩)])
theorem azT(X:uI rX):bG 77 E E T77:=tk Tryz.func77 (loops:=[(77,7,⟨[(35,.int I),(6,.am (.own 97))],[]⟩)]) (srts:=rX) (hsr:=X)
theorem azU:bG 120 E E aci:=tk Tryz.func120
theorem azV:bG 163 E E acj:=tk Tryz.func163
theorem azW:bG 103 E E U5:=tk Tryz.func103
theorem azX:bG 40 E E Lh:=tk Tryz.func40 (inl:=[73,110,72])
theorem azY(X:uI rX):bG 78 E E ane:=tk Tryz.func78 (ct:=J) (loops:=[(78,6,⟨[(22,.int I),(4,.am (.own 226))],[]⟩),(78,9,⟨[(28,.int I),(4,.am (.own 226))],[]⟩)]) (inl:=[116]) (srts:=rX) (hsr:=X)
theorem azZ:bG 220 E E ano:=tk Tryz.func220 (ct:=J) (loops:=[(254,3,⟨[(9,.int I),(10,.int I)],[]⟩)]) (inl:=[254,255])
