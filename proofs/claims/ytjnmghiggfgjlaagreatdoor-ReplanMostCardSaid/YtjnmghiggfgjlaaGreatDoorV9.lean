/- Part 9. -/
import Derived.Test.YtjnmghiggfgjlaaGreatDoorV8
import Derived.Shelf.SlSortCmp.WholeK
import Derived.Shelf.SlSortCmp.NoneTotal
import Derived.Shelf.SlicesG.Cmp
import Derived.Deep.RegionHeld3
import Derived.Deep.DrawnRows
set_option linter.all false
set_option maxRecDepth 100000
set_option maxHeartbeats 100000000
open Bool renaming and_eq_true->aC,false_eq_true->jX,or_eq_true->lg,true->J,false->E
open Nat renaming le_refl->cd,zero_le->rN,eq_zero_or_pos->Mj,mul_le_mul->Mr,mod_lt->Q0,mul_comm->VM,mul_one->ala,div_lt_of_lt_mul->avT,lt_of_le_of_ne->av0,div_add_mod->awb,not_lt_zero->awh
open List renaming range->di,getElem?_eq_some_iff->dq,getElem?_eq_getElem->dG,map_cons->dH,getD_eq_getElem?_getD->dM,getElem?_map->et,replicate->eu,mem_cons->fh,mem_map->fw,all_eq_true->gz,mem_of_getElem?->jz,pairwise_cons->jO,map_congr_left->kF,ext_getElem?->kU,length_map->oW,map_map->oX,getElem?_take->qg,getElem?_of_mem->sK,eq_nil_of_length_eq_zero->ui,getElem?_eq_none->uk,getElem_mem->ul,mem_cons_of_mem->AH,getElem?_set_ne->Cd,all_map->QZ,mem_singleton->VB,mem_cons_self->VC,not_mem_nil->VF,pairwise_iff_getElem->aca,length_singleton->ace,getElem?_set_self->akS,pairwise_map->akZ,map_set->ak6,flatMap_cons->av2,length_set->awd,length->Y
open Option renaming map_eq_some_iff->Vx,some->U,none->Z
open Array renaming getElem?_eq_some_iff->lF,length_toList->GF,getElem?_modify->QP,getElem?_toList->acd,getElem?_setIfInBounds_ne->aIG,getElem?_append_left->aIK,getElem_toList->aIZ,extract_size->aJa
open Go.World renaming cell?->oD,frozen?->VK
open List.Pairwise renaming nil->xo
open Go.IntKind renaming i64->I
namespace Go.Proofs.YtjnmghiggfgjlaaGreatDoor.Y
open Go.RowKit
noncomputable section
variable{M:aj}{W:bu}{N:av}{Q:aE}{X P:Nat}{L:bA}{H:ar}{R:World}{O:mO}{V:TypeId}
def TM:lN:=⟨Gl,λ_ _=>Z⟩
def au7:akh TM false:=by
 refine⟨λf X (h:Gl f=U X)=> ?_,λf X (h:Gl f=U X)=> ?_,λf=>akf f⟩;unfold Gl at h;split at h<;>cases h<;>first|exact au1|exact au2|exact au3|exact au4|exact au5|exact au6
 unfold Gl at h;split at h<;>cases h<;>exact id
def hTM(f:FuncId)(X:Fn)(h:Gl f=U X):N8 TM f X:=⟨h,λ_=>rfl⟩
def au9{x y m n:Int}(X:x.natAbs<=m.natAbs)(W:y.natAbs<=n.natAbs):(x*y).natAbs<=(m*n).natAbs:=by
 rw[Int.natAbs_mul,Int.natAbs_mul];exact Mr X W
def aFl{a b c d:Int}(R:mo a b=J)(Q:mo c d=J)(W:World):Calls Tryz.prog 89 #[.agg #[.int I a,.int I b],.agg #[.int I c,.int I d]] W λe P=>e=.returned (.tuple #[.int I (DX (a*d) (c*b)),.int I 0])/\Below W.heap.size W P:=by
 obtain⟨n,N⟩:=asZ hTM a b c d;have M:=(abM au7 n 89).1 rfl _ _ _ _ rfl rfl rfl rfl _ _ _ N (abN _) ⟨trivial,trivial,trivial,trivial,trivial⟩ W (λh=>by cases h) (abO (by simp[vG]));refine Calls.mono M ?_;intro e P h;have O:IntKind.i64.wrap (a*d)=a*d/\IntKind.i64.wrap (c*b)=c*b:=by
  simp[mo] at R Q;have D:=au9 (x:=a) (y:=d) (m:=1073741824) (n:=1073741824) ae ae;have B:=au9 (x:=c) (y:=b) (m:=1073741824) (n:=1073741824) ae ae;rw[IntKind.wrap_i64,IntKind.wrap_i64];omega
 rw[abb,R,Q,O.1,O.2] at h;cases e with
 |returned v=>
  obtain⟨A,L,V,X,z,rfl,H,_,_⟩:=h;cases V;rcases L with _|⟨_|_|_,_|⟨_|_|_,_|_⟩⟩<;>first|exact X.elim|exact X.1.elim|exact X.2.elim|exact X.2.1.elim|exact X.2.2.elim|skip
  obtain⟨G,F,_⟩:=X;cases G;cases F;exact⟨rfl,H⟩
 |panicked w=>obtain⟨_,v,V,_⟩:=h;cases V
 |outgrown=>exact h.elim
def aFm(a b:Int)(W:World):Calls Tryz.prog 106 #[.int I a,.int I b] W λe R=>e=.returned (.int I (DX a b))/\Below W.heap.size W R:=by
 obtain⟨n,Q⟩:=ajo hTM a b;have P:=(abM au7 n 106).1 rfl _ _ _ _ rfl rfl rfl rfl _ _ _ Q (abN _) ⟨trivial,trivial,trivial⟩ W (λh=>by cases h) (abO (by simp[vG]));refine Calls.mono P ?_;intro e R h;cases e with
 |returned v=>
  obtain⟨L,O,V,X,H,rfl,N,_,_⟩:=h;cases V;rcases O with _|⟨_|_|_,_|_⟩<;>first|exact X.elim|exact X.1.elim|exact X.2.elim|skip
  obtain⟨M,_⟩:=X;cases M;exact⟨rfl,N⟩
 |panicked G=>obtain⟨_,v,V,_⟩:=h;cases V
 |outgrown=>exact h.elim
def ava{X:List K}{aF:av}(h:lu M (.dw (0+3) W X) E N=U aF):False:=by
 have h:qz 3 W (X.map (K.ai M)) N=U aF:=h;obtain⟨_,h⟩:=CQ h;obtain⟨a,b,c,V⟩:=Ej (L8 ae h);rw[V] at h;have e:og 3 W [a,b,c] N=if decide (0<=a)&&decide (a<b)&&decide (b<c)&&decide (c<=Y N)&&decide (c-a<((0:Nat):Int))&&N.all W.ok&&zu W.lt (bi N a.toNat b.toNat)&&zu W.lt (bi N b.toNat c.toNat) then U (N.take a.toNat++(bN W.lt (bi N a.toNat c.toNat)++N.drop c.toNat)) else none:=rfl;rw[e] at h;split at h;rename_i R;simp only[aC,dD] at R;omega;cases h
def avb(o:bu):∀l,vU o.lt (fD l)=vU o.lt l
 |[]=>rfl
 |x::r=>by
  have X:=avb o r;simp only[fD,dH,vU,QZ] at X⊢;rw[X];congr 2;funext y;simp only[Function.comp,ako]
def akx{X:Bool}{aF:av}(h:ip W X N=U aF):ip W X (fD N)=U (fD aF):=by
 cases W with
 |dw k W R=>simp[ip] at h
 |_=>
  simp only[ip] at h⊢;rw[B7,auH,avb,auG];split at h;rename_i V;rw[aH V];cases h;rfl;cases h
def KA:mP:=[J,J,J,J,J,J,J,J,J,J,J,J,J,J]
def QK(r:RE)(i:K):aq:=[.int I (.cell r i 0),.int I (.cell r i 1),.int I (.cell r i 2),.int I (.cell r i 3),.int I (.cell r i 4),.int I (.cell r i 5),.int I (.cell r i 6),.int I (.cell r i 7),.int I (.cell r i 8),.int I (.cell r i 9),.int I (.cell r i 10),.int I (.cell r i 11),.int I (.cell r i 12),.int I (.cell r i 13)]
def ab3(h:jW KA Q):∃X W V R P O N M L H G F D B,Q=[.mk (.int I X) [],.mk (.int I W) [],.mk (.int I V) [],.mk (.int I R) [],.mk (.int I P) [],.mk (.int I O) [],.mk (.int I N) [],.mk (.int I M) [],.mk (.int I L) [],.mk (.int I H) [],.mk (.int I G) [],.mk (.int I F) [],.mk (.int I D) [],.mk (.int I B) []]:=by
 rcases Q with _|⟨l,Q⟩;exact h.elim;obtain⟨⟨X,A⟩,h⟩:=h;subst A;rcases Q with _|⟨k,Q⟩;exact h.elim;obtain⟨⟨W,z⟩,h⟩:=h;subst z;rcases Q with _|⟨j,Q⟩;exact h.elim;obtain⟨⟨V,y⟩,h⟩:=h;subst y;rcases Q with _|⟨i,Q⟩;exact h.elim;obtain⟨⟨R,w⟩,h⟩:=h;subst w;rcases Q with _|⟨g,Q⟩;exact h.elim;obtain⟨⟨P,v⟩,h⟩:=h;subst v;rcases Q with _|⟨f,Q⟩;exact h.elim;obtain⟨⟨O,u⟩,h⟩:=h;subst u;rcases Q with _|⟨e,Q⟩;exact h.elim;obtain⟨⟨N,t⟩,h⟩:=h;subst t;rcases Q with _|⟨d,Q⟩;exact h.elim;obtain⟨⟨M,s⟩,h⟩:=h;subst s;rcases Q with _|⟨c,Q⟩;exact h.elim;obtain⟨⟨L,r⟩,h⟩:=h;subst r;rcases Q with _|⟨b,Q⟩;exact h.elim;obtain⟨⟨H,q⟩,h⟩:=h;subst q;rcases Q with _|⟨a,Q⟩;exact h.elim;obtain⟨⟨G,p⟩,h⟩:=h;subst p;rcases Q with _|⟨aa,Q⟩;exact h.elim;obtain⟨⟨F,o⟩,h⟩:=h;subst o;rcases Q with _|⟨ab,Q⟩;exact h.elim;obtain⟨⟨D,n⟩,h⟩:=h;subst n;rcases Q with _|⟨ac,Q⟩;exact h.elim;obtain⟨⟨B,m⟩,h⟩:=h;subst m;cases h;exact⟨X,W,V,R,P,O,N,M,L,H,G,F,D,B,rfl⟩
def aky:Gz KA QK:=by
 refine⟨λO r i x X W=> ?_,λO r i x X W y V=> ?_⟩;obtain⟨R,Q,P,N,M,L,H,G,F,D,B,A,z,w,rfl⟩:=ab3 W;simp[QK,C.cj,K.ai,aN,dM,X,bn];obtain⟨R,Q,P,N,M,L,H,G,F,D,B,A,z,w,rfl⟩:=ab3 W;have e:∀(q:RE),q.rv (O.at y)=q.rv O:=λq=>RE.nO O y q
 have v:∀(q:K),q.ai (O.at y)=q.ai O:=λq=>K.eZ O y q
 simp[QK,C.az,C.ai,K.ai,aN,dM,e,v,X,bn]
def KB:mP:=[J,J,J,E,J]
def QL(r:RE)(i:K):aq:=[.int I (.cell r i 0),.int I (.cell r i 1),.int I (.cell r i 2),.bool (.cell r i 3),.int I (.cell r i 4)]
def ab4(h:jW KB Q):∃X W V R P,Q=[.mk (.int I X) [],.mk (.int I W) [],.mk (.int I V) [],.mk (.bool R) [],.mk (.int I P) []]:=by
 rcases Q with _|⟨G,Q⟩;exact h.elim;obtain⟨⟨X,O⟩,h⟩:=h;subst O;rcases Q with _|⟨F,Q⟩;exact h.elim;obtain⟨⟨W,N⟩,h⟩:=h;subst N;rcases Q with _|⟨D,Q⟩;exact h.elim;obtain⟨⟨V,M⟩,h⟩:=h;subst M;rcases Q with _|⟨B,Q⟩;exact h.elim;obtain⟨⟨R,L⟩,h⟩:=h;subst L;rcases Q with _|⟨A,Q⟩;exact h.elim;obtain⟨⟨P,H⟩,h⟩:=h;subst H;cases h;exact⟨X,W,V,R,P,rfl⟩
def akz:Gz KB QL:=by
 refine⟨λO r i x X W=> ?_,λO r i x X W y V=> ?_⟩;obtain⟨R,Q,P,N,M,rfl⟩:=ab4 W;simp[QL,C.cj,K.ai,BE.ai,aN,dM,X,bn,jp];obtain⟨R,Q,P,N,M,rfl⟩:=ab4 W;have e:∀(q:RE),q.rv (O.at y)=q.rv O:=λq=>RE.nO O y q
 have L:∀(q:K),q.ai (O.at y)=q.ai O:=λq=>K.eZ O y q
 simp[QL,C.az,C.ai,K.ai,BE.ai,aN,dM,e,L,X,bn,jp]
def avc{p:Sp}{L:dp}{Q:bm}{P:bo}{X:K}(h:∀W,fk p.S0 p.w0 W->p.R (.returned (.int I (X.ai M))) W):(T.ret (.int I X) Q P).aM p M L:=by
 intro y V W R;have:=h W R.base;simpa[C.ai,K.eZ] using this
def XI(P:Program)(Q:Ty)(W:World)(V:bA)(R:mP):aA [] W bT.none Q [] ⟨V,R,[],[]⟩ {(⟨[],[],Y V,Y R,[],0,0,[]⟩:S) with tmps:=[]} ⟨#[],[]⟩ W:=
 ⟨⟨fk.refl _ _,λi h=>by simp[aJ,bP] at h,λi j h=>by simp[aJ,bP] at h,λi t L h=>by simp[bP] at h,λq O N X M=>by simp at X⟩,rfl,rfl,rfl,rfl,SU _ _,rfl,λt H h=>by simp at h,λq O N b X M G=>by simp at X⟩
def akA(P:Program)(o:bu)(W:World)(x y:aE):Ending->World->Prop:=λX V=>Below W.heap.size W V/\∃c:Int,X=.returned (.int I c)/\(c<0<->o.lt x y=J)
def avd{g:FuncId}{V:Func}{c:Code}{n:Nat}{args:aq}{t:T}(L:Tryz.prog.funcs[g]?=U V)(H:V.body=U c){y:aE}(O:bA)(N:mP)
  (G:RF (nP Tryz.prog TT SG [] [] [] [] E []) n g c V.ntmps V.results.toList args ⟨[],[],Y O,Y N,[],0,0,[]⟩=t)(X:World)(F:(C.az ⟨O,N,[],[]⟩ [] args).toArray= #[.agg (Q.map RV.val).toArray,.agg (y.map RV.val).toArray])
  (D:∀p:Sp,p.P=Tryz.prog->p.S0=[]->p.w0=X->p.R=akA Tryz.prog W X Q y->t.aM p ⟨O,N,[],[]⟩ []):Calls Tryz.prog g #[.agg (Q.map RV.val).toArray,.agg (y.map RV.val).toArray] X (akA Tryz.prog W X Q y):=by
 let p:Sp:=⟨Tryz.prog,look TT,[],X,bT.none,akA Tryz.prog W X Q y,λ_ _ _=>False⟩;have B:jd p (nP Tryz.prog TT SG [] [] [] [] E []):=NT Jo QG rfl QH (λz w b ob _ h=>by obtain⟨_,c,A,_⟩:=h;cases A) (λQ M=>by cases M);rw[<-F];exact aoR (p:=p) B L H G (D p rfl rfl rfl rfl) (λQ M=>by simp[nP] at M) (XI Tryz.prog _ X O N)
def ave(x y:Int):DX x y<0<->x<y:=by
 unfold DX;split;omega;split<;>omega
def aFn:T:=(.call 89 [(.agg [(.int I (.v 10)),(.int I (.v 11))]),(.agg [(.int I (.v 24)),(.int I (.v 25))])] [] [] [.int I,.int I] (.bH [(.int I (.v 28)),(.int I (.v 29))])
 (.ret (.int I (.v 28)) [] []))
def aFo:T:=(.call 106 [(.int I (.v 7)),(.int I (.v 3))] [] [] [.int I] (.int I (.v 8))
 (.ret (.int I (.v 8)) [] []))
def Vk:L7 Tryz.prog KA 102 (.ratio 10 11):=by
 intro W x y M L H G;obtain⟨F,D,B,A,z,w,u,s,r,q,X,Q,o,m,rfl⟩:=ab3 M;obtain⟨l,k,j,h,g,f,e,d,c,b,P,O,a,aa,rfl⟩:=ab3 L;refine avd (t:=aFn) (n:=100) (args:=[(.agg [(.int I (.v 0)),(.int I (.v 1)),(.int I (.v 2)),(.int I (.v 3)),(.int I (.v 4)),(.int I (.v 5)),(.int I (.v 6)),(.int I (.v 7)),(.int I (.v 8)),(.int I (.v 9)),(.int I (.v 10)),(.int I (.v 11)),(.int I (.v 12)),(.int I (.v 13))]),(.agg [(.int I (.v 14)),(.int I (.v 15)),(.int I (.v 16)),(.int I (.v 17)),(.int I (.v 18)),(.int I (.v 19)),(.int I (.v 20)),(.int I (.v 21)),(.int I (.v 22)),(.int I (.v 23)),(.int I (.v 24)),(.int I (.v 25)),(.int I (.v 26)),(.int I (.v 27))])]) rfl rfl [F,D,B,A,z,w,u,s,r,q,X,Q,o,m,l,k,j,h,g,f,e,d,c,b,P,O,a,aa] [] aT W rfl ?_;rintro p hP hS hW hR;have h1:mo X Q=true:=H;have h2:mo P O=true:=G;intro yy V W' R;rw[hP];refine(aFl h1 h2 W').mono ?_;rintro en W2 ⟨rfl,hB⟩;refine⟨[.i (DX (X*O) (P*Q)),.i 0],⟨trivial,trivial,trivial⟩,rfl,hB,⟨trivial,trivial,trivial⟩,avc λW3 N=> ?_⟩;rw[hS,hW] at N;rw[hR];refine⟨SR N,_,rfl, ?_⟩;simp[K.ai,aj.ext,aj.add,bu.lt,aW,bn,ave]
def Vl:L7 Tryz.prog KB 261 (.lex [4] J):=by
 intro W x y O N o m;obtain⟨M,L,H,G,X,rfl⟩:=ab4 O;obtain⟨F,D,B,A,Q,rfl⟩:=ab4 N;refine avd (t:=aFo) (n:=100) (args:=[(.agg [(.int I (.v 0)),(.int I (.v 1)),(.int I (.v 2)),(.bool (.v 0)),(.int I (.v 3))]),(.agg [(.int I (.v 4)),(.int I (.v 5)),(.int I (.v 6)),(.bool (.v 1)),(.int I (.v 7))])]) rfl rfl [M,L,H,X,F,D,B,Q] [G,A] aT W rfl ?_;rintro p z w u s;intro l V r R;rw[z];refine(aFm Q X r).mono ?_;rintro k j ⟨rfl,q⟩;refine⟨[.i (DX Q X)],⟨trivial,trivial⟩,rfl,q,⟨trivial,trivial⟩,avc λh P=> ?_⟩;rw[w,u] at P;rw[s];refine⟨SR P,_,rfl, ?_⟩;simp[K.ai,aj.ext,aj.add,bu.lt,jD,aW,bn,ave];omega
def aFp:rj Tryz.prog (look TT) 228 102 89 (.dw 0 (.ratio 10 11) []) false:=
 Jq (K:=KA) (n:=100) (args:=[(.ak (.v 0)),(.int I (.v 0)),(.int I (.v 1)),(.int I (.v 2)),(.fn 102 [])]) (loops:=[(228,1,⟨[(0,.ak (.own 89)),(10,.int I)],[]⟩)]) (srts:=[]) (chs:=[(228,3)]) (t:=abS 89 QK) rfl rfl rfl aT (λx X=>by cases X) aT Vk aT (auQ aky) (λW V h=>by obtain⟨a,b,c,rfl⟩:=Ej h;rfl) (λW R aF h=>L8 ae h)
def aFq:rj Tryz.prog (look TT) 196 102 89 (.dw 1 (.ratio 10 11) []) false:=
 Jq (K:=KA) (n:=100) (args:=[(.ak (.v 0)),(.int I (.v 0)),(.int I (.v 1)),(.int I (.v 2)),(.fn 102 [])]) (loops:=[(196,2,⟨[(0,.ak (.own 89)),(10,.int I),(11,.int I)],[]⟩)]) (srts:=[(228,102,89,.dw 0 (.ratio 10 11) [],E)]) (chs:=[]) (t:=abT 89 102 228 (.ratio 10 11)) rfl rfl rfl aT (λx X=>by simp only[VB] at X;subst X;exact nM.of (aFp) uo) aT Vk aT (auS) (λW V h=>by obtain⟨a,b,c,rfl⟩:=Ej h;rfl) (λW R aF h=>L8 ae h)
def aFr:rj Tryz.prog (look TT) 159 102 89 (.dw 2 (.ratio 10 11) []) false:=
 Jq (K:=KA) (n:=100) (args:=[(.ak (.v 0)),(.int I (.v 0)),(.int I (.v 1)),(.fn 102 [])]) (loops:=[(159,1,⟨[(0,.ak (.own 89)),(8,.int I)],[]⟩),(159,4,⟨[(0,.ak (.own 89)),(9,.int I)],[]⟩)]) (srts:=[]) (chs:=[(159,6)]) (t:=abU 89 102 QK) rfl rfl rfl aT (λx X=>by cases X) aT Vk aT (auV aky (afJ 10 11)) (λW V h=>by obtain⟨a,b,rfl⟩:=two h;rfl) (λW R aF h=>auO h)
def avf:∀N:Nat,rj Tryz.prog (look TT) 160 102 89 (.dw (N+3) (.ratio 10 11) []) E
 |0=>⟨xO aT,λW A n M Q aF O X L V H G P=>by
  simp only[bu.fill,dW] at V;subst V;exact(ava P).elim⟩
 |N+1=>Jq (K:=KA) (n:=100) (args:=[(.ak (.v 0)),(.int I (.v 0)),(.int I (.v 1)),(.int I (.v 2)),(.fn 102 [])]) (loops:=[(160,3,⟨[(0,.ak (.own 89)),(10,.int I),(11,.int I)],[]⟩),(160,9,⟨[(0,.ak (.own 89)),(13,.int I)],[]⟩),(160,15,⟨[(0,.ak (.own 89)),(14,.int I),(15,.int I)],[]⟩),(160,21,⟨[(0,.ak (.own 89)),(17,.int I)],[]⟩),(160,33,⟨[(0,.ak (.own 89)),(20,.int I),(21,.int I)],[]⟩)]) (srts:=[(196,102,89,.dw 1 (.ratio 10 11) [],E),(160,102,89,.dw (N+3) (.ratio 10 11) [],E)]) (chs:=[(160,11),(160,23)]) (t:=abW 89 102 196 160 N (.ratio 10 11) QK) rfl rfl rfl aT (λx R=>by
   simp only[fh,VF,or_false] at R;rcases R with rfl|rfl;exact nM.of (aFq) uo;exact nM.of (avf N) uo) aT Vk aT (auY aky (afJ 10 11)) (λX F h=>by obtain⟨a,b,c,rfl⟩:=Ej h;rfl) (λX Q aF h=>L8 ae h)
def aFs:rj Tryz.prog (look TT) 101 102 89 (.ratio 10 11) true:=by
 refine⟨xO aT,λW A n B V aF O X z Q H G P=> ?_⟩;cases X with
 |cons _ _=>simp[bu.fill] at Q
 |nil=>
  simp only[bu.fill,dW] at Q;subst Q;have P:ip (.ratio 10 11) J V=U aF:=P;refine akp (K:=KA) (o:=(.ratio 10 11)) (N:=0) (n:=100) (inl:=[130]) (args:=[(.ak (.v 0)),(.fn 102 [])]) (loops:=[(130,2,⟨[(0,.ak (.own 89)),(8,.int I),(7,.int I)],[]⟩),(130,7,⟨[(0,.ak (.own 89)),(6,.int I)],[]⟩),(130,9,⟨[(0,.ak (.own 89)),(8,.int I),(7,.int I)],[]⟩)]) (srts:=[(159,102,89,.dw 2 (.ratio 10 11) [],E),(160,102,89,.dw (Y V+1+3) (.ratio 10 11) [],E)]) (chs:=[]) (F:=λX R=>if X=[]/\Y R<Y V+1 then ip (.ratio 10 11) J R else Z) (t:=abX 89 102 159 160 (Y V+1) (.ratio 10 11)) rfl rfl rfl aT (λx L=> ?_) aT Vk aT (au0 (afJ 10 11)) (λX y h=> ?_) (λX R D h=> ?_) (λX R D h=> ?_) H G ?_;simp only[fh,VF,or_false] at L;rcases L with rfl|rfl;exact nM.of (aFr) uo;exact nM.of (avf _) uo;have:X=[]:=ui h;subst this;rfl;split at h;rename_i M;rw[aH (by rw[B7];exact M)];exact akx h;cases h;split at h;rename_i M;exact⟨by rw[M.1];rfl,ad3 h⟩;cases h;rw[aH ⟨rfl,ae⟩];exact P
def aFt:rj Tryz.prog (look TT) 285 261 400 (.dw 0 (.lex [4] J) []) false:=
 Jq (K:=KB) (n:=100) (args:=[(.ak (.v 0)),(.int I (.v 0)),(.int I (.v 1)),(.int I (.v 2)),(.fn 261 [])]) (loops:=[(285,1,⟨[(0,.ak (.own 400)),(10,.int I)],[]⟩)]) (srts:=[]) (chs:=[(285,3)]) (t:=abS 400 QL) rfl rfl rfl aT (λx X=>by cases X) aT Vl aT (auQ akz) (λW V h=>by obtain⟨a,b,c,rfl⟩:=Ej h;rfl) (λW R aF h=>L8 ae h)
def aFu:rj Tryz.prog (look TT) 284 261 400 (.dw 1 (.lex [4] J) []) false:=
 Jq (K:=KB) (n:=100) (args:=[(.ak (.v 0)),(.int I (.v 0)),(.int I (.v 1)),(.int I (.v 2)),(.fn 261 [])]) (loops:=[(284,2,⟨[(0,.ak (.own 400)),(10,.int I),(11,.int I)],[]⟩)]) (srts:=[(285,261,400,.dw 0 (.lex [4] J) [],E)]) (chs:=[]) (t:=abT 400 261 285 (.lex [4] J)) rfl rfl rfl aT (λx X=>by simp only[VB] at X;subst X;exact nM.of (aFt) uo) aT Vl aT (auS) (λW V h=>by obtain⟨a,b,c,rfl⟩:=Ej h;rfl) (λW R aF h=>L8 ae h)
def aFv:rj Tryz.prog (look TT) 281 261 400 (.dw 2 (.lex [4] J) []) false:=
 Jq (K:=KB) (n:=100) (args:=[(.ak (.v 0)),(.int I (.v 0)),(.int I (.v 1)),(.fn 261 [])]) (loops:=[(281,1,⟨[(0,.ak (.own 400)),(8,.int I)],[]⟩),(281,4,⟨[(0,.ak (.own 400)),(9,.int I)],[]⟩)]) (srts:=[]) (chs:=[(281,6)]) (t:=abU 400 261 QL) rfl rfl rfl aT (λx X=>by cases X) aT Vl aT (auV akz (Ya [4] J)) (λW V h=>by obtain⟨a,b,rfl⟩:=two h;rfl) (λW R aF h=>auO h)
def avg:∀N:Nat,rj Tryz.prog (look TT) 282 261 400 (.dw (N+3) (.lex [4] J) []) E
 |0=>⟨xO aT,λW A n M Q aF O X L V H G P=>by
  simp only[bu.fill,dW] at V;subst V;exact(ava P).elim⟩
 |N+1=>Jq (K:=KB) (n:=100) (args:=[(.ak (.v 0)),(.int I (.v 0)),(.int I (.v 1)),(.int I (.v 2)),(.fn 261 [])]) (loops:=[(282,3,⟨[(0,.ak (.own 400)),(10,.int I),(11,.int I)],[]⟩),(282,9,⟨[(0,.ak (.own 400)),(13,.int I)],[]⟩),(282,15,⟨[(0,.ak (.own 400)),(14,.int I),(15,.int I)],[]⟩),(282,21,⟨[(0,.ak (.own 400)),(17,.int I)],[]⟩),(282,33,⟨[(0,.ak (.own 400)),(20,.int I),(21,.int I)],[]⟩)]) (srts:=[(284,261,400,.dw 1 (.lex [4] J) [],E),(282,261,400,.dw (N+3) (.lex [4] J) [],E)]) (chs:=[(282,11),(282,23)]) (t:=abW 400 261 284 282 N (.lex [4] J) QL) rfl rfl rfl aT (λx R=>by
   simp only[fh,VF,or_false] at R;rcases R with rfl|rfl;exact nM.of (aFu) uo;exact nM.of (avg N) uo) aT Vl aT (auY akz (Ya [4] J)) (λX F h=>by obtain⟨a,b,c,rfl⟩:=Ej h;rfl) (λX Q aF h=>L8 ae h)
def aFw:rj Tryz.prog (look TT) 260 261 400 (.lex [4] J) true:=by
 refine⟨xO aT,λW A n B V aF O X z Q H G P=> ?_⟩;cases X with
 |cons _ _=>simp[bu.fill] at Q
 |nil=>
  simp only[bu.fill,dW] at Q;subst Q;have P:ip (.lex [4] J) J V=U aF:=P;refine akp (K:=KB) (o:=(.lex [4] J)) (N:=0) (n:=100) (inl:=[275]) (args:=[(.ak (.v 0)),(.fn 261 [])]) (loops:=[(275,2,⟨[(0,.ak (.own 400)),(8,.int I),(7,.int I)],[]⟩),(275,7,⟨[(0,.ak (.own 400)),(6,.int I)],[]⟩),(275,9,⟨[(0,.ak (.own 400)),(8,.int I),(7,.int I)],[]⟩)]) (srts:=[(281,261,400,.dw 2 (.lex [4] J) [],E),(282,261,400,.dw (Y V+1+3) (.lex [4] J) [],E)]) (chs:=[]) (F:=λX R=>if X=[]/\Y R<Y V+1 then ip (.lex [4] J) J R else Z) (t:=abX 400 261 281 282 (Y V+1) (.lex [4] J)) rfl rfl rfl aT (λx L=> ?_) aT Vl aT (au0 (Ya [4] J)) (λX y h=> ?_) (λX R D h=> ?_) (λX R D h=> ?_) H G ?_;simp only[fh,VF,or_false] at L;rcases L with rfl|rfl;exact nM.of (aFv) uo;exact nM.of (avg _) uo;have:X=[]:=ui h;subst this;rfl;split at h;rename_i M;rw[aH (by rw[B7];exact M)];exact akx h;cases h;split at h;rename_i M;exact⟨by rw[M.1];rfl,ad3 h⟩;cases h;rw[aH ⟨rfl,ae⟩];exact P
section
open Go.Shelf Go.RowKit Go.Lib Go.Sort
def ez{o:Option Func}{a b:Func}(h:o=U a)(e:a=b):o=U b:=h.trans (jY U e)
def Tryz.cmpInt_ren:Go.Shelf.Ren:=⟨λ|5=>106|7=>76|n=>n,λ|22=>3|3=>3|4=>4|n=>n,λ|n=>n⟩
def Tryz.cmpInt:Go.Proofs.SlLaysC2.n5 Tryz.prog Tryz.cmpInt_ren:={mixed:=by kernel_rfl,f5:=⟨Tryz.f106.name,ew,ez Tryz.func106 (by kernel_rfl)⟩,f7:=⟨Tryz.f76.name,ew,ez Tryz.func76 (by kernel_rfl)⟩,t3:=Tryz.underlying3,a3:=Tryz.isAgg3,z3:=Tryz.sizeOf3,v3:=Tryz.zeroValue3,t4:=Tryz.underlying4,a4:=Tryz.isAgg4,z4:=Tryz.sizeOf4,v4:=Tryz.zeroValue4,t22:=Tryz.underlying3,a22:=Tryz.isAgg3,z22:=Tryz.sizeOf3,v22:=Tryz.zeroValue3}
def Tryz.sortSg_ren:Go.Shelf.Ren:=⟨λ|6=>104|15=>132|14=>131|28=>168|29=>169|20=>159|21=>161|22=>162|23=>163|24=>164|25=>165|26=>166|27=>167|46=>197|47=>198|48=>199|49=>200|50=>201|57=>229|n=>n,λ|22=>30|24=>89|25=>222|3=>3|39=>149|0=>0|53=>311|55=>313|4=>4|46=>305|45=>304|50=>50|5=>5|9=>9|66=>344|70=>71|76=>384|77=>385|n=>n,λ|n=>n⟩
def Tryz.sortSg:Go.Proofs.SlLaysF0.n6 Tryz.prog Tryz.sortSg_ren:={mixed:=by kernel_rfl,f6:=⟨Tryz.f104.name,ew,ez Tryz.func104 (by kernel_rfl)⟩,f14:=⟨Tryz.f131.name,ew,ez Tryz.func131 (by kernel_rfl)⟩,f15:=ez Tryz.func132 (by kernel_rfl),f20:=⟨Tryz.f159.name,ew,ez Tryz.func159 (by kernel_rfl)⟩,f21:=⟨Tryz.f161.name,ew,ez Tryz.func161 (by kernel_rfl)⟩,f22:=⟨Tryz.f162.name,ew,ez Tryz.func162 (by kernel_rfl)⟩,f23:=⟨Tryz.f163.name,ew,ez Tryz.func163 (by kernel_rfl)⟩,f24:=⟨Tryz.f164.name,ew,ez Tryz.func164 (by kernel_rfl)⟩,f25:=⟨Tryz.f165.name,ew,ez Tryz.func165 (by kernel_rfl)⟩,f26:=⟨Tryz.f166.name,ew,ez Tryz.func166 (by kernel_rfl)⟩,f27:=⟨Tryz.f167.name,ew,ez Tryz.func167 (by kernel_rfl)⟩,f28:=ez Tryz.func168 (by kernel_rfl),f29:=ez Tryz.func169 (by kernel_rfl),f46:=⟨Tryz.f197.name,ew,ez Tryz.func197 (by kernel_rfl)⟩,f47:=ez Tryz.func198 (by kernel_rfl),f48:=ez Tryz.func199 (by kernel_rfl),f49:=⟨Tryz.f200.name,ew,ez Tryz.func200 (by kernel_rfl)⟩,f50:=⟨Tryz.f201.name,ew,ez Tryz.func201 (by kernel_rfl)⟩,f57:=⟨Tryz.f229.name,ew,ez Tryz.func229 (by kernel_rfl)⟩,t0:=Tryz.underlying0,a0:=Tryz.isAgg0,z0:=Tryz.sizeOf0,v0:=Tryz.zeroValue0,t3:=Tryz.underlying3,a3:=Tryz.isAgg3,z3:=Tryz.sizeOf3,v3:=Tryz.zeroValue3,t4:=Tryz.underlying4,a4:=Tryz.isAgg4,z4:=Tryz.sizeOf4,v4:=Tryz.zeroValue4,t5:=Tryz.underlying5,a5:=Tryz.isAgg5,z5:=Tryz.sizeOf5,v5:=Tryz.zeroValue5,t9:=Tryz.underlying9,a9:=Tryz.isAgg9,z9:=Tryz.sizeOf9,v9:=Tryz.zeroValue9,t22:=Tryz.underlying30,a22:=Tryz.isAgg30,z22:=Tryz.sizeOf30,v22:=Tryz.zeroValue30,t25:=Tryz.underlying222,a25:=Tryz.isAgg222,z25:=Tryz.sizeOf222,v25:=Tryz.zeroValue222,t39:=Tryz.underlying149,a39:=Tryz.isAgg149,z39:=Tryz.sizeOf149,v39:=Tryz.zeroValue149,t45:=Tryz.underlying304,a45:=Tryz.isAgg304,z45:=Tryz.sizeOf304,v45:=Tryz.zeroValue304,t46:=Tryz.underlying305,a46:=Tryz.isAgg305,z46:=Tryz.sizeOf305,v46:=Tryz.zeroValue305,t50:=Tryz.underlying50,a50:=Tryz.isAgg50,z50:=Tryz.sizeOf50,v50:=Tryz.zeroValue50,t53:=Tryz.underlying311,a53:=Tryz.isAgg311,z53:=Tryz.sizeOf311,v53:=Tryz.zeroValue311,t55:=Tryz.underlying313,a55:=Tryz.isAgg313,z55:=Tryz.sizeOf313,v55:=Tryz.zeroValue313,t66:=Tryz.underlying344,a66:=Tryz.isAgg344,z66:=Tryz.sizeOf344,v66:=Tryz.zeroValue344,t70:=Tryz.underlying71,a70:=Tryz.isAgg71,z70:=Tryz.sizeOf71,v70:=Tryz.zeroValue71,t76:=Tryz.underlying384,a76:=Tryz.isAgg384,z76:=Tryz.sizeOf384,v76:=Tryz.zeroValue384,t77:=Tryz.underlying385,a77:=Tryz.isAgg385,z77:=Tryz.sizeOf385,v77:=Tryz.zeroValue385}
def aFx(X O N M L H G F D B A z y w6 V x w v u t s p o n m l k j:Int)(W:World):Calls Tryz.prog 105 #[.agg #[.int I X,.int I O,.int I N,.int I M,.int I L,.int I H,.int I G,.int I F,.int I D,.int I B,.int I A,.int I z,.int I y,.int I w6],.agg #[.int I V,.int I x,.int I w,.int I v,.int I u,.int I t,.int I s,.int I p,.int I o,.int I n,.int I m,.int I l,.int I k,.int I j]] W λe Q=>e=.returned (.int I (Lib.compareInt X V))/\∃q i,Q=grow (W.drewN q) i:=by
 have R:=λP=>AnyG.cmp_Compare_int Tryz.cmpInt X V P
 change∀P,Calls Tryz.prog 106 _ _ _ at R;generalize Lib.compareInt X V=r at R⊢;go_enter Tryz.func105,Tryz.ntmps105
 go_wp2_with (go_at_call 106;refine(R _).mono ?_;rintro e Q ⟨rfl,rfl⟩)
 go_ret;exact⟨rfl,0,_,by rw[alloc_eq_grow,alloc_eq_grow,grow_grow];rfl⟩
end
section
attribute[local go_sem ↓] Go.wp_at_zero Go.wp_at_succ
open Go.Shelf Go.RowKit Go.Lib Go.Sort
def sJ:Nat->Nat->List Nat->List Nat
 |0,_,g=>g|n+1,k,g=>if g.getD k 0=k then g else(sJ n (g.getD k 0) g).set k ((sJ n (g.getD k 0) g).getD (g.getD k 0) 0)
def avh{g:List Nat}:∀n k,(sJ n k g).length=Y g
 |0,_=>rfl
 |n+1,k=>by
  simp only[sJ];split;rfl;simp[avh n]
def avi{g:List Nat}(X:∀q,g.getD q 0<=q):∀n k q,k<q->(sJ n k g).getD q 0=g.getD q 0
 |0,_,_,_=>rfl
 |n+1,k,q,h=>by
  simp only[sJ];split;rfl;have:=X k;rw[dM,Cd ae,<-dM];exact avi X n _ q ae
def InB(W:World)(b X:Nat)(g:List Nat):Prop:=∃db,W.heap[b]?=U (.cells db 3 (0,0))/\db.size=X/\∀q,q<Y g->db[q]?=U (.int I ((g.getD q 0:Nat):Int))
def aFy(W:World)(X V b n R k:Nat)(P:W.cell? ⟨X,0,Z⟩=U (.slice (U ⟨b,0,Z⟩) n R))(_hl:W.cell? ⟨V,0,Z⟩=U (.func (.func 72) #[] #[.pointer (U ⟨X,0,Z⟩),.pointer (U ⟨V,0,Z⟩)]))
  (O:(0:Int)<=k)(N:(k:Int)<(n:Int))(M:W.cell? ⟨b,k,Z⟩=U (.int I k)):Calls Tryz.prog 72 #[.int I k,.pointer (U ⟨X,0,Z⟩),.pointer (U ⟨V,0,Z⟩)] W λe Q=>e=.returned (.int I k)/\Q=W:=by
 have L:((k:Int)!=k)=false:=aw;go_enter Tryz.func72,Tryz.ntmps72;go_wp2;go_ret;exact⟨rfl,rfl⟩
def aFz(W:World)(V R b n P k j:Nat)(F:V≠b)(z:W.cell? ⟨V,0,Z⟩=U (.slice (U ⟨b,0,Z⟩) n P))(y:W.cell? ⟨R,0,Z⟩=U (.func (.func 72) #[] #[.pointer (U ⟨V,0,Z⟩),.pointer (U ⟨R,0,Z⟩)]))
  (x:(0:Int)<=k)(w:(k:Int)<(n:Int))(v:W.cell? ⟨b,k,Z⟩=U (.int I j))(u:j≠k)(r:Int)(Q:World->Prop)(H:∀X,Q X->X.cell? ⟨V,0,Z⟩=U (.slice (U ⟨b,0,Z⟩) n P)/\X.cell? ⟨R,0,Z⟩=U (.func (.func 72) #[] #[.pointer (U ⟨V,0,Z⟩),.pointer (U ⟨R,0,Z⟩)])/\X.cell? ⟨b,k,Z⟩=U (.int I j)/\X.frozen? ⟨b,k,Z⟩=E)
  (D:Calls Tryz.prog 72 #[.int I j,.pointer (U ⟨V,0,Z⟩),.pointer (U ⟨R,0,Z⟩)] W.drew λe X=>e=.returned (.int I r)/\Q X):
  Calls Tryz.prog 72 #[.int I k,.pointer (U ⟨V,0,Z⟩),.pointer (U ⟨R,0,Z⟩)] W λe X=>e=.returned (.int I r)/\∃O,Q O/\X=O.setCell ⟨b,k,Z⟩ (.int I r):=by
 have t:((j:Int)!=k)=true:=bY;have B:∀X,Q X->X.cell? ⟨V,0,Z⟩=U (.slice (U ⟨b,0,Z⟩) n P)/\X.cell? ⟨b,k,Z⟩=U (.int I j)/\X.frozen? ⟨b,k,Z⟩=E/\(X.setCell ⟨b,k,Z⟩ (.int I r)).cell? ⟨V,0,Z⟩=U (.slice (U ⟨b,0,Z⟩) n P)/\(X.setCell ⟨b,k,Z⟩ (.int I r)).cell? ⟨b,k,Z⟩=U (.int I r):=λX N=>by
  obtain⟨M,A,L,G⟩:=H X N;exact⟨M,L,G,(World.cell?_setCell_far _ _ _ _ (Ne.symm F)).trans M,World.cell?_setCell_same' _ _ _ (by rw[L];rfl)⟩
 clear H;go_enter Tryz.func72,Tryz.ntmps72;go_wp2
 go_region_with (first|(go_at_call 72;refine D.mono ?_;rintro e O ⟨rfl,N⟩;obtain⟨M,A,L,G,s⟩:=B O N))
 all_goals go_wp2
 all_goals go_ret
 all_goals exact⟨rfl,_,N,rfl⟩
def avj(b V:Nat)(W:World)(g:List Nat)(X:World):Prop:=W.grownBy X (U b)/\InB X b V g
def avk{R Q b n A sz:Nat}(z:R≠b)(t:Q≠b)(hn:(n:Int)<=1099511627776):∀(N k:Nat)(W:World)(g:List Nat),k<N->k<n->Y g=n->(∀q,g.getD q 0<=q)->
  W.cell? ⟨R,0,Z⟩=U (.slice (U ⟨b,0,Z⟩) n A)->W.cell? ⟨Q,0,Z⟩=U (.func (.func 72) #[] #[.pointer (U ⟨R,0,Z⟩),.pointer (U ⟨Q,0,Z⟩)])->InB W b sz g->
  Calls Tryz.prog 72 #[.int I k,.pointer (U ⟨R,0,Z⟩),.pointer (U ⟨Q,0,Z⟩)] W λe P=>e=.returned (.int I (((sJ N k g).getD k 0:Nat):Int))/\avj b sz W (sJ N k g) P
 |0,k,W,g,h,_,_,_,_,_,_=>bF h (awh _)
 |N+1,k,W,g,hN,s,r,y,H,G,hb=>by
  obtain⟨db,x,p,w⟩:=hb;have o:∀q,q<n->W.cell? ⟨b,q,Z⟩=U (.int I ((g.getD q 0:Nat):Int)):=λq O=>by
   have:=w q ae;simp only[oD,x];simpa using this
  by_cases M:g.getD k 0=k;have L:sJ (N+1) k g=g:=by simp only[sJ,aH M]
  rw[L];have:=o k s;rw[M] at this⊢;refine(aFy W R Q b n A k H G ae ae this).mono ?_;rintro e P ⟨rfl,rfl⟩;exact⟨rfl,World.grownBy.refl _ _,db,x,p,w⟩;have L:sJ (N+1) k g=(sJ N (g.getD k 0) g).set k ((sJ N (g.getD k 0) g).getD (g.getD k 0) 0):=by simp only[sJ,aS M]
  have m:g.getD k 0<k:=av0 (y k) M;generalize l:g.getD k 0=j at M L m;generalize v:sJ N j g=X at L;have dX:Y X=n:=by rw[<-v,avh,r]
  have ab:X.getD k 0=j:=by rw[<-v,avi y N j k m,l]
  rw[L];have i:(X.set k (X.getD j 0)).getD k 0=X.getD j 0:=by
   rw[dM,akS ae];rfl
  rw[i];have f:=avk z t hn N j W.drew g ae ae r y H G ⟨db,x,p,w⟩;rw[v] at f;have d:=o k s;rw[l] at d;refine(aFz W R Q b n A k j z H G ae ae d ae ((X.getD j 0:Nat):Int) (avj b sz W.drew X) ?_ f).mono ?_;rintro P ⟨V,F,D,c,B⟩;have hf:P.cell? ⟨b,k,Z⟩=U (.int I (j:Int)):=by
   have:=B k ae;rw[ab] at this;simp only[oD,D];simpa using this
  exact⟨V.cell H (by simpa using z),V.cell G (by simpa using t),hf,by simp[VK,D]⟩;rintro e P ⟨rfl,a,⟨V,F,D,c,B⟩,rfl⟩;refine⟨rfl,⟨V.os,V.tape,V.output,by rw[World.size_setCell];exact V.size,λq O aa=> ?_⟩, ?_⟩;exact(Below.heap_setCell a _ _ q (by intro e;exact aa (by rw[e]))).trans (V.block q O aa);refine⟨F.setIfInBounds k (.int I ((X.getD j 0:Nat):Int)), ?_,by simpa using c,λq O=> ?_⟩;exact Go.Proofs.YtjnmghiggfgjlaaGreatDoor.Bx.set (show Go.Proofs.YtjnmghiggfgjlaaGreatDoor.Bx a b 3 F from D) _;rw[awd] at O;have ac:k<F.size:=by
   have:=B k ae;exact(lF.1 this).1
  by_cases u:q=k;subst u;rw[i,Array.getElem?_setIfInBounds_self_of_lt ac];rw[aIG (Ne.symm u),B q O,dM,dM,Cd (Ne.symm u)]
end
def uh(X:av):ar:=X.map λW=>(aW 0 W).toNat
def Vm(X:av)(q:Nat):(uh X).getD q 0=(aW 0 (X.getD q [])).toNat:=by
 simp only[uh,dM,et];cases X[q]? with|none=>rfl|some W=>rfl
def avl{X:av}(h:mq X=J):∀(n:Nat)(i:Int),0<=i->i<Y X->uh (sU n i X)=sJ n i.toNat (uh X)
 |0,_,_,_=>rfl
 |n+1,i,V,R=>by
  obtain⟨Q,N,P⟩:=ad1 h V R;have O:=avl h n _ Q P;simp only[sU,sJ,Vm];by_cases W:aW 0 (X.getD i.toNat [])=i;rw[aH W,aH ae];rw[aS W,aS ae,<-O,Vm];simp only[uh,ak6]
def aFA:amS Tryz.prog (look TT) 72 3:=by
 refine⟨xO aT, ?_⟩;intro W b n B R aF i z y tg tl f jc d a M L H;have N:bI (look TT) (.sl 3)=[.int I]:=by rfl
 obtain⟨bk,h0,h1,G,aa⟩:=Sg H;obtain⟨hn,br⟩:=uE M;have x:=fU.zx M;rw[N] at L⊢;rcases L.mem with hz|⟨b',db,hA,w,ab,ac⟩;exfalso;omega;cases hA;have v:∀(q:Nat)(X:aE),R[q]?=U X->∃c,X=[c]/\c.val=.int I (aW 0 X):=λq X V=>by
  have u:=x.len q X V;rw[N] at u
  match X,u with
  |[c],_=>
   obtain⟨m,hm⟩:=x.int q 0 [c] c I V rfl (by rw[N];rfl);exact⟨c,rfl,by simp[aW,hm,bn]⟩
 have t:∀q:Nat,q<Y R->((uh R).getD q 0:Int)=aW 0 (R.getD q [])/\(uh R).getD q 0<=q:=λq V=>by
  have:=Hj G V;rw[Vm];omega
 have af:InB W b db.size (uh R):=by
  refine⟨db,w,rfl,λq V=> ?_⟩;rw[uh,oW] at V;obtain⟨c,ag,al⟩:=v q R[q] (dG V);have F:W.cell? ⟨b,0+q*1+0,Z⟩=U c.val:=by
   cases M with
   |sl e A bs B R g1 g2 g3 gi gb go=>
    obtain⟨-,b2,bt,e2,-,g4⟩:=g3 q R[q] (dG V);cases e2;have:=g4 0 c (by rw[ag];rfl);rw[N] at this;exact this
  rw[al] at F;simp only[oD,w] at F;have e3:((uh R).getD q 0:Int)=aW 0 R[q]:=by
   rw[(t q V).1,dM,dG V];rfl
  rw[e3];simpa using F
 have an:∀q,(uh R).getD q 0<=q:=λq=>by
  by_cases V:q<Y R;exact(t q V).2;rw[Vm,dM,uk ae];show(0:Int).toNat<=q;simp
 have a0:(uh R).length=n:=by rw[uh,oW,hn]
 have a1:W.cell? ⟨z,0,Z⟩=U (.slice (U ⟨b,0,Z⟩) n B):=by simp[oD,f]
 have bq:W.cell? ⟨y,0,Z⟩=U (.func (.func 72) #[] #[.pointer (U ⟨z,0,Z⟩),.pointer (U ⟨y,0,Z⟩)]):=by simp[oD,jc]
 have a3:((i.toNat:Nat):Int)=i:=ae;have s:=avk d a (sz:=db.size) ae (Y R) i.toNat W (uh R) ae ae a0 an a1 bq af;rw[a3] at s;refine s.mono ?_;rintro e w' ⟨rfl,a4,a9,ba,bb,o⟩;have k:=avl G (Y R) i h0 h1;rw[<-aa] at k;rw[<-k] at o⊢;have bx:Y aF=Y R:=ad2 H;have bc:=WT H;have j:∀(q:Nat)(X:aE),aF[q]?=U X->∃c,X=[c]/\c.val=.int I (aW 0 X)/\0<=aW 0 X:=λq X V=>by
  obtain⟨p,Q⟩:=sK (bc X (jz V));obtain⟨c,P,O⟩:=v p X Q;have bd:p<Y R:=(dq.1 Q).1;have:=(Hj G bd).1;rw[dM,Q] at this;exact⟨c,P,O,this⟩
 have g:∀q,q<Y aF->(((uh aF).getD q 0:Nat):Int)=aW 0 (aF.getD q []):=λq V=>by
  obtain⟨c,-,-,c3⟩:=j q aF[q] (dG V);rw[Vm,dM,dG V];show((aW 0 aF[q]).toNat:Int)=aW 0 aF[q];omega
 refine⟨by rw[g _ ae],a4,ae,L.nil,.inr ⟨b,a9,rfl,ba,ab,by rw[bb];exact ac, ?_,.inr rfl⟩⟩;apply kU;intro q;have bf:eF aF=aF.map λX=>Value.int I (aW 0 X):=by
  have:∀l:av,(∀X∈l,∃c,X=[c]/\c.val=.int I (aW 0 X))->eF l=l.map λX=>Value.int I (aW 0 X):=by
   intro l;induction l with
   |nil=>intro _;rfl
   |cons r l ih=>
    intro h;obtain⟨c,P,O⟩:=h r VC;have:=ih λX D=>h X (AH _ D)
    simp only[eF,av2,dH] at this⊢;rw[this,<-O,P];rfl
  refine this aF λX D=> ?_
  obtain⟨p,Q⟩:=sK D;obtain⟨c,P,O,-⟩:=j p X Q;exact⟨c,P,O⟩
 rw[bf,qg,et];simp only[ace,ala];by_cases V:q<Y aF;rw[aH V,acd,o q (by rw[uh,oW];exact V),g q V,dG V];simp[dM,dG V];rw[aS V,uk ae];rfl
section
attribute[local go_sem ↓] Go.wp_at_zero Go.wp_at_succ
open Go.Shelf Go.RowKit Go.Lib Go.Sort
def oA:List Int->Int
 |[]=>0|a::l=>if a=0 then oA l else a
def or2(b:Nat)(X V:Int)(W:World)(L:W.cell? ⟨b,0,Z⟩=U (.int I X))(H:W.cell? ⟨b,1,Z⟩=U (.int I V)):Calls Tryz.prog 153 #[.slice (U ⟨b,0,Z⟩) 2 2] W λe O=>e=.returned (.int I (oA [X,V]))/\O=W:=by
 by_cases R:X=0;have N:(X !=0)=false:=by simp[R]
 by_cases P:V=0
 ·have M:(V !=0)=false:=by simp[P]
  have Q:oA [X,V]=0:=by simp[oA,R,P]
  rw[Q];clear Q;clear R P;go_enter Tryz.func153,Tryz.ntmps153;go_wp2;refine wp_loop_rounds 3 ?_
  iterate 3 (rw[rounds_succ];go_wp2)
  go_ret;exact⟨rfl,rfl⟩
 ·have M:(V !=0)=true:=by simp[P]
  have Q:oA [X,V]=V:=by simp[oA,R,P]
  rw[Q];clear Q;clear R P;go_enter Tryz.func153,Tryz.ntmps153;go_wp2;refine wp_loop_rounds 3 ?_
  iterate 2 (rw[rounds_succ];go_wp2)
  go_ret;exact⟨rfl,rfl⟩
 ·have N:(X !=0)=true:=by simp[R]
  have Q:oA [X,V]=X:=by simp[oA,R]
  rw[Q];clear Q;clear R;go_enter Tryz.func153,Tryz.ntmps153;go_wp2;refine wp_loop_rounds 3 ?_
  iterate 1 (rw[rounds_succ];go_wp2)
  go_ret;exact⟨rfl,rfl⟩
def Vn(W:World)(V R:Obj)(X:Array Value)(t:TypeId)(i:Nat)(v:Value)(h:X[i]?=U v):(((W.alloc V).alloc R).alloc (.cells X t)).drew.cell? ⟨W.heap.size+1+1,i,Z⟩=U v:=by
 have e:(((W.alloc V).alloc R).alloc (.cells X t)).heap[W.heap.size+1+1]?=U (.cells X t):=by
  have:=heap_alloc_new ((W.alloc V).alloc R) (.cells X t);simpa using this
 show oD _ _=_;simp only[oD,World.drew,e];simpa using h
def avm(W:World)(X V R:Obj):∃q Q,(((W.alloc X).alloc V).alloc R).drew=grow (W.drewN q) Q:=⟨1, #[X]++ #[V]++ #[R],by rw[alloc_eq_grow,alloc_eq_grow,alloc_eq_grow,grow_grow,grow_grow];rfl⟩
def aFC(V R Q P:Int)(W:World):Calls Tryz.prog 181 #[.agg #[.int I V,.int I R],.agg #[.int I Q,.int I P]] W λe X=>e=.returned (.int I (oA [Lib.compareInt R P,Lib.compareInt V Q]))/\∃q M,X=grow (W.drewN q) M:=by
 have O:=λx y N=>AnyG.cmp_Compare_int Tryz.cmpInt x y N
 change∀x y N,Calls Tryz.prog 106 _ _ _ at O;generalize Lib.compareInt=cI at O⊢;go_enter Tryz.func181,Tryz.ntmps181;go_wp2
 go_region_held3 (λX=>X.cell? ⟨W.heap.size,0,Z⟩=U (.int I V)/\X.cell? ⟨W.heap.size,1,Z⟩=U (.int I R)/\X.cell? ⟨W.heap.size+1,0,Z⟩=U (.int I Q)/\X.cell? ⟨W.heap.size+1,1,Z⟩=U (.int I P)) (go_keep)
  (first|(go_at_call 106;refine(O _ _ _).mono ?_;rintro e X ⟨rfl,rfl⟩)|(go_at_call 153;refine Calls.mono (or2 _ (cI R P) (cI V Q) _ (Vn _ _ _ _ _ _ _ rfl) (Vn _ _ _ _ _ _ _ rfl)) ?_;rintro e X ⟨rfl,rfl⟩))
 all_goals go_wp2
 all_goals go_ret
 exact⟨rfl,avm _ _ _ _⟩
def or3(b:Nat)(V R Q:Int)(W:World)(F:W.cell? ⟨b,0,Z⟩=U (.int I V))(D:W.cell? ⟨b,1,Z⟩=U (.int I R))(B:W.cell? ⟨b,2,Z⟩=U (.int I Q)):Calls Tryz.prog 153 #[.slice (U ⟨b,0,Z⟩) 3 3] W λe M=>e=.returned (.int I (oA [V,R,Q]))/\M=W:=by
 by_cases P:V=0;have L:(V !=0)=false:=by simp[P]
 by_cases O:R=0;have H:(R !=0)=false:=by simp[O]
 by_cases N:Q=0
 ·have G:(Q !=0)=false:=by simp[N]
  have X:oA [V,R,Q]=0:=by simp[oA,P,O,N]
  rw[X];clear X;clear P O N;go_enter Tryz.func153,Tryz.ntmps153;go_wp2;refine wp_loop_rounds 4 ?_
  iterate 4 (rw[rounds_succ];go_wp2)
  go_ret;exact⟨rfl,rfl⟩
 ·have G:(Q !=0)=true:=by simp[N]
  have X:oA [V,R,Q]=Q:=by simp[oA,P,O,N]
  rw[X];clear X;clear P O N;go_enter Tryz.func153,Tryz.ntmps153;go_wp2;refine wp_loop_rounds 4 ?_
  iterate 3 (rw[rounds_succ];go_wp2)
  go_ret;exact⟨rfl,rfl⟩
 ·have H:(R !=0)=true:=by simp[O]
  have X:oA [V,R,Q]=R:=by simp[oA,P,O]
  rw[X];clear X;clear P O;go_enter Tryz.func153,Tryz.ntmps153;go_wp2;refine wp_loop_rounds 4 ?_
  iterate 2 (rw[rounds_succ];go_wp2)
  go_ret;exact⟨rfl,rfl⟩
 ·have L:(V !=0)=true:=by simp[P]
  have X:oA [V,R,Q]=V:=by simp[oA,P]
  rw[X];clear X;clear P;go_enter Tryz.func153,Tryz.ntmps153;go_wp2;refine wp_loop_rounds 4 ?_
  iterate 1 (rw[rounds_succ];go_wp2)
  go_ret;exact⟨rfl,rfl⟩
def w52(V R Q P O N:Int)(W:World):Calls Tryz.prog 122 #[.agg #[.int I V,.int I R,.int I Q],.agg #[.int I P,.int I O,.int I N]] W λe X=>e=.returned (.int I (oA [Lib.compareInt V P,Lib.compareInt R O,Lib.compareInt Q N]))/\∃q H,X=grow (W.drewN q) H:=by
 have M:=λx y L=>AnyG.cmp_Compare_int Tryz.cmpInt x y L
 change∀x y L,Calls Tryz.prog 106 _ _ _ at M;generalize Lib.compareInt=cI at M⊢;go_enter Tryz.func122,Tryz.ntmps122;go_wp2
 go_region_held3 (λX=>X.cell? ⟨W.heap.size,0,Z⟩=U (.int I V)/\X.cell? ⟨W.heap.size,1,Z⟩=U (.int I R)/\X.cell? ⟨W.heap.size,2,Z⟩=U (.int I Q)/\X.cell? ⟨W.heap.size+1,0,Z⟩=U (.int I P)/\X.cell? ⟨W.heap.size+1,1,Z⟩=U (.int I O)/\X.cell? ⟨W.heap.size+1,2,Z⟩=U (.int I N)) (go_keep)
  (first|(go_at_call 106;refine(M _ _ _).mono ?_;rintro e X ⟨rfl,rfl⟩)|(go_at_call 153;refine Calls.mono (or3 _ (cI V P) (cI R O) (cI Q N) _ (Vn _ _ _ _ _ _ _ rfl) (Vn _ _ _ _ _ _ _ rfl) (Vn _ _ _ _ _ _ _ rfl)) ?_;rintro e X ⟨rfl,rfl⟩))
 all_goals go_wp2
 all_goals go_ret
 exact⟨rfl,avm _ _ _ _⟩
end
section
open Go.Shelf Go.RowKit
open Go.Sort (flatK get_flatK size_flatK HoldsK putRowK size_putRowK grow)
def IV(k:Nat)(x:bA):aE:=(di k).map λi=>RV.mk (.int I (x.getD i 0)) []
def kS(k:Nat)(x:bA):fy:=(di k).map λi=>Value.int I (x.getD i 0)
def akC(k:Nat)(x:bA):(IV k x).length=k:=by simp[IV]
def akD(h:P<X):(IV X L)[P]?=U (RV.mk (.int I (L.getD P 0)) []):=by simp[IV,h]
def aFF(h:P<X):aW P (IV X L)=L.getD P 0:=by
 unfold aW;rw[dM,akD h];rfl
def AE(X:ar)(x y:bA):Int:=oA (X.map λc=>Lib.compareInt (x.getD c 0) (y.getD c 0))
def akE{k:Nat}{x y:bA}:∀{cs:ar},(∀c∈cs,c<k)->decide (AE cs x y<0)=jD E cs (IV k x) (IV k y)
 |[],_=>rfl
 |c::cs,h=>by
  have R:=akE (x:=x) (y:=y) (cs:=cs) (λc W=>h c (by simp[W]));have W:c<k:=h c aw;simp only[AE,dH,oA,jD,aFF W] at R⊢;generalize x.getD c 0=p;generalize y.getD c 0=q;by_cases V:p=q;rw[aH V,aH (by simp[Lib.compareInt,V])];exact R;rw[aS V];by_cases X:p<q;have e:Lib.compareInt p q=-1:=by simp[Lib.compareInt,X]
  simp[e,X];have Q:p>q:=ae;have e:Lib.compareInt p q=1:=by simp[Lib.compareInt,X,Q]
  simp[e,X]
def akF(h:∀c∈H,c<X):Go.Sort.SWO (ltOf (AE H)):=by
 have w:=Ya H E;have e:∀x y,ltOf (AE H) x y=(bu.lex H E).lt (IV X x) (IV X y):=λx y=>akE h
 exact⟨λx=>by rw[e];exact w.X7 _ rfl,λx y z W V=>by rw[e] at*;exact w.tr _ _ _ rfl rfl rfl W V,λx y z W V=>by rw[e] at*;exact w.nt _ _ _ rfl rfl rfl W V⟩
def avn:∀{k:Nat}{X:aE},jW (eu k J) X->Y X=k/\∀c∈X,c=.mk (.int I (bn c.val)) []
 |0,X,h=>by cases h;simp|k+1,[],h=>h.elim
 |k+1,c::r,h=>by
  obtain⟨⟨n,rfl⟩,W⟩:(∃n,c=.mk (.int I n) [])/\jW (eu k J) r:=h;obtain⟨V,R⟩:=avn W;exact⟨by simp[V],λc Q=>(fh.1 Q).elim (λe=>by subst e;rfl) (R c)⟩
def unI(X:aE):bA:=X.map λc=>bn c.val
def aFG(h:jW (eu X J) Q):IV X (unI Q)=Q:=by
 obtain⟨P,V⟩:=avn h;apply kU;intro i;by_cases R:i<X;rw[akD R];have W:i<Y Q:=ae;rw[dG W,V _ (ul W)];simp[unI,dM,W];rw[uk (by rw[akC];omega),uk ae]
def aFH(h:∀x∈N,jW (eu X J) x):∃d:Array bA,N=d.toList.map (IV X):=by
 refine⟨(N.map unI).toArray, ?_⟩;simp only[oX]
 conv=>lhs;rw[<-List.map_id N]
 exact kF λx W=>(aFG (h x W)).symm
def avo(d:Array bA)(W:P<d.size*X):(eF (d.toList.map (IV X)))[P]?=U ((flatK (kS X) X d)[P]!):=by
 have Q:0<X:=by
  rcases Mj X with rfl|h;omega;exact h
 have O:P/X<d.size:=avT (by rw[VM];exact W);have V:P%X<X:=Q0 _ Q;have e:P=P/X*X+P%X:=by have:=awb P X;rw[VM] at this;omega
 have:=RW (w:=X) (rows:=d.toList.map (IV X)) (λi N R=>by
  simp only[et,Vx] at R;obtain⟨x,_,rfl⟩:=R;exact akC X x) (i:=P/X) (j:=P%X) (row:=IV X d[P/X]!) (by simp[O]) (akD V)
 rw[<-e] at this;rw[this,get_flatK _ _ _ _ W];congr 1;have:(kS X d[P/X]!)[P%X]?=U (.int I ((d[P/X]!).getD (P%X) 0)):=by simp[kS,V]
 rw[List.getElem!_eq_getElem?_getD,this];rfl
def aFI(d:Array bA):(eF (d.toList.map (IV X))).length=d.size*X:=by
 have:=CM (w:=X) (rows:=d.toList.map (IV X)) (λi V W=>by
  simp only[et,Vx] at W;obtain⟨x,_,rfl⟩:=W;exact akC X x)
 simpa using this
def aFJ(Q:R.heap[X]?=U (.cells O V (0,0)))(j:Nat):R.frozen? ⟨X,j,Z⟩=false:=by
 simp[VK,Q]
def aFK{Q:Ty}{n N k:Nat}{d:Array bA}(h:bG R Q (.sl X) (.mk (.slice (U ⟨P,0,Z⟩) n N) (d.toList.map (IV k))))(M:R.heap[P]?=U (.cells O X (0,0))):HoldsK (kS k) k R P 0 d:=by
 intro j V;rw[size_flatK] at V;obtain⟨G,F,L,_,H⟩:=RX h j _ (avo d V);cases L;exact⟨H,aFJ M _⟩
def aFL{m:Nat}{d Q:Array bA}{os:Array Obj}(M:R.heap[P]?=U (.cells O V (0,0)))(B:HoldsK (kS X) X R P 0 d)(A:Q.size=d.size):
  R.grownBy (sortWorldK (kS X) X R P 0 m Q os) (U P)/\∃L,(sortWorldK (kS X) X R P 0 m Q os).heap[P]?=U (.cells L V (0,0))/\L.size=O.size/\L.toList.take (Q.size*X)=eF (Q.toList.map (IV X)):=by
 have H:P<R.heap.size:=(lF.1 M).1;have z:(putRowK (kS X) X (Sort.ahead R m) P 0 Q).heap.size=R.heap.size:=by rw[size_putRowK];rfl
 have G:∀i,i<R.heap.size->(sortWorldK (kS X) X R P 0 m Q os).heap[i]?=(R.heap.modify P (Sort.onCells (Sort.putCells id 0 (flatK (kS X) X Q))))[i]?:=by
  intro i F;show(_++os)[i]?=_;rw[aIK (by rw[z];exact F)];rfl
 refine⟨⟨rfl,rfl,rfl, ?_,λi F y=> ?_⟩,Sort.putCells id 0 (flatK (kS X) X Q) O, ?_, ?_, ?_⟩;exact size_sortWorldK_c (kS X) X R P 0 m Q os;rw[G i F,QP,aS (λD=>y (by rw[D]))];rw[G P H,QP,aH rfl,M];rfl;simp[Sort.putCells];have D:=holdsK_sortWorldK_c (kS X) X R P 0 d Q m os B H A;have x:(sortWorldK (kS X) X R P 0 m Q os).heap[P]?=U (.cells (Sort.putCells id 0 (flatK (kS X) X Q) O) V (0,0)):=by rw[G P H,QP,aH rfl,M];rfl
 apply kU;intro q;rw[qg];by_cases N:q<Q.size*X;rw[aH N,avo Q N];have:=(D q (by rw[size_flatK];exact N)).1;simpa[oD,x] using this;rw[aS N,uk (by rw[aFI];omega)]
def avp{lt:aE->aE->Bool}:∀{l:av},vU lt l=J->l.Pairwise (λx y=>lt x y=J\/lt y x=J)
 |[],_=>xo
 |x::r,h=>by
  simp only[vU,aC,gz,lg] at h;exact jO.2 ⟨h.1,avp h.2⟩
def akH{f g:FuncId}{k:Nat}(al:uJ Tryz.prog f=J)(F:bI (look TT) (.sl V)=(eu k J).map Gx)(hc:∀c∈H,c<k)
  (an:∀p R fv W,Calls Tryz.prog f #[.slice p 0 R,fv] W λP D=>P=.returned (.tuple #[])/\D=W)
  (a0:∀(b R:Nat)(d:Array bA)(W:World),HoldsK (kS k) k W b 0 d->b<W.heap.size->d.size<4611686018427387904->Calls Tryz.prog f #[.slice (U ⟨b,0,Z⟩) d.size R,.func (.func g) #[] #[]] W λP D=>P=.returned (.tuple #[])/\∃X n B,Go.Sort.PermIn 0 d.size d X/\Go.Sort.SortedIn (ltOf (AE H)) 0 d.size X/\D=sortWorldK (kS k) k W b 0 n X B):
  rj Tryz.prog (look TT) f g V (.lex H E) false:=by
 refine⟨xO al,λW A n R w aF O ns bk v u L t=> ?_⟩;cases ns with
 |cons _ _=>simp[bu.fill] at v
 |nil=>
  simp only[bu.fill,dW] at v;subst v;have t:ip (.lex H E) E w=U aF:=t;obtain⟨hl,bl⟩:=uE u;have hk:(bI (look TT) (.sl V)).length=k:=by rw[F];simp
  rw[hk] at L⊢;have Q:=akx t;simp only[ip] at Q;split at Q
  case isFalse=>cases Q
  rename_i o;simp only[aC,dD,lg,jX,false_or] at o;obtain⟨l,_,a⟩:=o;have Q:=nE Q;have br:Y aF=Y w:=by rw[<-B7 aF,<-Q,pN,B7]
  by_cases hn:n=0;subst hn;have h0:aF=[]:=ui ae;subst h0;refine(an A R _ W).mono ?_;rintro P W' ⟨rfl,rfl⟩;refine⟨rfl,⟨rfl,rfl,rfl,cd _,λ_ _ _=>rfl⟩,⟨rN _,L.nil, ?_⟩⟩;rcases L.mem with h|⟨b,db,rfl,N,s,r⟩;exact .inl h;cases R with|zero=>exact .inl rfl|succ c=>exact .inr ⟨b,db,rfl,N,s,r,by simp[eF],.inr rfl⟩
  rcases L.mem with h|⟨b,db,rfl,N,s,r⟩;omega;have hp:∀(j:Nat)(z:Value)(q:RK),(bI (look TT) (.sl V))[j]?≠U (.bw z q):=by
   intro j z q M;rw[F,et] at M;cases G:(eu k J)[j]? with|none=>rw[G] at M;cases M|some b=>rw[G] at M;cases b<;>simp[Gx] at M
  have aa:=auM hp u;obtain⟨d,hd⟩:=aFH (auL F (fU.zx u));have ab:d.size=n:=by
   have h3:(fD w).length=(d.toList.map (IV k)).length:=jY Y hd;rw[B7,oW,GF] at h3;exact h3.symm.trans hl
  rw[hd] at aa Q a l;have ac:=aFK aa N;have G:b<W.heap.size:=(lF.1 N).1;have a1:mW (U ⟨b,0,Z⟩) R=U b:=by
   cases R with|zero=>omega|succ c=>rfl
  have af:=a0 b R d W ac G (by simp at l;omega);rw[ab] at af;refine Calls.mono af ?_;rintro P W' ⟨rfl,X,m,B,ag,a3,rfl⟩;have hs:X.size=d.size:=ag.1;obtain⟨g1,a4,g2,g3,g4⟩:=aFL (m:=m) (os:=B) N ac hs;have a9:X.toList.Perm d.toList:=by
   have:=ag.2.2;rw[<-ab] at this;have e1:X.extract 0 d.size=X:=by rw[<-hs];exact aJa
   have e2:d.extract 0 d.size=d:=aJa
   rwa [e1,e2] at this
  have ba:gT (bu.lex H E).lt (X.toList.map (IV k)):=by
   refine akZ.2 (aca.2 λi j hi hj bb=> ?_);have bc:j<X.size:=by simpa using hj
   have bd:i<X.size:=by simpa using hi
   have:=a3 i j (rN _) bb ae;have V:=akE (k:=k) (x:=X[j]) (y:=X[i]) hc;rw[getElem!_pos X j bc,getElem!_pos X i bd] at this;show jD E H (IV k X.toList[j]) (IV k X.toList[i])=E;rw[aIZ,aIZ,<-V];exact this
  have bf:X.toList.map (IV k)=fD aF:=by
   rw[<-Q,<-att (lt:=(bu.lex H E).lt) (ajA E H) (ajB E H) (a9.map (IV k)) (avp a)];exact(X8 ba).symm
  rw[a1];refine⟨rfl,g1,⟨ae,λh=>(by cases h),.inr ⟨b,a4,rfl,g2,s,by rw[g3,r], ?_,.inr rfl⟩⟩⟩;have bg:Y aF=X.size:=ae;rw[bg,g4,bf,auJ]
end
section
open Go.Shelf Go.RowKit
open Go.Sort (HoldsK)
def Tryz.sortOb_ren:Go.Shelf.Ren:=⟨λ|6=>121|15=>132|14=>152|28=>168|29=>169|20=>186|21=>187|22=>188|23=>189|24=>190|25=>191|26=>192|27=>193|46=>224|47=>198|48=>199|49=>225|50=>226|57=>256|n=>n,λ|22=>248|24=>244|25=>250|3=>3|39=>149|0=>0|53=>311|55=>313|4=>4|46=>305|45=>304|50=>50|5=>5|9=>9|66=>344|70=>71|76=>384|77=>385|n=>n,λ|n=>n⟩
def Tryz.sortOb:Go.Proofs.SlLaysF0.n6 Tryz.prog Tryz.sortOb_ren:={mixed:=aT,f6:=⟨Tryz.f121.name,ew,ez Tryz.func121 aT⟩,f14:=⟨Tryz.f152.name,ew,ez Tryz.func152 aT⟩,f15:=ez Tryz.func132 aT,f20:=⟨Tryz.f186.name,ew,ez Tryz.func186 aT⟩,f21:=⟨Tryz.f187.name,ew,ez Tryz.func187 aT⟩,f22:=⟨Tryz.f188.name,ew,ez Tryz.func188 aT⟩,f23:=⟨Tryz.f189.name,ew,ez Tryz.func189 aT⟩,f24:=⟨Tryz.f190.name,ew,ez Tryz.func190 aT⟩,f25:=⟨Tryz.f191.name,ew,ez Tryz.func191 aT⟩,f26:=⟨Tryz.f192.name,ew,ez Tryz.func192 aT⟩,f27:=⟨Tryz.f193.name,ew,ez Tryz.func193 aT⟩,f28:=ez Tryz.func168 aT,f29:=ez Tryz.func169 aT,f46:=⟨Tryz.f224.name,ew,ez Tryz.func224 aT⟩,f47:=ez Tryz.func198 aT,f48:=ez Tryz.func199 aT,f49:=⟨Tryz.f225.name,ew,ez Tryz.func225 aT⟩,f50:=⟨Tryz.f226.name,ew,ez Tryz.func226 aT⟩,f57:=⟨Tryz.f256.name,ew,ez Tryz.func256 aT⟩,t0:=Tryz.underlying0,a0:=Tryz.isAgg0,z0:=Tryz.sizeOf0,v0:=Tryz.zeroValue0,t3:=Tryz.underlying3,a3:=Tryz.isAgg3,z3:=Tryz.sizeOf3,v3:=Tryz.zeroValue3,t4:=Tryz.underlying4,a4:=Tryz.isAgg4,z4:=Tryz.sizeOf4,v4:=Tryz.zeroValue4,t5:=Tryz.underlying5,a5:=Tryz.isAgg5,z5:=Tryz.sizeOf5,v5:=Tryz.zeroValue5,t9:=Tryz.underlying9,a9:=Tryz.isAgg9,z9:=Tryz.sizeOf9,v9:=Tryz.zeroValue9,t22:=Tryz.underlying248,a22:=Tryz.isAgg248,z22:=Tryz.sizeOf248,v22:=Tryz.zeroValue248,t25:=Tryz.underlying250,a25:=Tryz.isAgg250,z25:=Tryz.sizeOf250,v25:=Tryz.zeroValue250,t39:=Tryz.underlying149,a39:=Tryz.isAgg149,z39:=Tryz.sizeOf149,v39:=Tryz.zeroValue149,t45:=Tryz.underlying304,a45:=Tryz.isAgg304,z45:=Tryz.sizeOf304,v45:=Tryz.zeroValue304,t46:=Tryz.underlying305,a46:=Tryz.isAgg305,z46:=Tryz.sizeOf305,v46:=Tryz.zeroValue305,t50:=Tryz.underlying50,a50:=Tryz.isAgg50,z50:=Tryz.sizeOf50,v50:=Tryz.zeroValue50,t53:=Tryz.underlying311,a53:=Tryz.isAgg311,z53:=Tryz.sizeOf311,v53:=Tryz.zeroValue311,t55:=Tryz.underlying313,a55:=Tryz.isAgg313,z55:=Tryz.sizeOf313,v55:=Tryz.zeroValue313,t66:=Tryz.underlying344,a66:=Tryz.isAgg344,z66:=Tryz.sizeOf344,v66:=Tryz.zeroValue344,t70:=Tryz.underlying71,a70:=Tryz.isAgg71,z70:=Tryz.sizeOf71,v70:=Tryz.zeroValue71,t76:=Tryz.underlying384,a76:=Tryz.isAgg384,z76:=Tryz.sizeOf384,v76:=Tryz.zeroValue384,t77:=Tryz.underlying385,a77:=Tryz.isAgg385,z77:=Tryz.sizeOf385,v77:=Tryz.zeroValue385}
def Tryz.sortBr_ren:Go.Shelf.Ren:=⟨λ|6=>214|15=>132|14=>245|28=>168|29=>169|20=>264|21=>265|22=>266|23=>267|24=>268|25=>269|26=>270|27=>271|46=>277|47=>198|48=>199|49=>278|50=>279|57=>283|n=>n,λ|22=>288|24=>292|25=>331|3=>3|39=>149|0=>0|53=>311|55=>313|4=>4|46=>305|45=>304|50=>50|5=>5|9=>9|66=>344|70=>71|76=>384|77=>385|n=>n,λ|n=>n⟩
def Tryz.sortBr:Go.Proofs.SlLaysF0.n6 Tryz.prog Tryz.sortBr_ren:={mixed:=aT,f6:=⟨Tryz.f214.name,ew,ez Tryz.func214 aT⟩,f14:=⟨Tryz.f245.name,ew,ez Tryz.func245 aT⟩,f15:=ez Tryz.func132 aT,f20:=⟨Tryz.f264.name,ew,ez Tryz.func264 aT⟩,f21:=⟨Tryz.f265.name,ew,ez Tryz.func265 aT⟩,f22:=⟨Tryz.f266.name,ew,ez Tryz.func266 aT⟩,f23:=⟨Tryz.f267.name,ew,ez Tryz.func267 aT⟩,f24:=⟨Tryz.f268.name,ew,ez Tryz.func268 aT⟩,f25:=⟨Tryz.f269.name,ew,ez Tryz.func269 aT⟩,f26:=⟨Tryz.f270.name,ew,ez Tryz.func270 aT⟩,f27:=⟨Tryz.f271.name,ew,ez Tryz.func271 aT⟩,f28:=ez Tryz.func168 aT,f29:=ez Tryz.func169 aT,f46:=⟨Tryz.f277.name,ew,ez Tryz.func277 aT⟩,f47:=ez Tryz.func198 aT,f48:=ez Tryz.func199 aT,f49:=⟨Tryz.f278.name,ew,ez Tryz.func278 aT⟩,f50:=⟨Tryz.f279.name,ew,ez Tryz.func279 aT⟩,f57:=⟨Tryz.f283.name,ew,ez Tryz.func283 aT⟩,t0:=Tryz.underlying0,a0:=Tryz.isAgg0,z0:=Tryz.sizeOf0,v0:=Tryz.zeroValue0,t3:=Tryz.underlying3,a3:=Tryz.isAgg3,z3:=Tryz.sizeOf3,v3:=Tryz.zeroValue3,t4:=Tryz.underlying4,a4:=Tryz.isAgg4,z4:=Tryz.sizeOf4,v4:=Tryz.zeroValue4,t5:=Tryz.underlying5,a5:=Tryz.isAgg5,z5:=Tryz.sizeOf5,v5:=Tryz.zeroValue5,t9:=Tryz.underlying9,a9:=Tryz.isAgg9,z9:=Tryz.sizeOf9,v9:=Tryz.zeroValue9,t22:=Tryz.underlying288,a22:=Tryz.isAgg288,z22:=Tryz.sizeOf288,v22:=Tryz.zeroValue288,t25:=Tryz.underlying331,a25:=Tryz.isAgg331,z25:=Tryz.sizeOf331,v25:=Tryz.zeroValue331,t39:=Tryz.underlying149,a39:=Tryz.isAgg149,z39:=Tryz.sizeOf149,v39:=Tryz.zeroValue149,t45:=Tryz.underlying304,a45:=Tryz.isAgg304,z45:=Tryz.sizeOf304,v45:=Tryz.zeroValue304,t46:=Tryz.underlying305,a46:=Tryz.isAgg305,z46:=Tryz.sizeOf305,v46:=Tryz.zeroValue305,t50:=Tryz.underlying50,a50:=Tryz.isAgg50,z50:=Tryz.sizeOf50,v50:=Tryz.zeroValue50,t53:=Tryz.underlying311,a53:=Tryz.isAgg311,z53:=Tryz.sizeOf311,v53:=Tryz.zeroValue311,t55:=Tryz.underlying313,a55:=Tryz.isAgg313,z55:=Tryz.sizeOf313,v55:=Tryz.zeroValue313,t66:=Tryz.underlying344,a66:=Tryz.isAgg344,z66:=Tryz.sizeOf344,v66:=Tryz.zeroValue344,t70:=Tryz.underlying71,a70:=Tryz.isAgg71,z70:=Tryz.sizeOf71,v70:=Tryz.zeroValue71,t76:=Tryz.underlying384,a76:=Tryz.isAgg384,z76:=Tryz.sizeOf384,v76:=Tryz.zeroValue384,t77:=Tryz.underlying385,a77:=Tryz.isAgg385,z77:=Tryz.sizeOf385,v77:=Tryz.zeroValue385}
def aFM(a:Int):oA [a]=a:=by
 simp only[oA];split<;>omega
def aFN(b:Nat)(X:Nat)(w:World):CmpLays Tryz.prog 105 #[] (kS 14) 14 (AE [0]) b 0 X w:=λm W V R x y=>by
 have h:=aFx (x.getD 0 0) (x.getD 1 0) (x.getD 2 0) (x.getD 3 0) (x.getD 4 0) (x.getD 5 0) (x.getD 6 0) (x.getD 7 0) (x.getD 8 0) (x.getD 9 0) (x.getD 10 0) (x.getD 11 0) (x.getD 12 0) (x.getD 13 0) (y.getD 0 0) (y.getD 1 0) (y.getD 2 0) (y.getD 3 0) (y.getD 4 0) (y.getD 5 0) (y.getD 6 0) (y.getD 7 0) (y.getD 8 0) (y.getD 9 0) (y.getD 10 0) (y.getD 11 0) (y.getD 12 0) (y.getD 13 0) (sortWorldK (kS 14) 14 w b 0 m V W);have e:AE [0] x y=Lib.compareInt (x.getD 0 0) (y.getD 0 0):=aFM _;rw[e];exact h
def aFO(b:Nat)(X:Nat)(w:World):CmpLays Tryz.prog 181 #[] (kS 2) 2 (AE [1,0]) b 0 X w:=λm W V R x y=>
 aFC (x.getD 0 0) (x.getD 1 0) (y.getD 0 0) (y.getD 1 0) (sortWorldK (kS 2) 2 w b 0 m V W)
def aFP(b:Nat)(X:Nat)(w:World):CmpLays Tryz.prog 122 #[] (kS 3) 3 (AE [0,1,2]) b 0 X w:=λm W V R x y=>
 w52 (x.getD 0 0) (x.getD 1 0) (x.getD 2 0) (y.getD 0 0) (y.getD 1 0) (y.getD 2 0) (sortWorldK (kS 3) 3 w b 0 m V W)
def akI(k:Nat)(x:bA):(kS k x).length=k:=by simp[kS]
def akJ(k:Nat)(x:bA):∀v∈kS k x,v.oneCell'=true:=by
 intro v X;simp only[kS,fw] at X;obtain⟨i,_,rfl⟩:=X;rfl
def aFQ:rj Tryz.prog (look TT) 104 105 89 (.lex [0] E) false:=by
 have V:∀c∈[0],c<14:=aw;refine akH (k:=14) aT aT V (λp X R W=> ?_) (λb X d W Q P O=> ?_);have h:=AnyF.slices_SortFunc_none Tryz.sortSg p X R W;exact h;have h:=AnyQ.slices_SortFunc Tryz.sortSg 14 Tryz.isAgg89 Tryz.sizeOf89 (kS 14) (akI 14) (akJ 14) (AE [0]) (akF V) 105 #[] b 0 X d W (enters_of Tryz.func105 aT rfl) (aFN b d.size W) Q P O;exact h
def aFR:rj Tryz.prog (look TT) 121 122 244 (.lex [0,1,2] E) false:=by
 have V:∀c∈[0,1,2],c<3:=aw;refine akH (k:=3) aT aT V (λp X R W=> ?_) (λb X d W Q P O=> ?_);have h:=AnyF.slices_SortFunc_none Tryz.sortOb p X R W;exact h;have h:=AnyQ.slices_SortFunc Tryz.sortOb 3 Tryz.isAgg244 Tryz.sizeOf244 (kS 3) (akI 3) (akJ 3) (AE [0,1,2]) (akF V) 122 #[] b 0 X d W (enters_of Tryz.func122 aT rfl) (aFP b d.size W) Q P O;exact h
def aFS:rj Tryz.prog (look TT) 214 181 292 (.lex [1,0] E) false:=by
 have V:∀c∈[1,0],c<2:=aw;refine akH (k:=2) aT aT V (λp X R W=> ?_) (λb X d W Q P O=> ?_);have h:=AnyF.slices_SortFunc_none Tryz.sortBr p X R W;exact h;have h:=AnyQ.slices_SortFunc Tryz.sortBr 2 Tryz.isAgg292 Tryz.sizeOf292 (kS 2) (akI 2) (akJ 2) (AE [1,0]) (akF V) 181 #[] b 0 X d W (enters_of Tryz.func181 aT rfl) (aFO b d.size W) Q P O;exact h
def Mg:ue ug:=by
 intro x X;simp only[ug,fh,VF,or_false] at X;rcases X with rfl|rfl|rfl|rfl|rfl|rfl;exact nM.of aFR uo;exact nM.of aFs uo;exact nM.of aFQ uo;exact nM.of aFS uo;exact nM.of aFw uo;unfold nM;rw[aH rfl];exact aFA
end
theorem aFT:cg 58 E E T18:=tk Tryz.func58
theorem aFU:cg 40 E E T37:=tk Tryz.func40 (loops:=[(40,9,⟨[(62,.int I)],[]⟩),(40,16,⟨[(90,.int I),(6,.int I)],[]⟩)])
theorem aFV:cg 110 E E T86:=tk Tryz.func110
theorem aFW:cg 111 E E T87:=tk Tryz.func111
theorem aFX:cg 112 E E T88:=tk Tryz.func112
theorem aFY:cg 146 E E aiJ:=tk Tryz.func146
theorem aFZ:cg 176 E E aiK:=tk Tryz.func176 (loops:=[(176,2,⟨[(8,.int I)],[]⟩)])
theorem aF0:cg 147 E E aiL:=tk Tryz.func147 (loops:=[(147,3,⟨[(16,.int I)],[]⟩)])
theorem aF1:cg 184 E E aiM:=tk Tryz.func184
theorem aF2:cg 64 E E aiN:=tk Tryz.func64 (loops:=[(64,4,⟨[(20,.int I)],[]⟩)])
theorem aF3(X:ue ug):cg 73 E E T77:=tk Tryz.func73 (loops:=[(73,7,⟨[(35,.int I),(6,.ak (.own 89))],[]⟩)]) (srts:=ug) (hsr:=X)
theorem aF4:cg 107 E E aiP:=tk Tryz.func107
theorem aF5:cg 133 E E aiQ:=tk Tryz.func133
theorem aF6:cg 90 E E aiR:=tk Tryz.func90
theorem aF7:cg 43 E E T25:=tk Tryz.func43 (inl:=[69,97,68])
theorem aF8(X:ue ug):cg 74 E E aaT:=tk Tryz.func74 (loops:=[(74,6,⟨[(22,.int I),(4,.ak (.own 227))],[]⟩),(74,9,⟨[(28,.int I),(4,.ak (.own 227))],[]⟩)]) (inl:=[103]) (srts:=ug) (hsr:=X)
theorem aF9:cg 174 E E ai2:=tk Tryz.func174 (loops:=[(204,3,⟨[(9,.int I),(10,.int I)],[]⟩)]) (inl:=[204,205])
