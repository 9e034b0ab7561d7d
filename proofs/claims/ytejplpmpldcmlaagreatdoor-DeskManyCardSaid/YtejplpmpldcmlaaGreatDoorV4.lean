/- Part 4 of the proof; the last part says what is shown. -/
import Derived.Test.YtejplpmpldcmlaaGreatDoorV3
set_option linter.all false
set_option maxRecDepth 100000
set_option maxHeartbeats 100000000
open Bool renaming and_eq_true->aw,not_eq_true'->iw,false_eq_true->jB,or_eq_true->jL,true_or->avR,true->J,false->E
open List renaming getD_eq_getElem?_getD->cw,getElem?_eq_some_iff->cu,getElem?_eq_getElem->cP,getElem?_append_left->dN,getElem?_append_right->iJ,cons_append->ef,nil_append->eK,mem_append->eW,mem_cons->dV,replicate->eF,length_append->gP,all_eq_true->fZ,pairwise_cons->jC,range->e8,pairwise_append->oc,getElem?_take->nD,getElem?_of_mem->tO,getElem?_drop->uN,length_eq_zero_iff->E1,append_assoc->Bn,length_drop->Df,pairwise_iff_getElem->Oe,take_append_drop->J9,length_take->E4,foldl_cons->E5,length_pos_iff->Og,append_nil->Kb,length_singleton->ZC,drop_drop->Ol,pairwise_singleton->aI0,length->Y
open Nat renaming le_refl->bY,eq_zero_or_pos->Bm,gcd->lG,mod_lt->Hy,gcd_comm->Oq,gcd_rec->ZU
open Option renaming some->U,none->Z
open Int renaming tmod_eq_emod_of_nonneg->Zz,mul_le_mul_of_nonneg_right->ai5,natAbs_tmod->Kc,mul_lt_mul_of_pos_right->aIS,fdiv_eq_ediv_of_nonneg->aIU
open List.Pairwise renaming nil->xR
open List.Perm renaming refl->avO,swap->aJs
open Go.IntKind renaming i64->I
namespace Go.Proofs.YtejplpmpldcmlaaGreatDoor.Y
open Go.RowKit
noncomputable section
variable{X P:ar}{Q:Nat}{W:FuncId}{V:bv}
section
variable{lt:aF->aF->Bool}{p:aF->Prop}
structure mc(lt:aF->aF->Bool)(p:aF->Prop):Prop where
 Vg:∀x,p x->lt x x=E
 tr:∀x y z,p x->p y->p z->lt x y=J->lt y z=J->lt x z=J
 nt:∀x y z,p x->p y->p z->lt x y=E->lt y z=E->lt x z=E
def mc.asym(h:mc lt p){x y:aF}(X:p x)(W:p y)(V:lt x y=J):lt y x=false:=by
 cases R:lt y x;rfl;have:=h.tr x y x X W X V R;rw[h.Vg x X] at this;cases this
def anZ(h:mc lt p){x y:aF}(W:p x)(V:p y)(X:lt y x=J):∀{l:ar},(∀z∈l,p z)->eI lt y (eI lt x l)=eI lt x (eI lt y l)
 |[],_=>by
  have R:=h.asym V W X;simp[eI,X,R]
 |z::r,O=>by
  have N:=O z av;have M:=anZ h W V X (l:=r) (λw L=>O w (by simp[L]));have R:=h.asym V W X;cases Q:lt x z;cases P:lt y z;simp[eI,Q,P,M];simp[eI,Q,P,R];have P:lt y z=true:=h.tr y x z V W N X Q;simp[eI,Q,P,X,R]
inductive gJ(lt:List RV->List RV->Bool)(l:List (List RV)):List (List RV)->Prop
 |refl:gJ lt l l
 |step {P Q:List (List RV)} {x y:List RV}:lt y x=J->gJ lt l (P++x::y::Q)->gJ lt l (P++y::x::Q)
def gJ.trans{b:ar}(W:gJ lt X b)(V:gJ lt b P):gJ lt X P:=by
 induction V with
 |refl=>exact W
 |step h _ R=>exact .step h R
def gJ.LX(A B:ar)(h:gJ lt X P):gJ lt (A++X++B) (A++P++B):=by
 induction h with
 |refl=>exact .refl
 | @step W Q x y h _ V=>
  have R:A++(W++x::y::Q)++B=(A++W)++x::y::(Q++B):=av;have O:A++(W++y::x::Q)++B=(A++W)++y::x::(Q++B):=av;rw[R] at V;rw[O];exact .step h V
def gJ.perm(h:gJ lt X P):P.Perm X:=by
 induction h with
 |refl=>exact avO _
 |step _ _ W=>exact((aJs _ _ _).append_left _).trans W
def gJ.an1(P:ar)(b:aF):∀(A Q:ar),(∀a∈A,lt b a=J)->gJ lt (P++A.reverse++b::Q) (P++b::(A.reverse++Q))
 |[],Q,_=>by simpa using gJ.refl
 |a::A,Q,h=>by
  have X:gJ lt (P++(a::A).reverse++b::Q) ((P++A.reverse)++b::a::Q):=by
   have:P++(a::A).reverse++b::Q=(P++A.reverse)++a::b::Q:=av;rw[this];exact .step (h a av) .refl
  have W:=gJ.an1 P b A (a::Q) (λx V=>h x (by simp[V]));have e:P++b::((a::A).reverse++Q)=P++b::(A.reverse++a::Q):=av;rw[e];exact X.trans W
def gJ.one(P Q:ar)(b:aF)(A:ar)(h:∀a∈A,lt b a=J):gJ lt (P++A++b::Q) (P++b::(A++Q)):=by
 have:=gJ.an1 (lt:=lt) P b A.reverse Q (λa X=>h a (by simpa using X));simpa using this
def gJ.block(Q:ar)(A:ar):∀(B P:ar),(∀a∈A,∀b∈B,lt b a=J)->gJ lt (P++A++(B++Q)) (P++B++(A++Q))
 |[],P,_=>by simpa using gJ.refl
 |b::B,P,h=>by
  have W:=gJ.one P (B++Q) b A (λa X=>h a X b av);have V:=gJ.block Q A B (P++[b]) (λa X R O=>h a X R (by simp[O]));have N:P++b::(A++(B++Q))=P++[b]++A++(B++Q):=av;have M:P++b::B++(A++Q)=P++[b]++B++(A++Q):=av;rw[N] at W;rw[M];exact W.trans V
def yB(lt:aF->aF->Bool)(acc l:ar):ar:=l.foldl (λacc x=>eI lt x acc) acc
def azX{acc:ar}(R:∀z∈acc,p z)(Q:∀z∈X,p z):∀z∈yB lt acc X,p z:=by
 induction X generalizing acc with
 |nil=>exact R
 |cons x X W=>
  refine W (acc:=eI lt x acc) (λz V=> ?_) (λz V=>Q z (by simp[V]));have P:∀{X:ar},z∈eI lt x X->z=x\/z∈X:=by
   intro X;induction X with
   |nil=>intro h;simpa[eI] using h
   |cons y r W=>
    intro h;simp only[eI] at h;split at h;simpa using h;rcases dV.1 h with h|h;exact .inr (by simp[h]);rcases W h with h|h;exact .inl h;exact .inr (by simp[h])
  rcases P V with rfl|h;exact Q _ av;exact R z h
def gJ.fold(h:mc lt p)(V:gJ lt X P){acc:ar}(M:∀z∈X,p z)(L:∀z∈acc,p z):yB lt acc P=yB lt acc X:=by
 induction V with
 |refl=>rfl
 | @step W Q x y H V G=>
  rw[<-G];have R:=λz(O:z∈W++x::y::Q)=>M z (V.perm.mem_iff.1 O)
  have N:∀z∈yB lt acc W,p z:=azX L λz O=>R z (by simp[O])
  simp only[yB,List.foldl_append,E5] at N⊢;rw[anZ h (R x av) (R y av) H N]
def gW(lt:aF->aF->Bool)(l:ar):Prop:=l.Pairwise λa b=>lt b a=E
def an2{x:aF}:∀{l:ar},(∀y∈l,lt x y=E)->eI lt x l=l++[x]
 |[],_=>rfl
 |y::r,h=>by
  have X:=h y av;simp[eI,X,an2 (l:=r) λz W=>h z (by simp[W])]
def azY:∀{acc:ar},gW lt (acc++X)->yB lt acc X=acc++X:=by
 induction X with
 |nil=>intro acc _;simp[yB]
 |cons x X W=>
  intro acc h;have V:∀y∈acc,lt x y=false:=λy R=>(oc.1 h).2.2 y R x av
  have e:acc++x::X=(acc++[x])++X:=av;rw[e] at h⊢;rw[<-W h];simp only[yB,E5];rw[an2 V]
def Vh(h:gW lt X):bT lt X=X:=azY (acc:=[]) h
def Qe{x z:aF}:∀{l:ar},z∈eI lt x l->z=x\/z∈l
 |[],h=>by simpa[eI] using h
 |y::r,h=>by
  simp only[eI] at h;split at h;simpa using h;rcases dV.1 h with h|h;exact .inr (by simp[h]);rcases Qe h with h|h;exact .inl h;exact .inr (by simp[h])
def gW.ins(h:mc lt p){x:aF}(W:p x):∀{l:ar},(∀z∈l,p z)->gW lt l->gW lt (eI lt x l)
 |[],_,_=>aI0 _ _
 |y::r,V,Q=>by
  have P:=V y av;have R:=jC.1 Q;simp only[eI];cases O:lt x y;refine jC.2 ⟨λz X=> ?_,gW.ins h W (λz X=>V z (by simp[X])) R.2⟩;rcases Qe X with rfl|X;exact O;exact R.1 z X;refine jC.2 ⟨λz X=> ?_,Q⟩;have N:=h.asym W P O;rcases dV.1 X with rfl|X;exact N;exact h.nt z y x (V z (by simp[X])) P W (R.1 z X) N
def gW.fold(h:mc lt p):∀{acc:ar},(∀z∈acc,p z)->(∀z∈X,p z)->gW lt acc->gW lt (yB lt acc X):=by
 induction X with
 |nil=>intro acc _ _ h;exact h
 |cons x X Q=>
  intro acc R V P;refine Q (acc:=eI lt x acc) (λz W=> ?_) (λz W=>V z (by simp[W])) (P.ins h (V x av) R);rcases Qe W with rfl|W;exact V _ av;exact R z W
def D9(h:mc lt p){l:ar}(X:∀z∈l,p z):gW lt (bT lt l):=gW.fold h (acc:=[]) av X xR
def gJ.ins(h:mc lt p){x:aF}(V:p x):∀{l:ar},(∀z∈l,p z)->gW lt l->gJ lt (l++[x]) (eI lt x l)
 |[],_,_=>.refl
 |y::r,W,P=>by
  have O:=W y av;have R:=jC.1 P;simp only[eI];cases Q:lt x y;have:=(gJ.ins h V (l:=r) (λz X=>W z (by simp[X])) R.2).LX [y] [];simpa using this;have:=gJ.one (lt:=lt) [] [] x (y::r) (λz X=>by
   rcases dV.1 X with rfl|X;exact Q;cases N:lt x z;have:=h.nt x z y V (W z (by simp[X])) O N (R.1 z X);rw[Q] at this;cases this;rfl)
  simpa using this
def gJ.azZ(h:mc lt p):∀{acc:ar},(∀z∈acc,p z)->(∀z∈X,p z)->gW lt acc->gJ lt (acc++X) (yB lt acc X):=by
 induction X with
 |nil=>intro acc _ _ _;simpa[yB] using gJ.refl
 |cons x X P=>
  intro acc R V Q;have O:=(gJ.ins h (V x av) R Q).LX [] X;have N:=P (acc:=eI lt x acc) (λz W=>by
   rcases Qe W with rfl|W;exact V _ av;exact R z W) (λz W=>V z (by simp[W])) (Q.ins h (V x av) R)
  have e:acc++x::X=[]++(acc++[x])++X:=av;rw[e];refine O.trans ?_;rw[eK];exact N
def gJ.Vi(h:mc lt p)(W:∀z∈X,p z):gJ lt X (bT lt X):=by
 exact gJ.azZ h (acc:=[]) av W xR
def ac9(h:mc lt p)(W:∀z∈X,p z)(V:gJ lt X P)(R:gW lt P):bT lt X=P:=by
 rw[<-Vh R];exact(V.fold h (acc:=[]) W av).symm
def ID{z:aF}(h:z∈bT lt X):z∈X:=by
 have:∀(X acc:ar),z∈yB lt acc X->z∈acc\/z∈X:=by
  intro X;induction X with
  |nil=>intro acc h;exact .inl h
  |cons x X W=>
   intro acc h;rcases W (eI lt x acc) h with h|h;rcases Qe h with rfl|h;exact .inr av;exact .inl h;exact .inr (by simp[h])
 rcases this X [] h with h|h;cases h;exact h
def az0(h:mc lt p){x:aF}(R:∀z∈x::(X++P),p z)(N:gW lt (X++P))(O:∀y∈X,lt y x=J)(M:∀y∈P,lt y x=E):bT lt (x::(X++P))=X++x::P:=by
 refine ac9 h R ?_ ?_;have:=gJ.block (lt:=lt) P [x] X [] (λa W b V=>by simp at W;subst W;exact O b V);simpa using this;have Q:=oc.1 N;refine oc.2 ⟨Q.1,jC.2 ⟨M,Q.2.1⟩,λa W b V=> ?_⟩;rcases dV.1 V with rfl|V;exact h.asym (R a (by simp[W])) (R b av) (O a W);exact Q.2.2 a W b V
def az1(h:mc lt p){y:aF}(V:∀z∈X++P++[y],p z)(N:gW lt (X++P))(M:∀x∈X,lt y x=E)(Q:∀x∈P,lt y x=J):bT lt (X++P++[y])=X++y::P:=by
 refine ac9 h V ?_ ?_;have:=gJ.one (lt:=lt) X [] y P Q;simpa using this;have R:=oc.1 N;refine oc.2 ⟨R.1,jC.2 ⟨λb W=>h.asym (V y av) (V b (by simp[W])) (Q b W),R.2.1⟩,λa O b W=> ?_⟩;rcases dV.1 W with rfl|W;exact M a O;exact R.2.2 a O b W
def az2(h:mc lt p){R Q:ar}(O:∀z∈X++P++(R++Q),p z)(D:gW lt (X++P))(B:gW lt (R++Q))(A:∀x∈X,∀y∈Q,lt y x=E)(H:∀x∈P,∀y∈R,lt y x=J):
  bT lt (X++P++(R++Q))=bT lt (X++R)++bT lt (P++Q):=by
 have w:=oc.1 D;have v:=oc.1 B;have N:∀z∈X++R,p z:=λz M=>O z (by rcases eW.1 M with h|h<;>simp[h])
 have L:∀z∈P++Q,p z:=λz M=>O z (by rcases eW.1 M with h|h<;>simp[h])
 refine ac9 h O ?_ ?_;have u:=gJ.block (lt:=lt) Q P R X H;have G:=(gJ.Vi h N).LX [] (P++Q);have F:=(gJ.Vi h L).LX (bT lt (X++R)) [];simp only[eK,Kb] at G F;exact(u.trans G).trans F;refine oc.2 ⟨D9 h N,D9 h L,λa V b W=> ?_⟩;have V:=ID V;have W:=ID W;have t:=N a V;have s:=L b W;rcases eW.1 V with V|V;rcases eW.1 W with W|W;exact w.2.2 a V b W;exact A a V b W;rcases eW.1 W with W|W;exact h.asym t s (H b W a V);exact v.2.2 a V b W
def an3(h:mc lt p)(W:∀z∈X,p z)(V:∀z∈P,p z):bT lt (bT lt X++bT lt P)=bT lt (X++P):=by
 have R:=(gJ.Vi h W).LX [] P;have Q:=(gJ.Vi h V).LX (bT lt X) [];simp only[eK,Kb] at R Q;exact(R.trans Q).fold h (acc:=[]) (λz O=>by exact(eW.1 O).elim (W z) (V z)) av
end
section
def an4(d:Bool):∀(Q:aq)(x y z:aF),jR d Q x y=E->jR d Q y z=E->jR d Q x z=E
 |[],_,_,_,_,_=>rfl
 |c::Q,x,y,z,V,X=>by
  simp only[jR] at V X⊢;by_cases R:aM c x=aM c y;rw[aL R] at V;by_cases W:aM c y=aM c z;rw[aL W] at X;rw[aL (R.trans W)];exact an4 d Q x y z V X;rw[aT W] at X;rw[aT (by rw[R];exact W),R];exact X;rw[aT R] at V;by_cases W:aM c y=aM c z;rw[aT (by rw[<-W];exact R),<-W];exact V;rw[aT W] at X;cases d;simp only[jB,gw,decide_eq_false_iff_not] at V X⊢;rw[aT aa];simp only[decide_eq_false_iff_not];omega;simp only[cS,decide_eq_false_iff_not] at V X⊢;rw[aT aa];simp only[decide_eq_false_iff_not];omega
def an5(d:Bool):∀(X:aq)(x:aF),jR d X x x=E
 |[],_=>rfl
 |c::X,x=>by simp[jR,an5 d X x]
def an6(d:Bool):∀(Q:aq)(x y z:aF),jR d Q x y=J->jR d Q y z=J->jR d Q x z=J
 |[],_,_,_,h,_=>by simp[jR] at h
 |c::Q,x,y,z,V,X=>by
  simp only[jR] at V X⊢;by_cases R:aM c x=aM c y;rw[aL R] at V;by_cases W:aM c y=aM c z;rw[aL W] at X;rw[aL (R.trans W)];exact an6 d Q x y z V X;rw[aT W] at X;rw[aT (by rw[R];exact W),R];exact X;rw[aT R] at V;by_cases W:aM c y=aM c z;rw[aT (by rw[<-W];exact R),<-W];exact V;rw[aT W] at X;cases d;simp only[jB,gw,ce] at V X⊢;rw[aT aa];simp only[ce];omega;simp only[cS,ce] at V X⊢;rw[aT aa];simp only[ce];omega
def LY(X:aq)(d:Bool):mc (bu.lex X d).lt (λx=>(bu.lex X d).ok x=J):=
 ⟨λx _=>an5 d X x,λx y z _ _ _=>an6 d X x y z,λx y z _ _ _=>an4 d X x y z⟩
def LZ{n d:Int}(h:gC n d=J):0<d:=by
 simp only[gC,aw,ce] at h;omega
def Qf(n d:Nat):mc (bu.ratio n d).lt (λx=>(bu.ratio n d).ok x=J):=by
 refine⟨λx _=> ?_,λx y z V R Q X W=> ?_,λx y z V R Q X W=> ?_⟩;simp[bu.lt];have P:=LZ V;have N:=LZ R;have O:=LZ Q;simp only[bu.lt,ce] at X W⊢;have M:=aIS X O;have L:=aIS W P;refine Int.lt_of_mul_lt_mul_left (a:=aM d y) ?_ aa;have H:aM n x*aM d y*aM d z=aM d y*(aM n x*aM d z):=by ac_rfl
 have G:aM n y*aM d x*aM d z=aM n y*aM d z*aM d x:=by ac_rfl
 have F:aM n z*aM d y*aM d x=aM d y*(aM n z*aM d x):=by ac_rfl
 omega;have P:=LZ V;have N:=LZ R;have O:=LZ Q;simp only[bu.lt,decide_eq_false_iff_not,Int.not_lt] at X W⊢;have M:=ai5 X (show 0<=aM d z from aa);have L:=ai5 W (show 0<=aM d x from aa);refine Int.le_of_mul_le_mul_left (a:=aM d y) ?_ aa;have H:aM n x*aM d y*aM d z=aM d y*(aM n x*aM d z):=by ac_rfl
 have G:aM n y*aM d x*aM d z=aM n y*aM d z*aM d x:=by ac_rfl
 have F:aM n z*aM d y*aM d x=aM d y*(aM n z*aM d x):=by ac_rfl
 omega
end
section
variable{lt:aF->aF->Bool}{p:aF->Prop}
def qf(X:ar){m b:Nat}(W:Q<=m)(V:m<=b):bp X Q b=bp X Q m++bp X m b:=by
 simp only[bp];have e:b-Q=(m-Q)+(b-m):=aa;rw[e,List.take_add,Ol,show Q+(m-Q)=m from aa]
def L4(X:ar){b:Nat}(W:Q<=b):X.take Q++(bp X Q b++X.drop b)=X:=by
 simp only[bp];have e:X.drop b=(X.drop Q).drop (b-Q):=by rw[Ol];congr 1;omega
 rw[e,J9,J9]
def Qg(X:ar){a b i:Nat}(h:i<b-a):(bp X a b)[i]?=X[a+i]?:=by
 simp only[bp,nD,h,cS,uN]
def rO(X:ar){b:Nat}(h:b<=Y X):(bp X Q b).length=b-Q:=by simp[bp];omega
def FT{b:Nat}{x:aF}(h:x∈bp X Q b):∃i,Q<=i/\i<b/\i<Y X/\X.getD i []=x:=by
 obtain⟨i,W⟩:=tO h;have V:=(cu.1 W).1;simp only[bp,E4,Df] at V;rw[Qg X aa] at W;exact⟨Q+i,aa,aa,aa,by simp[cw,W]⟩
def L5{b:Nat}(W:b<=Y X)(h:gW lt (bp X Q b)){i j:Nat}(R:Q<=i)(O:i<j)(P:j<b):lt (X.getD j []) (X.getD i [])=false:=by
 have:=Oe.1 h (i-Q) (j-Q) (by rw[rO X W];omega) (by rw[rO X W];omega) aa;have e:∀k(V:k-Q<(bp X Q b).length),Q<=k->k<b->(bp X Q b)[k-Q]=X.getD k []:=λk V N M=>by
  have q:=Qg X (a:=Q) (b:=b) (i:=k-Q) aa;rw[cP V,show Q+(k-Q)=k from aa] at q;simp[cw,<-q]
 rw[e i _ R aa,e j _ aa P] at this;exact this
def an7:yo lt X=J<->gW lt X:=by
 induction X with
 |nil=>exact⟨λ_=>xR,λ_=>rfl⟩
 |cons x r W=>
  simp only[yo,aw,W,fZ,iw,gW,jC]
def az3(h:mc lt p)(L:∀z∈X,p z){s m e b:Nat}(H:Q<=s)(G:s<=m)(F:m<=e)(D:e<=b)(u:b<=Y X)(B:gW lt (bp X Q m))(A:gW lt (bp X m b))
  (w:∀i j,Q<=i->i<s->e<=j->j<b->lt (X.getD j []) (X.getD i [])=E)(v:∀i j,s<=i->i<m->m<=j->j<e->lt (X.getD j []) (X.getD i [])=J):
  bT lt (bp X Q b)=bT lt (bp X Q s++bp X m e)++bT lt (bp X s m++bp X e b):=by
 rw[qf X (show Q<=m from aa) (show m<=b from aa),qf X H G,qf X F D] at*;refine az2 h (λz W=>L z ?_) B A (λx V y R=> ?_) (λx V y R=> ?_);simp only[eW] at W;rcases W with(W|W)|(W|W)<;>exact u7 W;obtain⟨i,P,O,_,rfl⟩:=FT V;obtain⟨j,N,M,_,rfl⟩:=FT R;exact w i j P O N M;obtain⟨i,P,O,_,rfl⟩:=FT V;obtain⟨j,N,M,_,rfl⟩:=FT R;exact v i j P O N M
end
section
variable(a b c:Nat)(d e f g h i:K)(j k l:T)(m n o p q r:BE)(s t u v w:C)(x y:List RK)(z A:List C)(B M:RE)(D:List LK)(L F:LE)(G:RK)(H:BinOp)(N:Int)(O:bu)
abbrev bL:=K.v 0
abbrev bZ:=K.v 1
abbrev dJ:=K.v 2
abbrev fM:=T.ret s [] x
abbrev IF:=fM (.bool m) x
abbrev sP:=IF m []
abbrev gK:=BE.cmp .leq d e
abbrev IG:=sP (gK bL dJ)
abbrev Qh:=BE.c E
abbrev ou:=C.bool Qh
abbrev j9:=fM ou x
abbrev jr:=j9 []
abbrev dt:=K.v 4
abbrev bj:=C.int I d
abbrev lx:=bj dt
abbrev cJ:=K.c 1
abbrev fl:=bj cJ
abbrev ada:=RK.sl 206
abbrev adb:=RK.sl 227
abbrev kB:=RK.sl 197
def nh:List RK:=[ada,adb,kB]
abbrev uj:=BE.v 0
abbrev jU:=C.bool uj
abbrev ph:=BE.not uj
abbrev qQ:=j9 nh
abbrev ju:=bj bZ
abbrev aY:=K.c 0
abbrev aN:=bj aY
abbrev iP:=K.v 14
abbrev At:=BE.v 1
abbrev nU:=C.bool At
abbrev FU:=BE.not At
abbrev gE:=bj dJ
abbrev kL:=K.v 15
abbrev kb:=C.bool (.v a)
abbrev qg:=kb 2
abbrev oS:=BE.not (.v a)
abbrev Au:=oS 2
abbrev eQ:=K.v 3
abbrev jd:=bj eQ
abbrev ov:=K.c 3
abbrev vk:=bj ov
abbrev sQ:=kb 3
abbrev yC:=oS 3
abbrev iG:=gK aY d
abbrev II:=iG dt
abbrev FV:=K.c 10
abbrev nV:=RE.v 0
abbrev fQ:=K.len nV
abbrev iQ:=K.v 5
abbrev nj:=bj iQ
abbrev oT:=K.c 2
abbrev yD:=bj oT
abbrev sS:=kb 4
abbrev B8:=oS 4
abbrev eJ:=K.v 6
abbrev eu:=bj eJ
abbrev jV:=K.c 8
abbrev FW:=bj jV
abbrev B9:=kb 5
abbrev L6:=oS 5
abbrev cV:=K.v 7
abbrev fG:=bj cV
abbrev Ca:=kb 6
abbrev ew:=K.v 8
abbrev fT:=bj ew
abbrev FX:=kb 7
abbrev dY:=K.v 9
abbrev ke:=bj dY
abbrev qh:=bj iP
abbrev L7:=kb 8
abbrev gL:=K.v 10
abbrev iM:=bj gL
abbrev iH:=K.v 11
abbrev kf:=bj iH
abbrev Qi:=C.agg [iM,kf]
abbrev aW:=LK.int I
abbrev kM:List LK:=[aW,aW]
abbrev kg:=K.v 16
abbrev ow:=bj kg
abbrev nW:=K.v 17
abbrev pi:=bj nW
abbrev fo:=K.v 12
abbrev iR:=K.v 13
abbrev iS:=bj fo
abbrev qR:=bj iR
abbrev Vj:=C.agg [iS,qR]
abbrev jW:=K.v 18
abbrev pj:=bj jW
abbrev qi:=K.v 19
abbrev pl:=bj qi
abbrev qj:=K.v 20
abbrev sT:=bj qj
abbrev IJ:=K.v 21
abbrev vl:=bj IJ
abbrev ql:=BE.c J
abbrev Cb:=C.bool ql
abbrev kN:=T.call a z [] x D s j
abbrev L8:=kN a j (.bO A) x z D
abbrev gh:=L8 a j x z [s,t] D
abbrev L9:=T.aV (.cmp H d e) j k
abbrev nX:=L9 d e j k .gtr
abbrev Av:=T.aV m j (nX d e k l)
abbrev yE:=BE.cmp .neq d e
abbrev f8:=yE d aY
abbrev mI:=L9 d e j k .eql
abbrev Ed:=mI d aY j k
abbrev jG:=T.aV m (.aV n j k) l
abbrev kh:=BE.cmp .eql d e
abbrev Ma:=BE.and (kh d e) (kh f g)
abbrev wL:=fM Cb x
abbrev adc:=gh 98 (Av qj aY qQ qQ (Ed qj (jG qQ (wL nh) (wL nh) (Ma fo gL iR iH) (Ma cJ fo cJ iR)) (wL nh)) (f8 IJ)) sT vl nh [Vj,.agg [fl,fl]] kM
abbrev fU:=kh d aY
abbrev ade:=gh 98 (Av jW aY qQ qQ (jG (.aV (Ma fo fo iR iR) qQ adc) adc adc (fU jW) (Ma gL gL iH iH)) (f8 qi)) pj pl nh [Qi,Vj] kM
abbrev cK:=BE.cmp .lss d e
abbrev rP:=cK d aY
abbrev Vk:=rP bL
abbrev qm:=bj (.c N)
abbrev Vl:=qm 150
abbrev Cc:=fM (.bO z) x
abbrev md:=Cc x [s,t]
abbrev Vm:=md aN Vl []
abbrev nY:=BE.cmp .gtr d e
abbrev adf:=nY bL jV
abbrev wM:=K.c 7
abbrev Mb:=K.bin H I d e
abbrev qS:=Mb d e .add
abbrev adg:=qS bL bZ
abbrev qT:=C.agg [s,t,u]
abbrev Vn:=md (qT aN aN aN) Vl nh
abbrev Mc:=K.c 841
abbrev rQ:=Mb d e .sub
abbrev Qj:=rQ bZ oT
abbrev ly:=rQ d cJ
abbrev Cd:=ly bL
abbrev eD:=BE.and m (cK d e)
abbrev adh:=eD Cd jV (iG Cd)
abbrev FY:=RE.v 2
abbrev FZ:=K.len FY
abbrev adi:=eD Cd FZ (iG Cd)
abbrev Ee:=K.c 29
abbrev gM:=K.cell B d 0
abbrev Qk:=gM Cd FY
abbrev IK:=bj (Mb d e H)
abbrev me:=IK d e .mul
abbrev rT:=K.cell FY d a
abbrev an8:=me Ee (rT 1 Cd)
abbrev Vo:=me (.c 609) Qj
abbrev Ce:=K.c 20
abbrev an9:=me Ce (rT 1 Cd)
abbrev aoa:=Cc nh [aN,aN,Vl]
abbrev jw:=bj bL
abbrev yF:=md aN (qm 120) []
abbrev sU:=Mb d e .mul
abbrev adj:=sU bL eQ
abbrev adk:=sU dJ bZ
abbrev ki:=fM s []
abbrev Cf:=ki (qm 120)
abbrev F0:=K.c 1073741824
abbrev Me:=K.c (-1073741824)
abbrev Ql:=LK.int .u64
abbrev qU:=ki aN
abbrev Vp:=f8 eQ
abbrev kO:=K.mm J d e
abbrev aob:=K.bin .rem .u64 eQ (kO dt cJ)
abbrev F1:=qm (-1)
abbrev Mf:=ki fl
abbrev vn:=K.c (-1099511627776)
abbrev vo:=K.c 1099511627776
abbrev Vq:=gK bL bZ
abbrev adl:=gK dJ eQ
abbrev iT:=C.agg [s,t,u,v]
abbrev Cg:=iT jw ju gE jd
abbrev Qm:=iT aN aN aN aN
abbrev Ch:=md Qm s x
abbrev oU:=Ch Vl []
abbrev adm:=iT lx nj eu fG
abbrev mg:=md s aN x
abbrev IL:=bj (.mm E d e)
abbrev uk:=bj (.mm J d e)
abbrev aoc:=mg (iT (IL bL dt) (uk bZ iQ) (IL dJ eJ) (uk eQ cV)) []
abbrev nl:List LK:=[aW,aW,aW,aW,aW]
abbrev IM:=fU ew
abbrev adn:=K.c (-2199023255552)
abbrev rU:=Ch yD []
abbrev aod:=nY dt (.c 2199023255552)
abbrev ado:=cK iQ adn
abbrev adp:=nY iQ (.c 2199023255552)
abbrev adq:=qS bL dt
abbrev Vr:=qS bZ dt
abbrev Qn:=qS dJ iQ
abbrev Vs:=qS eQ iQ
abbrev adr:=iT (bj adq) (bj Vr) (bj Qn) (bj Vs)
abbrev de:=T.stuck ""
abbrev Vt:=bj fQ
abbrev Qo:=K.conv .u64 d
abbrev IN:=K.conv I (.bin .shr .u64 (Qo (qS dJ eQ)) cJ)
abbrev IP:=ly dJ
abbrev b9:=RK.sl 132
abbrev ck:=RK.sl 253
abbrev cm:=RK.sl 255
def ul:List RK:=[b9,ck,cm]
abbrev Aw:=C.ah nV
abbrev kP:=RE.v 1
abbrev Ci:=C.ah kP
abbrev yG:=C.ah FY
abbrev Ef:=RE.v 3
abbrev Ax:=C.ah Ef
abbrev rV:=RE.v 4
abbrev F2:=C.ah rV
abbrev nq:=C.agg [jw,ju,gE,jd,lx,Aw,nj,Ci,yG,Ax,F2]
abbrev Ay:List C:=[nq]
abbrev cd:=RK.sl 130
abbrev bm:=RK.sl 128
def f9:List RK:=[cd,b9,ck,cm,bm]
abbrev Mg:=fU cV
abbrev Vu:=bj (ly iQ)
abbrev mJ:=RE.v 5
abbrev nZ:=C.ah mJ
abbrev Vv:=C.agg [nZ]
abbrev Eg:=RE.v 6
abbrev n7:=C.ah Eg
abbrev lz:=RE.v 7
abbrev vp:=C.ah lz
abbrev n8:=RE.v 8
abbrev yH:=C.ah n8
abbrev oz:=RE.v 9
abbrev F3:=C.ah oz
abbrev yI:=RE.v 10
abbrev pm:=C.ah yI
abbrev oV:=RE.v 11
abbrev wN:=C.ah oV
abbrev dP:=RK.sl 141
abbrev bM:=RK.sl 94
abbrev dH:=RK.sl 4
abbrev bD:=RK.sl 76
abbrev gu:=RK.sl 67
abbrev jk:=RK.sl 124
def tq1:=f9++[dP]
def tq5:=tq1++[bM]
def tq6:=tq5++[dH,bD]
def Eh:=tq6++[bD,gu,jk]
abbrev IQ:=RE.v 12
abbrev F4:=C.ah IQ
abbrev wO:=K.len IQ
abbrev F5:=fM s f9
abbrev Vw:=F5 yD
abbrev qV:=K.len rV
abbrev F6:=K.c 4096
abbrev aoh:List C:=[iT nj Ci yG Ax]
abbrev Mh:=f8 eJ
abbrev IR:=qm 1000
abbrev wP:=F5 (qm 190)
abbrev wQ:=f8 cV
abbrev pn:=cK d fQ
abbrev Qp:=pn ew
abbrev yJ:=iG ew
abbrev ads:=qS ew cJ
abbrev yK:=bj ads
abbrev jx:=T.back a [s]
abbrev Mi:=jx 0 yK
abbrev Vx:=cK dY qV
abbrev Cj:=BE.and (iG dY) m
abbrev Mj:=Cj Vx
abbrev F7:=gM dY B
abbrev Vy:=F7 rV
abbrev qW:=K.c 1048576
abbrev vq:=K.cell rV d a
abbrev gj:=bj (.cell B d a)
abbrev yL:=gj a dY B
abbrev Az:=yL a rV
abbrev aoi:List C:=[bj Vy,bj (vq 1 dY),bj (vq 2 dY),Az 3,Az 4,Az 5,Az 6,Az 7,Az 8,Az 9,Az 10,Az 11,Az 12,Az 13]
abbrev IS:=IK d e .add
abbrev iU:=IS d cJ
abbrev rW:=iU dY
abbrev Vz:=gK fQ aY
abbrev kC:=gK d (.c 536870912)
abbrev Qq:=kC fQ
abbrev yM:=LE.lit []
abbrev VA:=LE.kq yM (.ah nV)
abbrev vu:=RK.own 4
abbrev adt:=RE.k (.slice Z 0 0)
abbrev ez:=C.ah adt
abbrev mh:=RK.own 76
abbrev dB:=RK.sl 134
abbrev Ml:=BE.and (iG eQ) (pn eQ)
abbrev yN:=gM d nV
abbrev Qr:=yN eQ
abbrev mK:=K.cell nV d a
abbrev IT:=mK 1 eQ
def mi:List RK:=[.str]
abbrev Ei:=j9 mi
abbrev Mn:=pn aY
abbrev Qs:=K.oe nV aY
abbrev Mo:=pn bZ
abbrev IU:=BE.and (iG bZ) m
abbrev Ej:=IU Mo
abbrev vw:=K.c 5
abbrev Ek:=iU bZ
abbrev Mp:=jx 0 Ek
abbrev wT:=f8 ew
abbrev Mq:=md ez fl f9
abbrev jy:=RK.own 128
abbrev oA:=K.len mJ
abbrev VB:=LE.ah mJ
def adu:=f9++[jy]
def tq2:=f9++[.am]
def adw:=tq2++[jy]
abbrev qn:=C.bO [s,t]
abbrev adx:=qn n7 aN
def VC:=tq2++[bm]
abbrev qo:=bj kL
abbrev ady:List C:=[ow,fl,vk]
abbrev um:=kN a j s x z [.bool]
abbrev jH:=um a (.aV m j k) s x z
abbrev rX:=jH a j k m s [] z
abbrev AA:=um a j s [] z
abbrev aoj:=rX 174 (AA 174 (ki qg) qg ady) jr At nU [qo,aN,FW]
abbrev VD:=fU kL
abbrev IW:=T.aV m j jr
abbrev aok:=IW (sP (fU kg)) VD
abbrev adz:=jG (IW (AA 174 (ki nU) nU ady) VD) aok aok ph (kh dt (.c 9))
abbrev dE:=T.aV m j (.aV n k l)
abbrev aol:=dE jr aoj adz (yE iP bL) ph
abbrev El:=K.c 4
abbrev Em:=mI d e j (mI f g k l)
abbrev jI:=kN a j s x z [aW]
abbrev kj:=jI a (.aV m j k) s x z
abbrev sW:=BE.cmp .geq d e
abbrev aom:=Em bL (.c 95) bL (.c 32) (ki (bj vw)) Mf (Em bL (.c 9) bL FV Mf Mf (mI bL (.c 13) Mf (kj 169 (ki (bj El)) qU (sW bZ aY) ju [] [.ah (.k (.string ⟨#[123,125,40,41,59,44,61,58,46,60,62,33,43,45,42,47]⟩)),.int .u8 bL])))
abbrev mL:=L9 d e j k .geq
abbrev jX:=L9 d e j k .leq
abbrev uo:=mL d e (jX f g j k) l
abbrev aon:=uo bL (.c 48) bL (.c 57) (ki vk) aom aom
abbrev aoo:=uo bL (.c 65) bL (.c 90) (ki yD) aon aon
abbrev VE:=qm 290
abbrev En:=Ch VE []
abbrev VF:=K.c (-1048576)
abbrev adA:=Ch fl []
abbrev adB:=qS iQ cJ
abbrev nu:=K.mm E d e
abbrev aop:=kO aY (rQ (nu ew adB) dt)
abbrev adC:List C:=[ke,iM,kf,iS]
abbrev VG:=qn (.agg adC) qR
abbrev Qt:=f8 iR
abbrev nx:=RK.own 124
abbrev aoq:=kO aY (rQ (nu ads adB) dt)
abbrev VH:List C:=[qh,qo,ow,pi]
abbrev po:=K.len kP
abbrev bS:=bj (.v a)
abbrev AB:=bS 22
abbrev Ck:=K.v 23
abbrev AC:=bj Ck
abbrev VI:=qn (iT pl sT vl AB) AC
abbrev adD:=qn ez ou
def Qu:List RK:=[bm,dB]
def adF:List RK:=[bm,dB,jy]
abbrev VJ:=bu.lex [0] E
abbrev Qv:=RK.own 226
abbrev rY:List LK:=[aW,.ah G]
abbrev F8:=rY Qv
abbrev AD:=pn bL
abbrev lN:=BE.and (iG bL) AD
abbrev Cl:=K.len Ef
abbrev adG:=cK bZ Cl
abbrev VK:=IU adG
abbrev IX:=yN bL
abbrev Cm:=IU (cK bZ po)
abbrev adH:=mK 10 bL
abbrev adI:=mK 11 bL
abbrev adJ:=mK 12 bL
abbrev Eo:=gj a d nV
abbrev pu:=Eo a bL
abbrev aor:List C:=[bj IX,pu 1,pu 2,pu 3,pu 4,pu 5,pu 6,pu 7,pu 8,pu 9,bj adH,bj adI,bj adJ,pu 13]
abbrev vx:=K.cell kP d a
abbrev Mr:=vx 1 bZ
abbrev Qw:=vx 2 bZ
abbrev yO:=RK.sl 226
abbrev aos:=T.stuck ""
abbrev adK:=C.agg [jw,ju,gE,jd,lx,nj,eu,fG,fT,ke,iM,kf,iS]
abbrev qX:=bS 29
abbrev AE:=bS 24
abbrev AF:=bS 25
abbrev AG:=bS 26
abbrev Co:=K.v 27
abbrev AH:=bj Co
abbrev Ms:=K.v 28
abbrev qp:=bj Ms
abbrev AI:=bS 30
abbrev IY:=fU eJ
abbrev Cp:=fU gL
abbrev AJ:=fU fo
abbrev pw:=sU Ee bL
abbrev VL:=sU Mc kL
abbrev VM:=rQ pw VL
abbrev VN:=qS pw VL
abbrev pz:=sU Ee bZ
abbrev VO:=rQ pz VL
abbrev VP:=qS pz VL
abbrev Ep:List C:=[kf,gE]
abbrev uq:=bS 31
abbrev Mt:=bS 32
abbrev IZ:=qn uq Mt
abbrev adL:List LK:=[aW,aW,aW,aW]
abbrev F9:=K.v 33
abbrev I0:=bj F9
abbrev Es:=K.v 34
abbrev I1:=bj Es
abbrev I2:=K.v 35
abbrev Mu:=bj I2
abbrev ur:=K.v 36
abbrev I3:=bj ur
abbrev Qx:=qn (qT I0 I1 Mu) I3
abbrev Mv:List C:=[ke,gE]
abbrev oB:=qS d (sU e f)
abbrev VQ:=nu VM (oB pw qi F9)
abbrev VR:=kO VN (oB pw qi F9)
abbrev VS:=nu VO (oB pz qi Es)
abbrev VT:=kO VP (oB pz qi Es)
abbrev yP:=bS 37
abbrev AK:=K.v 38
abbrev Qy:=bj AK
abbrev Mw:=qn yP Qy
abbrev Mx:=K.v 39
abbrev Qz:=bj Mx
abbrev sZ:=K.v 40
abbrev vy:=K.v 41
abbrev My:=K.v 42
abbrev QA:=bj My
abbrev Mz:=qn (qT Qz (bj sZ) (bj vy)) QA
abbrev VU:=oB pw qj Mx
abbrev VV:=oB pz qj sZ
abbrev AL:=T.aV m j (kN 114 k s mi z kM)
abbrev Et:=mg (iT (bj d) (bj e) (bj f) (bj g)) mi
abbrev yQ:=kN 115 j u mi [s,t] adL
abbrev Eu:=mg (iT (IL d e) (uk f g) (IL h i) s) mi
abbrev aot:=AL (Et VQ VR VS VT) (yQ (Eu VQ VU VR VU VS VV (uk VT VV)) yP iS Mz) AJ Mw Ep
abbrev MA:=oB pw qi Mx
abbrev MB:=oB pz qi sZ
abbrev AM:=bS 43
abbrev QB:=bS 44
abbrev MC:=qn AM QB
abbrev QC:=bS 45
abbrev I4:=bS 46
abbrev MD:=bS 47
abbrev ME:=bS 48
abbrev MF:=qn (qT QC I4 MD) ME
abbrev vz:=oB d e (.v a)
abbrev MG:=vz 45 pw qj
abbrev MH:=vz 46 pz qj
abbrev VW:=nu VM (oB pw jW F9)
abbrev VX:=kO VN (oB pw jW F9)
abbrev VY:=nu VO (oB pz jW Es)
abbrev VZ:=kO VP (oB pz jW Es)
abbrev V4:=nu VW MA
abbrev V5:=kO VX MA
abbrev V6:=nu VY MB
abbrev V7:=kO VZ MB
abbrev aou:=AL (Et V4 V5 V6 V7) (yQ (Eu V4 MG V5 MG V6 MH (uk V7 MH)) AM iS MF) AJ MC Ep
abbrev MI:=vz 45 pw qi
abbrev MJ:=vz 46 pz qi
abbrev Ew:=bS 49
abbrev Ex:=bS 50
abbrev adM:=qn Ew Ex
abbrev Ga:=bS 51
abbrev Cq:=bS 52
abbrev Cr:=bS 53
abbrev Cs:=bS 54
abbrev adN:=qn (qT Ga Cq Cr) Cs
abbrev V9:=vz 51 pw qj
abbrev Wa:=vz 52 pz qj
abbrev Ey:=kN 114 (yQ j t u v) s mi z D
abbrev aov:=jG (AL (Et VW VX VY VZ) (yQ (Eu VW VU VX VU VY VV (uk VZ VV)) yP iS Mz) AJ Mw Ep) (Ey aou Mw yP iM Mz Mv kM) (Ey (AL aou (yQ (AL (Et (nu V4 MI) (kO V5 MI) (nu V6 MJ) (kO V7 MJ)) (yQ (Eu (nu V4 MI) V9 (kO V5 MI) V9 (nu V6 MJ) Wa (uk (kO V7 MJ) Wa)) Ew iS adN) AJ adM Ep) AM iM MF) Cp MC Mv) Mw yP fT Mz [fG,gE] kM) IM Cp
abbrev adO:=nu VW (oB pw jW Mx)
abbrev adP:=kO VX (oB pw jW Mx)
abbrev adQ:=nu VY (oB pz jW sZ)
abbrev adR:=kO VZ (oB pz jW sZ)
abbrev adS:=nu adO MI
abbrev adT:=kO adP MI
abbrev adU:=nu adQ MJ
abbrev adV:=kO adR MJ
abbrev aow:=AL (Et adS adT adU adV) (yQ (Eu adS V9 adT V9 adU Wa (uk adV Wa)) Ew iS adN) AJ adM Ep
abbrev aox:=nu adS (vz 51 pw qi)
abbrev aoy:=kO adT (vz 51 pw qi)
abbrev aoz:=nu adU (vz 52 pz qi)
abbrev aoA:=kO adV (vz 52 pz qi)
abbrev Ct:=bS 55
abbrev I5:=K.v 56
abbrev I6:=bj I5
abbrev I7:=bS 57
abbrev I8:=bS 58
abbrev I9:=bS 59
abbrev Ja:=bS 60
abbrev pA:=ki (qm 260)
abbrev MK:=fU iQ
abbrev ML:=BE.not (.and m n)
abbrev adW:=ML Mg IM
abbrev adX:List C:=[fG,aN,FW]
abbrev adY:List C:=[fT,fl,vk]
abbrev MM:=fU dY
abbrev Wb:=ML MM Cp
abbrev Wc:List C:=[ke,aN,FW]
abbrev We:List C:=[iM,fl,vk]
abbrev QD:=ML (fU iH) AJ
abbrev QE:List C:=[kf,aN,FW]
abbrev QF:List C:=[iS,fl,vk]
abbrev yR:=AA 71 j s z
abbrev oC:=T.aV (.not m) j k
abbrev Jb:=oC j k (.v a)
abbrev MN:=rX 71 pA j m s z
abbrev aoB:=T.aV QD (yR (Jb 9 pA (MN qU (oS 10) (kb 10) QF)) (kb 9) QE) qU
abbrev Cu:=MN (MN j n t A) m s z
abbrev aoC:=T.aV QD (Cu qU (oS 7) (oS 8) FX L7 QE QF) qU
abbrev aoD:=T.aV Wb (Cu aoB (oS 7) (oS 8) FX L7 Wc We) aoC
abbrev aoE:=T.aV QD (Cu qU L6 (oS 6) B9 Ca QE QF) qU
abbrev aoF:=T.aV Wb (Cu aoC L6 (oS 6) B9 Ca Wc We) aoE
abbrev aoG:=T.aV adW (Cu aoD L6 (oS 6) B9 Ca adX adY) aoF
abbrev MO:=kO ew (rQ aY ew)
abbrev adZ:=cK dJ cJ
abbrev vC:=ki (qm 140)
abbrev aoH:=nY dJ (.c 32768)
abbrev ad0:=rQ aY dJ
abbrev aoI:=yE (oB (sU bL bL) bZ bZ) (sU dJ dJ)
abbrev Wf:List LK:=[aW,aW,aW]
abbrev gF:=fM (qm 250) mi
abbrev MP:=K.c 500
abbrev ad1:=cK cV cJ
abbrev ny:=T.bi ql j
abbrev pB:=ny gF
abbrev AN:=K.c 16
abbrev MQ:List C:=[nq,eu]
abbrev ad2:=qn ez fG
abbrev Ez:=RK.mr ⟨197,4,2,J,E⟩
abbrev QG:=cK ew qV
abbrev vD:=BE.and yJ QG
abbrev Wg:=vq 2 ew
abbrev ad3:=ly (vq 9 ew)
abbrev MS:=vq 1 ew
abbrev jY:=T.back a [s,t]
abbrev lQ:=jY 0 s t
abbrev ad4:=lQ yK n7
abbrev ad5:=lQ yK nZ
abbrev QH:=RK.own 197
abbrev Wh:=rY QH
abbrev kD:=K.len lz
abbrev Wi:=LE.ah lz
abbrev EA:=iU gL
abbrev QI:List C:=[nq,eu,fG]
def Wj:=f9++[dB]
abbrev MT:List LK:=[.ah bm,aW]
def vE:=Wj++[bm]
abbrev lR:=K.len Eg
abbrev MU:=qm 270
abbrev Wk:=kC lR
abbrev MV:=LE.ah Eg
def aoJ:=vE++[jy]
abbrev s6:=cK d lR
abbrev Wl:=s6 dY
abbrev MW:=Cj Wl
abbrev mj:=K.len n8
abbrev Wm:=cK gL mj
abbrev Jc:=iG gL
abbrev Wn:=BE.and Jc Wm
abbrev Wo:=BE.and Jc (cK gL oA)
abbrev lT:=K.len yI
abbrev Gb:=kC lT
abbrev Gc:=LE.ah yI
abbrev Jd:=C.agg [aN,aN,aN,aN,aN,aN,aN,aN,aN,aN,aN,aN,aN]
abbrev aoK:List C:=[fT,ke,iM,kf,iS,qR,qh,qo,ow,pi,pj,pl,sT]
abbrev Wp:=C.agg aoK
def QJ:=vE++[yO]
abbrev ut:=BE.and (iG d) m
abbrev aoL:=ut Ck (cK Ck kD)
abbrev Je:List LK:=[aW,aW,aW,aW,aW,aW,aW,aW,aW,aW,aW,aW,aW,aW]
abbrev MX:=bS 61
abbrev MY:=bS 62
abbrev aoM:=C.agg [Ex,Ga,Cq,Cr,Cs,Ct,I6,I7,I8,I9,Ja,MX,MY]
abbrev QK:=bS 63
abbrev vF:=kh d ov
abbrev Cv:=vF nW
abbrev qY:=kh d El
abbrev Cw:=qY nW
abbrev Cx:=kh nW vw
abbrev EB:=kh nW (.c 6)
abbrev MZ:=kh nW wM
abbrev M0:=kh nW jV
abbrev M1:=kh nW (.c 9)
abbrev s7:=K.eB m d (.eB n e f)
abbrev aoN:=s7 aY aY (s7 aY cJ aY M0 M1) EB MZ
abbrev yS:=s7 d e (.eB o f g) m n
abbrev Wq:=yS aY aY aY aY MZ M0 M1
abbrev aoO:=yS aY aY aY (.eB EB aY Wq) Cv Cw Cx
abbrev aoP:=yS jV jV jV (.eB EB aY Wq) Cv Cw Cx
abbrev oD:=kh d cJ
abbrev qZ:=kh d oT
abbrev Cy:=bj (s7 d e f (oD nW) (qZ nW))
abbrev aoQ:=Cy aY aY (yS cJ cJ cJ aoN Cv Cw Cx)
abbrev aoR:=Cy aY aY (s7 ov ov (s7 ov aY (yS aY aY ov aY MZ M0 M1) Cx EB) Cv Cw)
abbrev Gd:=md Jd fl []
abbrev EC:=ly jW
abbrev Wr:=fU EC
abbrev Ws:=oD EC
abbrev Wt:=qZ EC
abbrev Wu:=vF EC
abbrev aoS:=IS bL (sU IJ F9)
abbrev aoT:=IS bZ (sU IJ Es)
abbrev pC:=bj (.eB m aY d)
abbrev aoU:=C.agg [aoS,aoT,gE,pC eQ Wr,pC dt Wr,pC iQ Ws,pC eJ Ws,pC cV Wt,pC ew Wt,pC dY Wu,pC gL Wu,pC iH (qY EC),pC fo (qY EC)]
abbrev aoV:=C.agg [aoS,aoT,gE,aN,aN,aN,aN,fG,fT,ke,iM,kf,iS]
abbrev Wv:=C.agg [jw,ju,gE,qp,qX,nj,eu,fG,fT,ke,iM,kf,iS]
abbrev Ww:=C.agg [jw,ju,gE,jd,lx,qp,qX,fG,fT,ke,iM,kf,iS]
abbrev Wy:=C.agg [jw,ju,gE,jd,lx,nj,eu,qp,qX,ke,iM,kf,iS]
abbrev Wz:=C.agg [jw,ju,gE,jd,lx,nj,eu,fG,fT,qp,qX,kf,iS]
abbrev Cz:=qS jW cJ
abbrev WA:=fU Cz
abbrev WB:=oD Cz
abbrev WC:=qZ Cz
abbrev WD:=vF Cz
abbrev aoW:=C.agg [jw,ju,gE,jd,lx,nj,eu,fG,fT,ke,iM,qp,qX]
abbrev M2:=IK d e .rem
abbrev aoX:=C.agg [jw,ju,M2 (qS dJ IJ) jV,jd,lx,nj,eu,fG,fT,ke,iM,kf,iS]
abbrev aoY:=C.agg [jw,ju,gE,jd,lx,nj,eu,aN,aN,aN,aN,kf,iS]
abbrev aoZ:=C.agg [jw,ju,gE,aN,aN,aN,aN,fG,fT,ke,iM,kf,iS]
abbrev ao0:=C.agg [jw,ju,gE,pC eQ WA,pC dt WA,pC iQ WB,pC eJ WB,pC cV WC,pC ew WC,pC dY WD,pC gL WD,pC iH (qY Cz),pC fo (qY Cz)]
abbrev oE:=L9 d e j k .neq
abbrev yT:=mg s []
abbrev oF:=kN a j u x [s,t] D
abbrev dI:=T.bi m (.bi n j)
abbrev lA:=eD e f (iG d)
abbrev Ge:=BE.eB m ql (.eB n ql o)
abbrev Jf:=Ge m n (Ge o p (.eB q ql Qh))
abbrev ad6:=kj a (md Jd yD []) (yT t) m s [] z
abbrev wU:=f8 (.v a)
abbrev wV:=ad6 35 (wU 31) uq t [s]
abbrev ao1:=T.aV (oS 7) Gd (oE Co iR Gd (dE (yT adK) (oF 114 (kN 317 (dI (ad6 35 (f8 ur) I3 aoU [aoU]) (lA EC EC vw) (Jf Wr Ws Wt Wu (qY EC))) (.bO [I0,I1,Mu]) [] [uq] Wf) pl gE IZ [] kM) (dE (oF 114 (kN 317 (ad6 35 (f8 ur) I3 aoV [aoV]) (.bO [I0,I1,Mu]) [] [uq] Wf) pl gE IZ [] kM) (dE (wV Wv Wv) (wV Ww Ww) (dE (wV Wy Wy) (wV Wz Wz) (.stuck "") Wt Wu) Wr Ws) (dE (dE (wV Wv Wv) (wV Ww Ww) (dE (wV Wy Wy) (wV Wz Wz) (.stuck "") WC WD) WA WB) (wV aoW aoW) (dE (wV aoX aoX) (wV aoY aoY) (dE (wV aoZ aoZ) (dI (wV ao0 ao0) (lA Cz Cz vw) (Jf WA WB WC WD (qY Cz))) (.stuck "") M0 M1) EB MZ) Cw Cx) (qZ nW) Cv) uj (oD nW)))
abbrev QL:=T.aV uj Gd Gd
abbrev QM:=fM yD ul
abbrev iB:=fM (qm 130) ul
abbrev Gf:=qS dJ cJ
abbrev CA:=yN bZ
abbrev WE:=K.c (-65536)
abbrev M3:=K.c 65536
abbrev ao2:=gK (mK 1 bZ) M3
abbrev wW:=BE.not (gK d e)
abbrev ao3:=wW (mK 2 bZ) M3
abbrev QN:=iT jw Aw Ci yG
abbrev ad7:=cK dt po
abbrev ad8:=gM dt kP
abbrev ad9:=cK eJ FZ
abbrev M4:=iG eJ
abbrev aea:=gM eJ FY
def CB:=tq6++[gu]
abbrev Jg:=C.agg [aN,ez,ez,ez,ez,ez]
abbrev pD:=K.len oz
abbrev Gg:=md Jg (qm 310) CB
abbrev QO:=s6 ew
abbrev Gh:=BE.and yJ QO
abbrev WF:=eD ew kD yJ
abbrev M5:=eD ew mj yJ
abbrev s8:List C:=[.agg z]
abbrev wX:=C.ah (.cell B d a G)
abbrev Gi:=wX a d Eg .str
abbrev rZ:=gj a d Eg
abbrev pE:=rZ a ew
abbrev aeb:=s8 [Gi 0 ew,pE 1,pE 2,pE 3,pE 4,pE 5,pE 6,pE 7,pE 8,pE 9,pE 10,pE 11,pE 12,pE 13,pE 14,pE 15,pE 16]
abbrev wY:=gj a ew n8
abbrev ao4:=s8 [wY 0,wY 1,wY 2,wY 3,wY 4,wY 5,wY 6,wY 7,wY 8,wY 9,wY 10,wY 11,wY 12]
abbrev aec:=BE.not (fU iH)
abbrev QP:=LK.ah bD
abbrev pF:=RK.own 67
abbrev WG:=LK.ah nx
abbrev ao5:List LK:=[aW,.ah mh,.ah pF,WG]
abbrev aed:=cK dY kD
abbrev M6:=Cj aed
abbrev wZ:=eD dY d (iG dY)
abbrev WH:=wZ pD
abbrev aee:=wX 0 dY oz dB
abbrev iW:=C.ah (.v a)
abbrev yU:=iW 15
abbrev w6:=RE.v 13
abbrev Gj:=K.len w6
abbrev WI:=kC Gj
abbrev WJ:=LE.ah w6
def tq8:=CB++[dH,bD]
def aeg:=tq8++[mh,.am,nx,dB,pF]
abbrev w7:=gj a dY n8
abbrev WK:List C:=[w7 0,w7 1,w7 2,w7 3,w7 4,w7 5,w7 6,w7 7,w7 8,w7 9,w7 10,w7 11,w7 12]
def ao6:=tq8++[.am,.am]
def ao7:=ao6++[.am,dB]
def aeh:=ao7++[.am]
abbrev ao8:List C:=[iM,kf,iS,qR,qh,qo,ow,pi,pj,pl,sT,vl,AB]
def aei:=tq8++[bD,.am,jk,dB,gu]
abbrev ij:=rZ a dY
abbrev ao9:=C.agg [Gi 0 dY,ij 1,ij 2,ij 3,ij 4,ij 5,ij 6,ij 7,ij 8,ij 9,ij 10,ij 11,ij 12,ij 13,ij 14,ij 15,ij 16]
abbrev ED:=LE.ah IQ
def WL:=ao6++[nx,dB,pF,mh]
abbrev CC:=RE.v 14
abbrev Jh:=kC (.len CC)
abbrev Gk:=LE.ah CC
def apa:=ao7++[pF,mh,nx]
abbrev yV:=iW 17
abbrev EE:=RE.v 16
abbrev CD:=C.ah EE
abbrev AO:=RE.v 18
abbrev yW:=C.ah AO
abbrev Ji:=T.back 1 z
abbrev apb:=Ji [rW,yV,CD,yW]
abbrev apc:=qn (.agg [iM,kf,iS,qR]) qh
abbrev AP:=C.ah w6
abbrev yX:=C.ah CC
abbrev aej:=nY oA jV
abbrev QQ:=sW eJ aY
abbrev oG:=K.len oV
abbrev Gl:=BE.and yJ (cK ew lT)
abbrev yY:=Cj (cK dY oG)
def apd:=iT (yL 0 oV) (yL 1 oV) (yL 2 oV) (yL 3 oV)
abbrev WM:=jx 1 rW
abbrev yZ:=iG iH
def aek:=wX 0 iH yI dB
abbrev pG:=K.len (.v a)
abbrev Gm:=kC (pG a)
abbrev Jj:=Gm 15
abbrev vG:=LE.ah (.v a)
abbrev Jk:=vG 15
def ape:=Eh++[dH,bD]
def apf:=ape++[mh,.am,nx,dB,pF]
def w8:=gj a iH n8
def apg:=C.agg [w8 0,w8 1,w8 2,w8 3,w8 4,w8 5,w8 6,w8 7,w8 8,w8 9,w8 10,w8 11,w8 12]
def aph:=ape++[.am,.am]
def api:=aph++[.am]
def apj:=api++[dB,.am]
def apk:List C:=[iS,qR,qh,qo,ow,pi,pj,pl,sT,vl,AB,AC,AE]
def apl:=aph++[nx,dB,pF,mh]
def ael:=kC (.len EE)
def WN:=LE.ah EE
abbrev zd:=iW 19
abbrev ze:=C.ah (.v 20)
def rf:=RK.mr ⟨267,4,3,J,E⟩
def QR:=rY rf
abbrev xe:=iG fo
abbrev WO:=BE.and xe (cK fo pD)
def apm:=eD fo (.len CC) xe
abbrev aem:=gM fo oz
def apn:=eD fo (.len EE) xe
def WP:=api++[rf]
def QS:List LK:=[.bool,aW]
abbrev AQ:=K.len AO
def aen:=cK kL AQ
def M7:=iG kL
abbrev kQ:=RE.cell B d 0 G
def Gn:=kQ fo yI dB
abbrev zf:=cK d (.len B)
def WQ:=BE.and (iG kg) (zf kg Gn)
def apo:=WP++[bm,rf]
def WR:=iU kL
abbrev M8:=K.len (.v 20)
abbrev EF:=iW 21
def aeo:=cK iP mj
abbrev xf:=iG iP
abbrev Jl:=iU iP
def aep:=cK kL pD
def aeq:=LE.ah (.v 20)
def WS:=RK.sl 312
abbrev QT:=iW 22
def M9:=RK.mr ⟨3,1099511627778,1,E,E⟩
def QU:=tq1++[jk,jk,kB]
def aer:=LK.ah (.own 312)
abbrev WT:=cK iH oA
def zg:List LK:=[aW,aer]
abbrev Na:=iU iR
def apq:=eD jW lR (iG jW)
def apr:=iT aN (me Mc bL) aN (me Mc bZ)
def aps:=QU++[.am,Ez,.am,.am,.am,.am,.am,.am,.am,.am,.am]
def apu:=eD jW kD (iG jW)
def aes:=f9++[.str]
def Jm:List RK:=[ada,adb,kB,cd,b9,ck,cm,bm,.str,dB,bm]
def s9:=Jm++[yO]
abbrev apv:=ut sZ (cK sZ oG)
abbrev Gp:=K.cell oV sZ 4
abbrev WU:=eD Gp FV (iG Gp)
abbrev WV:=eD Gp po (iG Gp)
abbrev WW:List LK:=[aW,.bool,.bool,.bool,.bool,.bool]
abbrev apw:List C:=[aN,qg,sQ,sS,B9,Ca]
abbrev au:=RK.sl 3
abbrev WX:=zf vy (kQ Gp kP au)
abbrev WY:=iG vy
abbrev zh:=ly (qS (gM vy (kQ Gp kP au)) (.cell oV sZ 5))
abbrev WZ:=iU vy
abbrev ga:=dI (dI j o p) m n
abbrev Jn:=ga j (.and m n) (.and o p) q r
abbrev CE:=C.bool (.eB m ql (.v a))
abbrev apx:=Jn (Ji [WZ,CE 7 (fU zh),CE 8 (oD zh),CE 9 (qZ zh),CE 10 (vF zh),CE 11 (qY zh)]) WY WX WY WX (lA zh zh vw) (Jf (fU zh) (oD zh) (qZ zh) (vF zh) (qY zh))
abbrev apy:List C:=[aN,FX,L7,kb 9,kb 10,kb 11]
abbrev apz:=RE.cell kP Gp 1 au
abbrev W0:=zf My apz
abbrev zi:=gM My apz
abbrev apA:=ga (.back 2 [iU My,CE 12 (fU zi),CE 13 (oD zi),CE 14 (qZ zi),CE 15 (vF zi),CE 16 (qY zi)]) (ut My W0) (ut My W0) (lA zi zi vw) (Jf (fU zi) (oD zi) (qZ zi) (vF zi) (qY zi))
abbrev W5:=sU Mc Ck
abbrev aet:=cK vy vw
abbrev Gq:=Mb vy oT .quo
abbrev W6:=fU vy
abbrev W7:=oD vy
abbrev W8:=qZ vy
abbrev W9:=vF vy
abbrev Xa:=qY vy
abbrev Xb:=iT QA AM QB QC
abbrev QW:=yS (.v 26) Co Ms aY (fU Gq) (oD Gq) (qZ Gq)
abbrev Xc:=sU Mc QW
abbrev Xd:=iT I4 MD ME Ew
abbrev Gr:=IK d e .sub
abbrev apB:=gh 89 (Ji [WZ,I4,MD,ME,Ew]) Xd Ex s9 [Xb,iT (Gr aY Xc) (bj Xc) (Gr aY Xc) (bj Xc)] nl
abbrev aeu:=s7 fo iP (yS kg jW qj aY W8 W9 Xa) W6 W7
abbrev zj:=gh a j (.agg A) s x z D
abbrev apC:=T.aV (f8 aeu) (gh 114 (zj 115 (gh 89 (Ji [WZ,Cq,Cr,Cs,Ct]) (iT Cq Cr Cs Ct) I6 s9 [Xb,iT (me QW (.v 48)) (me QW (.v 48)) (me QW (.v 49)) (me QW (.v 49))] nl) Ga s9 [I4,bj aeu] [ME,Ew,Ex] adL) I4 MD s9 [bj (s7 iH iR (yS kL nW qi aY W8 W9 Xa) W6 W7),iM] kM) (Ji [WZ,QA,AM,QB,QC])
abbrev apD:=ut I5 (cK I5 oG)
abbrev Xe:=iT (bS 88) (bS 89) (bS 90) (bS 91)
abbrev aev:=iT (bS 93) (bS 94) (bS 95) (bS 96)
abbrev apE:=T.aV (wU 87) (mg aev s9) (.back 2 [iU I5,bS 93,bS 94,bS 95,bS 96,bS 74,bS 75,bS 76,bS 77,bS 78,bS 79,bS 80,bS 81,bS 82,bS 83,bS 84,bS 85,bS 86,ou])
abbrev apF:=iT I7 I8 I9 Ja
def aew:=f9++[bM,dB]
def apG:=ut I2 (cK I2 oA)
def Jo:=RK.mr ⟨3,134,1,E,J⟩
def apH:=aew++[Jo]
abbrev Xf:=BE.and M4 (cK eJ oA)
def Xg:=RK.own 306
def apI:=ut AK (cK AK mj)
def QX:=gM AK n8
def apJ:=BE.look lz 1 QX aY aY 4
abbrev Jp:=LE.ah oV
def Nb:=gM (ly wO) IQ
def Xh:=T.back 3 [bS 66,bS 67,bS 68,bS 69,bS 70,bS 71,bS 72,bS 73,bS 74,bS 75,bS 76,bS 77,bS 78,pm,F4]
def Nc:=K.conv I (.bin .shr .u64 (Qo (qS ew dY)) cJ)
abbrev uu:=gj a ew rV
abbrev apK:List C:=[uu 0,bj MS,bj Wg,uu 3,uu 4,uu 5,uu 6,uu 7,uu 8,uu 9,uu 10,uu 11,uu 12,uu 13]
abbrev Xi:=C.agg apK
def Xj:=f9++[kB]
abbrev dj:=RK.own 3
abbrev Jq:=rY dj
def tq4:=Xj++[.am]
def apM:=tq4++[dj]
abbrev aex:=cK dY oA
abbrev aey:=bu.lex [] E
def apN:=tq4++[.am,dj]
abbrev Gs:=K.cell B dY a
abbrev apO:=gM (Gs 1 mJ) oz
abbrev QY:=kO (gM (F7 mJ) n8) apO
def Nd:List RK:=[dH,bD,bD,gu,jk,dH,bD,bD,gu,jk]
abbrev Jr:=j9 Nd
abbrev Gt:=iG dJ
abbrev Xk:=BE.and Gt (cK dJ qV)
abbrev Xl:=bj Gf
abbrev Xm:=jx 0 Xl
abbrev CF:=eD bL po (iG bL)
abbrev CG:=jx 0 (iU bL)
abbrev Xn:=ut Gf (pn Gf)
abbrev Nf:=BE.and Gt (pn dJ)
abbrev apP:=dI (fM (IS (mK 1 dJ) (sU (rQ bZ (yN dJ)) (mK 2 dJ))) ul) Nf Nf
abbrev Js:=ly bZ
abbrev apQ:=eD Js fQ (iG Js)
abbrev apR:=T.aV (sW CA bL) iB (mL (mK 1 bZ) WE (oC iB (mL (mK 2 bZ) WE (.aV ao3 iB Mp) iB) ao2) iB)
abbrev uv:=jH a j k FU nU x z
abbrev apS:=uv 140 iB (jx 1 Xl) ul [lx,fl,bj M3]
abbrev aez:=cK eQ po
abbrev apT:=lA (ly eQ) (ly eQ) po
abbrev EG:=L9 d e j k .lss
abbrev Gu:=EG d aY j k
abbrev qr:=EG d e j (nX f g k l)
abbrev apU:=Gu (vx 2 eQ) iB (qr (vx 3 eQ) (vx 2 eQ) (vx 3 eQ) qW iB iB (jx 2 (iU eQ)))
abbrev apV:=oE (vx 1 eQ) cJ (oE (vx 1 eQ) oT iB apU) apU
abbrev aeA:=cK dt FZ
abbrev aeB:=gM dt FY
abbrev aeC:=gK bZ F0
abbrev aeD:=sW bL Me
abbrev aeE:=gK bL F0
abbrev ta:=sW d cJ
abbrev Xo:=ta iQ
abbrev aeF:=gK iQ oT
abbrev QZ:=gK eJ jV
abbrev Xp:=ta ew
abbrev aeG:=BE.and Mg MM
abbrev Xq:=ta cV
abbrev aeH:=gK cV ov
abbrev aeI:=BE.and IM MM
abbrev zk:=jG j jr jr m n
abbrev apW:=zk (zk (zk (sP aeI) Xq aeH) QQ QZ) Xo aeF
abbrev Ng:=BE.and m (.and n o)
abbrev Q0:=Ng m n (.and o p)
abbrev apX:=IW (jX dY iP (sP (Q0 MK IY Mg IM)) jr) (ta dY)
abbrev nz:=j9 f9
abbrev Q1:=pn cV
abbrev xg:=iG cV
abbrev Gv:=BE.and xg m
abbrev Xr:=Gv Q1
abbrev Gw:=iU cV
abbrev Jt:=jx 0 Gw
abbrev apY:=lA (ly ew) (ly ew) qV
abbrev apZ:=uv 144 nz (jH 144 nz (jH 144 nz (jH 146 nz (jH 147 nz (jx 1 yK) L6 B9 f9 [Xi]) B8 sS f9 [Xi,Vt]) yC sQ f9 [uu 3,fl,vk]) Au qg f9 [bj Wg,aN,Vu]) f9 [bj MS,aN,bj (ly fQ)]
abbrev Ju:=K.oe nV bL
abbrev ap0:=oC Ei CG (kh Ju (.c 95))
abbrev ap1:=uo Ju (.c 48) Ju (.c 57) CG ap0 ap0
abbrev ap2:=uo Ju (.c 65) Ju (.c 90) CG ap1 ap1
abbrev lW:=T.loop a D z (.aV m j k)
abbrev CH:=lW a j k m [aN] [aW]
abbrev AR:=CH a j (wL x) m
abbrev ap3:=AR 0 (.bi lN (uo Ju (.c 97) Ju (.c 122) CG ap2 ap2)) AD mi
abbrev uw:=oC j k (gK d e)
abbrev xj:=mL d e (uw f g j k) l
abbrev ap4:=xj Qs (.c 65) Qs (.c 90) Ei ap3 Ei
abbrev Q2:=iG iR
abbrev aeJ:=s7 eQ iQ (yS cV dY iH aY (qZ iR) (vF iR) (qY iR)) (fU iR) (oD iR)
abbrev aeK:=s7 dt eJ (yS ew gL fo aY (qZ iR) (vF iR) (qY iR)) (fU iR) (oD iR)
abbrev ap5:=uo aeJ aY aeJ jV (xj aeK cJ aeK ov pA (jx 0 Na) pA) pA pA
abbrev Nh:=ly dY
def aeL:=tq2++[.am]
def ap6:=adw++[jy]
def ap7:=VC++[jy,bm]
def tq7:=VC++[.am,bm]
def aeM:=tq7++[jy]
def ap9:=aeM++[jy]
def aeN:=tq7++[.am,jy,jy]
def aqa:=aeN++[bm]
abbrev Gx:=kC oG
abbrev rg:=T.bi m (.new a L x y j)
abbrev pH:=rg a j ql x y L
abbrev mo:=rg a j m x y (.kq L F)
abbrev EH:=LE.lit [z]
abbrev pI:=pH a j x y (EH z)
abbrev Gy:=BE.and m (kC wO)
abbrev aqb:=pH 128 (rg 128 (mo 128 (pI 128 (mo 128 (rg 128 (mo 128 (lQ yK AP) (Gy Gx) aqa [cd,b9,ck,cm,bm,.am,bm,.am,bm,.am,jy,.am,bm,jy] Jp ED) (Cj (gK dY lR)) aeN aqa (.sub MV dY lR)) (.and (kC pD) Gb) ap9 aeN (.ah oz) Gc) aeM ap9 apK) (.and (kC kD) (kC mj)) ap7 aeM Wi (.ah n8)) (Cj (gK dY lR)) ap6 ap7 (.sub MV aY dY)) adw ap6 yM
abbrev aqc:=eD Js Cl (iG Js)
def aqd:List RK:=[bm,dB,.am,jy,jy]
abbrev Xs:=LE.ah Ef
def tq0:List RK:=[bm,dB,.am,bm]
def aqf:=tq0++[jy,bm]
def tq3:=tq0++[.am,bm]
def aeO:=tq3++[jy]
def aqh:=aeO++[jy]
def aeP:=tq3++[.am,jy,jy]
def aqi:=aeP++[bm]
abbrev aqj:=pH 128 (rg 128 (mo 128 (dI (pI 128 (mo 128 (rg 128 (mo 128 (lQ (iU bL) pm) (.and (kC mj) (kC pD)) aqi [bm,dB,.am,bm,.am,bm,.am,jy,.am,bm,jy] (.ah n8) (.ah oz)) (IU (gK bZ Cl)) aeP aqi (.sub Xs bZ Cl)) (.and Wk (kC kD)) aqh aeP MV Wi) aeO aqh aor) lN lN) (.and (kC qV) (kC oA)) aqf aeO (.ah rV) VB) (IU (gK bZ Cl)) aqd aqf (.sub Xs aY bZ)) [bm,dB,.am,jy] aqd yM
abbrev aeQ:=j9 [bm,dB,.am,bm]
abbrev Ni:=ny aeQ
abbrev aqk:=T.aV (fU Mr) (ny (oC aeQ (jx 1 Ek) (fU Qw))) Ni
abbrev Xt:=K.cell Ef bZ 4
abbrev aql:=mL Qw cJ (ny (uw Qw ov aeQ (jx 1 Ek))) Ni
abbrev aeR:=uo Mr aY Mr jV aql Ni Ni
abbrev aeS:=sW bL vn
abbrev aeT:=gK bZ vo
abbrev Xu:=dE rU rU (jG (ny rU) (ny rU) (ny rU) (sW Qn vn) (gK Qn Vs)) ado adp
abbrev Xv:=T.aV (wW Vr vo) rU rU
abbrev Xw:=jx 0 rW
abbrev aqm:=nu (kO (rQ ew dt) aY) (qS (rQ iQ dt) cJ)
abbrev aeU:=C.agg [jw,ju,gE,jd,lx,nj,eu,fG]
abbrev nA:=mo a j m x y L (EH z)
abbrev aqn:=nA 197 (jY 1 yK vp) Wk [cd,b9,ck,cm,bm,.am,QH] [cd,b9,ck,cm,bm,.am,.am,QH] [fG,fT] MV
abbrev Xx:=lA Qr Qr Cl
abbrev aqo:=eD IT Cl (iG IT)
abbrev aqp:List C:=[IL (gM Qr Ef) (gM IT Ef)]
def aqq:List RK:=[kB,.am,.am,.am,dj]
abbrev aqr:=eD IT qV (iG IT)
abbrev fJ:=RK.sl 39
abbrev fK:=RK.sl 66
def jZ:=tq5++[fJ,fK,au]
abbrev qu:=j9 jZ
abbrev Q3:=K.c 50
abbrev Xy:=cK eJ kD
abbrev Nj:=BE.and M4 Xy
abbrev aeV:=kQ eJ lz au
abbrev Q4:=K.len aeV
abbrev EI:=T.back 0 z
abbrev Jv:=EI [iU eJ]
abbrev aeW:=cK cV mj
abbrev Nk:=Gv aeW
abbrev Gz:=RK.sl 69
abbrev aeX:=kQ cV n8 Gz
abbrev Nl:=T.aV m qu j
abbrev aqs:=Nl (jx 1 Gw) ph
abbrev zl:=CH a (dI j n o) k m
abbrev rh:=zl 0 j k m n o
abbrev GA:=fM s jZ
abbrev aqt:=nX oA FV qu (rh (nX Q4 Ce qu Jv) (zl 1 (um 25 aqs jU jZ [.ah aeX]) (um 26 (GA jU) jU jZ Ay) aeW Nk Nk) Xy Nj Nj)
abbrev Jw:=nX d e j (nX f g k l)
abbrev aqu:=Jw kD FV oA oT qu (Nl aqt (gK oA jV)) aqt
abbrev aqv:=Jw lR Ce kD ov qu (Nl aqu (gK kD jV)) aqu
abbrev aqw:=Jw mj (.c 70) lR (.c 6) qu (Nl aqv (gK lR AN)) aqv
abbrev aqx:=Jw fQ Ce mj (.c 6) qu (jX mj (.c 64) qu aqw) aqw
abbrev Xz:=kQ bZ kP bD
abbrev CI:=K.len Xz
abbrev be:=RK.sl 70
def Q5:List RK:=[au,be,au]
abbrev CJ:=j9 Q5
def XA:List RK:=[au,be,au,au,be,au]
abbrev aeY:=cK dJ po
abbrev XB:=BE.and Gt aeY
abbrev aeZ:=kQ dJ kP bD
abbrev Q6:=j9 [Gz]
abbrev ae0:=RE.cell nV bL 1 gu
abbrev ae1:=zf bZ ae0
abbrev Nn:=dI (.aV o j k) m n
abbrev aqy:=T.aV (nY fQ (.c 12)) Q6 (rh (nX (.len (kQ bL nV dH)) Ce Q6 (dI (nX (.len ae0) Ce Q6 (.loop 1 [aW] [aN] (Nn (ga (nX (.len (kQ bZ ae0 dB)) Q3 Q6 (jx 1 Ek)) lN lN (IU ae1) (IU ae1)) CG lN lN ae1))) lN lN)) (wL [Gz]) AD lN lN)
abbrev pJ:=C.agg [jw,ju,gE,jd,lx,Aw,nj,Ci,yG,Ax,F2,nZ,n7,vp,yH,F3]
abbrev zm:List C:=[pJ]
abbrev No:=Gv (s6 cV)
abbrev EJ:=bj MP
abbrev XC:=GA EJ
def Q7:=jZ++[au]
def iq:=Q7++[be,au]
abbrev EK:=j9 iq
abbrev XD:=Gv (cK cV lT)
abbrev ux:=C.agg [s,t,u,v,w]
abbrev xk:=ux pm eu wN F4 jU
abbrev XF:=wL iq
abbrev EL:=wL jZ
abbrev ae2:=cK eJ mj
abbrev Np:=BE.and M4 ae2
abbrev XG:=kQ eJ n8 Gz
abbrev ae3:=cK cV Q4
abbrev GB:=Gv ae3
abbrev EM:=gM cV aeV
abbrev ae4:=zf cV XG
abbrev XH:=BE.and M4 (cK eJ pD)
abbrev aqz:=lA (ly eJ) (ly eJ) pD
abbrev Nq:=eD bZ FZ (iG bZ)
abbrev ae5:=gM bZ FY
abbrev ae6:=cK dJ CI
abbrev Jx:=ly ae5
abbrev CL:=zl a j k m (.and n o) p
abbrev xl:=gj a dJ Xz
abbrev aqA:=CL 0 (kj 107 CJ Xm Vp jd Q5 (s8 [xl 0,xl 1,xl 2,xl 3,xl 4,xl 5,xl 6,xl 7,xl 8,xl 9,xl 10,xl 11,xl 12])) (ga (Ed ae5 (wL Q5) (mL Jx aY (.aV (pn Jx) (dI (IF (f8 (yN Jx)) Q5) (ut Jx (pn Jx)) (ut Jx (pn Jx))) CJ) CJ)) Nq Nq Nq Nq) ae6 Gt ae6 (.and Gt ae6)
def XI:=f9++[dH,gu]
abbrev AS:=LK.ah au
abbrev Nr:=eD cV oA xg
abbrev Q8:=gM cV lz
abbrev uy:=BE.cell B d 0
abbrev ae7:=uy cV mJ
def Q9:=XI++[au]
abbrev aqB:=Nn (dI (kj 155 (j9 Q9) Jt wT fT Q9 [nq,fG,eu,.ah (kQ cV Eg dB)]) No No) Jt Nr Nr ae7
abbrev Ra:List C:=[pJ,xk]
abbrev GC:=RK.mr ⟨3,4,1,E,E⟩
abbrev ae8:=j9 [au,GC]
def XJ:=ux ez aN ez ez ou
abbrev XK:=gM ew yI
def ae9:=gK lT aY
def XL:=iq++[dj]
def tq9:=iq++[.am]
def Ns:=tq9++[dj]
def Rc:=gK oG aY
def iX:=RK.own 70
def XM:=Ns++[iX]
def aqD:=Ns++[.am]
def Nt:=aqD++[iX]
def Re:=gK wO aY
def XN:=Nt++[dj]
def Jy:=Nt++[.am,dj]
def XO:=eD cV oG xg
def Nu:=kQ cV oV bD
def afa:=eD cV (.len EE) xg
def afb:=Jy++[mh]
def aqE:=aqD++[.am,.am,dj,bD,iX]
abbrev XP:=LE.ah AO
abbrev GD:=T.new a (.set L d 0 z) x y j
def aqF:=rg 70 (dI (GD 3 cV (mg (ux yX eu ze EF jU) [cd,b9,ck,cm,bm,dP,bM,fJ,fK,au,au,be,au,.am,au,.am,.am,.am,.am,bD,be,au]) aqE [cd,b9,ck,cm,bm,dP,bM,fJ,fK,au,au,be,au,.am,dj,.am,.am,.am,.am,bD,iX,dj] [aN] XP) (eD cV AQ xg) (eD cV AQ xg)) afa afb aqE (.set WN cV 0 [zd])
abbrev Nv:=C.bO []
abbrev mq:=T.stuck ""
abbrev Rf:=kQ dY oV bD
abbrev GF:=K.len Rf
abbrev XQ:=wZ wO
abbrev afc:=cK gL GF
abbrev Rg:=ly (F7 IQ)
abbrev aqG:=ut Rg (cK Rg lT)
abbrev xo:=gj a gL Rf
abbrev Jz:=dI (oC j k o) m n
abbrev afd:=CL 2 (kj 35 mq (jx 2 EA) aec kf iq (s8 [xo 0,xo 1,xo 2,xo 3,xo 4,xo 5,xo 6,xo 7,xo 8,xo 9,xo 10,xo 11,xo 12])) (Nn WM (mL Rg aY (.aV (cK Rg lT) (Jz mq WM aqG aqG (f8 (gM Rg yI))) mq) mq) XQ XQ (oD GF)) afc Jc afc (.and Jc afc)
abbrev Nw:=cK aY GF
abbrev afe:=gM aY Rf
abbrev ri:=Ng m n (Ng o p q)
abbrev CM:=kh d (.cell B e a)
abbrev xp:=CM a d cJ Rf
abbrev jl:=K.cell Rf aY a
abbrev aqH:=mI GF oT (ga (oF 34 afd (.bool (.not (ri (xp 0 afe) (xp 1 (jl 1)) (xp 2 (jl 2)) (xp 3 (jl 3)) (ri (xp 4 (jl 4)) (xp 5 (jl 5)) (xp 6 (jl 6)) (xp 7 (jl 7)) (ri (xp 8 (jl 8)) (xp 9 (jl 9)) (xp 10 (jl 10)) (xp 11 (jl 11)) (xp 12 (jl 12))))))) EJ Nv iq []) Nw Nw (cK cJ GF) (cK cJ GF)) (oF 34 afd ou EJ Nv iq [])
abbrev aff:=kQ gL n8 Gz
abbrev afg:=zf iR aff
abbrev Rh:=kQ iR aff dH
abbrev XR:=RE.cell aff iR 1 gu
abbrev afh:=cK iP (.len Rh)
abbrev afi:=gM iP yI
abbrev aqI:=lA afi afi (.len Rh)
abbrev afj:=uy iP Rh
abbrev XS:=eD iP (.len XR) xf
abbrev afk:=oC (jx 6 Jl) (dI (jI 53 (oF 34 (jx 6 Jl) (.bool VD) EJ Nv Q7 []) qo Q7 [nq,qh,iM,.ah (kQ iP XR dB)]) XS XS) afj
abbrev afl:=cK iH qV
def aqJ:=jZ++[GC]
abbrev aqK:=lA (ly fo) (ly fo) pD
abbrev Nx:=LK.ah bM
def XT:List LK:=[AS,aW,.ah be,AS,.bool,aW]
abbrev XU:=qn AP fT
def XW:List C:=[pJ,xk,fl]
def e9:=RK.sl 96
def Ri:List LK:=[AS,aW,.ah be,AS,.bool,.ah e9,aW]
def Rj:=ux yU iM CD yV nU
def aqL:=ux zd iS ze EF qg
def aqM:=ux QT qh (iW 23) (iW 24) sQ
def JA:=ux (iW a) s (iW b) (iW c) t
def aqN:=JA 32 33 34 sT Ca
def afm:=iq++[bM,bM,au,be,au,e9,au,be,au,au,be,au,au,be,au,au,be,au,e9,au,be,au,e9,au,be,au,e9]
abbrev lX:=RK.sl 79
abbrev XX:List LK:=[.ah lX,aW]
def afn:List C:=[VE,VE,aN,aN,aN,aN,aN,aN,aN,aN,aN,aN,aN]
def aqO:=afm++[au,lX,au,be,au,e9]
def aqP:=aqO++[mh]
def aqQ:=aqO++[bD]
def afo:=aqQ++[iX]
def Ny:=EH [aN]
def afp:=afo++[dj]
def Rk:=EH [fl]
def XY:=afp++[dj]
def aqR:List C:=[VE,qm 348,aN,aN,aN,aN,aN,aN,aN,aN,aN,aN,aN]
def aqS:=XY++[mh]
def afq:=XY++[bD,iX]
def afr:=afq++[dj]
def XZ:=afr++[dj]
def aqT:=XZ++[mh]
def afs:=XZ++[bD,iX]
def afu:=afs++[dj]
def X0:=afu++[dj]
def aqU:=X0++[mh]
def aqV:=X0++[bD,iX]
def CN:=cK aY Gj
def aqW:=RE.k (.string ⟨#[113]⟩)
def X1:=aqQ++[.am,.am,.am,bD,.am,.am,.am,bD,.am,.am,.am,bD,.am,.am]
def CO:=RK.own 130
def GG:=RK.own 132
def aqX:List RK:=[CO,GG,jy,vu,.own 134]
def aqY:List LK:=[.ah .str,aW,aW,aW,aW,aW,aW,aW,aW,aW,aW,aW,aW,aW,aW,aW,aW]
def aqZ:List C:=[n7,jw,ju,gE,jd,lx,nj,eu,fG,fT,ke,iM,kf,iS,qR,qh,qo]
def aq0:List C:=[vp,ow,pi,pj,pl,sT,vl,AB,AC,AE,AF,AG,AH,qp,qX,AI,uq]
def afv:List RK:=[cd,b9,bm,dH,dB,gu,.str,.str,bM]
def afw:=afv++[au]
def afx:=afw++[au]
def afy:=afx++[fJ]
def afz:=afy++[Gz]
def aq1:=afz++[fK]
def X2:=jZ++[iX]
def aq2:=X2++[mh]
def aq3:=X2++[bD,iX]
abbrev Nz:List C:=[pJ,xk,fG]
def uz:=iq++[lX]
def aq4:=jZ++[bM]
abbrev afA:=sW lT mj
def aq5:=Jy++[dj]
def aq6:=iq++[iX]
def X3:=tq9++[iX]
def aq7:=X3++[dj]
def afB:=X3++[.am,dj]
def aq8:=afB++[dj]
def aq9:=uz++[dj]
def afC:=uz++[.am]
def X4:=afC++[dj]
def ara:=X4++[iX]
def X5:=X4++[.am,iX]
def arb:=X5++[dj]
def afD:=X5++[.am,dj]
def arc:=afD++[dj]
def qw:=RK.own 96
def ard:List LK:=[aW,.ah qw,.ah iX,.ah dj]
def afE:=RE.cell w6 aY 1 dH
def afF:=zf dY afE
def X6:=Cj afF
abbrev X7:=bj lT
def are:=EH [X7,ke,X7,fG]
def arf:=afC++[.am,.am,.am]
def arh:=arf++[.am,.am,dj,dj]
def ari:=arh++[qw,iX,dj,qw]
def arj:=arh++[.am]
def afG:=arj++[iX,dj,qw,qw]
def EN:=RE.cell w6 aY 3 bD
def X8:=wZ (.len EN)
def CP:=CM a d dY EN
def ark:=BE.not (ri (CP 0 afe) (CP 1 (jl 1)) (CP 2 (jl 2)) (CP 3 (jl 3)) (ri (CP 4 (jl 4)) (CP 5 (jl 5)) (CP 6 (jl 6)) (CP 7 (jl 7)) (ri (CP 8 (jl 8)) (CP 9 (jl 9)) (kh (jl 10) (Gs 10 EN)) (kh (jl 11) (Gs 11 EN)) (kh (jl 12) (Gs 12 EN)))))
def CQ:=yL a EN
def arl:=LE.lit [[bj afe,bj (jl 1),bj (jl 2),bj (jl 3),bj (jl 4),bj (jl 5),bj (jl 6),bj (jl 7),bj (jl 8),bj (jl 9),bj (jl 10),bj (jl 11),bj (jl 12)],[CQ 0,CQ 1,CQ 2,CQ 3,CQ 4,CQ 5,CQ 6,CQ 7,CQ 8,CQ 9,bj (Gs 10 EN),bj (Gs 11 EN),bj (Gs 12 EN)]]
def arm:=afG++[mh]
def arn:=arj++[.am,dj,qw,qw,bD,iX]
def aro:=uz++[iX]
def X9:=afC++[iX]
def arp:=X9++[dj]
def afH:=X9++[.am,dj]
def arq:=afH++[dj]
def ars:=arf++[dj,dj]
def art:=ars++[qw,iX,dj,qw]
def aru:=ars++[.am]
def afI:=aru++[iX,dj,qw,qw]
def arv:=afI++[mh]
def arw:=aru++[.am,dj,qw,qw,bD,iX]
abbrev afJ:=cK dY Gj
abbrev Ya:=Cj afJ
def afK:=cK cV Gj
abbrev afL:=fM fl iq
abbrev GH:=eD lT mj (iG lT)
abbrev NA:=kQ lT n8 Gz
abbrev Rl:=RK.mr ⟨3,3,1,E,E⟩
abbrev afM:=cK gL Gj
abbrev Rm:=ly cV
abbrev Yb:=lA Rm Rm (.len NA)
abbrev arx:=eD gL (.len (kQ Rm NA dH)) Jc
def ary:=iq++[au,Rl]
def arz:=ary++[vu]
def arA:=ary++[.am,vu]
def Ro:=uz++[au,bM]
def arB:=Ro++[vu]
abbrev afN:=j9 [cd,b9,ck,cm,bm,dP,bM,fJ,fK,au,au,be,au,lX,au,bM,dH,gu]
abbrev afO:=cK iR (.len CC)
abbrev AT:=gM iR CC
abbrev arC:=j9 [cd,b9,ck,cm,bm,dP,bM,fJ,fK,au,au,be,au,lX,au,bM,.am,.am,dH,gu]
abbrev arD:=RE.cell NA Rm 1 gu
abbrev arE:=eD AT (.len arD) (iG AT)
abbrev arF:=eD AT AQ (iG AT)
def arG:=Ro++[.am,.am]
def arH:=arG++[.am,pF,vu]
abbrev arI:=eD AT (pG 19) (iG AT)
abbrev afP:=cK iP oG
abbrev JB:=K.len (kQ iP oV bD)
abbrev arJ:=Ji [Jl,me kL JB,bj (sU kg JB)]
def afQ:=arG++[dH,gu,bD]
abbrev arK:=C.agg [pi,EF,QT,iW 23,iW 24,iW 25]
abbrev arL:=eD kg Gj (iG kg)
def afR:=afQ++[dH,bD,bD,gu,jk]
abbrev Rp:=K.len aeZ
abbrev Rq:=Mb (.conv I (.bin .and .u16 (.bin .shr .u16 bZ dJ) cJ)) Rp .rem
abbrev GI:=CM b (.cell B d a) e M
abbrev n9:=T.loop a D z (EG d e j k)
abbrev rj:=T.aV m de j
abbrev AU:=C.bool (.cell B d a)
abbrev GJ:=T.gQ ql m j k
abbrev uA:=C.int .u64 d
abbrev zn:=lW a j k m [aN,ez] D
abbrev sa:=gj a Ck lz
abbrev sd:=gj a I5 oV
abbrev xq:=dI (mI d e j k) m n
def tc:=gj a I2 mJ
def td:=rZ a kL
def th:=oE d e de j
def tj:=rZ a iP
abbrev EO:=dI j m ql
abbrev JC:=jX d e (jX f g j iB) iB
def tq:=rZ a fo
def tw:=rZ a iH
abbrev tA:=rZ a cV
abbrev tB:=rZ a EM
abbrev vH:=rZ a Nh
abbrev GK:=T.aV m (md s t x) j
def xt:=yL a oz
def xu:=gj a aY Nu
def xw:=gj a kL oz
def xx:=gj a cJ Nu
abbrev vJ:=fM aN x
abbrev vK:=jH a j k ph jU x z
def xz:=gj a iP n8
def xA:=gj a fo n8
abbrev xB:=gj a Rq aeZ
def xC:=gj a AK n8
abbrev CR:=zn a (dI j n o) k m D
def GM:=T.aV m j de
abbrev vL:=lW a j k m [aN,s] D
abbrev xD:=GI a b aY cJ Xz Xz
abbrev xE:=GI a b iP cJ (.v 20) (kQ iP oV bD)
abbrev NB:=T.ac G (.ins L a z) x j
def AV:=dE de de j m n
def zo:=GI a b fo fo oz CC
abbrev AW:=gj a d kP
abbrev CS:=wX a d w6 G
def AX:=GJ (pH a j x y yM) de m
abbrev NC:=T.eL a b c O E B x j
abbrev ND:=T.aV (yE fQ po) j k
abbrev xF:=kh d fQ
abbrev GN:=gj a eJ mJ
abbrev AY:=jI a j s [] z
abbrev GO:=gj a iH mJ
abbrev EP:=oE d aY j k
abbrev JD:=qr d cJ e f j k (EO (ny l) ql)
abbrev GP:=nX d aY j k
abbrev AZ:=GI a b bL bL nV kP
def T82:T:=mL bL bZ IG jr
def Ru:T:=vK 55 qQ (uv 55 qQ (jH 55 qQ (jH 55 qQ (dI (jH 97 qQ (jH 97 qQ (jH 97 qQ (jH 97 qQ (jH 97 qQ (gh 98 (Av kg aY qQ qQ (jG (.aV (Ma gL fo iH iR) qQ ade) ade ade (fU kg) (Ma aY gL cJ iH)) (f8 nW)) ow pi nh [.agg [aN,fl],Qi] kM) (oS 8) L7 nh [ke,AU 2 dt nV,fl,qh]) (oS 7) FX nh [fT,.bool (nY (mK 5 dt) aY),fl,Eo 5 dt]) (oS 6) Ca nh [fG,.bool (nY (mK 4 dt) aY),fl,Eo 4 dt]) L6 B9 nh [eu,AU 1 dt nV,Eo 3 dt,FW]) B8 sS nh [nj,AU 0 dt nV,fl,yD]) (eD dt FV II) (eD dt fQ II)) yC sQ nh [jd,fl,vk]) Au qg nh [gE,aN,Gr kL cJ]) nh [ju,aN,Gr iP cJ]) nh [lx,fl,bj (.c 9)]
def afT:T:=jX bZ bL IG jr
def afU:T:=dE Vm Vm (Av bZ wM Vm Vm (Av adg jV (yT aN) (yT (Gr adg jV)) (yT (bj adg)) (fU bL)) (rP bZ)) Vk adf
def Yc:T:=dE Vn Vn (Av bZ ov Vn Vn (.aV (fU bL) (mg (qT aN aN (me Mc Qj)) nh) (dI (dE (.aV (fU Qj) (ny (mg (qT (me Ee Qk) an8 Vo) nh)) (ny (mg (qT (me Ee Qk) an9 Vo) nh))) (ny (mg (qT (me Ce Qk) an8 Vo) nh)) (ny (mg (qT (me Ce Qk) an9 Vo) nh)) (fU Qj) (fU Qj)) adh adi)) (cK bZ cJ)) Vk adf
def afV:T:=dE aoa aoa (ga (Cc nh [bj Qk,bj (rT 1 Cd),aN]) adh adi adh adi) (cK bL cJ) adf
def Yd:T:=AY 139 (EP dt yF (kj 139 yF (AY 133 (yT eu) eu [bj adj,bj adk]) (f8 iQ) nj [] (s8 [gE,jd]))) lx (s8 [jw,ju])
def Ye:T:=Av bZ F0 Cf Cf (qr bL Me bL F0 Cf Cf (kN 178 (oF 177 (oE eQ cJ Cf qU) (uA dJ) (uA (Qo bZ)) (uA eQ) [] [Ql]) (uA dJ) [] [jw] [Ql])) (cK bZ cJ)
def Yf:T:=.aV Vk (ki (uA (.bin .sub .u64 aY (Qo bL)))) (ki (uA (Qo bL)))
def Yg:T:=Ed bZ (ki (uA bL)) (lW 0 (.bi (f8 (kO dt cJ)) (Ed aob (ki (uA dt)) (EI [uA eQ,uA dt,uA aob]))) (ki (uA dJ)) Vp [uA bZ,uA bL,uA bZ] [Ql,Ql,Ql])
def Yh:T:=AA 173 (AA 173 (dE (.aV At qU (ki F1)) Mf (qr bL bZ bL bZ (ki F1) Mf qU) uj At) nU [ju]) jU [jw]
def Yi:T:=sP (yE bL bL)
def T66:T:=qr bL vn bL vo jr jr (qr bZ vn bZ vo jr jr (qr dJ vn dJ vo jr jr (qr eQ vn eQ vo jr jr (IW (sP adl) Vq))))
def T72:T:=rX 126 oU (rX 126 oU aoc FU nU [adm]) ph jU [Cg]
def T69:T:=gh 89 (sP IM) adm fT [] [Cg,Cg] nl
def afZ:T:=AA 126 (dE oU rU (dE rU rU (.aV adp rU (rX 126 rU (yT adr) FU nU [adr])) aod ado) ph (cK dt adn)) jU [Cg]
def T24:T:=rX 126 de (rX 126 de (uo bL dt bZ iQ (mL dJ eJ (yT (.bool (gK eQ cV))) de) de de) FU nU [adm]) ph jU [Cg]
def af0:T:=.aV ph (sP (fU bL)) (AA 55 (ki nU) nU [jw,ju,gE])
def Yj:T:=n9 0 dJ eQ (Jz (lQ (iU IN) jd) (lQ gE (bj IN)) (lA IN IN fQ) (lA IN IN fQ) (nY (yN IN) bZ)) (dI (.bi (lA IP IP fQ) (fM (IS (mK 1 IP) (sU (rQ bZ (yN IP)) (mK 2 IP))) ul)) ql (lA IP IP fQ)) [aN,Vt] kM
def T70:T:=jX bZ bL IG jr
def T65:T:=kj 24 (vK 87 (F5 fl) (F5 fG) f9 [eu,aN,Vu]) (F5 fG) Mg fG f9 Ay
def T18:T:=gh 109 (GK de Mg (.bool (fU wO)) fG [cd,b9,ck,cm,bm,dP,bM,dH,bD,bD,gu,jk,.sl 275]) F4 fG Eh [nq,Vv,n7,.agg [eu,vp,yH,F3,pm,wN]] [.ah (.sl 275),aW]
def Yk:T:=dE Vw Vw (kj 54 (F5 eu) (vK 55 wP (uv 55 wP (jI 56 (dE wP wP (dE wP wP (CL 0 (jH 55 wP (jH 55 wP (jH 55 wP Mi B8 sS f9 [Eo 3 ew,aN,bj wM]) yC sQ f9 [Eo 2 ew,aN,ju]) Au qg f9 [Eo 1 ew,aN,jw]) (vL 1 (dI (jX Vy gL wP (nX Vy qW wP (jH 57 wP (jY 1 rW (bj Vy)) Au qg f9 [.agg aoi,Vt,nj]))) Mj Mj) (vJ f9) Vx F1 kM) Qp yJ Qp (.and yJ Qp)) (rP eQ) (fU fQ)) wQ (rP dJ)) fG f9 [qT gE jd lx]) f9 [ju,fl,IR]) f9 [jw,fl,IR]) Mh eu f9 aoh) (nY fQ (.c 64)) (nY qV F6)
def T86:T:=GJ (rg 4 (fM Ci [dH,dH]) Qq [dH] [dH,vu] VA) (fM ez [dH]) Vz
def T87:T:=GJ (rg 76 (fM Ci [bD,bD]) Qq [bD] [bD,mh] VA) (fM ez [bD]) Vz
def T88:T:=GJ (rg 134 (fM Ci [dB,dB]) Qq [dB] [dB,.own 134] VA) (fM ez [dB]) Vz
def arR:T:=jI 231 (IF (sW eQ aY) [dB]) jd [dB] [Aw,iT jw ju gE jU]
def arS:T:=rh (GM (fM jd [dB]) (Q0 (kh bL Qr) (kh bZ IT) (CM 2 dJ eQ nV) (.beq uj (.cell nV eQ 3)))) de (pn eQ) Ml Ml
def Yl:T:=dE Ei Ei (.bi Mn (jI 118 (oE bL oT Ei (AR 0 (.bi Ej (jI 118 (oE dJ oT (oE dJ ov (oE dJ vw Ei Mp) Mp) Mp) gE mi [.int .u8 (.oe nV bZ)])) Mo mi)) jw mi [.int .u8 Qs])) (.seq nV (.k (.string ⟨#[]⟩))) (nY fQ (.c 32))
def T77:T:=kj 24 (md ez fT f9) (vK 55 Mq (uv 55 Mq (zn 0 (xq (vq 1 dY) eJ (mI (vq 2 dY) cV (nA 128 (lQ rW n7) (kC oA) adu adw aoi VB) (lQ rW nZ)) (lQ rW nZ) Mj Mj) (.eL 128 129 128 (.ratio 10 11) J mJ adu (fM adx VC)) Vx (rY jy)) f9 [fG,aN,Vu]) f9 [eu,aN,bj (ly fQ)]) wT fT f9 Ay
def Ym:T:=dE aol aol (dE jr (.aV (kh dt vw) aoj adz) adz (yE iP bL) ph) (vF dt) (qY dt)
def af6:T:=mL bL bZ IG jr
def Yn:T:=uo bL (.c 97) bL (.c 122) (ki yD) aoo aoo
def NE:T:=AA 86 (dE En (oC En (mL iQ F6 En (jX VF eJ (uw eJ qW En (jX VF cV (dE En (uw ew (.c 4095) adA (kN 116 (.aV Qt rU (nA 124 (kN 116 (GK (nA 124 (ga (oF 89 (fM VI [.am,jk]) (iT (AW 0 aY) (AW 1 aY) (AW 2 aY) (AW 3 aY)) (iT (AW 0 cJ) (AW 1 cJ) (AW 2 cJ) (AW 3 cJ)) VI [.am,.am] nl) (cK aY po) (cK aY po) (cK cJ po) (cK cJ po)) Qq [nx] [.am,nx] VH (.ah nV)) (f8 jW) Qm yD [jk]) (qn (.agg VH) pj) [.am] [Cg,me aoq eJ,me aoq cV] nl) ql [] [nx] adC yM)) VG [] [Cg,me aop eJ,me aop cV] nl)) adA (wW cV qW) yJ) En)) En)) (gK dt iQ)) En ph II) jU [Cg]
def Yo:T:=ND (fM adD Qu) (GJ (rg 128 (NC 131 132 128 (CR 0 (vL 1 (xq (gM bZ Ef) IX (dI (jH 134 (dI (nA 226 (lQ (iU bL) n7) (kC oA) [bm,dB,.am,jy,.am,Qv] [bm,dB,.am,jy,.am,.am,Qv] [bj IX,pu 1,pu 2,pu 3,pu 4,pu 5,pu 6,pu 7,pu 8,pu 9,bj adH,bj adI,bj adJ,pu 13,AW 0 bZ,bj Mr,bj Qw,AU 3 bZ kP] VB) Cm Cm) (jY 1 Ek nZ) uj jU [bm,dB,.am,.am,.am,.am] [.agg aor,iT (AW 0 bZ) (bj Mr) (bj Qw) (AU 3 bZ kP)]) Cm Cm) (jY 1 Ek nZ) VK VK) (fM adD [bm,dB,.am,bm,.am,yO]) adG F2 F8) (md F2 Cb [bm,dB,.am,bm,yO]) AD lN lN F8) adF FY VJ) Qq Qu adF VA) (NC 131 132 128 (CR 0 (vL 1 aos (fM adD [bm,dB,bm,.am,yO]) (rP bZ) Ax F8) (md Ax Cb [bm,dB,bm,yO]) AD lN lN F8) Qu adt VJ) Vz)
def T27:T:=jI 35 (EP (.v 29) (Ch qX mi) (jI 49 (dE (Ch AI mi) (jG (jG (Et VM VN VO VP) (Ey (Eu VM (oB pw qj F9) VN (oB pw qj F9) VO (oB pz qj Es) (uk VP (oB pz qj Es))) IZ uq iS Qx Ep kM) (Ey aot IZ uq iM Qx Mv kM) Cp AJ) (Ey (AL aot (yQ (AL (Et (nu VQ MA) (kO VR MA) (nu VS MB) (kO VT MB)) (yQ (Eu (nu VQ MA) MG (kO VR MA) MG (nu VS MB) MH (uk (kO VT MB) MH)) AM iS MF) AJ MC Ep) yP iM Mz) Cp Mw Mv) IZ uq fT Qx [fG,gE] kM) (Ey aov IZ uq eu Qx [nj,gE] kM) IY IM) (Ey (AL aov (yQ (jG (AL (Et adO adP adQ adR) (yQ (Eu adO MG adP MG adQ MH (uk adR MH)) AM iS MF) AJ MC Ep) (Ey aow MC AM iM MF Mv kM) (Ey (AL aow (yQ (.aV AJ (Et aox aoy aoz aoA) (gh 114 (zj 115 (Eu aox (vz 57 pw qj) aoy (vz 57 pw qj) aoz (vz 58 pz qj) (uk aoA (vz 58 pz qj))) Ja mi [Ct,iS] [I7,I8,I9] adL) Ct I6 mi Ep kM)) Ew iM adN) Cp adM Mv) MC AM fT MF [fG,gE] kM) IM Cp) yP eu Mz) IY Mw [nj,gE]) IZ uq lx Qx [jd,gE] kM) (wU 30) (fU dt)) AI mi (s8 [Aw,qR,qh,qo,ow,pi,pj,pl,sT,vl,AB,AC,AE,AF,AG,AH,qp]))) qX mi [adK]
def Rv:T:=Cu (yR (dE pA (MN (yR (dE pA (MN (yR (dE pA (MN (yR (dE pA (yR (Jb 9 pA (yR (dE pA (yR (Jb 11 pA (yR (Jb 12 pA qU) (kb 12) QF)) (kb 11) QE) qU (oS 10) QD) (kb 10) We)) (kb 9) Wc) aoB (oS 8) Wb) L7 adY) (oS 7) FX adX) aoD (oS 6) adW) Ca [eu,fl,vk]) L6 B9 [nj,aN,FW]) aoG B8 (ML MK IY)) sS [lx,fl,vk]) yC sQ [jd,aN,FW]) (dE (Cu aoG yC B8 sQ sS [nj,aN,FW] [eu,fl,vk]) (Cu aoF yC B8 sQ sS adX adY) (dE (Cu aoE yC B8 sQ sS Wc We) (Cu qU yC B8 sQ sS QE QF) qU Wb QD) (ML MK IY) adW) Au (ML (fU eQ) (fU dt))) qg [gE,aN,bj wM]) ph FU jU nU [jw,bj Me,bj F0] [ju,bj Me,bj F0]
def Yq:T:=lW 0 (.bi Vp (lQ (M2 dt eQ) jd)) (lW 1 (.bi (f8 iQ) (jY 1 (M2 eJ iQ) nj)) (lW 2 (.bi wQ (jY 2 (M2 ew cV) fG)) (dI (.bi (f8 MO) (ki (qT (IK bL MO .quo) (IK bZ MO .quo) (IK dJ MO .quo)))) (f8 MO) (f8 MO)) wQ [gE,eu] kM) (f8 iQ) [ju,lx] kM) Vp [jw,aN] kM
def Yr:T:=dE vC vC (qr (nu bL bZ) ad0 (kO bL bZ) dJ vC vC (.aV aoI vC (kN 96 (oC vC qU (Ng (kh eQ bL) (kh dt bZ) (kh iQ dJ))) (qT jd lx nj) [] [qT jw ju gE] Wf))) adZ aoH
def Rw:T:=um 83 (dE gF gF (nX bL MP gF (Av dJ El gF gF (qr iQ cJ iQ jV gF gF (qr eJ cJ eJ jV gF gF (Av cV jV gF gF (qr kL aY kL qW gF gF (EO (JD iH iH ov pB pB (JD fo fo ov pB pB (JD iR iR ov pB pB (JD ew ew qW pB pB (JD dY dY qW pB pB (JD gL gL qW pB pB (JD eQ eQ AN pB pB (Av dt AN pB pB (EO (ny (Av bZ MP pB pB (EO (ny (qr iP aY iP qW pB pB (ny (vJ mi)))) ql) (rP bZ))) ql) (rP dt))))))))) ql)) ad1))) adZ)) ph (cK bL cJ)) jU mi [Aw]
def T23:T:=kj 127 (F5 ad2) (zn 0 (xq Wg eJ (mI (vq 4 ew) wM (oE ad3 MS (NB 2 ad4 [cd,b9,ck,cm,bm,Ez] [IL MS ad3,uk MS ad3,Cb] VB Ez) ad5) ad5) ad5 vD vD) (zn 1 (n9 2 gL fQ (.aV (.look mJ 2 dY gL aY 2) (nA 197 (jY 2 EA yH) (kC kD) [cd,b9,ck,cm,bm,Ez,.am,QH] [cd,b9,ck,cm,bm,Ez,.am,.am,QH] [ke,iM] Wi) (jY 2 EA vp)) (jY 1 rW vp) [aN,n7] Wh) (fM adx [cd,b9,ck,cm,bm,Ez,kB]) (pn dY) Wh) QG (rY Ez)) wQ fG f9 MQ
def Rx:T:=gh 92 (.aV wT (fM fT vE) (oE lR oA (fM MU vE) (GJ (mo 128 (NC 131 132 128 (CR 0 (vL 1 (xq (gM gL n8) (F7 Eg) (dI (jH 134 (dI (nA 226 (lQ rW wN) Gb [cd,b9,ck,cm,bm,dB,bm,.am,jy,.am,Qv] [cd,b9,ck,cm,bm,dB,bm,.am,jy,.am,.am,Qv] [ij 0,ij 1,ij 2,ij 3,ij 4,ij 5,ij 6,ij 7,ij 8,ij 9,ij 10,ij 11,ij 12,ij 13,gj 0 gL mJ,gj 1 gL mJ,gj 2 gL mJ,AU 3 gL mJ] Gc) Wo Wo) (jY 1 EA pm) uj jU [cd,b9,ck,cm,bm,dB,bm,.am,.am,.am,.am] [.agg [ij 0,ij 1,ij 2,ij 3,ij 4,ij 5,ij 6,ij 7,ij 8,ij 9,ij 10,ij 11,ij 12,ij 13],iT (gj 0 gL mJ) (gj 1 gL mJ) (gj 2 gL mJ) (AU 3 gL mJ)]) Wo Wo) (jY 1 EA pm) Wn Wn) (fM MU [cd,b9,ck,cm,bm,dB,bm,.am,bm,.am,yO]) Wm F3 F8) (vJ [cd,b9,ck,cm,bm,dB,bm,.am,bm,yO]) Wl MW MW F8) aoJ lz VJ) Wk vE aoJ yM MV) (NC 131 132 128 (CR 0 (vL 1 aos (fM MU [cd,b9,ck,cm,bm,dB,bm,bm,.am,yO]) (rP gL) yH F8) (vJ [cd,b9,ck,cm,bm,dB,bm,bm,yO]) Wl MW MW F8) vE adt VJ) (gK lR aY)))) n7 fT Wj QI MT
def T89:T:=gh 92 (GK (jI 35 (EP (.v 22) (md Jd AB vE) (gh 93 (GK (lW 0 (dI (gh 165 (dE (md Jd QK QJ) (mg aoM QJ) (EI [iU Ck,Ex,Ga,Cq,Cr,Cs,Ct,I6,I7,I8,I9,Ja,MX,MY,Ex,Ga,Cq,Cr,Cs,Ct,I6,I7,I8,I9,Ja,MX,MY]) (wU 63) (wU 63)) aoM QK QJ [.agg [yP,Qy,Qz,bj sZ,bj vy,QA,AM,QB,QC,I4,MD,ME,Ew],.agg [sa 0,sa 1,sa 2,sa 3,sa 4,sa 5,sa 6,sa 7,sa 8,sa 9,sa 10,sa 11,sa 12,sa 13],iT (sa 14) (sa 15) (sa 16) (AU 17 Ck lz)] Je) aoL aoL) (mg (.agg [AE,AF,AG,AH,qp,qX,AI,uq,Mt,I0,I1,Mu,I3]) QJ) (cK Ck kD) [aN,fT,ke,iM,kf,iS,qR,qh,qo,ow,pi,pj,pl,sT,fT,ke,iM,kf,iS,qR,qh,qo,ow,pi,pj,pl,sT] [aW,aW,aW,aW,aW,aW,aW,aW,aW,aW,aW,aW,aW,aW,aW,aW,aW,aW,aW,aW,aW,aW,aW,aW,aW,aW,aW]) ph Jd MU QJ) vp jU vE [n7,nZ] [.ah yO,.bool])) AB vE [Wp]) (f8 IJ) Jd vl vE) n7 vl Wj QI MT
def Ys:T:=AY 35 (dE (md Jd AI []) (rX 71 (rX 71 (rX 71 (rX 71 (yR (dE (.aV (.v 5) (rX 71 (yR ao1 FX [qX,aN,aN]) Gd (.v 6) Ca [qp,aN,aN]) Gd) (rX 71 (yR ao1 FX [qX,aoQ,aoR]) Gd (.v 6) Ca [qp,Cy aY aY aoO,Cy aY aY aoP]) Gd uj (.v 5)) B9 [vl,Cy cJ cJ (s7 aY aY (s7 aY cJ Wq Cx EB) Cv Cw),Cy AN AN (s7 aY aY (s7 aY wM Wq Cx EB) Cv Cw)]) QL (.v 4) sS [sT,aoQ,aoR]) QL (.v 3) sQ [pl,Cy cJ cJ aoO,Cy jV jV aoP]) QL (.v 2) qg [pj,Cy cJ aY (yS cJ cJ aY aoN Cv Cw Cx),Cy oT aY (s7 oT oT (s7 aY aY (yS aY aY oT aY MZ M0 M1) Cx EB) Cv Cw)]) QL At nU ady) QL (wU 30) (Ge (oD nW) (qZ nW) (Ge Cv Cw (Jf Cx EB MZ M0 M1)))) AI [adK]
def Yt:T:=jX (kO fQ po) F6 (uw FZ (.c 256) QM (jX cJ bL (.aV (gK bL F6) (GP fQ (Jz iB (vL 0 (dI (JC Gf CA CA Cd (jX WE (mK 1 bZ) (.aV ao2 (jX WE (mK 2 bZ) (.aV ao3 iB (lQ Ek (bj CA))) iB) iB) iB)) Ej Ej) (n9 1 eQ bL (jI 137 (jX cJ dt (uw dt M3 iB (jx 1 (iU eQ))) iB) lx ul [QN,jd]) (vL 2 (dI (JC adB ad8 ad8 (rQ bL oT) (JC cJ (vx 1 dt) (vx 1 dt) oT (JC aY (vx 2 dt) (vx 2 dt) (vx 3 dt) (uw (vx 3 dt) qW iB (jY 2 (iU dt) (bj ad8)))))) (.and II ad7) (.and II ad7)) (CL 3 (JC aY aea aea bL (JC aY (rT 1 eJ) (rT 1 eJ) bL (oE aea (rT 1 eJ) (JC vn (rT 2 eJ) (rT 2 eJ) (rT 3 eJ) (uw (rT 3 eJ) vo iB (.back 3 [iU eJ]))) iB))) (vJ ul) ad9 M4 ad9 (.and M4 ad9)) ad7 F1 kM) [aN] [aW]) Mo F1 kM) Mn Mn (fU (yN aY))) iB) iB) iB)) QM
def T13:T:=jI 24 (dE (md Jg fG CB) (md Jg fl CB) (mL eJ iQ (md Jg fl CB) (jG (jG Gg (CH 0 (ga (ga (kj 49 (jI 35 (dE Gg (kj 53 Gg Mi aec kf CB [nq,fT,eu,.ah (kQ ew oz dB)]) (oC Gg Mi (fU (.len (kQ ew oz dB)))) (.not Cp) (uy ew lz)) iM CB ao4) Gg MM ke CB aeb) M5 M5 (eD ew pD yJ) (eD ew pD yJ)) Gh Gh WF WF) (kN 76 (kN 77 (lW 1 (ga (ga (kN 78 (nA 67 (.aV (uy dY lz) (zj 79 (EP Ck (md Jg AC aei) (zj 80 (EP Ms (md Jg qp aei) (nA 76 (nA 124 apb Jh WL apa [AE,AF,AG,AH] Gk) (kC wO) aeg WL ao8 ED)) qp aeh [nq,ke,eu,.agg WK,ao9,aee] [AE,AF,AG,AH] nl)) AC aeh [nq,ke,eu,.agg WK,aee] ao8 Je) (oF 81 (GK (nA 76 (nA 124 apb Jh WL apa [iM,kf,iS,qR] Gk) (kC wO) aeg WL WK ED) (f8 iP) Jg qh aei) (.agg WK) ao9 apc aeh nl)) WI [cd,b9,ck,cm,bm,dP,bM,dH,bD,gu,dH,bD,mh,pF,nx,dB] aeg [yU] WJ) yU [cd,b9,ck,cm,bm,dP,bM,dH,bD,gu,dH,bD,.am,.am,.am] [aee] [.ah dB]) (wZ mj) (wZ mj) WH WH) MW MW M6 M6) (mg (.agg [eu,pm,wN,F4,AP,yX]) [cd,b9,ck,cm,bm,dP,bM,dH,bD,gu,dH,bD,bD,gu,jk]) Wl [aN,ez,ez,ez] ao5) wN [cd,b9,ck,cm,bm,dP,bM,dH,bD,gu,dH] [yH] [QP]) pm CB [vp] [.ah dH]) QO) Gg (xF mj) (.not (xF pD))) Gg Gg (xF lR) (xF kD))) wQ (rP eJ)) fG CB Ay
def T16:T:=jI 24 (AV (GM (EG eJ iQ (GM (dE de (jG (oC de (CH 0 (ga (ga (kj 49 (jI 35 (dE de (kj 53 de Mi aec kf Eh [nq,fT,eu,wX 0 ew yI dB]) de (.not Cp) (uy ew lz)) iM Eh ao4) de MM ke Eh aeb) M5 M5 Gl Gl) Gh Gh WF WF) (CH 1 (ga (oF 89 (Ed iP (dI (jI 35 (oC de WM VD) qo Eh (s8 [xt 0,xt 1,xt 2,xt 3,xt 4,xt 5,xt 6,xt 7,xt 8,xt 9,xt 10,xt 11,xt 12])) WH WH) de) apd apd apc Eh nl) yY yY yY yY) (CH 2 de (kN 76 (kN 77 (lW 3 (Jn (ga (kN 78 (nA 67 (GM (zj 79 (rj (zj 80 (rj (nA 76 (nA 124 (.back 3 [iU iH,zd,yW,ze]) ael apl [cd,b9,ck,cm,bm,dP,bM,dH,bD,bD,gu,jk,dH,bD,.am,.am,.am,dB,pF,mh,nx] [AG,AH,qp,qX] WN) Jh apf apl apk Gk) (wU 30)) AI apj [nq,kf,eu,apg,.agg [Gi 0 iH,tw 1,tw 2,tw 3,tw 4,tw 5,tw 6,tw 7,tw 8,tw 9,tw 10,tw 11,tw 12,tw 13,tw 14,tw 15,tw 16],aek] [AG,AH,qp,qX] nl) (wU 25)) AF apj [nq,kf,eu,apg,aek] apk Je) (uy iH lz)) Jj [cd,b9,ck,cm,bm,dP,bM,dH,bD,bD,gu,jk,dH,bD,mh,pF,nx,dB] apf [yV] Jk) yV [cd,b9,ck,cm,bm,dP,bM,dH,bD,bD,gu,jk,dH,bD,.am,.am,.am] [aek] [.ah dB]) (eD iH mj yZ) (eD iH mj yZ) (eD iH lT yZ) (eD iH lT yZ)) yZ (s6 iH) yZ (s6 iH) (eD iH kD yZ) (eD iH kD yZ)) (zn 4 (Jn (ga (ga (oC de (ga (gh 159 (AV (GM (gh 92 (rj (vL 5 (dI (zl 6 (mI (gM kg Gn) (gM kL AO) (gh 196 (rj (dI (uv 197 de (Em (.cell AO kL 4) wM (.cell AO kL 4) jV de de (jY 5 WR zd)) [cd,b9,ck,cm,bm,dP,bM,dH,bD,bD,gu,jk,dH,bD,.am,.am,.am,rf,bm,rf,dB] [ze,iT (gj 0 kg Gn) (gj 1 kg Gn) (gj 2 kg Gn) (AU 3 kg Gn)]) WQ WQ) (f8 nW)) ze pi apo [nq,gj 0 kL AO,.agg [Gi 0 fo,tq 1,tq 2,tq 3,tq 4,tq 5,tq 6,tq 7,tq 8,tq 9,tq 10,tq 11,tq 12,tq 13,tq 14,tq 15,tq 16]] [.ah dB,aW]) de) de (zf kg Gn) WQ WQ) (.and M7 aen) (.and M7 aen)) (gh 199 (rj (n9 6 nW M8 de (jY 4 (iU fo) EF) [aN,zd] QR) (f8 kg)) ze ow apo [nq,iS,eu,.agg [xA 0,xA 1,xA 2,xA 3,xA 4,xA 5,xA 6,xA 7,xA 8,xA 9,xA 10,xA 11,xA 12],n7,.ah Gn] [.ah (.sl 306),aW]) aen yV QR) (f8 iP)) yW qh WP [nq,iS,eu] MT) (uy fo lz)) Qt ph) jU qR WP [iT (gj 0 fo EE) (gj 1 fo EE) (gj 2 fo EE) (gj 3 fo EE),iT (gj 0 fo oV) (gj 1 fo oV) (gj 2 fo oV) (gj 3 fo oV)] QS) apn apn (eD fo oG xe) (eD fo oG xe)) (ri (CM 0 aem fo CC) (zo 1 1) (zo 2 2) (zo 3 3) (ri (zo 4 4) (zo 5 5) (zo 6 6) (zo 7 7) (ri (zo 8 8) (zo 9 9) (zo 10 10) (zo 11 11) (zo 12 12))))) WO WO apm apm) (eD fo mj xe) (eD fo mj xe) (eD fo lT xe) (eD fo lT xe)) xe (s6 fo) xe (s6 fo) (eD fo kD xe) (eD fo kD xe)) (gh 90 (rj (zn 5 (Jn (zj 81 (rj (nA 124 (jY 5 Jl ze) (Gm 19) [cd,b9,ck,cm,bm,dP,bM,dH,bD,bD,gu,jk,dH,bD,mh,pF,nx,rf,kB,nx] [cd,b9,ck,cm,bm,dP,bM,dH,bD,bD,gu,jk,dH,bD,mh,pF,nx,rf,kB,.am,nx] [qo,ow,pi,pj] (vG 19)) (f8 qi)) pl [cd,b9,ck,cm,bm,dP,bM,dH,bD,bD,gu,jk,dH,bD,.am,.am,.am,rf,kB,.am] [.agg [xz 0,xz 1,xz 2,xz 3,xz 4,xz 5,xz 6,xz 7,xz 8,xz 9,xz 10,xz 11,xz 12],.agg [Gi 0 iP,tj 1,tj 2,tj 3,tj 4,tj 5,tj 6,tj 7,tj 8,tj 9,tj 10,tj 11,tj 12,tj 13,tj 14,tj 15,tj 16]] [qo,ow,pi,pj] nl) xf aeo xf aeo (.and xf (s6 iP)) (.and xf (s6 iP))) (zn 6 (Jn (zj 81 (th qj aY (nA 124 (jY 6 WR EF) (kC M8) [cd,b9,ck,cm,bm,dP,bM,dH,bD,bD,gu,jk,dH,bD,mh,pF,nx,rf,kB,nx,nx] [cd,b9,ck,cm,bm,dP,bM,dH,bD,bD,gu,jk,dH,bD,mh,pF,nx,rf,kB,nx,.am,nx] [ow,pi,pj,pl] aeq)) sT [cd,b9,ck,cm,bm,dP,bM,dH,bD,bD,gu,jk,dH,bD,.am,.am,.am,rf,kB,.am,.am] [.agg [xw 0,xw 1,xw 2,xw 3,xw 4,xw 5,xw 6,xw 7,xw 8,xw 9,xw 10,xw 11,xw 12],.agg [Gi 0 kL,td 1,td 2,td 3,td 4,td 5,td 6,td 7,td 8,td 9,td 10,td 11,td 12,td 13,td 14,td 15,td 16]] [ow,pi,pj,pl] nl) M7 aep M7 aep (eD kL lR M7) (eD kL lR M7)) (EO (gh 201 (rj (n9 7 nW (pG 21) de (n9 8 jW AQ de (.loop 9 [.ah (.own 267),.ah M9] [ez,ez] (.pick (pG 23) (.not (.has (.v 25) 1 qi aY aY)) (gK (pG 23) (pG 25)) de (NC 162 163 267 (n9 10 qi (pG 26) de (mg (iW 27) [cd,b9,ck,cm,bm,dP,bM,dH,bD,bD,gu,jk,dH,bD,bD,gu,jk,rf,kB,jk,jk,WS,rf,rf,.am,M9,.sl 267,.sl 275]) [aN,ez] (rY (.own 275))) [cd,b9,ck,cm,bm,dP,bM,dH,bD,bD,gu,jk,dH,bD,mh,pF,nx,rf,kB,jk,nx,WS,rf,rf,.own 267,M9] (.v 24) (.lex [0,1,2] E)))) [aN,QT] QR) [aN,yV] QR) (f8 kg)) EF ow [cd,b9,ck,cm,bm,dP,bM,dH,bD,bD,gu,jk,dH,bD,.am,.am,.am,rf,kB,jk,.am] [nq,Vv,eu,wN,zd,yW] [.ah WS,aW]) ql) aep [aW,WG]) aeo [aW,WG]) Qt) yW qR WP MQ [.ah kB,aW]) (s6 fo) QR) (s6 iH) [aN,ez,ez,ez] ao5) AP [cd,b9,ck,cm,bm,dP,bM,dH,bD,bD,gu,jk,dH] [yH] [QP]) F4 Eh [vp] [.ah dH]) (cK gL oA)) (pn dY)) QO) (xF lT)) de de (xF kD) (xF mj)) de (.not (xF oG)) (xF lR)) (xF pD)) de) QQ) wQ aej) fG Eh Ay
def arU:T:=jI 24 (AV (um 87 (AV (th kD fQ (rh (uv 86 de Mi QU [iT (pE 0) (pE 1) (pE 2) (pE 3)]) (zl 1 (uv 86 de WM QU [iT (yL 0 lz) (yL 1 lz) (yL 2 lz) (yL 3 lz)]) (lW 2 de (lW 3 de (n9 4 fo aY de (n9 5 iR lR (n9 6 iP fQ de (jY 5 Na yU) [Na,yX] zg) (vL 6 (n9 7 kL fQ de (jY 6 Jl CD) [Jl,yU] zg) (n9 7 kL kD (n9 8 kg fQ de (jY 7 WR yV) [WR,CD] zg) (n9 8 kg kD (lW 9 de (jY 8 (iU kg) yW) (pn nW) [iU kg,yV] zg) (vL 9 (n9 10 jW oG de (jY 9 (iU nW) zd) [aN,yW] zg) (n9 10 jW fQ (dI (gh 159 (dI (gh 159 (AV (jY 10 (bj Cz) zd) FU Au) qg sT aps [iT (gj 0 jW lz) (gj 1 jW lz) (gj 2 jW lz) (gj 3 jW lz),apr] QS) apu apu) nU pl aps [iT (rZ 0 jW) (rZ 1 jW) (rZ 2 jW) (rZ 3 jW),apr] QS) apq apq) (mg zd [cd,b9,ck,cm,bm,dP,jk,jk,kB,.am,Ez,jk,.am,.am,.am,.am,.am,.am,.am,WS]) [aN,yW] zg) (pn nW) yV zg) [aN,CD] zg) [aN,yU] zg) (s6 iP) yX zg) [aN,AP] zg) [aN,F4] zg) WT [aN,ez,F3] [aW,WG,aer]) Wm [aN,ez,ez] [aW,aer,.ah Ez]) aed M6 M6) QO Gh Gh)) ph (yE lR fQ)) jU QU [eu,aN,Vu]) wQ aej) fG QU Ay
def T78:T:=zj 229 (rj (jI 49 (AV (jG (ny (nX (.v 31) gL de (pI 134 (th (.v 26) cJ (fM adx [cd,b9,ck,cm,bm,.str,dB])) aes [cd,b9,ck,cm,bm,.str,.own 134] [AC,aN,aN,ou]))) de de (Ge (oD Co) (qZ Co) (Ge (vF Co) (qY Co) (Ge (kh Co vw) (kh Co (.c 9)) Qh))) (oD Co)) (f8 AK) (wU 37)) Qy aes (s8 [nZ,fG,fT,ke,iM,kf,iS,qR,qh,qo,ow,pi,pj,pl,sT,vl,AB])) (wU 37)) yP aes MQ [AC,AE,AF,AG,AH,qp,qX,AI,uq,Mt,I0,I1,Mu,I3] [aW,aW,aW,aW,aW,aW,aW,aW,aW,aW,aW,aW,aW,aW,aW]
def T90:T:=gh 92 (GK (kj 35 (Ch Qy Jm) (jI 49 (EP Mx (Ch Qz Jm) (gh 93 (GK (lW 0 (dI (dE (EI [iU sZ,nU,qg,sQ,sS,B9,Ca]) (dI (lW 1 apx (dI (lW 2 apA (EI [iU sZ,Cb,kb 12,kb 13,kb 14,kb 15,kb 16]) W0 apy WW) WU WV) WX apw WW) WU WV) (dI (lW 1 apx (dI (lW 2 apA (EI [iU sZ,.bool (kh Gp (.c 6)),kb 12,kb 13,kb 14,kb 15,kb 16]) W0 apy WW) WU WV) WX apw WW) WU WV) (.cell oV sZ 17) At) apv apv) (lW 1 (ga (.bi (Jf W6 W7 W8 W9 Xa) (dE apB (.aV (f8 aeu) apB apC) apC (.eB W6 (.v 2) (.eB W7 (.v 3) (.eB W8 (.v 4) (.eB W9 (.v 5) (.eB Xa (.v 6) Qh))))) At)) (.and WY aet) (lA Gq Gq ov) (Ge (fU Gq) (oD Gq) (.eB (qZ Gq) ql Qh)) (.and WY aet)) (gh 116 (EP (.v 50) (Ch Ex s9) (gh 89 (lW 2 (dI (zj 165 (GK (gh 116 (EP (.v 92) (Ch (bS 92) s9) (.aV (.v 7) (oF 89 apE Xe Xe (qn aev (bS 97)) s9 nl) (oF 89 apE apF Xe (qn aev (bS 97)) s9 nl))) Xe (bS 92) s9 [Xb,me Ee (.v 74),me Ee (.v 75)] nl) (wU 87) Qm (bS 87) s9) (bS 87) s9 [.agg [MX,MY,QK,bS 64,bS 65,bS 66,bS 67,bS 68,bS 69,bS 70,bS 71,bS 72,bS 73],.agg [sd 0,sd 1,sd 2,sd 3,sd 4,sd 5,sd 6,sd 7,sd 8,sd 9,sd 10,sd 11,sd 12,sd 13],iT (sd 14) (sd 15) (sd 16) (AU 17 I5 oV)] [bS 74,bS 75,bS 76,bS 77,bS 78,bS 79,bS 80,bS 81,bS 82,bS 83,bS 84,bS 85,bS 86] Je) apD apD) (mg apF s9) (cK I5 oG) [aN,Ga,Cq,Cr,Cs,fT,ke,iM,kf,iS,qR,qh,qo,ow,pi,pj,pl,sT,ou] [aW,aW,aW,aW,aW,aW,aW,aW,aW,aW,aW,aW,aW,aW,aW,aW,aW,aW,.bool]) (iT Ga Cq Cr Cs) Ct s9 [Xd,Xd] nl)) Xd Ex s9 [Xb,me Ee ew,me Ee dY] nl) aet [aN,Gr aY W5,bj W5,Gr aY W5,bj W5] nl) (cK sZ oG) [aN,ou,ou,ou,ou,ou,ou] [aW,.bool,.bool,.bool,.bool,.bool,.bool]) ph Qm MU s9) wN jU Jm [pm,F3] [.ah yO,.bool])) Qz Jm (s8 [yH,vl,AB,AC,AE,AF,AG,AH,qp,qX,AI,uq,Mt,I0,I1,Mu,I3])) (f8 AK) Qy Jm [Wp]) (wU 37) Qm yP Jm) pm yP [ada,adb,kB,cd,b9,ck,cm,bm,.str,dB] [.agg [jw,ju,gE,jd,lx,Ax,nj,F2,nZ,n7,vp],eu,fG] MT
def arW:T:=zj 79 (th Es aY (mI oA fQ (rh (kj 49 de (jx 0 (iU I2)) (f8 ur) I3 aew (s8 [wX 0 I2 mJ .str,tc 1,tc 2,tc 3,tc 4,tc 5,tc 6,tc 7,tc 8,tc 9,tc 10,tc 11,tc 12,tc 13,tc 14,tc 15,tc 16])) (CR 1 (NB 1 (jY 1 (iU ur) yH) apH [rZ 0 ur,rZ 0 ur,rZ 1 ur,rZ 2 ur,AU 3 ur Eg] Wi Jo) (gh 92 (dI (lW 2 (dI (zj 165 (rj (mI (.cell n8 AK 4) cJ (.loop 3 [aW,aW,aW,aW,aW,aW,aW,aW,aW,aW,aW,aW,aW,.ah Xg,.ah M9] [Cq,Cr,Cs,Ct,I6,I7,I8,I9,Ja,MX,MY,QK,bS 64,F3,ez] (.pick El (.not (.has oV 1 (.v 79) aY aY)) (gK El oG) (NB 1 (.bi (Ng (Gy (gK cJ wO)) (iG Nb) (cK Nb El)) (Em Nb aY Nb cJ Xh Xh (Em Nb oT Nb ov (nX (.cell n8 AK 8) (.cell mJ eJ 4) de Xh) Xh de))) [cd,b9,ck,cm,bm,bM,dB,Jo,bm,.am,Xg,M9] [bS 79] Jp M9) (.back 2 [iU AK,bS 66,bS 67,bS 68,bS 69,bS 70,bS 71,bS 72,bS 73,bS 74,bS 75,bS 76,bS 77,bS 78,pm]))) de) apJ) (bS 65) [cd,b9,ck,cm,bm,bM,dB,Jo,bm,.am] [.agg [Qz,bj sZ,bj vy,QA,AM,QB,QC,I4,MD,ME,Ew,Ex,Ga],.agg [bj QX,xC 1,xC 2,xC 3,xC 4,xC 5,xC 6,xC 7,xC 8,xC 9,xC 10,xC 11,xC 12,xC 13],iT (bj (.look lz 1 QX aY aY 1)) (bj (.look lz 1 QX aY aY 2)) (bj (.look lz 1 QX aY aY 3)) (.bool apJ)] [Cq,Cr,Cs,Ct,I6,I7,I8,I9,Ja,MX,MY,QK,bS 64] Je) apI apI) (NC 280 236 306 (ny (mg pm [cd,b9,ck,cm,bm,bM,dB,Jo,bm,.am,.sl 306])) [cd,b9,ck,cm,bm,bM,dB,Jo,bm,Xg] oz (.lex [1,0] E)) (cK AK mj) [aN,fT,ke,iM,kf,iS,qR,qh,qo,ow,pi,pj,pl,sT,ez] [aW,aW,aW,aW,aW,aW,aW,aW,aW,aW,aW,aW,aW,aW,.ah Xg]) Xf Xf) yH yP apH QI MT) (s6 ur) (ut ur (s6 ur)) (ut ur (s6 ur)) (rY Jo)) (cK I2 oA) apG apG) de)) I1 aew [nq,eu,fG,Wp,n7] [vl,AB,AC,AE,AF,AG,AH,qp,qX,AI,uq,Mt,I0] Je
def arX:T:=kj 24 de (n9 0 ew dY (dI (kj 133 de (lQ fT (bj Nc)) (rP gL) iM f9 [gj 0 Nc rV,eu]) (lA Nc Nc qV) (lA Nc Nc qV)) (GM (dI (kj 133 de (dI (mg Xi f9) vD vD) (.not Cp) iM f9 [uu 0,eu]) vD vD) QG) [aN,bj qV] kM) wQ fG f9 Ay
def T63:T:=gh 90 (.aV wQ (fM ad2 Xj) (zn 0 (nA 3 (lQ yK vp) Wk [cd,b9,ck,cm,bm,kB,dj] apM [fT] MV) (vL 1 (dI (.eL 91 91 3 (.dD 0 aey [F7 mJ]) J lz apM (.eL 91 91 3 (.dD 0 aey [Gs 1 mJ]) J n8 apN (ga (GD 3 QY (jY 1 rW pm) [cd,b9,ck,cm,bm,kB,.am,.am,.am,dj] [cd,b9,ck,cm,bm,kB,.am,.am,.am,.am,dj] [IL (gM (F7 mJ) n8) apO] (.ah oz)) ql ql (lA QY QY pD) (lA QY QY pD)))) (Cj aex) (Cj aex)) (n9 2 gL kD (.eL 91 91 3 (.dD 0 aey [gL]) J n8 apN (jY 2 EA F3)) (mg yH [cd,b9,ck,cm,bm,kB,.am,.am,au]) [aN,vp] Jq) aex n7 Jq) Qp Jq)) nZ fG f9 MQ [.ah kB,aW]
def T15:T:=.aV (yE bL bZ) Jr (oE qV pD Jr (vK 45 Jr (uv 32 Jr (jH 32 Jr (jH 46 Jr (AR 0 (ga (oC Jr Xm (Q0 (GI 0 0 dJ dJ rV oz) (GI 1 1 dJ dJ rV oz) (GI 2 2 dJ dJ rV oz) (GI 3 3 dJ dJ rV oz))) Xk Xk (eD dJ pD Gt) (eD dJ pD Gt)) (cK dJ qV) Nd) yC sQ Nd [Ax,yH]) Au qg Nd [yG,vp]) Nd [Ci,n7]) Nd [Aw,nZ]))
def T43:T:=ND (j9 [dH,dH]) (AR 0 (ga (oC (j9 [dH,dH]) CG (.beq (uy bL nV) (uy bL kP))) lN lN CF CF) AD [dH,dH])
def T44:T:=ND (j9 [bD,bD]) (AR 0 (ga (oC (j9 [bD,bD]) CG (ri (CM 0 IX bL kP) (AZ 1 1) (AZ 2 2) (AZ 3 3) (ri (AZ 4 4) (AZ 5 5) (AZ 6 6) (AZ 7 7) (ri (AZ 8 8) (AZ 9 9) (CM 10 adH bL kP) (CM 11 adI bL kP) (CM 12 adJ bL kP))))) lN lN CF CF) AD [bD,bD])
def T45:T:=ND (j9 [gu,gu]) (AR 0 (ga (vK 82 (j9 [gu,gu]) CG [gu,gu] [wX 0 bL nV dB,wX 0 bL kP dB]) lN lN CF CF) AD [gu,gu])
def T98:T:=ND (j9 [dB,dB]) (AR 0 (ga (oC (j9 [dB,dB]) CG (Q0 (CM 0 IX bL kP) (AZ 1 1) (AZ 2 2) (.beq (.cell nV bL 3) (.cell kP bL 3)))) lN lN CF CF) AD [dB,dB])
def agj:T:=mL bL bZ IG jr
def agk:T:=mL bL bZ IG jr
def agl:T:=rh (jX (yN Gf) bZ Xm apP) apP (pn Gf) Xn Xn
def T91:T:=Jw fQ F6 po F6 QM QM (nX FZ (.c 256) QM (.aV (ta bL) (dE iB iB (dI (EP (yN aY) iB (rh (.aV (nY bZ aY) (dI (jX CA (yN Js) iB apR) apQ apQ) apR) (CH 1 (.aV (pn Gf) (ga (jI 179 (vK 140 iB (jI 179 apS lx ul [QN,Gr (yN Gf) cJ]) ul [jd,fl,bj M3]) jd ul [QN,Eo 0 dJ]) Xn Xn Nf Nf) (dI (jI 179 (vK 140 iB (jI 179 apS lx ul [QN,bj Cd]) ul [jd,fl,bj M3]) jd ul [QN,Eo 0 dJ]) Nf Nf)) (CL 2 (vK 140 iB (GP eQ (dI (jX (gM eQ kP) (gM (ly eQ) kP) iB apV) apT apT) apV) ul [AW 0 eQ,aN,bj (rQ bL oT)]) (CL 3 (xj aeB aY aeB bL iB (xj (rT 1 dt) aY (rT 1 dt) bL iB (mI aeB (rT 1 dt) iB (EG (rT 2 dt) vn iB (qr (rT 3 dt) (rT 2 dt) (rT 3 dt) vo iB iB (jx 3 (iU dt))))) iB) iB) (vJ ul) aeA II aeA (.and II aeA)) aez (iG eQ) aez (.and (iG eQ) aez)) (pn dJ)) Mo Ej Ej)) Mn Mn) (.not (gK bL F6)) (fU fQ)) iB))
def agn:T:=.loop 0 kM [ju,jw] (GP dJ (.bi (f8 dJ) (lQ (M2 eQ dJ) gE)) (ki jd))
def ago:T:=dE vC vC (qr bL ad0 bL dJ vC vC (qr bZ ad0 bZ dJ vC vC (.aV aoI vC (AY 180 (AY 180 (oE dt cJ vC qU) lx [jd,gE]) jd [uk bL (rQ aY bL),uk bZ (rQ aY bZ)])))) adZ aoH
def agp:T:=.loop 0 kM [ju,jw] (GP dJ (.bi (f8 dJ) (lQ (M2 eQ dJ) gE)) (ki jd))
def agq:T:=.aV Vk (ki (bj (rQ aY bL))) (ki jw)
def Yu:T:=jG (jG (AY 267 (AY 266 (oC Cf qU (oD eQ)) jd [gE,ju]) gE [jw]) Cf Cf aeD aeE) Cf Cf (ta bZ) aeC
def Ry:T:=jG (jG (AY 267 (AY 266 (mI iQ cJ (.aV (ta eQ) (jX eQ F0 (uo dJ Me dJ F0 (AY 267 (AY 266 (oC yF (EG adj adk (yT F1) (EG adk adj (yT fl) (yT aN))) (oD cV)) fG [eu,jd]) eu [gE]) yF yF) yF) yF) yF) nj [lx,ju]) lx [jw]) yF yF aeD aeE) yF yF (ta bZ) aeC
def Yv:T:=Em dt cJ dt oT (zk (zk (zk (sP aeG) Xp (gK ew AN)) (ta eJ) QZ) Xo aeF) (zk (zk (sP (.and MK aeG)) Xp (gK ew AN)) (ta eJ) QZ) (dE apW apW (jG (zk (IW (sP (.and MK aeI)) aeH) QZ Xq) jr (Em dt (.c 6) dt wM (IW (jX ew wM (sP (Ng MK IY aeG)) jr) Xp) apX (mI dt jV apX (zk (zk (IW (sP (.and IY aeI)) aeH) aeF Xq) (kh dt (.c 9)) Xo))) (kh dt vw) QQ) (vF dt) (qY dt))
def agr:T:=kj 182 jr (kj 182 jr (gh 183 (mL gL aY (Gu kg (sP (gK fo iR)) jr) jr) ow pi [] [Qi,Vj] kM) (f8 kL) qo [] [Vj]) (f8 iP) qh [] [Qi]
def T92:T:=.aV (ta bL) (dE nz (uw bZ (.c 1000) nz (jI 145 (dE nz nz (dE nz nz (rh (xj (mK 1 cV) aY (mK 1 cV) bL nz (xj (mK 2 cV) aY (mK 2 cV) bZ nz (xj (mK 3 cV) aY (mK 3 cV) wM nz Jt nz) nz) nz) (zl 1 (vK 144 nz (GP ew (dI (jX (gM ew rV) (gM (ly ew) rV) nz apZ) apY apY) apZ) f9 [uu 0,aN,bj qW]) (wL f9) QG vD vD) Q1 Xr Xr) (rP eQ) (fU fQ)) Mh (rP dJ)) eu f9 [qT gE jd lx])) nz (wW bL (.c 1000)) (ta bZ)) nz
def T40:T:=dE Vw Vw (kj 99 (F5 eu) (vK 100 wP (vJ f9) f9 Ay) Mh eu f9 aoh) (nY fQ (.c 64)) (nY qV F6)
def agu:T:=gh 183 (Gu Ms (ki Cb) (Ed Ms (sP (cK bL iP)) jr)) qp qX [] [Qi,.agg [AE,AF]] kM
def agv:T:=EG fQ cJ Ei (.aV (nY fQ (.c 32)) Ei (.bi Mn (uo Qs (.c 97) Qs (.c 122) ap3 ap4 ap4)))
def agw:T:=um 101 (dE gF (dE gF (uw bZ MP gF (mL dJ cJ (dE gF (uw eQ AN gF (mL dt aY (dE gF (jX iQ jV (jG (.aV Xq (dE gF (jX ew qW (.aV (ta dY) (jX dY qW (xj gL cJ gL qW gF (uo iH cJ iH ov (uo fo cJ fo ov (xj iR cJ iR ov gF (xj iP aY iP qW gF (xj kL aY kL qW gF (vJ mi) gF) gF) gF) gF gF) gF gF) gF) gF) gF) gF) gF (wW cV jV) Xp) gF) gF gF (ta eJ) QZ) gF) gF (wW dt AN) Xo) gF)) gF (wW dJ El) (ta eQ)) gF)) gF (wW bL MP) (sW bZ aY)) gF ph (ta bL)) jU mi [Aw]
def T94:T:=jG pA (mL bZ Me (oC pA (xj dJ aY dJ wM pA (CL 0 (Ed aeJ (Ed aeK (jx 0 Na) ap5) ap5) qU (cK iR vw) Q2 (cK iR vw) (Jf (fU iR) (oD iR) (qZ iR) (vF iR) (qY iR))) pA) aeC) pA) pA aeD (.not aeE)
def agy:T:=pH 128 (vL 0 (xq MS eJ (xq Wg cV (dI (.loop 1 [aW] [bj lR] (GP dY (dI (jH 298 (jx 1 (bj Nh)) aqb uj jU aeL [Xi,.agg [vH 0,vH 1,vH 2,vH 3,vH 4,vH 5,vH 6,vH 7,vH 8,vH 9,vH 10,vH 11,vH 12,vH 13]]) (lA Nh Nh lR) (lA Nh Nh lR)) aqb)) vD vD) ad4 vD vD) ad4 vD vD) (fM n7 VC) QG nZ (rY jy)) f9 adu yM
def agz:T:=jI 58 (dE (md ez fT f9) (uw eJ (ly fQ) Mq (xj cV aY cV (ly iQ) Mq (kN 226 (mg nZ [cd,b9,ck,cm,bm,bm]) nZ f9 QI [.ah bm]) Mq)) Mq wT QQ) fT f9 Ay
def agA:T:=ND (j9 Qu) (pH 128 (vL 0 (lW 1 (ga (EG IX (gM Js Ef) (jx 1 (bj Js)) aqj) lN lN aqc aqc) aqj (nY bZ aY) [bj Cl] [aW]) (AR 1 (ga (oE (gM bZ kP) (gM bZ Ef) Ni (.aV (.cell kP bZ 3) aqk (Em Xt ov Xt El aeR aeR (Em Xt vw Xt (.c 9) aeR (.aV (fU Mr) aql Ni) aqk)))) VK VK Cm Cm) adG [bm,dB,.am,bm]) AD yG (rY jy)) Qu adF yM)
def T95:T:=gh 190 (.aV wT (fM fT vE) (vK 191 (fM MU vE) (vJ vE) vE [n7,nZ])) n7 fT Wj QI MT
def agC:T:=jG (jG (jG oU (mL dt vn (.aV (gK dt iQ) (jX iQ vo (uo eJ vn eJ cV (uw cV vo oU (ny aoc)) oU oU) oU) oU) oU) oU adl (wW eQ vo)) oU oU aeT (sW dJ vn)) oU oU aeS Vq
def NF:T:=jG (jG (.aV adl (dE oU Xu (.aV aod Xu (uo adq vn adq Vr (ny (dE Xv Xv (jG (ny (dE rU rU (yT adr) (wW Vr vo) (wW Vs vo))) (ny Xv) (ny Xv) (sW Qn vn) (gK Qn Vs)) ado adp)) (ny Xu) (ny Xu))) (wW eQ vo) (cK dt adn)) oU) oU oU aeT (sW dJ vn)) oU oU aeS Vq
def agD:T:=rX 223 (AA 223 (ki nU) nU (s8 [gE,jd])) jr uj jU (s8 [jw,ju])
def agE:T:=zk (sP aeT) aeS Vq
def agF:T:=rh (mI (vq 2 dY) eJ (mI (vq 4 dY) wM (mI (vq 1 dY) cV (mI (vq 9 dY) ads (wL f9) Xw) Xw) Xw) Xw) nz Vx Mj Mj
def agG:T:=mL bL bZ IG jr
def agH:T:=AA 185 (dE jr jr (qr iQ dt iQ (.c 4095) jr jr (rX 151 (AA 151 (ki qg) qg [fG,bj VF,bj qW]) jr At nU [eu,bj VF,bj qW])) ph (rP dt)) jU [Cg]
def agI:T:=kN 186 (ki VG) VG [] [Cg,me aqm eJ,me aqm cV] nl
def Rz:T:=rX 150 En (rX 151 adA (oF 152 (oF 152 (dE rU rU (oF 153 (ki VI) (.agg adC) (.agg VH) VI [] nl) Qt (f8 jW)) aeU yK (qn (.agg VH) pj) [] nl) aeU fT VG [] nl) FU nU [fT,aN,qm 4095]) ph jU [aeU]
def T56:T:=zn 0 (lW 1 (um 225 (um 225 (dE aqn aqn (jY 1 yK n7) uj At) nU aeL [nq,eu,fT,fG]) jU aeL [nq,eu,fG,fT]) (lQ Gw n7) Qp [Gw,nZ] Wh) (fM nZ Xj) Q1 Wh
def T64:T:=n9 0 bZ bL (nA 3 (lQ Ek yG) (kC po) [kB,dj] [kB,.am,dj] [ju] (.ah kP)) (n9 1 dJ bL (vL 2 (ga (ga (dI (GD 3 Qr (dI (GD 3 IT (jY 2 (iU eQ) nZ) aqq [kB,.am,.am,.am,.am,dj] aqp (.ah rV)) aqr aqr) [kB,.am,.am,dj] aqq aqp Xs) Xx Xx) Xx Xx aqo aqo) Ml Ml Ml Ml) (jY 1 Xl Ax) (pn eQ) yG Jq) (fM yG [kB,.am,au]) [aN,Ci] Jq) [aN,ez] Jq
def GQ:T:=Jw qV (.c 40) pD Q3 qu qu (nX fQ El (Nl aqx (gK fQ (.c 12))) aqx)
def agL:T:=rh (nX CI FV CJ Mp) (jX fQ (.c 100) (jX po (.c 30) (IF (gK FZ (.c 30)) Q5) CJ) CJ) (cK bZ po) Cm Cm
def arY:T:=AV (jH 31 de (jH 31 de (th po qV (AR 0 (ga (jH 32 de Xm B8 sS XA [.ah aeZ,wX 0 dJ rV bD]) XB XB Xk Xk) aeY XA)) yC sQ XA [yG,nZ]) Au qg XA [Aw,Ax]) (yE bL bZ) (.not (.beq uj At))
def RA:T:=nX fQ ov (jX fQ jV Q6 aqy) aqy
def agM:T:=jX po Q3 (jX FZ Q3 (IF (gK Cl Q3) f9) nz) nz
def agN:T:=kj 58 (GA eu) (jH 59 (GA yD) (rh (kj 60 (GA fT) Jt wT fT jZ (s8 [Gi 0 cV,tA 1,tA 2,tA 3,tA 4,tA 5,tA 6,tA 7,tA 8,tA 9,tA 10,tA 11,tA 12,tA 13,tA 14,tA 15,tA 16])) (uv 61 XC (jH 62 XC (jH 63 XC (jH 64 XC (vJ jZ) B8 sS jZ zm) yC sQ jZ zm) Au qg jZ zm) jZ zm) (s6 cV) No No) uj jU jZ zm) Mh eu jZ Ay
def agO:T:=nX lT mj EK (dE EK EK (oE oG fQ EK (oE wO fQ EK (rh (Gu (gM cV yI) EK (ga (nX (gM cV yI) (.len aeX) EK Jt) XD XD Nk Nk)) (n9 1 ew oG (uv 65 EK (jx 1 yK) iq [xk,fT]) XF [aN] [aW]) (cK cV lT) XD XD))) (rP eJ) (sW eJ kD))
def arZ:T:=rj (AR 0 (ga (th IX (gM bL kP) CG) lN lN CF CF) AD [au,au]) (yE fQ po)
def agP:T:=dE EL EL (Jw lR AN kD jV EL EL (nX iQ (.c 64) EL (rh (nX (.len XG) jV EL Jv) qu ae2 Np Np))) aej (nY fQ (.c 12))
def agQ:T:=CH 0 (n9 1 cV iQ (dI (gh 104 (Nl (jx 1 Gw) (f8 fo)) (iT fT ke iM kf) iS jZ [.agg [GN 0,GN 1,GN 2,GN 3,GN 4,GN 5,GN 6,GN 7],fG] nl) Xf Xf) Jv [aN] [aW]) EL (cK eJ oA)
def agR:T:=rh (oE Q4 fQ qu (zl 1 (Gu EM qu (dI (mL EM lR qu (n9 2 ew cV (ga (mI (gM ew aeV) EM qu (jx 2 yK)) (eD ew Q4 yJ) (eD ew Q4 yJ) GB GB) (jx 1 Gw) [aN] [aW])) GB GB)) Jv ae3 GB GB)) (IF (nY kD aY) jZ) Xy Nj Nj
def agS:T:=oE mj iQ qu (CH 0 (.loop 1 [aW] [aN] (Nn (ga (um 105 aqs jU jZ [nq,eu,.agg [wX 0 cV XG dH,wX 1 cV XG gu]]) Np Np (Gv ae4) (Gv ae4)) Jv Np Np ae4)) EL ae2)
def agT:T:=rh (kj 106 qu (xq (vq 3 cV) cJ qu (GP eJ (ga (jX (gM eJ oz) (gM (ly eJ) oz) qu Jv) XH XH aqz aqz) Jv) (eD cV qV xg) (eD cV qV xg)) (rP cV) fG jZ [F2,gj 0 eJ oz]) EL (cK eJ pD) XH XH
def NG:T:=dI (qr CI cJ CI oT CJ CJ (dI (dE CJ (ga (.aV (ri (xD 0 0) (xD 1 1) (xD 2 2) (xD 3 3) (ri (xD 4 4) (xD 5 5) (xD 6 6) (xD 7 7) (ri (xD 8 8) (xD 9 9) (xD 10 10) (xD 11 11) (xD 12 12)))) CJ aqA) (cK aY CI) (cK aY CI) (cK cJ CI) (cK cJ CI)) aqA (.not (.beq (qZ CI) (f8 ae5))) (qZ CI)) Nq Nq)) Cm Cm
def agU:T:=oE oA fQ (j9 XI) (.aV (yE lR fQ) (j9 XI) (kN 154 (AR 0 (ga (Jz (j9 Q9) (Jz (dI (GP (.len (kQ cV Eg dB)) (j9 Q9) aqB) No No) aqB Nr Nr ae7) (lA Q8 Q8 oA) (lA Q8 Q8 oA) (.beq ae7 (uy Q8 mJ))) Nr Nr (eD cV kD xg) (eD cV kD xg)) Q1 Q9) vp XI MQ [AS]))
def agV:T:=rh (mI CA bL (fM ju [bm]) Mp) (fM F1 [bm]) Mo Ej Ej
def agW:T:=kN 189 (oF 188 (fM n7 [cd,b9,ck,cm,bm,kB,au]) Vt nZ n7 Xj [AS]) nZ f9 MQ [.ah kB]
def agX:T:=kj 27 (fM fG iq) (uv 28 (fM EJ iq) (vJ iq) iq Ra) wQ fG iq zm
def agY:T:=CR 0 (Gu CA ae8 (dE ae8 ae8 (NB 1 (lQ Ek yG) [au,GC] [bj CA,Cb] (.ah kP) GC) (sW CA bL) (.look kP 1 CA aY aY 1))) (wL [au,GC]) Mo Ej Ej (rY GC)
def ar0:T:=jI 12 (AV (mL cV wO de (Gu ew de (mL ew lT (md XJ fl iq) (xq XK aY de (qr dY aY dY jV de de (AX 3 (mo 3 (AX 70 (mo 70 (AX 3 (rg 3 (dI (th (gM cV IQ) (qS cJ ew) (.aV MM (ga (EO (.new 76 (EH [xu 0,xu 1,xu 2,xu 3,xu 4,xu 5,xu 6,xu 7,xu 8,xu 9,xu 10,xu 11,xu 12]) Jy afb aqF) afa) XO XO (zf aY Nu) (zf aY Nu)) (xq dY XK (ga (EO (.new 76 (EH [xx 0,xx 1,xx 2,xx 3,xx 4,xx 5,xx 6,xx 7,xx 8,xx 9,xx 10,xx 11,xx 12]) Jy afb aqF) afa) XO XO (zf cJ Nu) (zf cJ Nu)) de Gl Gl))) (eD cV wO xg) (eD cV wO xg)) (Gy (Gm 17)) XN Jy (.kq (vG 17) ED)) Re Nt XN) (.and Jj Gx) XM Nt Jk Jp) Rc Ns XM) (.and WI Gb) XL Ns WJ Gc) ae9 iq XL)) Gl Gl)))) (f8 gL) (rP cV)) iM iq Ra
def agZ:T:=rj (ki Nv) ph
def ag0:T:=kj 23 (fM fG iq) (jX lT mj (jG (jG mq (rh (mL XK aY (dI (uw XK (.len (kQ ew n8 Gz)) mq Mi) M5 M5) mq) (zl 1 (.aV (oD GF) (xq (F7 IQ) aY afd aqH XQ XQ) aqH) (vJ iq) (cK dY oG) yY yY) (cK ew lT) Gl Gl) mq (xF oG) (.not (xF wO))) mq mq QQ Xy) mq) wQ fG iq zm
def ag1:T:=jI 24 (dE (GA eu) (jG (jG mq (rh (uw (.len aeX) jV mq Jt) (zl 1 (kj 49 (GA ke) (jx 1 yK) (f8 dY) ke jZ aeb) (jG mq (zl 2 (mI (.len (kQ dY lz au)) fQ (vK 50 mq (jx 2 rW) jZ [.ah (kQ dY lz au),bj lR]) mq) (zl 3 (CL 4 (gh 51 (oC mq (jx 4 (iU iH)) (fU kg)) (iT iS qR qh qo) ow jZ [.agg [GO 0,GO 1,GO 2,GO 3,GO 4,GO 5,GO 6,GO 7],iM] nl) (gh 52 (CL 5 (mI (.len Rh) fQ (oC mq (CH 6 (Jn (dI (jG afk (dI (oF 34 afk (.bool (fU (.len (kQ iP XR dB)))) EJ Nv Q7 []) XS XS) (oF 34 afk ou EJ Nv Q7 []) (.beq afj (uy afi Rh)) afj) aqI aqI) xf afh xf afh (eD iP lT xf) (eD iP lT xf)) (jx 5 Na) afh) (xF (.len XR))) mq) (jx 3 EA) afg Q2 afg (.and Q2 afg)) pm iS jZ [nq,iM] [AS,aW]) WT yZ WT (.and yZ WT)) (CR 4 (NB 1 (jY 4 (iU iH) wN) aqJ [gj 0 iH rV,.bool (yE (vq 3 iH) cJ)] Gc GC) (zl 5 (jG (jx 5 (iU fo)) (Jz mq (jx 5 (iU fo)) aqK aqK (nY aem (gM (ly fo) oz))) mq (.look yI 1 aem aY aY 1) AJ) (vJ aqJ) (cK fo pD) WO WO) afl (.and yZ afl) (.and yZ afl) (rY GC)) Wm Wn Wn) aed M6 M6) mq (nY kD aY) (.not (kh mj iQ))) QO Gh Gh) aeW Nk Nk) mq (gK kD jV) (wW iQ (.c 64))) mq mq (gK fQ (.c 12)) (gK lR AN)) mq Mh (gK oA jV)) eu jZ Ay
def ar1:T:=kN 19 (gh 20 (oF 15 (gh 15 (L8 9 (gh 21 (gh 21 (gh 21 (L8 9 (L8 9 (L8 9 (gh 22 (gh 14 (gh 13 (L8 9 (AV (th dY cJ (AV (rj (th nW cJ (th qi cJ (rj (th Ck cJ (th (.v 24) aY (rj (th (.v 26) aY (th Ms MP (pI 76 (pI 70 (pH 3 (pH 3 (pH 76 (pI 70 (pH 3 (pH 3 (pI 76 (pI 70 (pH 3 (pH 3 (pI 76 (pI 70 (pH 3 (jH 11 de (um 11 (Jb 11 de (um 11 (Jb 12 de (um 11 (Jb 13 de (th Gj cJ (Jz de (th AQ cJ (dI (dE de (mI (pG 40) cJ (xq (gM aY (.v 40)) aY (mI (pG 41) cJ (jI 23 (jI 24 (mI (.v 29) (.v 30) (jI 23 (Ed (.v 31) (jI 12 (IF (fU (.v 32)) [cd,b9,ck,cm,bm,dP,bM,fJ,fK,au,au,be,au,bM,bM,au,be,au,e9,au,be,au,au,be,au,au,be,au,au,be,au,e9,au,be,au,e9,au,be,au,e9,au,lX,au,be,au,e9,bD,be,au,au,bD,be,au,au,bD,be,au,au,bD,be,au]) Mt X1 [pJ,Rj]) de) uq X1 zm) de) AI X1 (s8 [aN,aN,aN,aN,aN,ez,aN,ez,ez,ez,ez])) qX X1 (s8 [aN,aN,aN,aN,aN,ez,aN,ez,ez,ez,ez,ez,ez,ez,ez,ez])) de) de (cK aY (pG 40)) (cK aY (pG 40))) de) de (.not (Q0 (fU (gM aY AO)) (fU (.cell AO aY 1)) (fU (.cell AO aY 2)) (oD (.cell AO aY 3)))) (.v 8)) (cK aY AQ) (cK aY AQ))) CN CN (.seq (kQ aY w6 .str) aqW)))) (kb 13) [cd,b9,ck,cm,bm,dP,bM,fJ,fK,au,au,be,au,bM,bM,au,be,au,e9,au,be,au,au,be,au,au,be,au,au,be,au,e9,au,be,au,e9,au,be,au,e9,au,lX,au,be,au,e9,bD,.am,.am,.am,bD,.am,.am,.am,bD,.am,.am,au,bD,be,au] [aqM,JA 57 59 60 aN ou])) (kb 12) [cd,b9,ck,cm,bm,dP,bM,fJ,fK,au,au,be,au,bM,bM,au,be,au,e9,au,be,au,au,be,au,au,be,au,au,be,au,e9,au,be,au,e9,au,be,au,e9,au,lX,au,be,au,e9,bD,.am,.am,.am,bD,.am,.am,au,bD,be,au,.am,bD,.am,.am] [aqL,JA 53 55 56 aN ou])) (kb 11) [cd,b9,ck,cm,bm,dP,bM,fJ,fK,au,au,be,au,bM,bM,au,be,au,e9,au,be,au,au,be,au,au,be,au,au,be,au,e9,au,be,au,e9,au,be,au,e9,au,lX,au,be,au,e9,bD,.am,.am,au,bD,be,au,.am,bD,.am,.am,.am,bD,.am,.am] [Rj,JA 49 51 52 aN ou]) (oS 10) (kb 10) [cd,b9,ck,cm,bm,dP,bM,fJ,fK,au,au,be,au,bM,bM,au,be,au,e9,au,be,au,au,be,au,au,be,au,au,be,au,e9,au,be,au,e9,au,be,au,e9,au,lX,au,be,au,e9,bD,be,au,.am,bD,.am,.am,.am,bD,.am,.am,.am,bD,.am,.am] [xk,ux ez aN (iW 47) (iW 48) ou]) aqV [cd,b9,ck,cm,bm,dP,bM,fJ,fK,au,au,be,au,bM,bM,au,be,au,e9,au,be,au,au,be,au,au,be,au,au,be,au,e9,au,be,au,e9,au,be,au,e9,au,lX,au,be,au,e9,bD,iX,dj,dj,bD,iX,dj,dj,bD,iX,dj,dj,bD,iX,dj] Ny) aqU aqV [iW 58]) X0 aqU aqR) afu X0 Rk) afs afu Ny) aqT afs [iW 54]) XZ aqT afn) afr XZ Rk) afq afr Rk) aqS afq [iW 50]) XY aqS (.lit [afn,aqR])) afp XY Rk) afo afp Ny) aqP afo [iW 46]) [cd,b9,ck,cm,bm,dP,bM,fJ,fK,au,au,be,au,bM,bM,au,be,au,e9,au,be,au,au,be,au,au,be,au,au,be,au,e9,au,be,au,e9,au,be,au,e9,au,lX,au,be,au,e9] aqP afn))) (wU 25)))) (f8 IJ)))) (f8 kL)) (f8 iH) Qt)) wQ wT) [cd,b9,ck,cm,bm,dP,bM,fJ,fK,au,au,be,au,bM,bM,au,be,au,e9,au,be,au,au,be,au,au,be,au,au,be,au,e9,au,be,au,e9,au,be,au,e9,au,lX] [pJ,ux pm eu wN F4 Cb,fl] [JA 42 43 44 AH (kb 9),iW 45,qp] Ri) (iW 41) AG [cd,b9,ck,cm,bm,dP,bM,fJ,fK,au,au,be,au,bM,bM,au,be,au,e9,au,be,au,au,be,au,au,be,au,au,be,au,e9,au,be,au,e9,au,be,au,e9,au] XW XX) (iW 40) AF afm XW [AS,aW]) L7 AE afm XW QS) [cd,b9,ck,cm,bm,dP,bM,fJ,fK,au,au,be,au,bM,bM,au,be,au,e9,au,be,au,au,be,au,au,be,au,au,be,au,e9,au,be,au,e9] [pJ,aqN,aN] [JA 36 37 38 AB FX,iW 39,AC] Ri) [cd,b9,ck,cm,bm,dP,bM,fJ,fK,au,au,be,au,bM,bM,au,be,au,e9,au,be,au,au,be,au,au,be,au,au,be,au,e9] [pJ,xk,aN] [aqN,iW 35,vl] Ri) [cd,b9,ck,cm,bm,dP,bM,fJ,fK,au,au,be,au,bM,bM,au,be,au,e9,au,be,au,au,be,au,au,be,au] [pJ,xk,yD] [JA 28 29 30 pj B9,iW 31,pl] Ri) (ux (iW 25) ow (iW 26) (iW 27) sS) pi [cd,b9,ck,cm,bm,dP,bM,fJ,fK,au,au,be,au,bM,bM,au,be,au,e9,au,be,au,au,be,au] [pJ,xk,qT aN aN fl] XT) aqM qo [cd,b9,ck,cm,bm,dP,bM,fJ,fK,au,au,be,au,bM,bM,au,be,au,e9,au,be,au] [pJ,Rj,qT aN aN fl] XT) aqL qR [cd,b9,ck,cm,bm,dP,bM,fJ,fK,au,au,be,au,bM,bM,au,be,au,e9] [pJ,Rj,qT aN aN aN] XT) [cd,b9,ck,cm,bm,dP,bM,fJ,fK,au,au,be,au,bM,bM] XW [Rj,yW,kf] Ri) yX ke [cd,b9,ck,cm,bm,dP,bM,fJ,fK,au,au,be,au,bM] [pJ,F1] [Nx,aW]) pJ fl XU iq [Nx,aW]) xk fG jZ zm XT) pJ [] [] [aW,aW,aW,aW,aW,.ah cd,aW,.ah b9,.ah ck,.ah cm,.ah bm,.ah dP,Nx,.ah fJ,.ah fK,AS]
def ar2:T:=pI 130 (pI 132 (pI 128 (pI 4 (pI 134 (pI 67 (kN 47 (kN 47 (.new 94 (.lit [aqZ,aq0]) [cd,b9,bm,dH,dB,gu,.str,.str] afv (.new 3 Ny afv afw (.new 3 Rk afw afx (.new 39 (.lit [[F3],[pm]]) afx afy (.new 69 (EH [Ax,nZ]) afy afz (.new 66 (EH [F4]) afz aq1 (fM (.agg [bj Ce,bj Ce,fl,aN,fl,Aw,fl,Ci,ez,ez,yG,ez,yH,wN,AP,ez]) aq1))))))) (.agg aq0) [.am,.am,.am,.am,dB,.am,.str] [.ah aqW] aqY) (.agg aqZ) [.am,.am,.am,.am,dB,.am] [.ah (.k (.string ⟨#[112]⟩))] aqY) aqX [CO,GG,jy,vu,dB,pF] [F2]) [CO,GG,jy,vu] aqX [fl,aN,aN,ou]) [CO,GG,jy] [CO,GG,jy,vu] [Cb]) [CO,GG] [CO,GG,jy] [fl,aN,aN,fl,fl,fl,fl,aN,yD,aN,aN,fl,fl,fl]) [CO] [CO,GG] [aN,qm 100,aN]) [] [CO] [.ah (.k (.string ⟨#[97]⟩)),bj FV,bj FV,aN]
def ar3:T:=kj 23 de (CR 0 (gh 48 (pI 76 (pI 70 (mo 70 (lQ Gw AP) (Gy Gb) aq3 [cd,b9,ck,cm,bm,dP,bM,fJ,fK,au,.am,bD,iX,iX] Gc ED) aq2 aq3 [wN]) X2 aq2 aoK) Wp vl [cd,b9,ck,cm,bm,dP,bM,fJ,fK,au,.am] [iT (wX 0 cV nV .str) (bj (mK 1 cV)) (bj (mK 2 cV)) (bj (mK 3 cV))] Je) (rg 3 (mg (ux ez aN pm wN ou) [cd,b9,ck,cm,bm,dP,bM,fJ,fK,au,be,au]) (.and (iG lT) Gb) X2 [cd,b9,ck,cm,bm,dP,bM,fJ,fK,au,iX,dj] (.tR lT [aN])) Q1 Xr Xr (rY iX)) Mh eu jZ zm
def ar4:T:=kN 13 (rj (um 30 (mg nU uz) nU uz [pJ,xk,AP]) wT) XU iq Nz XX
def ar5:T:=fM (.agg [Aw,qm 60,qm 40,fl,vk,yD,fl,fl,fl,IR,IR,IR,vk,vk,vk,EJ,qm 100]) mi
def ar6:T:=vK 71 de (uv 71 de (jH 71 de (mg (.agg [bj pw,bj pz,gE,aN,aN,aN,aN,aN,aN,aN,aN,aN,aN]) mi) Au qg mi [gE,aN,bj wM]) mi [ju,aN,IR]) mi [jw,aN,IR]
def ag2:T:=jI 23 (dE (GA ad2) (md ez fl jZ) (.aV (sW eJ kD) (md ez fl jZ) (oF 39 (mg pm aq4) pJ eu pm jZ [Nx])) wQ (rP eJ)) fG jZ zm
def ar7:T:=.aV Mg (jI 12 (dE de (Cc iq [XJ,ez,fl]) (GJ (pH 3 (mo 3 (AX 70 (mo 70 (AX 3 (rg 3 (pH 3 (mo 3 (Cc [cd,b9,ck,cm,bm,dP,bM,fJ,fK,au,au,be,au,.am,.am,.am,be,.am,au,au,au] [ux ze eu CD yW jU,ez,aN]) (.and Jh (Gm 19)) aq5 [cd,b9,ck,cm,bm,dP,bM,fJ,fK,au,au,be,au,.am,.am,.am,iX,.am,dj,dj,dj] Gk (vG 19)) Jy aq5 Ny) (Gy (Gm 17)) XN Jy (.kq (vG 17) ED)) Re Nt XN) (.and Jj Gx) XM Nt Jk Jp) Rc Ns XM) (.and WI Gb) XL Ns WJ Gc) iq XL yM) (AX 70 (mo 70 (AX 3 (mo 3 (pH 3 (mo 3 (Cc [cd,b9,ck,cm,bm,dP,bM,fJ,fK,au,au,be,au,.am,be,.am,au,au,au] [ux yW eu yX CD jU,ez,aN]) (Gm 17) aq8 [cd,b9,ck,cm,bm,dP,bM,fJ,fK,au,au,be,au,.am,iX,.am,dj,dj,dj] yM (vG 17)) afB aq8 Ny) (Gy Jj) aq7 afB Jk ED) Re X3 aq7) (.and WI Gx) aq6 X3 WJ Jp) Rc iq aq6) ae9) wT afA) fT iq Ra) (kN 13 (dE (Cc uz [XJ,ez,fT]) (Cc uz [XJ,ez,EJ]) (uv 30 de (GJ (pH 3 (mo 3 (AX 70 (mo 70 (AX 3 (mo 3 (pI 3 (mo 3 (dI (lW 0 (dI (rj (pH 96 (mo 96 (ga (ga (GM (EO (.new 76 arl afG arm (rg 70 (dI (GD 3 dY (EI [rW,iW 26,iW 28,iW 29]) arn [cd,b9,ck,cm,bm,dP,bM,fJ,fK,au,au,be,au,lX,.am,.am,.am,.am,.am,.am,dj,dj,.am,.am,.am,qw,qw,bD,iX,dj] [IS cJ lT] (vG 24)) (wZ (pG 24)) (wZ (pG 24))) (wZ (pG 23)) arm arn (.set (vG 23) dY 0 [iW 27]))) (wZ (pG 23))) ark) CN CN X8 X8) yY yY Nw Nw) (.and (Gm 22) (Gm 25)) ari afG (vG 22) (vG 25)) [cd,b9,ck,cm,bm,dP,bM,fJ,fK,au,au,be,au,lX,.am,.am,.am,.am,.am,.am,dj,dj,qw,iX,dj] ari are) (.not (uy dY afE))) X6 X6) (Cc [cd,b9,ck,cm,bm,dP,bM,fJ,fK,au,au,be,au,lX,.am,.am,.am,.am,.am,.am,au,au,e9,be,au] [ux EF eu (iW 23) (iW 24) jU,QT,aN]) afF [aN,ez,yV,zd] ard) CN CN) (.and Jj (kC M8)) arc [cd,b9,ck,cm,bm,dP,bM,fJ,fK,au,au,be,au,lX,.am,.am,.am,iX,.am,dj,dj,dj] Jk aeq) afD arc [fG]) (Gy (kC AQ)) arb afD XP ED) Re X5 arb) (.and ael Gx) ara X5 WN Jp) Rc X4 ara) (.and Jh Gb) aq9 X4 Gk Gc) uz aq9 yM) (AX 70 (mo 70 (AX 3 (mo 3 (pI 3 (mo 3 (dI (lW 0 (dI (rj (pH 96 (mo 96 (ga (ga (GM (EO (.new 76 arl afI arv (rg 70 (dI (GD 3 dY (EI [rW,iW 24,iW 26,iW 27]) arw [cd,b9,ck,cm,bm,dP,bM,fJ,fK,au,au,be,au,lX,.am,.am,.am,.am,dj,dj,.am,.am,.am,qw,qw,bD,iX,dj] [IS cJ lT] (vG 22)) (wZ (pG 22)) (wZ (pG 22))) (wZ (pG 21)) arv arw (.set (vG 21) dY 0 [iW 25]))) (wZ (pG 21))) ark) CN CN X8 X8) yY yY Nw Nw) (.and (kC M8) (kC (pG 23))) art afI aeq (vG 23)) [cd,b9,ck,cm,bm,dP,bM,fJ,fK,au,au,be,au,lX,.am,.am,.am,.am,dj,dj,qw,iX,dj] art are) (.not (uy dY afE))) X6 X6) (Cc [cd,b9,ck,cm,bm,dP,bM,fJ,fK,au,au,be,au,lX,.am,.am,.am,.am,au,au,e9,be,au] [ux zd eu EF QT jU,ze,aN]) afF [aN,ez,yU,yV] ard) CN CN) (kC AQ) arq [cd,b9,ck,cm,bm,dP,bM,fJ,fK,au,au,be,au,lX,.am,iX,.am,dj,dj,dj] yM XP) afH arq [fG]) (Gy ael) arp afH WN ED) Re X9 arp) (.and Jh Gx) aro X9 Gk Jp) Rc uz aro) ae9) uz [pJ,xk,AP]) wT uj) XU iq Nz XX)
def ag3:T:=kj 36 (md ez fT iq) (kN 37 (CR 0 (.aV (uy dY w6) (nA 3 (lQ rW yU) Jh [cd,b9,ck,cm,bm,dP,bM,fJ,fK,au,au,be,au,dH,dj] [cd,b9,ck,cm,bm,dP,bM,fJ,fK,au,au,be,au,dH,.am,dj] [ke] Gk) (lQ rW yX)) (mg yX [cd,b9,ck,cm,bm,dP,bM,fJ,fK,au,au,be,au,dH,au]) afJ Ya Ya Jq) AP iq Nz [.ah dH]) wT fT iq Nz
def ag4:T:=dI (zn 0 (ga (nA 94 (lQ Gw wN) Gb [cd,b9,ck,cm,bm,dP,bM,fJ,fK,au,.own 94] [cd,b9,ck,cm,bm,dP,bM,fJ,fK,au,.am,.own 94] [Gi 0 EM,tB 1,tB 2,tB 3,tB 4,tB 5,tB 6,tB 7,tB 8,tB 9,tB 10,tB 11,tB 12,tB 13,tB 14,tB 15,tB 16] Gc) GB GB (lA EM EM lR) (lA EM EM lR)) (fM pm aq4) ae3 (rY (.own 94))) Nj Nj
def ar8:T:=CL 0 (oF 39 (gh 70 (AV Jt FU wT) nU fT [cd,b9,ck,cm,bm,dP,bM,fJ,fK,au,au,be,au,lX,bM] [nq,Vv,yX,.agg [gj 0 cV w6,CS 1 cV dH,CS 2 cV bD,CS 3 cV bD,CS 4 cV gu,CS 5 cV jk]] QS) pJ eu yX uz [Nx]) (wL uz) afK xg afK (Gv afK)
def ag5:T:=jI 12 (dE (fM fT iq) afL (.aV ad1 afL (Nn afL (vJ iq) GH GH (nY cV (.len NA)))) wT afA) fT iq Ra
def ag6:T:=oF 52 (CR 0 (nX GF cJ (dI (NB 1 (lQ rW yU) [cd,b9,ck,cm,bm,dP,bM,fJ,fK,au,au,be,au,au,Rl] [yL 0 w6,iU (.look CC 1 (F7 w6) aY aY 1)] Gk Rl) Ya Ya) (lQ rW yX)) (zn 1 (Jn (ga (.aV (uy gL (kQ Rm NA dH)) (nA 4 (jY 1 EA CD) Jj arz arA [.bool (fU (.look CC 1 (gM gL w6) aY aY 1))] Jk) (nA 4 (jY 1 EA CD) Jj arz arA [ou] Jk)) Yb Yb arx arx) Jc afM Jc afM GH GH) (fM yU [cd,b9,ck,cm,bm,dP,bM,fJ,fK,au,au,be,au,au,Rl,dH]) afM (rY vu)) afJ yY yY (rY Rl)) nq X7 XU iq [AS,aW]
def ag7:T:=uv 5 EK (jH 6 XF (jH 7 XF (kj 8 XF (gh 13 (.aV (f8 gL) (wL uz) (gh 14 (gh 15 (dE (j9 Ro) (j9 Ro) (rg 4 (rg 67 (dE afN afN (Nn afN (lW 0 (dI (Gu AT arC (mL AT AQ arC (ga (ga (GD 4 AT (dI (GD 67 AT (EI [Na,ze,EF]) arH [cd,b9,ck,cm,bm,dP,bM,fJ,fK,au,au,be,au,lX,au,bM,.am,.am,.am,.am,vu,pF] [wX 0 AT arD dB] (vG 19)) arI arI) [cd,b9,ck,cm,bm,dP,bM,fJ,fK,au,au,be,au,lX,au,bM,.am,.am,vu,pF] arH [Cb] XP) arE arE arF arF) GH GH Yb Yb))) (.and Q2 afO) (.and Q2 afO)) (oF 16 (lW 1 (xq JB oT (ga (.aV (ri (xE 0 0) (xE 1 1) (xE 2 2) (xE 3 3) (ri (xE 4 4) (xE 5 5) (xE 6 6) (xE 7 7) (ri (xE 8 8) (xE 9 9) (xE 10 10) (xE 11 11) (xE 12 12)))) (Ji [Jl,me kL JB,iU (sU kg JB)]) arJ) (eD iP M8 xf) (eD iP M8 xf) (cK cJ JB) (cK cJ JB)) arJ (.and xf afP) (.and xf afP)) (oE Gj kL (j9 afQ) (gh 17 (.aV (fU jW) (dI (um 18 (fM sS afR) sS afR [arK,.agg [gj 0 kg w6,CS 1 kg dH,CS 2 kg bD,CS 3 kg bD,CS 4 kg gu,CS 5 kg jk]]) arL arL) (j9 afR)) arK pj afQ [nq,Vv,yU,X7,yW,ze,zd] [aW,.ah dH,QP,QP,.ah gu,.ah jk,aW])) afP [aN,fl,aN] Wf) xk (.int .u16 ew) ze [cd,b9,ck,cm,bm,dP,bM,fJ,fK,au,au,be,au,lX,au,bM,.am,.am,.am,.am] [QP]) afO [aN,CD,yV] [aW,.ah vu,.ah pF]) GH GH (nY cV (.len NA))) afA ad1) (ut oG Gx) arB [cd,b9,ck,cm,bm,dP,bM,fJ,fK,au,au,be,au,lX,au,bM,vu,pF] (.tR oG [ez])) (ut oG Gx) Ro arB (.tR oG [ou])) (f8 iH) (f8 fo)) yU iS [cd,b9,ck,cm,bm,dP,bM,fJ,fK,au,au,be,au,lX,au] [pJ,eu] [Nx,aW]) yX kf uz Nz [AS,aW])) AP iM iq Nz XX) (f8 dY) ke iq Ra) yC sQ iq [xk]) Au qg iq zm) iq []
def ag8:T:=zn 0 (xq Rp aY (fM ez [au,be,au,bD]) (ga (nA 76 (lQ Xl F2) (kC Cl) [au,be,au,mh] [au,be,au,.am,mh] [xB 0,xB 1,xB 2,xB 3,xB 4,xB 5,xB 6,xB 7,xB 8,xB 9,xB 10,xB 11,xB 12] Xs) Gt (f8 Rp) (lA Rq Rq Rp) (lA Rq Rq Rp)) XB XB) (fM Ax [au,be,au,bD]) aeY (rY mh)
end
def JE:List RK:=[(.sl 130),(.sl 132),(.sl 253),(.sl 255),(.sl 128),(.sl 141),(.sl 94),(.sl 39),(.sl 66),(.sl 3),(.sl 3),(.sl 70),(.sl 3),(.sl 4),.am,(.sl 67)]
def JF:Nat->List RK
 |0=>[]
 |d+1=>.am::(.sl 67)::(.sl 70)::JF d
def zp(d:Nat):List RK:=JE++JF d++[(.own 79),(.sl 67),(.sl 70)]
def CU:Nat->List RK
 |0=>[]
 |m+1=>.am::(.own 76)::CU m
def ar9:Nat->List RK
 |0=>[]
 |m+1=>.am::(.sl 76)::ar9 m
def RC:List RK:=[(.sl 94),(.sl 4),(.sl 76),(.sl 76),(.sl 67),(.sl 124)]
def uB:Nat->Nat
 |0=>11
 |d+1=>18+3*d
def GR(j:Nat):List C:=(e8 13).map λq=>.int I (.cell (.cell (.v (uB j)) (.c 0) 0 (.sl 76)) (.v (12+j)) q)
def RD:Nat->T->T
 |0,t=>t
 |n+1,t=>.bi (.c J) (RD n t)
def NH:List C:=[(.int I (.v 0)),(.int I (.v 1)),(.int I (.v 2)),(.int I (.v 3)),(.int I (.v 4)),(.ah (.v 0)),(.int I (.v 5)),(.ah (.v 1)),(.ah (.v 2)),(.ah (.v 3)),(.ah (.v 4))]
def acT(d:Nat):T:=
 .call 39 [(.agg (NH++[(.ah (.v 5)),(.ah (.v 6)),(.ah (.v 7)),(.ah (.v 8)),(.ah (.v 9))])),(.int I (.v 6))] [] (JE++JF (d+1)++eF (2*d+2) .am) [(.ah (.sl 94))] (.ah (.v (21+5*d)))
  (.call 17 [(.agg NH),(.agg [(.ah (.v 5))]),(.ah (.v (21+5*d))),(.int I (.len (.v 10))),(.ah (.v 13)),(.ah (.v (20+5*d))),(.ah (.v (17+3*d)))] [] (JE++JF (d+1)++eF (2*d+1) .am++[(.sl 76),(.sl 94)]) [(.int I),(.ah (.sl 4)),(.ah (.sl 76)),(.ah (.sl 76)),(.ah (.sl 67)),(.ah (.sl 124)),(.int I)] (.bO [(.agg [(.int I (.v (13+d))),(.ah (.v (22+5*d))),(.ah (.v (23+5*d))),(.ah (.v (24+5*d))),(.ah (.v (25+5*d))),(.ah (.v (26+5*d)))]),(.int I (.v (14+d)))])
  (.aV (.cmp .neq (.v (14+d)) (.c 0))
  (RD (d+1) (.ret (.bO [(.ah (.k (.slice Z 0 0))),(.int I (.v (14+d)))]) [] (JE++JF d++[(.sl 79),(.sl 67),(.sl 70)]++ar9 (d+1)++RC)))
  (.bi (.c J)
   (.new 79 (.lit [[(.int I (.v (13+d))),(.ah (.v (22+5*d))),(.ah (.v (23+5*d))),(.ah (.v (24+5*d))),(.ah (.v (25+5*d))),(.ah (.v (26+5*d)))]]) (zp d++CU d++[.am,(.sl 76)]++RC) (zp d++CU d++[.am,(.sl 76)]++RC++[(.own 79)])
   (.bi (.and (.cmp .leq (.len (.v (16+3*d))) (.c 536870912)) (.cmp .leq (.len (.v (27+5*d))) (.c 536870912)))
   (.new 79 (.kq (.ah (.v (16+3*d))) (.ah (.v (27+5*d)))) (zp d++CU d++[.am,(.sl 76)]++RC++[(.own 79)]) (JE++JF (d+1)++CU d++[.am,(.sl 76)]++RC++[(.own 79),(.own 79)])
   (RD (d+1) (.back (2+d) [(.int I (.bin .add I (.v (12+d)) (.c 1))),(.ah (.v (28+5*d))),(.ah (.v (17+3*d)))]))))))))
def RF(d:Nat):Nat->Nat->T
 |0,_=>acT d
 |j+1,m=>.bi (.c J)
  (.new 76 (.lit [GR j]) (zp d++CU m) (zp d++CU m++[(.own 76)])
  (.bi (.and (.cmp .leq (.len (.v (19+3*d+2*m))) (.c 536870912)) (.cmp .leq (.len (.v (18+3*d+2*m))) (.c 536870912)))
  (.new 76 (.kq (.ah (.v (19+3*d+2*m))) (.ah (.v (18+3*d+2*m)))) (zp d++CU m++[(.own 76)]) (zp d++CU (m+1))
  (RF d j (m+1)))))
def Yw:Nat->List C
 |0=>[(.int I (.c 0)),(.ah (.k (.slice Z 0 0))),(.ah (.v 15))]
 |d+1=>[(.int I (.c 0)),(.ah (.v (16+3*d))),(.ah (.v (17+3*d)))]
def Yx:Nat->T
 |0=>.ret (.bO [(.ah (.v 16)),(.int I (.c 0))]) [] (JE++[(.sl 79),(.sl 67)])
 |d+1=>.back (2+d) [(.int I (.bin .add I (.v (12+d)) (.c 1))),(.ah (.v (19+3*d))),(.ah (.v (20+3*d)))]
def Yy:Nat->Nat->T
 |0,d=>.loop (2+d) [(.int I),(.ah (.own 79)),(.ah (.sl 67))] (Yw d) (.stuck "fuel")
 |n+1,d=>.loop (2+d) [(.int I),(.ah (.own 79)),(.ah (.sl 67))] (Yw d)
  (.aV (.cmp .lss (.v (12+d)) (.len (.cell (.v (uB d)) (.c 0) 0 (.sl 76))))
   (.bi (.and (.cmp .leq (.c 0) (.v (12+d))) (.cmp .lss (.v (12+d)) (.len (.cell (.v (uB d)) (.c 0) 0 (.sl 76)))))
   (.bi (.and (.cmp .leq (.c 0) (.v (12+d))) (.cmp .lss (.v (12+d)) (.len (.cell (.v (uB d)) (.c 0) 0 (.sl 76)))))
   (.bi (.cmp .leq (.c 1) (.len (.v (uB d))))
   (.new 70 (.sub (.ah (.v (uB d))) (.c 1) (.len (.v (uB d)))) (JE++JF d++[(.own 79),(.sl 67)]) (zp d)
   (.aV (.cmp .eql (.len (.v (18+3*d))) (.c 0))
   (.bi (.c J)
   (.new 76 (.lit [GR d]) (zp d) (zp d++[(.own 76)])
   (.bi (.cmp .leq (.len (.v (19+3*d))) (.c 536870912))
   (.new 76 (.kq (.ah (.v (19+3*d))) (.lit [])) (zp d++[(.own 76)]) (zp d++CU 1)
   (RF d d 1)))))
   (.bi (.cmp .lss (.c 0) (.len (.v (18+3*d))))
   (.bi (.cmp .lss (.c 0) (.len (.v (18+3*d))))
   (Yy n (d+1)))))))))
   (Yx d))
def aha:T:=(.call 36 [(.agg [(.int I (.v 0)),(.int I (.v 1)),(.int I (.v 2)),(.int I (.v 3)),(.int I (.v 4)),(.ah (.v 0)),(.int I (.v 5)),(.ah (.v 1)),(.ah (.v 2)),(.ah (.v 3)),(.ah (.v 4)),(.ah (.v 5)),(.ah (.v 6)),(.ah (.v 7)),(.ah (.v 8)),(.ah (.v 9))]),(.agg [(.ah (.v 10)),(.int I (.v 6)),(.ah (.v 11)),(.ah (.v 12)),(.bool (.v 0))]),(.int I (.v 7))] [] [(.sl 130),(.sl 132),(.sl 253),(.sl 255),(.sl 128),(.sl 141),(.sl 94),(.sl 39),(.sl 66),(.sl 3),(.sl 3),(.sl 70),(.sl 3)] [.int I] (.int I (.v 8)) (.aV (.cmp .neq (.v 8) (.c 0)) (.ret (.bO [(.ah (.k (.slice Z 0 0))),(.int I (.v 8))]) [] [(.sl 130),(.sl 132),(.sl 253),(.sl 255),(.sl 128),(.sl 141),(.sl 94),(.sl 39),(.sl 66),(.sl 3),(.sl 3),(.sl 70),(.sl 3)]) (.loop 0 [.int I,.int I] [(.int I (.c 0)),(.int I (.c 1))] (.aV (.cmp .lss (.v 9) (.len (.v 11))) (.bi (.and (.cmp .leq (.c 0) (.v 9)) (.cmp .lss (.v 9) (.len (.v 11)))) (.bi (.and (.cmp .leq (.c 0) (.v 9)) (.cmp .lss (.v 9) (.len (.v 11)))) (.aV (.cmp .gtr (.bin .mul I (.v 10) (.len (.cell (.v 11) (.v 9) 0 (.sl 76)))) (.c 256)) (.ret (.bO [(.ah (.k (.slice Z 0 0))),(.int I (.c 2))]) [] [(.sl 130),(.sl 132),(.sl 253),(.sl 255),(.sl 128),(.sl 141),(.sl 94),(.sl 39),(.sl 66),(.sl 3),(.sl 3),(.sl 70),(.sl 3)]) (.back 0 [(.int I (.bin .add I (.v 9) (.c 1))),(.int I (.bin .mul I (.v 10) (.len (.cell (.v 11) (.v 9) 0 (.sl 76)))))])))) (.call 37 [(.agg [(.int I (.v 0)),(.int I (.v 1)),(.int I (.v 2)),(.int I (.v 3)),(.int I (.v 4)),(.ah (.v 0)),(.int I (.v 5)),(.ah (.v 1)),(.ah (.v 2)),(.ah (.v 3)),(.ah (.v 4)),(.ah (.v 5)),(.ah (.v 6)),(.ah (.v 7)),(.ah (.v 8)),(.ah (.v 9))]),(.agg [(.ah (.v 10)),(.int I (.v 6)),(.ah (.v 11)),(.ah (.v 12)),(.bool (.v 0))]),(.int I (.v 7))] [] [(.sl 130),(.sl 132),(.sl 253),(.sl 255),(.sl 128),(.sl 141),(.sl 94),(.sl 39),(.sl 66),(.sl 3),(.sl 3),(.sl 70),(.sl 3)] [.ah (.sl 4)] (.ah (.v 13)) (.bi (.and (.cmp .leq (.c 0) (.len (.v 13))) (.cmp .leq (.len (.v 13)) (.c 536870912))) (.new 67 (.tR (.len (.v 13)) [(.ah (.k (.slice Z 0 0)))]) [(.sl 130),(.sl 132),(.sl 253),(.sl 255),(.sl 128),(.sl 141),(.sl 94),(.sl 39),(.sl 66),(.sl 3),(.sl 3),(.sl 70),(.sl 3),(.sl 4)] [(.sl 130),(.sl 132),(.sl 253),(.sl 255),(.sl 128),(.sl 141),(.sl 94),(.sl 39),(.sl 66),(.sl 3),(.sl 3),(.sl 70),(.sl 3),(.sl 4),(.own 67)] (.loop 1 [.int I,.ah (.own 67)] [(.int I (.c 0)),(.ah (.v 14))] (.aV (.cmp .lss (.v 11) (.len (.v 13))) (.bi (.and (.cmp .leq (.c 0) (.v 11)) (.cmp .lss (.v 11) (.len (.v 13)))) (.bi (.and (.cmp .leq (.c 0) (.v 11)) (.cmp .lss (.v 11) (.len (.v 13)))) (.aV (.cell (.v 13) (.v 11) 0) (.bi (.and (.cmp .leq (.c 0) (.len (.v 10))) (.cmp .lss (.len (.v 10)) (.len (.v 8)))) (.bi (.and (.cmp .leq (.c 0) (.len (.v 10))) (.cmp .lss (.len (.v 10)) (.len (.v 8)))) (.bi (.and (.cmp .leq (.c 0) (.bin .sub I (.v 7) (.c 1))) (.cmp .lss (.bin .sub I (.v 7) (.c 1)) (.len (.cell (.v 8) (.len (.v 10)) 0 (.sl 69))))) (.bi (.and (.cmp .leq (.c 0) (.bin .sub I (.v 7) (.c 1))) (.cmp .lss (.bin .sub I (.v 7) (.c 1)) (.len (.cell (.v 8) (.len (.v 10)) 0 (.sl 69))))) (.bi (.and (.cmp .leq (.c 0) (.v 11)) (.cmp .lss (.v 11) (.len (.cell (.cell (.v 8) (.len (.v 10)) 0 (.sl 69)) (.bin .sub I (.v 7) (.c 1)) 1 (.sl 67))))) (.bi (.and (.cmp .leq (.c 0) (.v 11)) (.cmp .lss (.v 11) (.len (.cell (.cell (.v 8) (.len (.v 10)) 0 (.sl 69)) (.bin .sub I (.v 7) (.c 1)) 1 (.sl 67))))) (.bi (.and (.cmp .leq (.c 0) (.v 11)) (.cmp .lss (.v 11) (.len (.v 15)))) (.bi (.and (.cmp .leq (.c 0) (.v 11)) (.cmp .lss (.v 11) (.len (.v 15)))) (.new 67 (.set (.ah (.v 15)) (.v 11) 0 [(.ah (.cell (.cell (.cell (.v 8) (.len (.v 10)) 0 (.sl 69)) (.bin .sub I (.v 7) (.c 1)) 1 (.sl 67)) (.v 11) 0 (.sl 134)))]) [(.sl 130),(.sl 132),(.sl 253),(.sl 255),(.sl 128),(.sl 141),(.sl 94),(.sl 39),(.sl 66),(.sl 3),(.sl 3),(.sl 70),(.sl 3),(.sl 4),.am,(.own 67)] [(.sl 130),(.sl 132),(.sl 253),(.sl 255),(.sl 128),(.sl 141),(.sl 94),(.sl 39),(.sl 66),(.sl 3),(.sl 3),(.sl 70),(.sl 3),(.sl 4),.am,.am,(.own 67)] (.back 1 [(.int I (.bin .add I (.v 11) (.c 1))),(.ah (.v 16))])))))))))) (.back 1 [(.int I (.bin .add I (.v 11) (.c 1))),(.ah (.v 15))])))) (.aV (.cmp .eql (.len (.v 11)) (.c 0)) (.call 39 [(.agg [(.int I (.v 0)),(.int I (.v 1)),(.int I (.v 2)),(.int I (.v 3)),(.int I (.v 4)),(.ah (.v 0)),(.int I (.v 5)),(.ah (.v 1)),(.ah (.v 2)),(.ah (.v 3)),(.ah (.v 4)),(.ah (.v 5)),(.ah (.v 6)),(.ah (.v 7)),(.ah (.v 8)),(.ah (.v 9))]),(.int I (.v 6))] [] [(.sl 130),(.sl 132),(.sl 253),(.sl 255),(.sl 128),(.sl 141),(.sl 94),(.sl 39),(.sl 66),(.sl 3),(.sl 3),(.sl 70),(.sl 3),(.sl 4),.am,.am] [.ah (.sl 94)] (.ah (.v 16)) (.call 17 [(.agg [(.int I (.v 0)),(.int I (.v 1)),(.int I (.v 2)),(.int I (.v 3)),(.int I (.v 4)),(.ah (.v 0)),(.int I (.v 5)),(.ah (.v 1)),(.ah (.v 2)),(.ah (.v 3)),(.ah (.v 4))]),(.agg [(.ah (.v 5))]),(.ah (.v 16)),(.int I (.len (.v 10))),(.ah (.v 13)),(.ah (.k (.slice Z 0 0))),(.ah (.v 15))] [] [(.sl 130),(.sl 132),(.sl 253),(.sl 255),(.sl 128),(.sl 141),(.sl 94),(.sl 39),(.sl 66),(.sl 3),(.sl 3),(.sl 70),(.sl 3),(.sl 4),.am,(.sl 67),(.sl 94)] [.int I,.ah (.sl 4),.ah (.sl 76),.ah (.sl 76),.ah (.sl 67),.ah (.sl 124),.int I] (.bO [(.agg [(.int I (.v 12)),(.ah (.v 17)),(.ah (.v 18)),(.ah (.v 19)),(.ah (.v 20)),(.ah (.v 21))]),(.int I (.v 13))]) (.aV (.cmp .neq (.v 13) (.c 0)) (.ret (.bO [(.ah (.k (.slice Z 0 0))),(.int I (.v 13))]) [] [(.sl 130),(.sl 132),(.sl 253),(.sl 255),(.sl 128),(.sl 141),(.sl 94),(.sl 39),(.sl 66),(.sl 3),(.sl 3),(.sl 70),(.sl 3),(.sl 4),.am,(.sl 67),(.sl 94),(.sl 4),(.sl 76),(.sl 76),(.sl 67),(.sl 124)]) (.bi (.c J) (.new 79 (.lit [[(.int I (.v 12)),(.ah (.v 17)),(.ah (.v 18)),(.ah (.v 19)),(.ah (.v 20)),(.ah (.v 21))]]) [(.sl 130),(.sl 132),(.sl 253),(.sl 255),(.sl 128),(.sl 141),(.sl 94),(.sl 39),(.sl 66),(.sl 3),(.sl 3),(.sl 70),(.sl 3),(.sl 4),.am,(.sl 67),(.sl 94),(.sl 4),(.sl 76),(.sl 76),(.sl 67),(.sl 124)] [(.sl 130),(.sl 132),(.sl 253),(.sl 255),(.sl 128),(.sl 141),(.sl 94),(.sl 39),(.sl 66),(.sl 3),(.sl 3),(.sl 70),(.sl 3),(.sl 4),.am,(.sl 67),(.sl 94),(.sl 4),(.sl 76),(.sl 76),(.sl 67),(.sl 124),(.own 79)] (.bi (.cmp .leq (.len (.v 22)) (.c 536870912)) (.new 79 (.kq (.lit []) (.ah (.v 22))) [(.sl 130),(.sl 132),(.sl 253),(.sl 255),(.sl 128),(.sl 141),(.sl 94),(.sl 39),(.sl 66),(.sl 3),(.sl 3),(.sl 70),(.sl 3),(.sl 4),.am,(.sl 67),(.sl 94),(.sl 4),(.sl 76),(.sl 76),(.sl 67),(.sl 124),(.own 79)] [(.sl 130),(.sl 132),(.sl 253),(.sl 255),(.sl 128),(.sl 141),(.sl 94),(.sl 39),(.sl 66),(.sl 3),(.sl 3),(.sl 70),(.sl 3),(.sl 4),.am,(.sl 67),(.sl 94),(.sl 4),(.sl 76),(.sl 76),(.sl 67),(.sl 124),(.own 79),(.own 79)] (.ret (.bO [(.ah (.v 23)),(.int I (.c 0))]) [] [(.sl 130),(.sl 132),(.sl 253),(.sl 255),(.sl 128),(.sl 141),(.sl 94),(.sl 39),(.sl 66),(.sl 3),(.sl 3),(.sl 70),(.sl 3),(.sl 4),.am,(.sl 67),(.sl 94),(.sl 4),(.sl 76),(.sl 76),(.sl 67),(.sl 124),(.sl 79),(.sl 79)])))))))) (.bi (.cmp .lss (.c 0) (.len (.v 11))) (.bi (.cmp .lss (.c 0) (.len (.v 11))) (Yy 12 0)))))))))))))
section
def bQ(a b c d:Int):Bool:=decide (-1099511627776<=a)&&decide (a<=1099511627776)&&decide (-1099511627776<=b)&&decide (b<=1099511627776)&&decide (-1099511627776<=c)&&decide (c<=1099511627776)&&decide (-1099511627776<=d)&&decide (d<=1099511627776)&&decide (a<=b)&&decide (c<=d)
def JG(a b c d X W V Q:Int):Bool:= !(decide (a<=W)&&decide (X<=b)&&decide (c<=Q)&&decide (V<=d))
def ahb:bv->kK
 |[.i a,.i b,.i c,.i d,.i X,.i W,.i V,.i Q]=>U (.ret (if bQ a b c d&&bQ X W V Q then[.b (JG a b c d X W V Q),.i 0] else[.b E,.i 150]))
 |_=>Z
def GS:Nat->List UInt8->UInt8->Int
 |_,[],_=>-1
 |k,x::l,b=>if x==b then k else GS (k+1) l b
def Yz:bv->kK
 |[.r s,.i b]=>match s.val with
  |.string t=>U (.ret [.i (GS 0 t.toList (UInt8.ofNat b.toNat))])
  |_=>U (.ret [.i (-1)])
 |_=>Z
def NI:nQ:=λf X=>if f=202 then ahb X else if f=169 then Yz X else Z
def GU:FuncId->Option Fn
 |55=>U ⟨T82,E,E⟩
 |57=>U ⟨Ru,J,E⟩
 |71=>U ⟨afT,E,E⟩
 |114=>U ⟨afU,E,E⟩
 |115=>U ⟨Yc,J,E⟩
 |317=>U ⟨afV,J,E⟩
 |98=>U ⟨Yd,E,E⟩
 |139=>U ⟨Ye,E,E⟩
 |178=>U ⟨Yf,E,E⟩
 |177=>U ⟨Yg,E,E⟩
 |133=>U ⟨Yh,E,E⟩
 |173=>U ⟨Yi,E,E⟩
 |126=>U ⟨T66,E,E⟩
 |89=>U ⟨T72,E,E⟩
 |86=>U ⟨T69,E,E⟩
 |116=>U ⟨afZ,E,E⟩
 |159=>U ⟨T24,E,E⟩
 |97=>U ⟨af0,E,E⟩
 |137=>U ⟨Yj,E,E⟩
 |87=>U ⟨T70,E,E⟩
 |127=>U ⟨T65,E,E⟩
 |70=>U ⟨T18,E,E⟩
 |24=>U ⟨Yk,E,E⟩
 |76=>U ⟨T86,E,E⟩
 |77=>U ⟨T87,E,E⟩
 |78=>U ⟨T88,E,E⟩
 |197=>U ⟨arR,E,E⟩
 |231=>U ⟨arS,E,E⟩
 |83=>U ⟨Yl,E,E⟩
 |92=>U ⟨T77,E,E⟩
 |134=>U ⟨Ym,E,E⟩
 |174=>U ⟨af6,E,E⟩
 |118=>U ⟨Yn,E,E⟩
 |51=>U ⟨NE,E,E⟩
 |93=>U ⟨Yo,E,E⟩
 |81=>U ⟨T27,E,E⟩
 |35=>U ⟨Rv,E,E⟩
 |96=>U ⟨Yq,E,E⟩
 |56=>U ⟨Yr,E,E⟩
 |49=>U ⟨Rw,E,E⟩
 |90=>U ⟨T23,E,E⟩
 |53=>U ⟨Rx,E,E⟩
 |79=>U ⟨T89,E,E⟩
 |165=>U ⟨Ys,E,E⟩
 |54=>U ⟨Yt,E,J⟩
 |17=>U ⟨T13,E,J⟩
 |109=>U ⟨T16,E,J⟩
 |201=>U ⟨arU,E,E⟩
 |196=>U ⟨T78,E,E⟩
 |80=>U ⟨T90,J,E⟩
 |199=>U ⟨arW,E,E⟩
 |229=>U ⟨arX,E,E⟩
 |52=>U ⟨T63,E,E⟩
 |18=>U ⟨T15,E,E⟩
 |45=>U ⟨T43,E,E⟩
 |32=>U ⟨T44,E,E⟩
 |46=>U ⟨T45,E,E⟩
 |82=>U ⟨T98,E,E⟩
 |140=>U ⟨agj,E,E⟩
 |144=>U ⟨agk,E,E⟩
 |179=>U ⟨agl,E,E⟩
 |99=>U ⟨T91,E,E⟩
 |180=>U ⟨agn,E,E⟩
 |145=>U ⟨ago,E,E⟩
 |266=>U ⟨agp,E,E⟩
 |267=>U ⟨agq,E,E⟩
 |182=>U ⟨Yu,E,E⟩
 |183=>U ⟨Ry,E,E⟩
 |146=>U ⟨Yv,E,E⟩
 |147=>U ⟨agr,E,E⟩
 |100=>U ⟨T92,E,E⟩
 |58=>U ⟨T40,E,E⟩
 |298=>U ⟨agu,E,E⟩
 |101=>U ⟨agv,E,E⟩
 |60=>U ⟨agw,E,E⟩
 |107=>U ⟨T94,E,E⟩
 |226=>U ⟨agy,E,E⟩
 |190=>U ⟨agz,E,E⟩
 |191=>U ⟨agA,E,E⟩
 |155=>U ⟨T95,E,E⟩
 |153=>U ⟨agC,E,E⟩
 |186=>U ⟨NF,E,E⟩
 |185=>U ⟨agD,E,E⟩
 |223=>U ⟨agE,E,E⟩
 |225=>U ⟨agF,E,E⟩
 |151=>U ⟨agG,E,E⟩
 |150=>U ⟨agH,E,E⟩
 |152=>U ⟨agI,E,E⟩
 |104=>U ⟨Rz,E,E⟩
 |189=>U ⟨T56,E,E⟩
 |188=>U ⟨T64,E,E⟩
 |5=>U ⟨ar1,E,E⟩
 |6=>U ⟨GQ,E,E⟩
 |7=>U ⟨agL,E,E⟩
 |8=>U ⟨agX,E,E⟩
 |21=>U ⟨ar0,E,E⟩
 |11=>U ⟨arY,E,E⟩
 |12=>U ⟨ag0,E,J⟩
 |19=>U ⟨ar2,E,E⟩
 |20=>U ⟨ar3,E,E⟩
 |15=>U ⟨ag2,E,E⟩
 |9=>U ⟨ar7,E,E⟩
 |22=>U ⟨ar4,E,E⟩
 |14=>U ⟨ag3,E,E⟩
 |13=>U ⟨aha,E,E⟩
 |23=>U ⟨ag1,E,J⟩
 |25=>U ⟨RA,E,E⟩
 |26=>U ⟨agM,E,E⟩
 |27=>U ⟨agN,E,E⟩
 |28=>U ⟨agO,E,E⟩
 |31=>U ⟨arZ,E,E⟩
 |34=>U ⟨agZ,E,E⟩
 |47=>U ⟨ar5,E,E⟩
 |48=>U ⟨ar6,E,E⟩
 |39=>U ⟨ag4,E,E⟩
 |30=>U ⟨ar8,E,E⟩
 |36=>U ⟨ag5,E,E⟩
 |37=>U ⟨ag6,E,E⟩
 |50=>U ⟨agY,E,E⟩
 |59=>U ⟨agP,E,E⟩
 |61=>U ⟨agQ,E,E⟩
 |62=>U ⟨agR,E,E⟩
 |63=>U ⟨agS,E,E⟩
 |64=>U ⟨agT,E,E⟩
 |65=>U ⟨NG,E,E⟩
 |105=>U ⟨agU,E,E⟩
 |106=>U ⟨agV,E,E⟩
 |154=>U ⟨agW,E,E⟩
 |4=>U ⟨ag7,E,E⟩
 |16=>U ⟨ag8,E,E⟩
 |_=>Z
def TB:lM:=⟨GU,NI⟩
def iY(j:FuncId->bv->bq->Prop)(R:bq->Prop)(f:FuncId)(W:bv)(V:aU)(t:T)(O:ai)(L:db):Prop:=∃o,j f W o/\(match o with
  |.ret X=>kz V X=J/\t.wp j R (O.ext X) L
  |.bI v=>R (.bI v))
def iZ(j:FuncId->bv->bq->Prop)(R:bq->Prop)(o:bq)(W:aU)(t:T)(O:ai)(L:db):Prop:=match o with
  |.ret X=>kz W X=J/\t.wp j R (O.ext X) L
  |.bI v=>R (.bI v)
def JH(c:Option PC)(X:bv):Prop:=match c with
 |U c=>c.I X/\c.μ X<c.m
 |none=>False
section
variable{j:FuncId->bv->bq->Prop}{R:bq->Prop}{O:ai}{L:db}
def az4{X:bv}{Q:aU}{t:T}(h:V=X):iY j R W V Q t O L=iY j R W X Q t O L:=by rw[h]
def az5{o X:bq}{W:aU}{t:T}(h:o=X):iZ j R o W t O L=iZ j R X W t O L:=by rw[h]
def az6{t:T}{X:ai}(h:O=X):T.wp j R t O L=T.wp j R t X L:=by rw[h]
def NJ(b:BE)(t f:T):T.wp j R (.aV b t f) O L=(if b.ab O=J then t.wp j R O L else f.wp j R O L):=by
 simp only[T.wp,T.nT];cases b.ab O<;>simp
def xG(b:BE)(t:T):T.wp j R (.bi b t) O L=(b.ab O=J/\t.wp j R O L):=by simp only[T.wp,T.nT]
def RG(v:C)(X:bG)(W:bz):T.wp j R (.ret v X W) O L=R (.ret ((yz v).map (C.xv O))):=by simp only[T.wp,T.nT]
def ahc(f:FuncId)(X:ap)(V:bG)(Q:bz)(W:aU)(jM:C)(t:T):T.wp j R (.call f X V Q W jM t) O L=iY j R f ((pe X).map (C.xv O)) W t O L:=by simp only[T.wp,T.nT,iY];rfl
def GV(e:TypeId)(x:LE)(X W:bz)(t:T):T.wp j R (.new e x X W t) O L=t.wp j R (O.add (.r (gI x O))) L:=by simp only[T.wp,T.nT]
def az7(k:RK)(x:LE)(X:bz)(t:T):T.wp j R (.ac k x X t) O L=t.wp j R (O.add (.r (gI x O))) L:=by simp only[T.wp,T.nT]
def ahd(X:bv)(W:aU)(t:T):iZ j R (.ret X) W t O L=(kz W X=J/\t.wp j R (O.ext X) L):=rfl
def az8(v:Value)(X:aU)(t:T):iZ j R (.bI v) X t O L=R (.bI v):=rfl
def ahe(ax:Nat)(x:ap):T.wp j R (.back ax x) O L=JH (As ax L) (x.map (C.xv O)):=by
 simp only[T.wp,T.nT,JH];cases As ax L<;>rfl
def vM(c:PC)(X:bv):JH (U c) X=(c.I X/\c.μ X<c.m):=rfl
def NK(g h:BE)(t f:T):T.wp j R (.gQ g h t f) O L=((g.ab O=J\/h.ab O=J)/\(g.ab O=J->t.wp j R O L)/\(h.ab O=J->f.wp j R O L)/\(g.ab O=J->h.ab O=J->U8 R)):=rfl
def az9(f g:FuncId)(e:TypeId)(X:bu)(W:Bool)(r:RE)(Q:bz)(t:T):T.wp j R (.eL f g e X W r Q t) O L=(∃V,oo O X W (r.rv O).ac=U V/\t.wp j R (O.add (.r (.mk (r.rv O).val V))) L):=rfl
def CV(f g:FuncId)(e:TypeId)(X:aq)(d:Bool)(W:Bool)(r:RE)(Q:bz)(t:T):T.wp j R (.eL f g e (.lex X d) W r Q t) O L=(∃V,jh (.lex X d) W (r.rv O).ac=U V/\t.wp j R (O.add (.r (.mk (r.rv O).val V))) L):=rfl
def CW(f g:FuncId)(e:TypeId)(n d:Nat)(X:Bool)(r:RE)(V:bz)(t:T):T.wp j R (.eL f g e (.ratio n d) X r V t) O L=(∃W,jh (.ratio n d) X (r.rv O).ac=U W/\t.wp j R (O.add (.r (.mk (r.rv O).val W))) L):=rfl
def vN{N:aU}{P:ap}{t:T}(X:bv->Prop)(W:bv->Nat)(M:X (P.map (C.xv O)))(h:∀V,X V->t.wp j R (O.ext V) (⟨Q,X,W,W V⟩::L)):T.wp j R (.loop Q N P t) O L:=by
 simp only[T.wp,T.nT];exact⟨R,L,.inl ⟨rfl,rfl⟩,X,W,M,h⟩
end
def bh{X:lM}{R:bq->Prop}{P:aU}{t:T}{O:ai}{L:db}{o:bq}(h:X.Ev W V o):iY X.Ev R W V P t O L=iZ X.Ev R o P t O L:=by
 refine propext ⟨λ⟨M,N,Q⟩=> ?_,λQ=>⟨o,h,Q⟩⟩;rw[Qd h N];exact Q
attribute[congr] az4 az5 az6
def has{X:Fn}(h:GU W=U X)(V:W≠202)(Q:W≠169):LW TB W X:=⟨h,λP=>by simp[TB,NI,V,Q]⟩
def single{o:bq}(h:D0 o o=J):U8 (· =o):=λa b X W=>by subst X;exact⟨W.symm,h⟩
def evo{X:Fn}{o:bq}(P:GU W=U X)(Q:(W !=202&&W !=169)=J)(N:X.d=E\/∀v,o≠ .bI v)(h:X.t.wp TB.Ev (· =o) (gg (mH X.g) V) []):TB.Ev W V o:=by
 simp only[aw,bne_iff_ne,ne_eq] at Q;exact IC (has P Q.1 Q.2) N h
def YA{X:Fn}{R:bq->Prop}(P:GU W=U X)(Q:(W !=202&&W !=169)=J)(N:X.d=E\/∀v,¬R (.bI v))(h:X.t.wp TB.Ev R (gg (mH X.g) V) []):∃o,TB.Ev W V o/\R o:=by
 simp only[aw,bne_iff_ne,ne_eq] at Q;exact anR (has P Q.1 Q.2) N h
def fC{X:Fn}{o:bq}(h:X.t.wp TB.Ev (· =o) (gg (mH X.g) V) [])(Q:GU W=U X:=by exact rfl)(P:(W !=202&&W !=169)=true:=by exact rfl)(N:X.d=false:=by exact rfl):TB.Ev W V o:=evo Q P (.inl N) h
def dZ{X:Fn}{R:bq->Prop}(h:X.t.wp TB.Ev R (gg (mH X.g) V) [])(Q:GU W=U X:=by exact rfl)(P:(W !=202&&W !=169)=true:=by exact rfl)(N:X.d=false:=by exact rfl):∃o,TB.Ev W V o/\R o:=YA Q P (.inl N) h
end
section
attribute[simp] K.ab BE.ab RE.rv RE.ab fA ai.rv gg ai.ext ai.add pe yz Iz C.xv mH As kz acj NJ xG RG ahc GV az7 ahd az8 ahe
def out(f:FuncId)(X:bv):bv:=by classical exact if h:∃W,TB.Ev f X (.ret W) then h.choose else[]
def xi(X:bv)(k:Nat):Int:=match X.getD k (.i 0) with
 |.i n=>n
 |_=>0
def xb(X:bv)(k:Nat):Bool:=match X.getD k (.i 0) with
 |.b x=>x
 |_=>E
def xr(X:bv)(k:Nat):RV:=match X.getD k (.i 0) with
 |.r x=>x
 |_=>default
def oi(f:FuncId)(X:bv)(k:Nat):Int:=xi (out f X) k
def ob(f:FuncId)(X:bv)(k:Nat):Bool:=xb (out f X) k
def RI{X:bv}(h:TB.Ev W V (.ret X)):out W V=X:=by
 have Q:∃X,TB.Ev W V (.ret X):=⟨X,h⟩;have:out W V=Q.choose:=by unfold out;rw[dif_pos Q]
 rw[this];have:=Qd Q.choose_spec h;injection this
def aAa{P:bv->Prop}(h:∃o,TB.Ev W V o/\∃X,o=.ret X/\P X):TB.Ev W V (.ret (out W V))/\P (out W V):=by
 obtain⟨o,Q,X,rfl,N⟩:=h;rw[RI Q];exact⟨Q,N⟩
def A4(X:bv):aU->Nat->bv
 |[],_=>[]
 |.int _::G,n=>.i (xi X n)::A4 X G (n+1)
 |.bool::G,n=>.b (xb X n)::A4 X G (n+1)
 |.ah _::G,n=>.r (xr X n)::A4 X G (n+1)
def asa(W:bv):∀(G:aU)(X:bv),kz G X=J->A4 (W++X) G (Y W)=X
 |[],[],_=>rfl
 |[],_::_,h=>by simp at h
 |k::G,[],h=>by cases k<;>simp at h
 |k::G,y::X,h=>by
  have V:=asa (W++[y]) G X;simp only[kz,aw] at h;have V:=V h.2;simp only[Bn,List.singleton_append,gP,ZC] at V;have Q:(W++y::X).getD (Y W) (.i 0)=y:=by simp[List.getD]
  cases k<;>cases y<;>simp at h<;>simp only[A4,V,xi,xb,xr,Q]
def shp(G:aU){P:bv->Prop}(h:∃o,TB.Ev W V o/\∃X,o=.ret X/\kz G X=J/\P X):TB.Ev W V (.ret (A4 (out W V) G 0))/\P (out W V):=by
 obtain⟨Q,N,M⟩:=aAa h;rw[show A4 (out W V) G 0=out W V from asa [] G _ N];exact⟨Q,M⟩
def jm(n X W:Int):Bool:=decide (X<=n)&&decide (n<=W)
@[simp] def RJ (n X W:Int):jm n X W=J<->X<=n/\n<=W:=by simp[jm]
def tC(a b:Int):Int:=if a<b then-1 else if b<a then 1 else 0
def oH(a b c d:Int):Int:=if gC a b&&gC c d then tC (IntKind.i64.wrap (a*d)) (IntKind.i64.wrap (c*b)) else 0
def EQ:FuncId->Option Fn
 |98=>U ⟨Yd,E,E⟩
 |139=>U ⟨Ye,E,E⟩
 |178=>U ⟨Yf,E,E⟩
 |177=>U ⟨Yg,E,E⟩
 |133=>U ⟨Yh,E,E⟩
 |173=>U ⟨Yi,E,E⟩
 |_=>Z
section
variable{p:lM}(H:∀f fn,EQ f=U fn->LW p f fn)
include H
def aAc(a b:Nat):p.Ev 177 [.i a,.i b] (.ret [.i (lG a b)]):=by
 refine IC (H _ _ rfl) (.inl rfl) ?_;simp[Yg];split;rename_i W;simp[W];rename_i W;refine vN (λX=>∃d x y:Nat,X=[.i d,.i x,.i y]/\y≠0/\lG x y=lG a b/\(x=0->d=lG a b)) (λX=>(xi X 2).toNat) ⟨b,a,b,av,W,rfl,λV=>by subst V;simp⟩ ?_;rintro X ⟨d,x,y,rfl,P,Q,V⟩;have N:max (y:Int) 1=y:=aa;have M:aH .rem .u64 (x:Int) (y:Int)=((x%y:Nat):Int):=by
  simp only[aH];rw[Zz aa];exact(Int.natCast_emod x y).symm
 simp[xi,N,M,vM];split;rename_i G;simp[V G];refine⟨aa, ?_⟩;split;rename_i D;rw[<-Q,Oq,ZU,show x%y=0 from aa];simp;refine⟨⟨x,y,x%y,⟨rfl,rfl,aa⟩,aa, ?_,λF=>aZ F P⟩, ?_⟩;rw[<-Q,Oq x y,ZU y x,Oq];have:=Hy x (show 0<y from aa);omega
def aAd(n:Int)(W:-1073741824<=n)(V:n<=1073741824):p.Ev 178 [.i n] (.ret [.i n.natAbs]):=by
 refine IC (H _ _ rfl) (.inl rfl) ?_;simp[Yf,aH];have X:∀x:Int,IntKind.u64.wrap x=x%18446744073709551616:=λx=>rfl
 rw[X,X];split<;>omega
def asb(n:Int):p.Ev 173 [.i n] (.ret [.b E]):=by
 refine IC (H _ _ rfl) (.inl rfl) ?_;simp[Yi]
def ahg(a b:Int):p.Ev 133 [.i a,.i b] (.ret [.i (tC a b)]):=by
 refine IC (H _ _ rfl) (.inl rfl) ?_;simp[Yh,tC,bh (asb H _)]
 grind
def asc(n d:Int):p.Ev 139 [.i n,.i d] (.ret [.i (if gC n d then 0 else 120)]):=by
 refine IC (H _ _ rfl) (.inl rfl) ?_;simp[Ye]
 repeat' split
 any_goals(simp[gC];omega)
 all_goals
  rw[bh (aAd H n aa aa)];have X:IntKind.u64.wrap d=(d.toNat:Int):=by
   have:IntKind.u64.wrap d=d%18446744073709551616:=rfl;omega
  have W:max d 0=(d.toNat:Int):=aa;simp[X];rw[W,bh (aAc H n.natAbs d.toNat)];simp[gC] at*;omega
def asd(a b c d:Int):p.Ev 98 [.i a,.i b,.i c,.i d] (.ret [.i (oH a b c d),.i (if gC a b&&gC c d then 0 else 120)]):=by
 refine IC (H _ _ rfl) (.inl rfl) ?_;simp[Yd,oH,aH,bh (asc H _ _),bh (ahg H _ _)]
 grind
end
def YB(f:FuncId)(fn:Fn)(h:EQ f=U fn):LW TB f fn:=by
 unfold EQ at h;split at h<;>cases h<;>exact has rfl dX dX
section
variable{R:bq->Prop}{G:aU}{t:T}{O:ai}{L:db}
def e82(n X W:Int):TB.Ev 55 [.i n,.i X,.i W] (.ret [.b (jm n X W)]):=by
 refine fC ?_;simp[T82,jm]
 grind
@[simp] def c82 (n X W:Int):iY TB.Ev R 55 [.i n,.i X,.i W] G t O L=iZ TB.Ev R (.ret [.b (jm n X W)]) G t O L:=bh (e82 n X W)
def aAf(n X W:Int):TB.Ev 71 [.i n,.i X,.i W] (.ret [.b (jm n X W)]):=by
 refine fC ?_;simp[afT,jm]
 grind
@[simp] def aJA (n X W:Int):iY TB.Ev R 71 [.i n,.i X,.i W] G t O L=iZ TB.Ev R (.ret [.b (jm n X W)]) G t O L:=bh (aAf n X W)
def e70(n X W:Int):TB.Ev 87 [.i n,.i X,.i W] (.ret [.b (jm n X W)]):=by
 refine fC ?_;simp[T70,jm]
 grind
@[simp] def c70 (n X W:Int):iY TB.Ev R 87 [.i n,.i X,.i W] G t O L=iZ TB.Ev R (.ret [.b (jm n X W)]) G t O L:=bh (e70 n X W)
def aAh(n X W:Int):TB.Ev 174 [.i n,.i X,.i W] (.ret [.b (jm n X W)]):=by
 refine fC ?_;simp[af6,jm]
 grind
@[simp] def aJC (n X W:Int):iY TB.Ev R 174 [.i n,.i X,.i W] G t O L=iZ TB.Ev R (.ret [.b (jm n X W)]) G t O L:=bh (aAh n X W)
def se(n:Int)(u:Bool)(X W:Int):Bool:=if u then jm n X W else n==0
def aAi(n X W:Int)(u:Bool):TB.Ev 97 [.i n,.b u,.i X,.i W] (.ret [.b (se n u X W)]):=by
 refine fC ?_;simp[af0,se]
 grind
@[simp] def aJD (n X W:Int) (u:Bool):iY TB.Ev R 97 [.i n,.b u,.i X,.i W] G t O L=iZ TB.Ev R (.ret [.b (se n u X W)]) G t O L:=bh (aAi n X W u)
@[simp] def aJE (n:Int):iY TB.Ev R 173 [.i n] G t O L=iZ TB.Ev R (.ret [.b E]) G t O L:=bh (asb YB n)
@[simp] def aJF (a b:Int):iY TB.Ev R 133 [.i a,.i b] G t O L=iZ TB.Ev R (.ret [.i (tC a b)]) G t O L:=bh (ahg YB a b)
@[simp] def aJG (n d:Int):iY TB.Ev R 139 [.i n,.i d] G t O L=iZ TB.Ev R (.ret [.i (if gC n d then 0 else 120)]) G t O L:=bh (asc YB n d)
@[simp] def aJH (a b c d:Int):iY TB.Ev R 98 [.i a,.i b,.i c,.i d] G t O L=iZ TB.Ev R (.ret [.i (oH a b c d),.i (if gC a b&&gC c d then 0 else 120)]) G t O L:=bh (asd YB a b c d)
def e66(a b c d:Int):TB.Ev 126 [.i a,.i b,.i c,.i d] (.ret [.b (bQ a b c d)]):=by
 refine fC ?_;simp[T66,bQ]
 grind
@[simp] def c66 (a b c d:Int):iY TB.Ev R 126 [.i a,.i b,.i c,.i d] G t O L=iZ TB.Ev R (.ret [.b (bQ a b c d)]) G t O L:=bh (e66 a b c d)
def jn(X:Bool)(x:Int):Int:=if X then x else 0
def e72(a b c d X W V Q:Int):TB.Ev 89 [.i a,.i b,.i c,.i d,.i X,.i W,.i V,.i Q] (.ret [.i (jn (bQ a b c d&&bQ X W V Q) (min a X)),.i (jn (bQ a b c d&&bQ X W V Q) (max b W)),.i (jn (bQ a b c d&&bQ X W V Q) (min c V)),.i (jn (bQ a b c d&&bQ X W V Q) (max d Q)),.i (if bQ a b c d&&bQ X W V Q then 0 else 150)]):=by
 refine fC ?_;simp[T72,jn]
 grind
@[simp] def c72 (a b c d X W V Q:Int):iY TB.Ev R 89 [.i a,.i b,.i c,.i d,.i X,.i W,.i V,.i Q] G t O L=iZ TB.Ev R (.ret [.i (jn (bQ a b c d&&bQ X W V Q) (min a X)),.i (jn (bQ a b c d&&bQ X W V Q) (max b W)),.i (jn (bQ a b c d&&bQ X W V Q) (min c V)),.i (jn (bQ a b c d&&bQ X W V Q) (max d Q)),.i (if bQ a b c d&&bQ X W V Q then 0 else 150)]) G t O L:=bh (e72 a b c d X W V Q)
def e69(a b c d:Int):TB.Ev 86 [.i a,.i b,.i c,.i d] (.ret [.b (bQ a b c d)]):=by
 refine fC ?_;simp[T69]
 grind
@[simp] def c69 (a b c d:Int):iY TB.Ev R 86 [.i a,.i b,.i c,.i d] G t O L=iZ TB.Ev R (.ret [.b (bQ a b c d)]) G t O L:=bh (e69 a b c d)
def ase(a b c d X W V Q:Int):Bool:=decide (X<=a)&&decide (b<=W)&&decide (V<=c)&&decide (d<=Q)
def gN(a b c d x y:Int):Int:=if !bQ a b c d then 150 else if !(decide (-2199023255552<=x)&&decide (x<=2199023255552)&&decide (-2199023255552<=y)&&decide (y<=2199023255552)) then 2 else if bQ (IntKind.i64.wrap (a+x)) (IntKind.i64.wrap (b+x)) (IntKind.i64.wrap (c+y)) (IntKind.i64.wrap (d+y)) then 0 else 2
def aAm(a b c d x y:Int):TB.Ev 116 [.i a,.i b,.i c,.i d,.i x,.i y] (.ret [.i (jn (gN a b c d x y==0) (IntKind.i64.wrap (a+x))),.i (jn (gN a b c d x y==0) (IntKind.i64.wrap (b+x))),.i (jn (gN a b c d x y==0) (IntKind.i64.wrap (c+y))),.i (jn (gN a b c d x y==0) (IntKind.i64.wrap (d+y))),.i (gN a b c d x y)]):=by
 refine fC ?_;simp[afZ,jn,aH]
 repeat' split
 all_goals(simp_all[gN])
 all_goals grind
@[simp] def aJL (a b c d x y:Int):iY TB.Ev R 116 [.i a,.i b,.i c,.i d,.i x,.i y] G t O L=iZ TB.Ev R (.ret [.i (jn (gN a b c d x y==0) (IntKind.i64.wrap (a+x))),.i (jn (gN a b c d x y==0) (IntKind.i64.wrap (b+x))),.i (jn (gN a b c d x y==0) (IntKind.i64.wrap (c+y))),.i (jn (gN a b c d x y==0) (IntKind.i64.wrap (d+y))),.i (gN a b c d x y)]) G t O L:=bh (aAm a b c d x y)
end
structure Sl(v:RV):Prop where
 sl:∃a n c,v.val=.slice a n c
 len:lenOf v.val=Y v.ac
 sm:Y v.ac<=140737488355328
def ci(v:RV)(i j:Nat):Int:=bn (aQ v.ac i j).val
def cb(v:RV)(i j:Nat):Bool:=gA (aQ v.ac i j).val
def RN(n:Nat)(X:Nat->bv->Prop):bv->Prop
 |.i j::W=>∃i:Nat,j=i/\i<=n/\X i W
 |_=>False
def NL(n:Nat):bv->Nat
 |.i j::_=>n-j.toNat
 |_=>0
section
variable{e:FuncId->bv->bq->Prop}{R:bq->Prop}{O:ai}{L:db}
def bW{G:aU}{P:ap}{t:T}(n:Nat)(X:Nat->bv->Prop)(N:RN n X (P.map (C.xv O)))(h:∀(i:Nat) W,i<=n->X i W->t.wp e R (O.ext (.i i::W)) (⟨Q,RN n X,NL n,n-i⟩::L)):T.wp e R (.loop Q G P t) O L:=by
 refine vN (RN n X) (NL n) N λM V=> ?_
 match M,V with
 |.i j::W,V=>
  obtain⟨i,rfl,F,D⟩:=V;have:=h i W F D;simpa[NL] using this
def cG{n:Int}(X:-9223372036854775808<=n)(W:n<9223372036854775808):IntKind.i64.wrap n=n:=by
 rw[IntKind.wrap_i64];omega
def JI{i:Nat}(h:i<=140737488355328):aH .add I (i:Int) 1=((i+1:Nat):Int):=by
 simp only[aH];rw[cG aa aa];omega
def bK{ax n:Nat}{J:Nat->bv->Prop}{rest:bv}(X:Q<n)(W:n<=140737488355328):JH (U ⟨ax,RN n J,NL n,n-Q⟩) (.i (aH .add I (Q:Int) 1)::rest)=J (Q+1) rest:=by
 rw[JI aa];refine propext ⟨λh=> ?_,λh=>⟨⟨Q+1,rfl,aa,h⟩, ?_⟩⟩;obtain⟨⟨k,V,_,h⟩,_⟩:=h;have:k=Q+1:=aa;exact this▸h;simp only[NL];omega
end
end
inductive KX where
 |i
 |b
 |r
 deriving DecidableEq
def LK.kx:LK->KX
 |.int _=>.i
 |.bool=>.b
 |.ah _=>.r
def XV.kx:XV->KX
 |.i _=>.i
 |.b _=>.b
 |.r _=>.r
def C.kx:C->KX
 |.bool _=>.b
 |.ah _=>.r
 |_=>.i
abbrev Tot:=FuncId->Option (List KX×List KX)
def Tot.ok(V:Tot):Prop:=∀f p r,V f=U (p,r)->∀X,X.map XV.kx=p->∃W,TB.Ev f X (.ret W)/\W.map XV.kx=r
def uC{P:Int->Prop}(h:∃o,TB.Ev W V o/\∃e,o=.ret [.i e]/\P e):TB.Ev W V (.ret [.i (oi W V 0)])/\P (oi W V 0):=by
 obtain⟨o,X,e,rfl,Q⟩:=h;have:oi W V 0=e:=by simp only[oi,RI X];rfl
 rw[this];exact⟨X,Q⟩
def mkb{P:Bool->Prop}(h:∃o,TB.Ev W V o/\∃e,o=.ret [.b e]/\P e):TB.Ev W V (.ret [.b (ob W V 0)])/\P (ob W V 0):=by
 obtain⟨o,X,e,rfl,Q⟩:=h;have:ob W V 0=e:=by simp only[ob,RI X];rfl
 rw[this];exact⟨X,Q⟩
structure CX(roles bars:Int)(c:Nat->Int):Prop where
 kind:1<=c 4/\c 4<=9
 aJ:0<=c 1/\c 1<roles
 ak:0<=c 2/\c 2<bars
 mark:1<=c 3/\c 3<=3
 side:if c 4=1\/c 4=3\/c 4=4\/c 4=9 then 1<=c 5/\c 5<=2 else c 5=0
 dir:if c 4=1\/c 4=2 then 1<=c 6/\c 6<=8 else if c 4=3\/c 4=4\/c 4=5 then 0<=c 6/\c 6<=8 else c 6=0
 aAo:if c 4=3\/c 4=4\/c 4=5\/c 4=9 then 1<=c 7/\c 7<=3 else c 7=0
 size:if c 4=1\/c 4=2 then 1<=c 8/\c 8<=16 else if c 4=6 then 1<=c 8/\c 8<=7 else c 8=0
 wth:if c 4=7\/c 4=8 then 1<=c 9/\c 9<=roles else c 9=0
 from_:gC (c 10) (c 11)=J
 to:gC (c 12) (c 13)=J
section
variable{R:bq->Prop}{G:aU}{t:T}{O:ai}{L:db}
def i7(c:Nat->Int):bv:=[.i (c 0),.i (c 1),.i (c 2),.i (c 3),.i (c 4),.i (c 5),.i (c 6),.i (c 7),.i (c 8),.i (c 9),.i (c 10),.i (c 11),.i (c 12),.i (c 13)]
def kT(k:Int)(j:Nat):RV:=aQ (lw[0]?.getD default).ac k j
def ash{c:Nat->Int}{X W:Int}(H:1<=c 4/\c 4<=9)(G:0<=c 1/\c 1<=X-1)(F:0<=c 2/\c 2<=W-1)(D:1<=c 3/\c 3<=3)(V:se (c 5) (gA (kT (c 4) 0).val) 1 2=J)(Q:se (c 6) (gA (kT (c 4) 1).val) (bn (kT (c 4) 3).val) 8=J)(P:se (c 7) (decide (0<bn (kT (c 4) 4).val)) 1 (bn (kT (c 4) 4).val)=J)(N:se (c 8) (decide (0<bn (kT (c 4) 5).val)) 1 (bn (kT (c 4) 5).val)=J)(M:se (c 9) (gA (kT (c 4) 2).val) 1 X=J)
  (B:gC (c 10) (c 11)=J)(A:gC (c 12) (c 13)=J):CX X W c:=by
 have:c 4=1\/c 4=2\/c 4=3\/c 4=4\/c 4=5\/c 4=6\/c 4=7\/c 4=8\/c 4=9:=aa;rcases this with h|h|h|h|h|h|h|h|h
 all_goals
  simp[h,kT,lw,nR,bV,iV,aQ,se,gA,bn] at V Q P N M;constructor<;>(first|omega|assumption|(simp[h];done)|(simp[h];omega))
def t84(c:Nat->Int)(X W:Int)(N:-1000<=X/\X<=1000000)(M:-1000<=W/\W<=1000000):∃o,TB.Ev 57 (i7 c++[.i X,.i W]) o/\∃b,o=.ret [.b b]/\(b=J->CX X W c):=by
 refine dZ ?_;have V:aH .sub I X 1=X-1:=by simp only[aH];rw[cG aa aa]
 have Q:aH .sub I W 1=W-1:=by simp only[aH];rw[cG aa aa]
 have P:lenOf (lw[0]?.getD default).val=10:=rfl;simp[Ru,i7,V,Q,P]
 repeat' split
 all_goals(try simp)
 all_goals(intros;refine⟨aa, ?_⟩;intros;apply ash<;>(first|assumption|omega|grind))
def f84(c:Nat->Int)(X W:Int)(V:-1000<=X/\X<=1000000)(Q:-1000<=W/\W<=1000000):TB.Ev 57 (i7 c++[.i X,.i W]) (.ret [.b (ob 57 (i7 c++[.i X,.i W]) 0)])/\(ob 57 (i7 c++[.i X,.i W]) 0=J->CX X W c):=mkb (t84 c X W V Q)
def NM{a b:Int}(h:b≠0):(a.tmod b).natAbs<b.natAbs:=by
 rw[Kc];exact Hy _ aa
def aAr(a b c:Int)(N:1<=c)(M:c<=32768)(H:-c<=a/\a<=c)(G:-c<=b/\b<=c):∃o,TB.Ev 96 [.i a,.i b,.i c] o/\∃x y z,o=.ret [.i x,.i y,.i z]:=by
 refine dZ ?_;simp[Yq];refine vN (λX=>∃n d:Int,X=[.i n,.i d]∧-c<=n/\n<=c∧-c<=d/\d<=c) (λX=>(xi X 0).natAbs) ⟨a,0,rfl,aa,aa,aa,aa⟩ ?_;rintro _ ⟨n,d,rfl,W,V,Q,P⟩;simp[xi,vM,aH];split
 case isFalse h=>
  have:=NM (a:=d) h;refine⟨h,⟨_,_,⟨rfl,rfl⟩, ?_⟩,by rw[<-Kc];exact this⟩;omega
 refine vN (λX=>∃n d:Int,X=[.i n,.i d]∧-c<=n/\n<=c∧-c<=d/\d<=c) (λX=>(xi X 0).natAbs) ⟨b,d,rfl,aa,aa,aa,aa⟩ ?_;rintro _ ⟨n,d,rfl,W,V,Q,P⟩;simp[xi,vM,aH];split
 case isFalse h=>
  have:=NM (a:=d) h;refine⟨h,⟨_,_,⟨rfl,rfl⟩, ?_⟩,by rw[<-Kc];exact this⟩;omega
 refine vN (λX=>∃n d:Int,X=[.i n,.i d]∧-c<=n/\n<=c∧-c<=d/\d<=c/\(n≠0\/d≠0)) (λX=>(xi X 0).natAbs) ⟨c,d,rfl,aa,aa,aa,aa,aa⟩ ?_;rintro _ ⟨n,d,rfl,W,V,Q,P,F⟩;simp[xi,vM,aH];split
 case isFalse h=>
  have:=NM (a:=d) h;refine⟨h,⟨_,_,⟨rfl,rfl⟩, ?_⟩,by rw[<-Kc];exact this⟩;omega
 have:IntKind.i64.wrap (-d)=-d:=cG aa aa;simp[this];omega
def t83(a b c:Int):∃o,TB.Ev 56 [.i a,.i b,.i c] o/\∃e,o=.ret [.i e]/\True:=by
 refine dZ ?_;simp[Yr];intro V Q X P N;have W:aH .sub I 0 c=-c:=by simp only[aH];rw[cG aa aa];omega
 rw[W] at X;obtain⟨o,h,x,y,z,rfl⟩:=aAr a b c aa aa aa aa;rw[bh h];simp
@[simp] def c83 (a b c:Int):iY TB.Ev R 56 [.i a,.i b,.i c] G t O L=iZ TB.Ev R (.ret [.i (oi 56 [.i a,.i b,.i c] 0)]) G t O L:=bh (uC (t83 a b c)).1
structure NN(tp:RV):Prop where
 sl:Sl tp
 pos:0<Y tp.ac
 zero:ci tp 0 0=0
def asi{j:Nat}(h:j<=140737488355328)(W:Q<=j):IntKind.i64.wrap (aH .shr .u64 (IntKind.u64.wrap (aH .add I (Q:Int) (j:Int))) 1)=(((Q+j)/2:Nat):Int):=by
 simp only[aH];rw[cG (n:=(Q:Int)+j) aa aa];rw[show IntKind.u64.wrap ((Q:Int)+j)=(Q:Int)+j by rw[IntKind.wrap_u64];omega];have:((Q:Int)+j).fdiv (2^min (1:Int).toNat IntKind.u64.bits)=(((Q+j)/2:Nat):Int):=by
  have X:(2:Int)^min (1:Int).toNat IntKind.u64.bits=2:=rfl;rw[X,aIU _ aa];omega
 rw[this,cG aa aa]
def aAt(P ak:Int)(X N M:RV)(h:NN X)(A:0<=ak):∃o,TB.Ev 137 [.i P,.r X,.r N,.r M,.i ak] o/\∃e,o=.ret [.i e]/\True:=by
 refine dZ ?_;simp[Yj];have z:=h.pos;have y:=h.sl.sm;refine vN (λW=>∃i j:Nat,W=[.i i,.i j]/\i<=j/\j<=Y X.ac/\(j=Y X.ac\/ak<ci X j 0)) (λW=>(xi W 1-xi W 0).toNat) ⟨0,Y X.ac,by simp[h.sl.len],aa,aa,.inl rfl⟩ ?_;rintro _ ⟨i,j,rfl,H,x,V⟩;simp[xi,vM,h.sl.len,asi (show j<=140737488355328 from aa) H];split;rename_i G;refine⟨aa, ?_⟩;have F:((i:Int)+j)/2=(((i+j)/2:Nat):Int):=aa;have D:=JI (i:=(i+j)/2) aa;rw[F,D];split;refine⟨⟨(i+j)/2+1,j,⟨rfl,rfl⟩,aa,aa,V⟩,aa⟩;rename_i Q;refine⟨⟨i,(i+j)/2,⟨rfl,rfl⟩,aa,aa,.inr ?_⟩,aa⟩;simp only[ci];omega;rename_i G;have B:i=j:=aa;subst B;have:1<=i:=by
  rcases Bm i with rfl|Q;have:=h.zero;rcases V with V|V<;>omega;exact Q
 rw[show aH .sub I (i:Int) 1=(i:Int)-1 by simp only[aH];rw[cG aa aa]];omega
def aAu(W ak:Int)(X V Q:RV)(h:NN X)(P:0<=ak):iY TB.Ev R 137 [.i W,.r X,.r V,.r Q,.i ak] G t O L=iZ TB.Ev R (.ret [.i (oi 137 [.i W,.r X,.r V,.r Q,.i ak] 0)]) G t O L:=bh (uC (aAt W ak X V Q h P)).1
end
section
def aI(X:ar):RV:=.mk (.slice Z (Y X) (Y X)) X
@[simp] def JJ (x:LE) (O:ai):gI x O=aI (x.ac O):=rfl
@[simp] def zq (r:ar):(aI r).ac=r:=rfl
@[simp] def NO (r:ar):lenOf (aI r).val=Y r:=rfl
@[simp] def xH:RV.mk (.slice Z 0 0) []=aI []:=rfl
def sf(h:Y X<=140737488355328):Sl (aI X):=⟨⟨_,_,_,rfl⟩,rfl,h⟩
attribute[simp] LE.ac C.cj
def qy(c:Nat->Int):aF:=[.mk (.int I (c 0)) [],.mk (.int I (c 1)) [],.mk (.int I (c 2)) [],.mk (.int I (c 3)) [],.mk (.int I (c 4)) [],.mk (.int I (c 5)) [],.mk (.int I (c 6)) [],.mk (.int I (c 7)) [],.mk (.int I (c 8)) [],.mk (.int I (c 9)) [],.mk (.int I (c 10)) [],.mk (.int I (c 11)) [],.mk (.int I (c 12)) [],.mk (.int I (c 13)) []]
def asj{lt:aF->aF->Bool}{x:aF}:∀{l:ar},(eI lt x l).Perm (x::l)
 |[]=>avO _
 |y::r=>by
  simp only[eI];split;exact avO _;exact((asj (l:=r)).cons y).trans (aJs x y r)
def asl{lt:aF->aF->Bool}:∀(l acc:ar),(l.foldl (λacc x=>eI lt x acc) acc).Perm (acc++l)
 |[],acc=>av
 |x::l,acc=>by
  simp only[E5];refine(asl l _).trans ?_;refine(List.Perm.append_right l asj).trans ?_;rw[ef];exact List.perm_middle.symm
def CY{lt:aF->aF->Bool}(l:ar):(bT lt l).Perm l:=by
 have:=asl (lt:=lt) l [];simpa[bT] using this
def zr(X:ar):Prop:=X.Pairwise λx y=>aM 0 x≠aM 0 y
def zr.perm(h:zr X)(W:P.Perm X):zr P:=(W.symm.pairwise_iff (λ{x y} h=>h.symm)).1 h
def asm:∀{X:ar},zr X->ym (bu.lex [0] E).lt X=J
 |[],_=>rfl
 |x::r,h=>by
  simp only[zr,jC] at h;simp only[ym,aw,fZ,jL];refine⟨λy V=> ?_,asm h.2⟩;have W:¬aM 0 x=aM 0 y:=h.1 y V;have Q:¬aM 0 y=aM 0 x:=λe=>W e.symm
  simp only[bu.lt,jR,aT W,aT Q,jB,gw,ce];omega
def ahi{W:Bool}(V:Y X<=1099511627776)(h:zr X):jh (.lex [0] E) W X=U (bT (bu.lex [0] E).lt X):=by
 simp only[jh];rw[aL (by simp[V,asm h,bu.ok])]
def aAv{rows:ar}(X:Y rows<=1099511627776)(h:∀x∈rows,gC (aM 10 x) (aM 11 x)=J):jh (.ratio 10 11) J rows=U (bT (bu.ratio 10 11).lt rows):=by
 simp only[jh];rw[aL (by simp only[aw,ce,avR,and_true];exact⟨X,fZ.2 h⟩)]
structure dh where
 cW:Int
 cD:Int
 cA:Int
 cB:Int
 cC:Int
 cO:Int
 cr0:RV
 ct0:RV
 cp0:RV
 lj:RV
 cg0:RV
section
variable[Inhabited dh]
def uD:Int:=(default:dh).cW
def uE:Int:=(default:dh).cD
def RO:Int:=(default:dh).cA
def RP:Int:=(default:dh).cB
def YC:Int:=(default:dh).cC
def fy:Int:=(default:dh).cO
def aK:RV:=(default:dh).cr0
def qz:RV:=(default:dh).ct0
def sj:RV:=(default:dh).cp0
def sn:RV:=(default:dh).lj
def bw:RV:=(default:dh).cg0
end
structure JK[Inhabited dh]:Prop where
 nr:1<=Y aK.ac/\Y aK.ac<=64
 ns:Y bw.ac<=4096
 br:1<=fy/\fy<=4096
 wd:1<=uD/\uD<=1000/\1<=uE/\uE<=1000
 tp:NN qz
 GX:∀i<Y bw.ac,CX (Y aK.ac) fy (ci bw i)
 id:∀i<Y bw.ac,0<=ci bw i 0/\ci bw i 0<=1048576
 ids:∀i j,i<j->j<Y bw.ac->ci bw i 0<ci bw j 0
structure fD[Inhabited dh]:Prop where
 rl:Sl aK
 tp:Sl qz
 ps:Sl sj
 sp:Sl sn
 sg:Sl bw
section
variable{R:bq->Prop}{G:aU}{t:T}{O:ai}{L:db}
variable[Inhabited dh]
def wk:bv:=[.i uD,.i uE,.i RO,.i RP,.i YC,.r aK,.i fy,.r qz,.r sj,.r sn,.r bw]
def GY:Prop:=∀(fy:Int)(qz sj sn:RV),Sl qz->Sl sj->Sl sn->TB.Ev 54 [.i fy,.r qz,.r sj,.r sn] (.ret [.i (oi 54 [.i fy,.r qz,.r sj,.r sn] 0)])/\(oi 54 [.i fy,.r qz,.r sj,.r sn] 0=0->NN qz/\1<=fy/\fy<=4096)
def t37(F:GY)(h:fD):∃o,TB.Ev 24 wk o/\∃e,o=.ret [.i e]/\(e=0->JK):=by
 refine dZ ?_;obtain⟨D,B⟩:=F fy qz sj sn h.tp h.ps h.sp;simp[Yk,wk,h.rl.len,h.sg.len,bh D]
 repeat'(first|intro _|split)
 any_goals(exfalso;omega)
 obtain⟨A,q,p⟩:=B qF;refine bW (Y aK.ac) (λ_ P=>P=[]) ⟨0,rfl,aa,rfl⟩ ?_;rintro i _ X rfl;simp[h.rl.len];split;rename_i X;simp[bK X h.rl.sm,X];refine bW (Y bw.ac) (λi P=>∃V:Int,P=[.i V]∧-1<=V/\(∀k<i,CX (Y aK.ac) fy (ci bw k)/\0<=ci bw k 0/\ci bw k 0<=V/\ci bw k 0<=1048576)/\∀j k,j<k->k<i->ci bw j 0<ci bw k 0) ⟨0,rfl,aa,-1,rfl,aa,aa,aa⟩ ?_;rintro j _ N ⟨V,rfl,n,W,M⟩;simp[h.rl.len,h.sg.len];split;rename_i N;refine⟨N,λm l=> ?_⟩;obtain⟨H,Q⟩:=f84 (ci bw j) (Y aK.ac) fy aa aa;simp only[i7,ci,ef,eK] at H Q;rw[bh H];simp[bK N h.sg.sm];intro z;have Q:=Q z;refine⟨aa,λk g=> ?_,λa b G f=> ?_⟩;by_cases y:k=j;subst y;refine⟨Q, ?_, ?_, ?_⟩<;>simp only[ci]<;>omega;obtain⟨x,w,v,u⟩:=W k aa;exact⟨x,w,by simp only[ci] at v⊢;omega,u⟩;by_cases s:b=j;subst s;have:=(W a G).2.2.1;simp only[ci] at this⊢;omega;exact M a b G aa;have r:j=Y bw.ac:=aa;subst r;have d:Y aK.ac≠0:=λe=>aZ (E1.1 e) qF
 exact⟨aa,aa,aa,aa,A,λi X=>(W i X).1,λi X=>⟨(W i X).2.1,(W i X).2.2.2⟩,M⟩
end
end
section
variable{R:bq->Prop}{G:aU}{t:T}{O:ai}{L:db}
variable[Inhabited dh]
@[simp] def vO (c:Nat->Int) (j:Nat) (h:j<14):aM j (qy c)=c j:=by
 match j,h with
 |0,_|1,_|2,_|3,_|4,_|5,_|6,_|7,_|8,_|9,_|10,_|11,_|12,_|13,_=>rfl
def kS(aJ ak:Int):Nat->ar
 |0=>[]
 |i+1=>kS aJ ak i++(if ci bw i 1=aJ/\ci bw i 2=ak then[qy (ci bw i)] else[])
def NP{aJ ak:Int}:∀i,(kS aJ ak i).length<=i
 |0=>by simp[kS]
 |i+1=>by
  have:=NP (aJ:=aJ) (ak:=ak) i;simp only[kS,gP];split<;>simp<;>omega
def RQ{aJ ak:Int}{x:aF}:∀{i},x∈kS aJ ak i<->∃k<i,x=qy (ci bw k)/\ci bw k 1=aJ/\ci bw k 2=ak
 |0=>by simp[kS]
 |i+1=>by
  simp only[kS,eW,RQ (i:=i)];constructor;rintro(⟨k,V,X⟩|h);exact⟨k,aa,X⟩;split at h;rename_i Q;simp at h;exact⟨i,aa,h,Q⟩;simp at h;rintro⟨k,V,X,W⟩;by_cases P:k=i;subst P;right;rw[aL W];simp[X];exact .inl ⟨k,aa,X,W⟩
def asn{aJ ak:Int}(h:∀i j,i<j->j<Y bw.ac->ci bw i 0<ci bw j 0):∀{i},i<=Y bw.ac->zr (kS aJ ak i)
 |0,_=>xR
 |i+1,Q=>by
  simp only[kS,zr,oc];refine⟨asn h aa,by split<;>simp,λx W y X=> ?_⟩;obtain⟨k,V,rfl,-⟩:=(RQ).1 W;split at X;simp at X;subst X;rw[vO _ _ aa,vO _ _ aa];have:=h k i V aa;omega;simp at X
def lB:Int:=oi 24 wk 0
def gm(aJ ak:Int):Int:=if lB=0 then(if jm aJ 0 (Y aK.ac-1)&&jm ak 0 (fy-1) then 0 else 1) else lB
def dW(aJ ak:Int):ar:=if gm aJ ak=0 then bT (bu.ratio 10 11).lt (kS aJ ak (Y bw.ac)) else[]
def xI(X:GY)(h:fD):TB.Ev 24 wk (.ret [.i lB])/\(lB=0->JK):=uC (t37 X h)
def RT(G:GY)(h:fD)(aJ ak:Int):TB.Ev 92 (wk++[.i aJ,.i ak]) (.ret [.r (aI (dW aJ ak)),.i (gm aJ ak)]):=by
 refine fC ?_;obtain⟨W,F⟩:=xI G h;simp only[wk] at W;simp[T77,wk,h.rl.len,bh W];split
 case isFalse X=>
  simp[dW,gm,X]
 rename_i X;have V:=F X;have w:=V.nr;have v:=V.br;rw[show aH .sub I (Y aK.ac:Int) 1=Y aK.ac-1 by simp only[aH];rw[cG aa aa],show aH .sub I fy 1=fy-1 by simp only[aH];rw[cG aa aa]];split
 case isFalse Q=>
  simp[dW,gm,X,Q]
 rename_i Q;split
 case isFalse N=>
  simp[dW,gm,X,Q,N]
 rename_i N;refine bW (Y bw.ac) (λi D=>D=[.r (aI (kS aJ ak i))]) ⟨0,rfl,aa,rfl⟩ ?_;rintro i _ M rfl;have u:=NP (aJ:=aJ) (ak:=ak) i;have s:=V.ns;simp[h.sg.len];split;rename_i M;simp[bK M h.sg.sm,kS,ci,M];have q:(kS aJ ak i).length<=536870912:=aa;split;rename_i P;split;rename_i H;simp[P,H,qy,ci];omega;rename_i H;simp[P,H];rename_i P;simp[P];have B:i=Y bw.ac:=aa;subst B;have A:=aAv (rows:=kS aJ ak (Y bw.ac)) (by have:=NP (aJ:=aJ) (ak:=ak) (Y bw.ac);have:=h.sg.sm;omega) (λx z=>by
  obtain⟨k,W,rfl,-⟩:=(RQ).1 z;rw[vO _ _ aa,vO _ _ aa];exact(V.GX k W).from_)
 simp only[CV,CW];refine⟨_,A, ?_⟩;have y:gm aJ ak=0:=by simp[gm,X,Q,N]
 simp[dW,y,aI,mZ]
def aso{aJ ak:Int}(Q:lB=0->JK){x:aF}(X:x∈dW aJ ak):∃k<Y bw.ac,x=qy (ci bw k)/\ci bw k 1=aJ/\ci bw k 2=ak/\CX (Y aK.ac) fy (ci bw k):=by
 unfold dW at X;split at X;rename_i W;have P:lB=0:=by
  unfold gm at W;split at W;assumption;exact W
 obtain⟨k,V,N,M,H⟩:=(RQ).1 ((CY _).mem_iff.1 X);exact⟨k,V,N,M,H,(Q P).GX k V⟩;simp at X
def YD{aJ ak:Int}(W:lB=0->JK):zr (dW aJ ak):=by
 unfold dW;split;rename_i X;have V:lB=0:=by
  unfold gm at X;split at X;assumption;exact X
 exact(asn (W V).ids (bY _)).perm (CY _);exact xR
def YE{aJ ak:Int}(W:lB=0->JK):(dW aJ ak).length<=4096:=by
 unfold dW;split;rename_i X;have V:lB=0:=by
  unfold gm at X;split at X;assumption;exact X
 rw[mZ];have:=NP (aJ:=aJ) (ak:=ak) (Y bw.ac);have:=(W V).ns;omega;simp
end
section
variable{R:bq->Prop}{G:aU}{t:T}{O:ai}{L:db}
def aAB(c:Nat->Int)(x y z:Int)(b:Bool):∃o,TB.Ev 134 (i7 c++[.i x,.i y,.i z,.b b]) o/\∃e,o=.ret [.b e]/\(e=J->x=c 0):=by
 refine dZ ?_;simp[Ym,i7]
 repeat' split
 all_goals(intros;grind [jm])
def asp(c:Nat->Int)(x y z:Int)(b:Bool):TB.Ev 134 (i7 c++[.i x,.i y,.i z,.b b]) (.ret [.b (ob 134 (i7 c++[.i x,.i y,.i z,.b b]) 0)])/\(ob 134 (i7 c++[.i x,.i y,.i z,.b b]) 0=J->x=c 0):=mkb (aAB c x y z b)
def ahj(c:Nat->Int)(r:RV)(k:Nat):aF:=qy c++[.mk (.int I (ci r k 0)) [],.mk (.int I (ci r k 1)) [],.mk (.int I (ci r k 2)) [],.mk (.bool (cb r k 3)) []]
def dm(X:ar)(i j:Nat):Int:=bn (aQ X i j).val
def vP(l:ar)(r:RV)(n:Nat)(out:ar):Prop:=Y out=n/\∀i<n,∃k<Y r.ac,out[i]?=U (ahj (dm l i) r k)/\ci r k 0=dm l i 0
def vP.add{r:RV}(h:vP X r Q P){k:Nat}(W:k<Y r.ac)(hid:ci r k 0=dm X Q 0):vP X r (Q+1) (P++[ahj (dm X Q) r k]):=by
 refine⟨by simp[h.1],λi F=> ?_⟩;by_cases V:i=Q;subst V;refine⟨k,W, ?_,hid⟩;rw[iJ (by rw[h.1];omega),h.1];simp;obtain⟨N,M,H,G⟩:=h.2 i aa;exact⟨N,M,by rw[dN (by rw[h.1];omega)];exact H,G⟩
def aAC(l:ar)(r:RV)(W:Sl r)(B:Y l<=4096)(G:zr l)(N:0<Y l):∃o,TB.Ev 93 [.r (aI l),.r r] o/\∃v b,o=.ret [.r (aI v),.b b]/\(b=E->v=[])/\(b=J->vP l r (Y l) v):=by
 refine dZ ?_;simp[Yo,W.len];intro F;simp only[NK];refine⟨.inl rfl,λ_=> ?_,λh=> ?_,λ_ h=> ?_⟩;simp;refine⟨aa, ?_⟩;simp only[CV,CW];refine⟨_,ahi dl (by simpa using G), ?_⟩;simp;have A:(bT (bu.lex [0] E).lt l).length=Y l:=mZ;refine bW (Y l) (λi V=>∃v,V=[.r (aI v)]/\vP l r i v) ⟨0,rfl,aa,[],rfl,rfl,aa⟩ ?_;rintro i _ Q ⟨v,rfl,P⟩;simp;split;rename_i Q;refine⟨Q, ?_⟩;refine bW (Y l) (λj V=>V=[.r (aI v)]) ⟨0,rfl,aa,rfl⟩ ?_;rintro j _ X rfl;simp[W.len];intro X;have z:=P.1;simp[bK X (show Y l<=140737488355328 from aa)];refine⟨X,λy=>⟨aa, ?_⟩⟩;obtain⟨M,H⟩:=asp (dm l i) (ci r j 0) (ci r j 1) (ci r j 2) (cb r j 3);simp only[i7,dm,ci,cb,ef,eK] at M H;rw[bh M];simp[bK X (show Y l<=140737488355328 from aa),bK Q (show Y l<=140737488355328 from aa),<-F,W.len];intro D;refine⟨X,aa, ?_⟩;have:=P.add (k:=j) aa (H D);exact⟨_,rfl,this⟩;have:i=Y l:=aa;subst this;exact⟨_,rfl,P⟩;simp at h;simp[h] at N;simp at h;simp[h] at N
def aAD(r:RV)(Q:Sl r):TB.Ev 93 [.r (aI []),.r r] (.ret [.r (aI []),.b (Y r.ac==0)]):=by
 refine fC ?_;simp[Yo,Q.len];split
 case isFalse h=>
  intro e;simp[e] at h
 rename_i h;have W:Y r.ac=0:=aa;have V:jh (bu.lex [0] E) E []=U []:=rfl;simp only[NK,CV,CW];refine⟨.inl rfl,λ_=> ?_,λ_=> ?_,λ_ _=>single (acr _)⟩
 ·try simp
  try simp only[CV,CW]
  refine⟨_,by simpa using V, ?_⟩;refine bW 0 (λi X=>X=[.r (aI [])]) ⟨0,rfl,aa,rfl⟩ ?_;rintro i _ P rfl;have:i=0:=aa;simp[W,this]
 ·try simp
  try simp only[CV,CW]
  refine⟨_,by simpa using V, ?_⟩;refine bW 0 (λi X=>X=[.r (aI [])]) ⟨0,rfl,aa,rfl⟩ ?_;rintro i _ P rfl;have:i=0:=aa;simp[W,this]
def asq(l:ar)(r:RV)(X:Sl r)(W:Y l<=4096)(V:zr l):∃o,TB.Ev 93 [.r (aI l),.r r] o/\∃v b,o=.ret [.r (aI v),.b b]/\(b=E->v=[])/\(b=J->vP l r (Y l) v):=by
 cases l with
 |nil=>exact⟨_,aAD r X,[],Y r.ac==0,rfl,λ_=>rfl,λ_=>⟨rfl,av⟩⟩
 |cons x l=>exact aAC (x::l) r X W V av
def zt(G:aU)(h:∃o,TB.Ev W V o/\∃X,o=.ret X/\kz G X=J):TB.Ev W V (.ret (A4 (out W V) G 0)):=by
 obtain⟨o,Q,X,N,M⟩:=h;exact(shp G (P:=λ_=>True) ⟨o,Q,X,N,M,trivial⟩).1
def kI:Nat->aU
 |0=>[]
 |n+1=>.int I::kI n
@[simp] def kI0:kI 0=[]:=rfl
@[simp] def kIs (n:Nat):kI (n+1)=.int I::kI n:=rfl
def aAE(a b:Int):∃o,TB.Ev 114 [.i a,.i b] o/\∃X,o=.ret X/\kz (kI 2) X=true:=by
 refine dZ ?_;simp[afU]
@[simp] def aJN (a b:Int):iY TB.Ev R 114 [.i a,.i b] G t O L=iZ TB.Ev R (.ret [.i (oi 114 [.i a,.i b] 0),.i (oi 114 [.i a,.i b] 1)]) G t O L:=bh (zt _ (aAE a b))
def aAF(a b:Int):∃o,TB.Ev 115 [.i a,.i b] o/\∃X,o=.ret X/\kz (kI 4) X=true:=by
 refine dZ ?_;simp[Yc]
 repeat'(first|intro _|split)
 have W:lenOf (lw[2]?.getD default).val=8:=rfl;rw[show aH .sub I a 1=a-1 by simp only[aH];exact cG aa aa,W];omega
@[simp] def aJO (a b:Int):iY TB.Ev R 115 [.i a,.i b] G t O L=iZ TB.Ev R (.ret [.i (oi 115 [.i a,.i b] 0),.i (oi 115 [.i a,.i b] 1),.i (oi 115 [.i a,.i b] 2),.i (oi 115 [.i a,.i b] 3)]) G t O L:=bh (zt _ (aAF a b))
def aAG(a:Int):∃o,TB.Ev 317 [.i a] o/\∃X,o=.ret X/\kz (kI 3) X=true:=by
 refine dZ ?_;simp[afV]
 repeat'(first|intro _|split)
 have W:lenOf (lw[2]?.getD default).val=8:=rfl;rw[show aH .sub I a 1=a-1 by simp only[aH];exact cG aa aa,W];omega
@[simp] def aJP (a:Int):iY TB.Ev R 317 [.i a] G t O L=iZ TB.Ev R (.ret [.i (oi 317 [.i a] 0),.i (oi 317 [.i a] 1),.i (oi 317 [.i a] 2)]) G t O L:=bh (zt _ (aAG a))
def aAH(s:RV)(b:Int):∃o,TB.Ev 169 [.r s,.i b] o/\∃X,o=.ret X/\kz (kI 1) X=true:=by
 cases W:s.val with
 |string u=>exact⟨_,anO (by simp only[TB,NI,Yz,W];rfl),_,rfl,rfl⟩
 |_=>exact⟨_,anO (by simp only[TB,NI,Yz,W];rfl),_,rfl,rfl⟩
@[simp] def aJQ (s:RV) (b:Int):iY TB.Ev R 169 [.r s,.i b] G t O L=iZ TB.Ev R (.ret [.i (oi 169 [.r s,.i b] 0)]) G t O L:=bh (zt _ (aAH s b))
def aAI(a:Int):∃o,TB.Ev 118 [.i a] o/\∃X,o=.ret X/\kz (kI 1) X=true:=by
 refine dZ ?_;simp[Yn]
@[simp] def aJR (a:Int):iY TB.Ev R 118 [.i a] G t O L=iZ TB.Ev R (.ret [.i (oi 118 [.i a] 0)]) G t O L:=bh (zt _ (aAI a))
def qA(v:RV):Prop:=∃s,v.val=.string s
def YF(v:RV):qA (cg .str v):=by
 simp only[cg];split<;>exact⟨_,rfl⟩
def aAJ(s:RV)(Q:qA s):∃o,TB.Ev 83 [.r s] o/\∃W,o=.ret W/\kz [.bool] W=true:=by
 refine dZ ?_;obtain⟨u,V⟩:=Q;simp[Yl,V,t7,lenOf];intro P G;have N:0<u.size:=by
  rcases Bm u.size with h|h;exfalso;apply P;have M:u=ByteArray.empty:=by simpa using h
  rw[M,ByteArray.toList,ByteArray.toList.loop];simp;exact h
 refine⟨N,λ_=> ?_⟩;refine bW u.size (λ_ H=>H=[]) ⟨0,rfl,aa,rfl⟩ ?_;rintro i _ X rfl;simp[V,lenOf];intro X;simp[bK X (show u.size<=140737488355328 from aa),X]
def ahm(s:RV)(X:qA s):iY TB.Ev R 83 [.r s] G t O L=iZ TB.Ev R (.ret [.b (ob 83 [.r s] 0)]) G t O L:=bh (zt [.bool] (aAJ s X))
def t74(W V a2 Q P a5 a6 a7 a8 N M fW fY:Int):∃o,TB.Ev 35 [.i W,.i V,.i a2,.i Q,.i P,.i a5,.i a6,.i a7,.i a8,.i N,.i M,.i fW,.i fY] o/\∃X,o=.ret X/\kz (kI 1) X=true:=by
 refine dZ ?_;simp[Rv]
def CZ(X W a2 V Q a5 a6 a7 a8 P N fW fY:Int):Int:=oi 35 [.i X,.i W,.i a2,.i V,.i Q,.i a5,.i a6,.i a7,.i a8,.i P,.i N,.i fW,.i fY] 0
@[simp] def c74 (X W a2 V Q a5 a6 a7 a8 P N fW fY:Int):iY TB.Ev R 35 [.i X,.i W,.i a2,.i V,.i Q,.i a5,.i a6,.i a7,.i a8,.i P,.i N,.i fW,.i fY] G t O L=iZ TB.Ev R (.ret [.i (CZ X W a2 V Q a5 a6 a7 a8 P N fW fY)]) G t O L:=bh (zt _ (t74 X W a2 V Q a5 a6 a7 a8 P N fW fY))
def t75(s:RV)(X:qA s)(W V a2 Q P a5 a6 a7 a8 N M fW fY gO H G:Int):∃o,TB.Ev 49 [.r s,.i W,.i V,.i a2,.i Q,.i P,.i a5,.i a6,.i a7,.i a8,.i N,.i M,.i fW,.i fY,.i gO,.i H,.i G] o/\∃e,o=.ret [.i e]/\(e=0->(1<=fW/\fW<=3)/\(1<=fY/\fY<=3)/\1<=gO/\gO<=3):=by
 refine dZ ?_;simp[Rw,ahm s X];intros;omega
def C0(s:RV)(X W a2 V Q a5 a6 a7 a8 P N fW fY gO M H:Int):Int:=oi 49 [.r s,.i X,.i W,.i a2,.i V,.i Q,.i a5,.i a6,.i a7,.i a8,.i P,.i N,.i fW,.i fY,.i gO,.i M,.i H] 0
def f75(s:RV)(G:qA s)(X W a2 V Q a5 a6 a7 a8 P N fW fY gO M H:Int):TB.Ev 49 [.r s,.i X,.i W,.i a2,.i V,.i Q,.i a5,.i a6,.i a7,.i a8,.i P,.i N,.i fW,.i fY,.i gO,.i M,.i H] (.ret [.i (C0 s X W a2 V Q a5 a6 a7 a8 P N fW fY gO M H)])/\(C0 s X W a2 V Q a5 a6 a7 a8 P N fW fY gO M H=0->(1<=fW/\fW<=3)/\(1<=fY/\fY<=3)/\1<=gO/\gO<=3):=uC (t75 s G X W a2 V Q a5 a6 a7 a8 P N fW fY gO M H)
def c75(s:RV)(F:qA s)(X W a2 V Q a5 a6 a7 a8 P N fW fY gO M H:Int):iY TB.Ev R 49 [.r s,.i X,.i W,.i a2,.i V,.i Q,.i a5,.i a6,.i a7,.i a8,.i P,.i N,.i fW,.i fY,.i gO,.i M,.i H] G t O L=iZ TB.Ev R (.ret [.i (C0 s X W a2 V Q a5 a6 a7 a8 P N fW fY gO M H)]) G t O L:=bh (f75 s F X W a2 V Q a5 a6 a7 a8 P N fW fY gO M H).1
def t27(W V Q P N M H G F D B A z:Int)(s:RV)(y:qA s)(x w a2 v u a5 a6 a7 a8 q p fW fY gO n m:Int):∃o,TB.Ev 81 [.i W,.i V,.i Q,.i P,.i N,.i M,.i H,.i G,.i F,.i D,.i B,.i A,.i z,.r s,.i x,.i w,.i a2,.i v,.i u,.i a5,.i a6,.i a7,.i a8,.i q,.i p,.i fW,.i fY,.i gO,.i n,.i m] o/\∃X,o=.ret X/\kz (kI 5) X=true:=by
 refine dZ ?_;simp(maxSteps:=9999999) [T27,c75 s y]

variable[Inhabited dh]
structure aAO:Prop where
 rl:lenOf aK.val<=100
 tp:lenOf qz.val<=64
 ps:lenOf sj.val<=64
 sp:lenOf sn.val<=64
 sg:lenOf bw.val<=5000
def cr(e:TypeId)(v:RV)(i:Nat):RV:=cg (.sl e) (aQ v.ac i 0)
structure aJT(wg bd st re:RV):Prop where
 few:aAO
 wg:lenOf wg.val<=20
 bd:lenOf bd.val<=100
 st:lenOf st.val<=100
 rel:lenOf re.val<=100
 jM:∀i:Nat,i<lenOf re.val->lenOf (cr 134 re i).val<=100
def e65(V:GY)(h:fD)(ak:Int):TB.Ev 127 (wk++[.i ak]) (.ret [.i (if lB=0 then(if jm ak 0 (fy-1) then 0 else 1) else lB)]):=by
 refine fC ?_;obtain⟨W,Q⟩:=xI V h;simp only[wk] at W;simp[T65,wk,bh W];split;rename_i X;have:=(Q X).br;rw[show aH .sub I fy 1=fy-1 by simp only[aH];rw[cG aa aa]];split<;>simp_all;rename_i X;simp[X]
def pK(c:Nat->Int):bv:=[.i (c 0),.i (c 1),.i (c 2),.i (c 3),.i (c 4),.i (c 5),.i (c 6),.i (c 7)]
def t25(c:Nat->Int)(ak:Int):∃o,TB.Ev 51 (pK c++[.i ak]) o/\∃X,o=.ret X/\kz (kI 5) X=true:=by
 refine dZ ?_;simp[NE,pK]
def rk(c:Nat->Int)(ak:Int)(k:Nat):Int:=oi 51 (pK c++[.i ak]) k
def f25(c:Nat->Int)(ak:Int):TB.Ev 51 (pK c++[.i ak]) (.ret [.i (rk c ak 0),.i (rk c ak 1),.i (rk c ak 2),.i (rk c ak 3),.i (rk c ak 4)]):=zt _ (t25 c ak)

def aAQ(M:GY)(h:fD)(aJ ak:Int)(r:RV)(V:Sl r)(H:0<(dW aJ ak).length):∃o,TB.Ev 53 (wk++[.i aJ,.i ak,.r r]) o/\∃e,o=.ret [.i e]/\(e=0->gm aJ ak=0/\∃v,vP (dW aJ ak) r (dW aJ ak).length v):=by
 refine dZ ?_;have G:=RT M h aJ ak;have F:=(xI M h).2;have x:=YE (aJ:=aJ) (ak:=ak) F;have A:=YD (aJ:=aJ) (ak:=ak) F;simp only[wk,ef,eK] at G;generalize dW aJ ak=l at*;generalize gm aJ ak=e at*;simp[Rx,wk,bh G,V.len];split
 case isFalse W=>simp[W]
 rename_i W;intro z;rw[NK];refine⟨.inl rfl,λ_=> ?_,λh=> ?_,λ_ h=> ?_⟩;simp;refine⟨aa, ?_⟩
 first|rw[CV]|rw[CW]
 refine⟨_,ahi dl (by simpa using A), ?_⟩;simp;have w:(bT (bu.lex [0] E).lt l).length=Y l:=mZ;refine bW (Y l) (λi Q=>∃v,Q=[.r (aI v)]/\vP l r i v) ⟨0,rfl,aa,[],rfl,rfl,aa⟩ ?_;rintro i _ P ⟨v,rfl,N⟩;simp;split;rename_i P;refine⟨P, ?_⟩;refine bW (Y l) (λj Q=>Q=[.r (aI v)]) ⟨0,rfl,aa,rfl⟩ ?_;rintro j _ X rfl;simp[V.len];intro X;have u:=N.1;simp[bK X (show Y l<=140737488355328 from aa)];refine⟨X,λW=>⟨aa, ?_⟩⟩;obtain⟨D,B⟩:=asp (dm l i) (ci r j 0) (ci r j 1) (ci r j 2) (cb r j 3);simp only[i7,dm,ci,cb,ef,eK] at D B;rw[bh D];simp[bK X (show Y l<=140737488355328 from aa),bK P (show Y l<=140737488355328 from aa),<-z,V.len];intro y;refine⟨X,aa, ?_⟩;have:=N.add (k:=j) aa (B y);exact⟨_,rfl,this⟩;have:i=Y l:=aa;subst this;exact⟨W,v,N⟩;simp at h;simp[h] at H;simp at h;simp[h] at H
def asr(N:GY)(h:fD)(aJ ak:Int)(r:RV)(M:Sl r)(H:dW aJ ak=[]):TB.Ev 53 (wk++[.i aJ,.i ak,.r r]) (.ret [.i (if gm aJ ak≠0 then gm aJ ak else if Y r.ac=0 then 0 else 270)]):=by
 refine fC ?_;have W:=RT N h aJ ak;rw[H] at W;simp only[wk,ef,eK] at W;generalize gm aJ ak=e at*;simp[Rx,wk,bh W,M.len];split
 case isFalse X=>simp[X]
 rename_i X;split
 case isFalse h=>
  simp;intro e;simp[e] at h
 rename_i h;have Q:r.ac=[]:=E1.1 aa;have P:jh (bu.lex [0] E) E []=U []:=rfl;simp only[NK,CV,CW];refine⟨.inl rfl,λ_=> ?_,λ_=> ?_,λ_ _=>single (acr _)⟩
 ·try simp
  try simp only[CV,CW]
  refine⟨_,by simpa using P, ?_⟩;refine bW 0 (λi V=>V=[.r (aI [])]) ⟨0,rfl,aa,rfl⟩ ?_;rintro i _ G rfl;have:i=0:=aa;simp[Q,X,this]
 ·try simp
  try simp only[CV,CW]
  refine⟨_,by simpa using P, ?_⟩;refine bW 0 (λi V=>V=[.r (aI [])]) ⟨0,rfl,aa,rfl⟩ ?_;rintro i _ G rfl;have:i=0:=aa;simp[Q,X,this]
def t85(W:GY)(h:fD)(aJ ak:Int)(r:RV)(V:Sl r):∃o,TB.Ev 53 (wk++[.i aJ,.i ak,.r r]) o/\∃e,o=.ret [.i e]/\(e=0->gm aJ ak=0/\∃v,vP (dW aJ ak) r (dW aJ ak).length v):=by
 by_cases X:dW aJ ak=[];refine⟨_,asr W h aJ ak r V X,_,rfl,λQ=> ?_⟩;split at Q;rename_i P;exact aZ Q P;rename_i P;exact⟨aa,[],by rw[X];exact⟨rfl,av⟩⟩;exact aAQ W h aJ ak r V (Og.2 X)
end
