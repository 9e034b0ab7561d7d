/- Part 4 of the proof; the last part says what is shown. -/
import Derived.Test.YtpmkfikkemaopaaGreatDoorQ3
set_option linter.all false
set_option maxRecDepth 100000
set_option maxHeartbeats 100000000
open Bool renaming and_eq_true->az,not_eq_true'->gO,false_eq_true->iW,or_eq_true->jd,true_or->aqK,true->J,false->E
open List renaming getElem?_eq_some_iff->bZ,getElem?_eq_getElem->cK,getD_eq_getElem?_getD->dB,getElem?_append_left->dU,getElem?_append_right->iC,mem_cons->dP,mem_append->eP,all_eq_true->fp,length_append->gD,cons_append->fG,nil_append->gr,pairwise_cons->jL,pairwise_append->mT,getElem?_take->mB,getElem?_of_mem->qW,getElem?_drop->tF,length_eq_zero_iff->Fa,pairwise_iff_getElem->LO,take_append_drop->H6,length_take->De,length_drop->Df,foldl_cons->Dg,append_assoc->H7,append_nil->H9,length_singleton->Wc,drop_drop->LS,pairwise_singleton->aDg,length->Y
open Nat renaming le_refl->cd,eq_zero_or_pos->zt,gcd->kE,mod_lt->Fo,gcd_comm->LX,gcd_rec->Wy
open Option renaming some->U,none->Z
open List.Pairwise renaming nil->xK
open Int renaming tmod_eq_emod_of_nonneg->Wb,mul_le_mul_of_nonneg_right->aeN,natAbs_tmod->Ia,mul_lt_mul_of_pos_right->aC9,fdiv_eq_ediv_of_nonneg->aDb
open List.Perm renaming refl->aqH,swap->aDH
open Go.IntKind renaming i64->I
namespace Go.Proofs.YtpmkfikkemaopaaGreatDoor.Y
open Go.RowKit
noncomputable section
variable{N:aH}{X P:ax}{Q:Nat}{W:FuncId}{V:bn}
section
variable{lt:aH->aH->Bool}{p:aH->Prop}
structure ld(lt:aH->aH->Bool)(p:aH->Prop):Prop where
 SI:∀x,p x->lt x x=E
 tr:∀x y z,p x->p y->p z->lt x y=J->lt y z=J->lt x z=J
 nt:∀x y z,p x->p y->p z->lt x y=E->lt y z=E->lt x z=E
def ld.asym(h:ld lt p){y:aH}(X:p N)(W:p y)(V:lt N y=J):lt y N=false:=by
 cases R:lt y N;rfl;have:=h.tr N y N X W X V R;rw[h.SI N X] at this;cases this
def ajv(h:ld lt p){x y:aH}(W:p x)(V:p y)(X:lt y x=J):∀{l:ax},(∀z∈l,p z)->ef lt y (ef lt x l)=ef lt x (ef lt y l)
 |[],_=>by
  have R:=h.asym V W X;simp[ef,X,R]
 |z::r,O=>by
  have N:=O z ay;have M:=ajv h W V X (l:=r) (λw L=>O w (by simp[L]));have R:=h.asym V W X;cases Q:lt x z;cases P:lt y z;simp[ef,Q,P,M];simp[ef,Q,P,R];have P:lt y z=true:=h.tr y x z V W N X Q;simp[ef,Q,P,X,R]
inductive gg(lt:List RV->List RV->Bool)(l:List (List RV)):List (List RV)->Prop
 |refl:gg lt l l
 |step {P Q:List (List RV)} {x y:List RV}:lt y x=J->gg lt l (P++x::y::Q)->gg lt l (P++y::x::Q)
def gg.trans{b:ax}(W:gg lt X b)(V:gg lt b P):gg lt X P:=by
 induction V with
 |refl=>exact W
 |step h _ R=>exact .step h R
def gg.JN(A B:ax)(h:gg lt X P):gg lt (A++X++B) (A++P++B):=by
 induction h with
 |refl=>exact .refl
 | @step W Q x y h _ V=>
  have R:A++(W++x::y::Q)++B=(A++W)++x::y::(Q++B):=ay;have O:A++(W++y::x::Q)++B=(A++W)++y::x::(Q++B):=ay;rw[R] at V;rw[O];exact .step h V
def gg.perm(h:gg lt X P):P.Perm X:=by
 induction h with
 |refl=>exact aqH _
 |step _ _ W=>exact((aDH _ _ _).append_left _).trans W
def gg.ajw(P:ax)(b:aH):∀(A Q:ax),(∀a∈A,lt b a=J)->gg lt (P++A.reverse++b::Q) (P++b::(A.reverse++Q))
 |[],Q,_=>by simpa using gg.refl
 |a::A,Q,h=>by
  have X:gg lt (P++(a::A).reverse++b::Q) ((P++A.reverse)++b::a::Q):=by
   have:P++(a::A).reverse++b::Q=(P++A.reverse)++a::b::Q:=ay;rw[this];exact .step (h a ay) .refl
  have W:=gg.ajw P b A (a::Q) (λx V=>h x (by simp[V]));have e:P++b::((a::A).reverse++Q)=P++b::(A.reverse++a::Q):=ay;rw[e];exact X.trans W
def gg.one(P Q:ax)(b:aH)(A:ax)(h:∀a∈A,lt b a=J):gg lt (P++A++b::Q) (P++b::(A++Q)):=by
 have:=gg.ajw (lt:=lt) P b A.reverse Q (λa X=>h a (by simpa using X));simpa using this
def gg.block(Q:ax)(A:ax):∀(B P:ax),(∀a∈A,∀b∈B,lt b a=J)->gg lt (P++A++(B++Q)) (P++B++(A++Q))
 |[],P,_=>by simpa using gg.refl
 |b::B,P,h=>by
  have W:=gg.one P (B++Q) b A (λa X=>h a X b ay);have V:=gg.block Q A B (P++[b]) (λa X R O=>h a X R (by simp[O]));have N:P++b::(A++(B++Q))=P++[b]++A++(B++Q):=ay;have M:P++b::B++(A++Q)=P++[b]++B++(A++Q):=ay;rw[N] at W;rw[M];exact W.trans V
def wP(lt:aH->aH->Bool)(acc l:ax):ax:=l.foldl (λacc x=>ef lt x acc) acc
def auV{acc:ax}(R:∀z∈acc,p z)(Q:∀z∈X,p z):∀z∈wP lt acc X,p z:=by
 induction X generalizing acc with
 |nil=>exact R
 |cons x X W=>
  refine W (acc:=ef lt x acc) (λz V=> ?_) (λz V=>Q z (by simp[V]));have P:∀{X:ax},z∈ef lt x X->z=x\/z∈X:=by
   intro X;induction X with
   |nil=>intro h;simpa[ef] using h
   |cons y r W=>
    intro h;simp only[ef] at h;split at h;simpa using h;rcases dP.1 h with h|h;exact .inr (by simp[h]);rcases W h with h|h;exact .inl h;exact .inr (by simp[h])
  rcases P V with rfl|h;exact Q _ ay;exact R z h
def gg.fold(h:ld lt p)(V:gg lt X P){acc:ax}(M:∀z∈X,p z)(L:∀z∈acc,p z):wP lt acc P=wP lt acc X:=by
 induction V with
 |refl=>rfl
 | @step W Q x y H V G=>
  rw[<-G];have R:=λz(O:z∈W++x::y::Q)=>M z (V.perm.mem_iff.1 O)
  have N:∀z∈wP lt acc W,p z:=auV L λz O=>R z (by simp[O])
  simp only[wP,List.foldl_append,Dg] at N⊢;rw[ajv h (R x ay) (R y ay) H N]
def gw(lt:aH->aH->Bool)(l:ax):Prop:=l.Pairwise λa b=>lt b a=E
def ajx{x:aH}:∀{l:ax},(∀y∈l,lt x y=E)->ef lt x l=l++[x]
 |[],_=>rfl
 |y::r,h=>by
  have X:=h y ay;simp[ef,X,ajx (l:=r) λz W=>h z (by simp[W])]
def auW:∀{acc:ax},gw lt (acc++X)->wP lt acc X=acc++X:=by
 induction X with
 |nil=>intro acc _;simp[wP]
 |cons x X W=>
  intro acc h;have V:∀y∈acc,lt x y=false:=λy R=>(mT.1 h).2.2 y R x ay
  have e:acc++x::X=(acc++[x])++X:=ay;rw[e] at h⊢;rw[<-W h];simp only[wP,Dg];rw[ajx V]
def SJ(h:gw lt X):bT lt X=X:=auW (acc:=[]) h
def NG{x z:aH}:∀{l:ax},z∈ef lt x l->z=x\/z∈l
 |[],h=>by simpa[ef] using h
 |y::r,h=>by
  simp only[ef] at h;split at h;simpa using h;rcases dP.1 h with h|h;exact .inr (by simp[h]);rcases NG h with h|h;exact .inl h;exact .inr (by simp[h])
def gw.ins(h:ld lt p){x:aH}(W:p x):∀{l:ax},(∀z∈l,p z)->gw lt l->gw lt (ef lt x l)
 |[],_,_=>aDg _ _
 |y::r,V,Q=>by
  have P:=V y ay;have R:=jL.1 Q;simp only[ef];cases O:lt x y;refine jL.2 ⟨λz X=> ?_,gw.ins h W (λz X=>V z (by simp[X])) R.2⟩;rcases NG X with rfl|X;exact O;exact R.1 z X;refine jL.2 ⟨λz X=> ?_,Q⟩;have N:=h.asym W P O;rcases dP.1 X with rfl|X;exact N;exact h.nt z y x (V z (by simp[X])) P W (R.1 z X) N
def gw.fold(h:ld lt p):∀{acc:ax},(∀z∈acc,p z)->(∀z∈X,p z)->gw lt acc->gw lt (wP lt acc X):=by
 induction X with
 |nil=>intro acc _ _ h;exact h
 |cons x X Q=>
  intro acc R V P;refine Q (acc:=ef lt x acc) (λz W=> ?_) (λz W=>V z (by simp[W])) (P.ins h (V x ay) R);rcases NG W with rfl|W;exact V _ ay;exact R z W
def Cd(h:ld lt p){l:ax}(X:∀z∈l,p z):gw lt (bT lt l):=gw.fold h (acc:=[]) ay X xK
def gg.ins(h:ld lt p){x:aH}(V:p x):∀{l:ax},(∀z∈l,p z)->gw lt l->gg lt (l++[x]) (ef lt x l)
 |[],_,_=>.refl
 |y::r,W,P=>by
  have O:=W y ay;have R:=jL.1 P;simp only[ef];cases Q:lt x y;have:=(gg.ins h V (l:=r) (λz X=>W z (by simp[X])) R.2).JN [y] [];simpa using this;have:=gg.one (lt:=lt) [] [] x (y::r) (λz X=>by
   rcases dP.1 X with rfl|X;exact Q;cases N:lt x z;have:=h.nt x z y V (W z (by simp[X])) O N (R.1 z X);rw[Q] at this;cases this;rfl)
  simpa using this
def gg.auX(h:ld lt p):∀{acc:ax},(∀z∈acc,p z)->(∀z∈X,p z)->gw lt acc->gg lt (acc++X) (wP lt acc X):=by
 induction X with
 |nil=>intro acc _ _ _;simpa[wP] using gg.refl
 |cons x X P=>
  intro acc R V Q;have O:=(gg.ins h (V x ay) R Q).JN [] X;have N:=P (acc:=ef lt x acc) (λz W=>by
   rcases NG W with rfl|W;exact V _ ay;exact R z W) (λz W=>V z (by simp[W])) (Q.ins h (V x ay) R)
  have e:acc++x::X=[]++(acc++[x])++X:=ay;rw[e];refine O.trans ?_;rw[gr];exact N
def gg.SK(h:ld lt p)(W:∀z∈X,p z):gg lt X (bT lt X):=by
 exact gg.auX h (acc:=[]) ay W xK
def ZF(h:ld lt p)(W:∀z∈X,p z)(V:gg lt X P)(R:gw lt P):bT lt X=P:=by
 rw[<-SJ R];exact(V.fold h (acc:=[]) W ay).symm
def Gz(h:N∈bT lt X):N∈X:=by
 have:∀(X acc:ax),N∈wP lt acc X->N∈acc\/N∈X:=by
  intro X;induction X with
  |nil=>intro acc h;exact .inl h
  |cons x X W=>
   intro acc h;rcases W (ef lt x acc) h with h|h;rcases NG h with rfl|h;exact .inr ay;exact .inl h;exact .inr (by simp[h])
 rcases this X [] h with h|h;cases h;exact h
def auY(h:ld lt p)(R:∀z∈N::(X++P),p z)(M:gw lt (X++P))(O:∀y∈X,lt y N=J)(L:∀y∈P,lt y N=E):bT lt (N::(X++P))=X++N::P:=by
 refine ZF h R ?_ ?_;have:=gg.block (lt:=lt) P [N] X [] (λa W b V=>by simp at W;subst W;exact O b V);simpa using this;have Q:=mT.1 M;refine mT.2 ⟨Q.1,jL.2 ⟨L,Q.2.1⟩,λa W b V=> ?_⟩;rcases dP.1 V with rfl|V;exact h.asym (R a (by simp[W])) (R b ay) (O a W);exact Q.2.2 a W b V
def auZ(h:ld lt p)(V:∀z∈X++P++[N],p z)(M:gw lt (X++P))(L:∀x∈X,lt N x=E)(Q:∀x∈P,lt N x=J):bT lt (X++P++[N])=X++N::P:=by
 refine ZF h V ?_ ?_;have:=gg.one (lt:=lt) X [] N P Q;simpa using this;have R:=mT.1 M;refine mT.2 ⟨R.1,jL.2 ⟨λb W=>h.asym (V N ay) (V b (by simp[W])) (Q b W),R.2.1⟩,λa O b W=> ?_⟩;rcases dP.1 W with rfl|W;exact L a O;exact R.2.2 a O b W
def au0(h:ld lt p){R Q:ax}(O:∀z∈X++P++(R++Q),p z)(D:gw lt (X++P))(B:gw lt (R++Q))(A:∀x∈X,∀y∈Q,lt y x=E)(H:∀x∈P,∀y∈R,lt y x=J):
  bT lt (X++P++(R++Q))=bT lt (X++R)++bT lt (P++Q):=by
 have w:=mT.1 D;have v:=mT.1 B;have N:∀z∈X++R,p z:=λz M=>O z (by rcases eP.1 M with h|h<;>simp[h])
 have L:∀z∈P++Q,p z:=λz M=>O z (by rcases eP.1 M with h|h<;>simp[h])
 refine ZF h O ?_ ?_;have u:=gg.block (lt:=lt) Q P R X H;have G:=(gg.SK h N).JN [] (P++Q);have F:=(gg.SK h L).JN (bT lt (X++R)) [];simp only[gr,H9] at G F;exact(u.trans G).trans F;refine mT.2 ⟨Cd h N,Cd h L,λa V b W=> ?_⟩;have V:=Gz V;have W:=Gz W;have t:=N a V;have s:=L b W;rcases eP.1 V with V|V;rcases eP.1 W with W|W;exact w.2.2 a V b W;exact A a V b W;rcases eP.1 W with W|W;exact h.asym t s (H b W a V);exact v.2.2 a V b W
def ajy(h:ld lt p)(W:∀z∈X,p z)(V:∀z∈P,p z):bT lt (bT lt X++bT lt P)=bT lt (X++P):=by
 have R:=(gg.SK h W).JN [] P;have Q:=(gg.SK h V).JN (bT lt X) [];simp only[gr,H9] at R Q;exact(R.trans Q).fold h (acc:=[]) (λz O=>by exact(eP.1 O).elim (W z) (V z)) ay
end
section
def ajz(d:Bool):∀(Q:aw)(x y z:aH),jq d Q x y=E->jq d Q y z=E->jq d Q x z=E
 |[],_,_,_,_,_=>rfl
 |c::Q,x,y,z,V,X=>by
  simp only[jq] at V X⊢;by_cases R:aN c x=aN c y;rw[aI R] at V;by_cases W:aN c y=aN c z;rw[aI W] at X;rw[aI (R.trans W)];exact ajz d Q x y z V X;rw[aK W] at X;rw[aK (by rw[R];exact W),R];exact X;rw[aK R] at V;by_cases W:aN c y=aN c z;rw[aK (by rw[<-W];exact R),<-W];exact V;rw[aK W] at X;cases d;simp only[iW,ga,decide_eq_false_iff_not] at V X⊢;rw[aK ae];simp only[decide_eq_false_iff_not];omega;simp only[cS,decide_eq_false_iff_not] at V X⊢;rw[aK ae];simp only[decide_eq_false_iff_not];omega
def ajA(d:Bool):∀(X:aw)(x:aH),jq d X x x=E
 |[],_=>rfl
 |c::X,x=>by simp[jq,ajA d X x]
def ajB(d:Bool):∀(Q:aw)(x y z:aH),jq d Q x y=J->jq d Q y z=J->jq d Q x z=J
 |[],_,_,_,h,_=>by simp[jq] at h
 |c::Q,x,y,z,V,X=>by
  simp only[jq] at V X⊢;by_cases R:aN c x=aN c y;rw[aI R] at V;by_cases W:aN c y=aN c z;rw[aI W] at X;rw[aI (R.trans W)];exact ajB d Q x y z V X;rw[aK W] at X;rw[aK (by rw[R];exact W),R];exact X;rw[aK R] at V;by_cases W:aN c y=aN c z;rw[aK (by rw[<-W];exact R),<-W];exact V;rw[aK W] at X;cases d;simp only[iW,ga,cF] at V X⊢;rw[aK ae];simp only[cF];omega;simp only[cS,cF] at V X⊢;rw[aK ae];simp only[cF];omega
def JO(X:aw)(d:Bool):ld (bm.lex X d).lt (λx=>(bm.lex X d).ok x=J):=
 ⟨λx _=>ajA d X x,λx y z _ _ _=>ajB d X x y z,λx y z _ _ _=>ajz d X x y z⟩
def JP{n d:Int}(h:fY n d=J):0<d:=by
 simp only[fY,az,cF] at h;omega
def NH(n d:Nat):ld (bm.ratio n d).lt (λx=>(bm.ratio n d).ok x=J):=by
 refine⟨λx _=> ?_,λx y z V R Q X W=> ?_,λx y z V R Q X W=> ?_⟩;simp[bm.lt];have P:=JP V;have N:=JP R;have O:=JP Q;simp only[bm.lt,cF] at X W⊢;have M:=aC9 X O;have L:=aC9 W P;refine Int.lt_of_mul_lt_mul_left (a:=aN d y) ?_ ae;have H:aN n x*aN d y*aN d z=aN d y*(aN n x*aN d z):=by ac_rfl
 have G:aN n y*aN d x*aN d z=aN n y*aN d z*aN d x:=by ac_rfl
 have F:aN n z*aN d y*aN d x=aN d y*(aN n z*aN d x):=by ac_rfl
 omega;have P:=JP V;have N:=JP R;have O:=JP Q;simp only[bm.lt,decide_eq_false_iff_not,Int.not_lt] at X W⊢;have M:=aeN X (show 0<=aN d z from ae);have L:=aeN W (show 0<=aN d x from ae);refine Int.le_of_mul_le_mul_left (a:=aN d y) ?_ ae;have H:aN n x*aN d y*aN d z=aN d y*(aN n x*aN d z):=by ac_rfl
 have G:aN n y*aN d x*aN d z=aN n y*aN d z*aN d x:=by ac_rfl
 have F:aN n z*aN d y*aN d x=aN d y*(aN n z*aN d x):=by ac_rfl
 omega
end
section
variable{lt:aH->aH->Bool}{p:aH->Prop}
def pe(X:ax){m b:Nat}(W:Q<=m)(V:m<=b):bc X Q b=bc X Q m++bc X m b:=by
 simp only[bc];have e:b-Q=(m-Q)+(b-m):=ae;rw[e,List.take_add,LS,show Q+(m-Q)=m from ae]
def JQ(X:ax){b:Nat}(W:Q<=b):X.take Q++(bc X Q b++X.drop b)=X:=by
 simp only[bc];have e:X.drop b=(X.drop Q).drop (b-Q):=by rw[LS];congr 1;omega
 rw[e,H6,H6]
def NI(X:ax){a b i:Nat}(h:i<b-a):(bc X a b)[i]?=X[a+i]?:=by
 simp only[bc,mB,h,cS,tF]
def qB(X:ax){b:Nat}(h:b<=Y X):(bc X Q b).length=b-Q:=by simp[bc];omega
def DX{b:Nat}(h:N∈bc X Q b):∃i,Q<=i/\i<b/\i<Y X/\X.getD i []=N:=by
 obtain⟨i,W⟩:=qW h;have V:=(bZ.1 W).1;simp only[bc,De,Df] at V;rw[NI X ae] at W;exact⟨Q+i,ae,ae,ae,by simp[dB,W]⟩
def JR{b:Nat}(W:b<=Y X)(h:gw lt (bc X Q b)){i j:Nat}(R:Q<=i)(O:i<j)(P:j<b):lt (X.getD j []) (X.getD i [])=false:=by
 have:=LO.1 h (i-Q) (j-Q) (by rw[qB X W];omega) (by rw[qB X W];omega) ae;have e:∀k(V:k-Q<(bc X Q b).length),Q<=k->k<b->(bc X Q b)[k-Q]=X.getD k []:=λk V N M=>by
  have q:=NI X (a:=Q) (b:=b) (i:=k-Q) ae;rw[cK V,show Q+(k-Q)=k from ae] at q;simp[dB,<-q]
 rw[e i _ R ae,e j _ ae P] at this;exact this
def ajC:wG lt X=J<->gw lt X:=by
 induction X with
 |nil=>exact⟨λ_=>xK,λ_=>rfl⟩
 |cons x r W=>
  simp only[wG,az,W,fp,gO,gw,jL]
def au1(h:ld lt p)(L:∀z∈X,p z){s m e b:Nat}(H:Q<=s)(G:s<=m)(F:m<=e)(D:e<=b)(u:b<=Y X)(B:gw lt (bc X Q m))(A:gw lt (bc X m b))
  (w:∀i j,Q<=i->i<s->e<=j->j<b->lt (X.getD j []) (X.getD i [])=E)(v:∀i j,s<=i->i<m->m<=j->j<e->lt (X.getD j []) (X.getD i [])=J):
  bT lt (bc X Q b)=bT lt (bc X Q s++bc X m e)++bT lt (bc X s m++bc X e b):=by
 rw[pe X (show Q<=m from ae) (show m<=b from ae),pe X H G,pe X F D] at*;refine au0 h (λz W=>L z ?_) B A (λx V y R=> ?_) (λx V y R=> ?_);simp only[eP] at W;rcases W with(W|W)|(W|W)<;>exact tW W;obtain⟨i,P,O,_,rfl⟩:=DX V;obtain⟨j,N,M,_,rfl⟩:=DX R;exact w i j P O N M;obtain⟨i,P,O,_,rfl⟩:=DX V;obtain⟨j,N,M,_,rfl⟩:=DX R;exact v i j P O N M
end
section
variable(a b c d:Nat)(e f g h:K)(i j k:T)(l m n o p q:BE)(r s t u v:C)(w x:List RK)(y z:List C)(A B:RE)(L:List LK)(D M:LE)(F:RK)(G:BinOp)(H:Int)
abbrev bC:=K.v 0
abbrev ce:=K.v 1
abbrev eh:=K.v 2
abbrev gh:=T.ret r [] w
abbrev GA:=gh (.bool l) w
abbrev wQ:=GA l []
abbrev f8:=BE.cmp .leq e f
abbrev GB:=wQ (f8 bC eh)
abbrev Ce:=BE.c E
abbrev oh:=C.bool Ce
abbrev jw:=gh r []
abbrev iR:=jw oh
abbrev da:=K.v 4
abbrev aV:=C.int I e
abbrev nQ:=aV da
abbrev bX:=K.c 1
abbrev e8:=aV bX
abbrev ZG:=RK.sl 186
abbrev ZH:=RK.sl 257
abbrev jR:=RK.sl 177
def qC:List RK:=[ZG,ZH,jR]
abbrev ua:=BE.v 0
abbrev ku:=C.bool ua
abbrev jG:=BE.not ua
abbrev nR:=gh oh w
abbrev pM:=nR qC
abbrev lf:=aV ce
abbrev be:=K.c 0
abbrev bh:=aV be
abbrev jh:=K.v 14
abbrev yB:=BE.v 1
abbrev lJ:=C.bool yB
abbrev yC:=BE.not yB
abbrev j6:=aV eh
abbrev lg:=K.v 15
abbrev mg:=C.bool (.v a)
abbrev qD:=mg 2
abbrev mh:=BE.not (.v a)
abbrev Al:=mh 2
abbrev eB:=K.v 3
abbrev jS:=aV eB
abbrev j7:=K.c 3
abbrev ub:=aV j7
abbrev uc:=mg 3
abbrev yD:=mh 3
abbrev iu:=f8 be e
abbrev GC:=iu da
abbrev DY:=K.c 10
abbrev kw:=RE.v 0
abbrev fq:=K.len kw
abbrev iA:=K.v 5
abbrev ru:=aV iA
abbrev oj:=K.c 2
abbrev yE:=aV oj
abbrev ud:=mg 4
abbrev Am:=mh 4
abbrev et:=K.v 6
abbrev fk:=aV et
abbrev jH:=K.c 8
abbrev DZ:=aV jH
abbrev An:=mg 5
abbrev JS:=mh 5
abbrev cP:=K.v 7
abbrev gz:=aV cP
abbrev Cf:=mg 6
abbrev eu:=K.v 8
abbrev gR:=aV eu
abbrev D0:=mg 7
abbrev cV:=K.v 9
abbrev mO:=aV cV
abbrev ol:=aV jh
abbrev GD:=mg 8
abbrev fC:=K.v 10
abbrev kM:=aV fC
abbrev gM:=K.v 11
abbrev nj:=aV gM
abbrev NJ:=C.agg [kM,nj]
abbrev aR:=LK.int I
abbrev qE:List LK:=[aR,aR]
abbrev nS:=K.v 16
abbrev mP:=aV nS
abbrev wR:=K.v 17
abbrev oo:=aV wR
abbrev dD:=K.v 12
abbrev i8:=K.v 13
abbrev nl:=aV dD
abbrev pf:=aV i8
abbrev SL:=C.agg [nl,pf]
abbrev mQ:=K.v 18
abbrev ph:=aV mQ
abbrev GF:=K.v 19
abbrev oq:=aV GF
abbrev NK:=K.v 20
abbrev qF:=aV NK
abbrev bi:=aV (.v a)
abbrev ue:=bi 21
abbrev pN:=BE.c J
abbrev GG:=C.bool pN
abbrev gj:=T.call a y [] w L r i
abbrev fD:=gj a i (.bP [r,s]) w y L
abbrev JT:=T.aW (.cmp G e f) i j
abbrev kN:=JT e f i j .gtr
abbrev GH:=T.aW l i (kN e f j k)
abbrev Ao:=BE.cmp .neq e f
abbrev im:=Ao e be
abbrev pO:=im (.v a)
abbrev jx:=JT e f i j .eql
abbrev sN:=jx e be i j
abbrev jy:=T.aW l (.aW m i j) k
abbrev iH:=BE.cmp .eql e f
abbrev Cg:=BE.and (iH e f) l
abbrev Ch:=Cg e f (iH g h)
abbrev sO:=gh GG w
abbrev ZI:=fD 83 (GH NK be pM pM (sN NK (jy pM (sO qC) (sO qC) (Ch dD fC i8 gM) (Ch bX dD bX i8)) (sO qC)) (pO 21)) qF ue qC [SL,.agg [e8,e8]] qE
abbrev ZJ:=fD 83 (GH mQ be pM pM (sN mQ (jy pM ZI ZI (Ch fC fC gM gM) (Ch dD dD i8 i8)) ZI) (im GF)) ph oq qC [NJ,SL] qE
abbrev cq:=T.stuck ""
abbrev vg:=K.c 7
abbrev NL:=K.bin G I e f
abbrev uf:=NL e f .sub
abbrev ab7:=uf e bX
abbrev D6:=ab7 bC
abbrev db:=BE.cmp .lss e f
abbrev fu:=BE.and l (db e f)
def ajD:=fu D6 jH (iu D6)
abbrev Ci:=RE.v 2
abbrev D7:=K.len Ci
def ajE:=fu D6 D7 (iu D6)
abbrev lj:=aV bC
abbrev pP:=gh (.bP [r,s]) w
abbrev pQ:=aV (.c H)
abbrev wS:=pP bh (pQ 120) []
abbrev rz:=NL e f .mul
abbrev ZK:=rz bC eB
abbrev ZL:=rz eh ce
abbrev Ap:=jw (pQ 120)
abbrev D8:=K.c 1073741824
abbrev JU:=K.c (-1073741824)
abbrev NM:=LK.int .u64
abbrev pR:=jw bh
abbrev SM:=im eB
abbrev ug:=K.mm J e f
abbrev ajF:=K.bin .rem .u64 eB (ug da bX)
abbrev D9:=pQ (-1)
abbrev JV:=jw e8
abbrev uh:=K.c (-1099511627776)
abbrev ui:=K.c 1099511627776
abbrev SN:=f8 bC ce
abbrev ZM:=f8 eh eB
abbrev jz:=C.agg [r,s,t,u]
abbrev Aq:=jz lj lf j6 jS
abbrev NN:=jz bh bh bh bh
abbrev nT:=pP NN (pQ 150) []
abbrev ZN:=jz nQ ru fk gz
abbrev pS:=pP r bh w
abbrev Ar:=pS r []
abbrev JW:=jz r (aV e) s t
abbrev Cj:=K.mm E e f
abbrev ajG:=Ar (JW (ug ce iA) (aV (Cj bC da)) (aV (Cj eh et)) (aV (ug eB cP)))
abbrev nU:List LK:=[aR,aR,aR,aR,aR]
abbrev gm:=iH e be
abbrev NO:=gm eu
abbrev ZO:=K.c (-2199023255552)
abbrev qG:=pP NN yE []
abbrev nq:=BE.cmp .gtr e f
abbrev ajH:=nq da (.c 2199023255552)
abbrev ZP:=db iA ZO
abbrev ZQ:=nq iA (.c 2199023255552)
abbrev sP:=NL e f .add
abbrev ZR:=sP bC da
abbrev SO:=sP ce da
abbrev NP:=sP eh iA
abbrev SP:=sP eB iA
abbrev ZS:=JW SO (aV ZR) (aV NP) (aV SP)
abbrev SQ:=aV fq
abbrev NQ:=K.conv .u64 e
abbrev GI:=K.conv I (.bin .shr .u64 (NQ (sP eh eB)) bX)
abbrev GJ:=ab7 eh
abbrev bL:=RK.sl 101
abbrev bN:=RK.sl 229
abbrev bO:=RK.sl 231
def sQ:List RK:=[bL,bN,bO]
abbrev As:=C.am kw
abbrev jA:=RE.v 1
abbrev Ck:=C.am jA
abbrev yF:=C.am Ci
abbrev yG:=RE.v 3
abbrev GK:=C.am yG
abbrev vi:=RE.v 4
abbrev GM:=C.am vi
abbrev mi:=C.agg [lj,lf,j6,jS,nQ,As,ru,Ck,yF,GK,GM]
abbrev yH:List C:=[mi]
abbrev bM:=RK.sl 99
abbrev aS:=RK.sl 97
def iM:List RK:=[bM,bL,bN,bO,aS]
abbrev JX:=gm cP
abbrev SR:=aV (ab7 iA)
abbrev mj:=RE.v 5
abbrev ot:=C.am mj
def SS:=C.agg [ot]
abbrev Cl:=RE.v 6
abbrev nu:=C.am Cl
abbrev ky:=RE.v 7
abbrev vj:=C.am ky
abbrev nx:=RE.v 8
abbrev yI:=C.am nx
abbrev ou:=RE.v 9
abbrev Ed:=C.am ou
abbrev wT:=RE.v 10
abbrev ov:=C.am wT
abbrev nV:=RE.v 11
abbrev vk:=C.am nV
abbrev cE:=RK.sl 131
abbrev bv:=RK.sl 78
abbrev de:=RK.sl 4
abbrev bw:=RK.sl 74
abbrev fh:=RK.sl 105
abbrev ja:=RK.sl 129
def tq3:=iM++[cE]
def tq4:=tq3++[bv]
def tq6:=tq4++[de,bw]
def Cm:=tq6++[bw,fh,ja]
abbrev GN:=RE.v 12
abbrev Ee:=C.am GN
abbrev yJ:=K.len GN
abbrev GO:=gh r iM
abbrev SU:=GO yE
abbrev qH:=K.len vi
abbrev Ef:=K.c 4096
abbrev ajL:List C:=[jz ru Ck yF GK]
abbrev JY:=im et
abbrev GP:=pQ 1000
abbrev vl:=GO (pQ 190)
abbrev vn:=im cP
abbrev wU:List C:=[bh]
abbrev ow:=db e fq
abbrev NR:=ow eu
abbrev wV:=iu eu
abbrev ZT:=sP eu bX
abbrev wW:=aV ZT
abbrev ji:=T.back a [r]
abbrev SX:=ji 0 wW
abbrev SY:=db cV qH
abbrev yK:=BE.and (iu cV) l
abbrev JZ:=yK SY
abbrev fP:=K.cell A e 0
abbrev SZ:=fP cV vi
abbrev pT:=K.c 1048576
abbrev uj:=K.cell vi e a
abbrev fw:=aV (.cell A e a)
abbrev yL:=fw a cV A
abbrev yM:=yL a vi
abbrev ajM:List C:=[aV SZ,aV (uj 1 cV),aV (uj 2 cV),yM 3,yM 4,yM 5,yM 6,yM 7,yM 8,yM 9,yM 10,yM 11,yM 12,yM 13]
abbrev yN:=aV (NL e f G)
abbrev Co:=yN e f .add
abbrev jk:=Co e bX
abbrev sS:=jk cV
def S2:=f8 fq be
abbrev ll:=f8 e (.c 536870912)
abbrev NS:=ll fq
abbrev yO:=LE.lit []
def S3:=LE.mW yO (.am kw)
def Eg:=RK.own 4
abbrev ZU:=RE.k (.slice Z 0 0)
abbrev dE:=C.am ZU
abbrev kz:=RK.own 74
abbrev dK:=RK.sl 104
abbrev J0:=BE.and (iu eB) (ow eB)
abbrev wX:=fP e kw
abbrev NT:=wX eB
abbrev lK:=K.cell kw e a
abbrev GQ:=lK 1 eB
def pU:List RK:=[.str]
abbrev Cp:=nR pU
abbrev J1:=ow be
abbrev NU:=K.mV kw be
abbrev J2:=ow ce
abbrev GR:=BE.and (iu ce) l
abbrev Cq:=GR J2
abbrev wY:=K.c 5
abbrev GS:=jk ce
abbrev J3:=ji 0 GS
abbrev uk:=im eu
abbrev J4:=pP dE e8 iM
abbrev iS:=RK.own 97
abbrev ny:=K.len mj
abbrev S4:=LE.am mj
def ZV:=iM++[iS]
def tq1:=iM++[.ap]
def ZX:=tq1++[iS]
abbrev ZY:=C.bP [nu,bh]
def S5:=tq1++[aS]
abbrev oz:=aV lg
abbrev ZZ:List C:=[mP,e8,ub]
abbrev sT:=gj a i r w y [.bool]
abbrev nz:=sT a (.aW l i j) r w y
abbrev qI:=nz a i j l r [] y
abbrev pV:=sT a i r [] y
abbrev ajN:=qI 163 (pV 163 (jw qD) qD ZZ) iR yB lJ [oz,bh,DZ]
abbrev S7:=gm lg
abbrev GU:=T.aW l i iR
abbrev ajO:=GU (wQ (gm nS)) S7
abbrev Z0:=jy (GU (pV 163 (jw lJ) lJ ZZ) S7) ajO ajO jG (iH da (.c 9))
abbrev e9:=T.aW l i (.aW m j k)
abbrev ajP:=e9 iR ajN Z0 (Ao jh bC) jG
abbrev qJ:=K.c 4
abbrev Cr:=jx e f i (jx g h j k)
abbrev iB:=gj a i r w y [aR]
abbrev nW:=iB a (.aW l i j) r w y
abbrev qK:=BE.cmp .geq e f
abbrev ajQ:=Cr bC (.c 95) bC (.c 32) (jw (aV wY)) JV (Cr bC (.c 9) bC DY JV JV (jx bC (.c 13) JV (nW 157 (jw (aV qJ)) pR (qK ce be) lf [] [.am (.k (.string ⟨#[123,125,40,41,59,44,61,58,46,60,62,33,43,45,42,47]⟩)),.int .u8 bC])))
abbrev mo:=JT e f i j .geq
abbrev jB:=JT e f i j .leq
abbrev sU:=mo e f (jB g h i j) k
abbrev ajR:=sU bC (.c 48) bC (.c 57) (jw ub) ajQ ajQ
abbrev ajS:=sU bC (.c 65) bC (.c 90) (jw yE) ajR ajR
abbrev S8:=pQ 290
abbrev Cs:=pP NN S8 []
abbrev S9:=K.c (-1048576)
abbrev Z1:=pP NN e8 []
abbrev Z2:=sP iA bX
abbrev ajT:=ug be (uf (Cj eu Z2) da)
abbrev Z3:List C:=[mO,kM,nj,nl]
abbrev Ta:=C.bP [.agg Z3,pf]
abbrev J5:=im i8
abbrev mq:=RK.own 129
abbrev ajU:=ug be (uf (Cj ZT Z2) da)
abbrev Z4:List C:=[ol,oz,mP,oo]
abbrev ajV:=C.bP [.agg Z4,ph]
abbrev pi:=K.len jA
abbrev yP:=bi 22
abbrev yQ:=K.v 23
abbrev yR:=aV yQ
abbrev Tb:=C.bP [jz oq qF ue yP,yR]
abbrev Td:=Ao fq pi
def Z5:List RK:=[aS,dK,iS]
abbrev Z6:=bm.lex [0] E
abbrev NV:=RK.own 226
abbrev rA:List LK:=[aR,.am F]
abbrev J6:=rA NV
abbrev GV:=ow bC
abbrev pj:=BE.and (iu bC) GV
abbrev Ct:=K.len yG
abbrev Z7:=db ce Ct
abbrev Te:=GR Z7
abbrev J7:=wX bC
abbrev At:=GR (db ce pi)
abbrev Z8:=lK 10 bC
abbrev Z9:=lK 11 bC
abbrev aaa:=lK 12 bC
abbrev Cu:=fw a e kw
abbrev oA:=Cu a bC
abbrev ajW:List C:=[aV J7,oA 1,oA 2,oA 3,oA 4,oA 5,oA 6,oA 7,oA 8,oA 9,aV Z8,aV Z9,aV aaa,oA 13]
abbrev sW:=K.cell jA e a
abbrev J8:=sW 1 ce
abbrev NW:=sW 2 ce
abbrev Cv:=RK.sl 226
abbrev vo:List C:=[.agg y]
def ajX:=vo [lj,lf,j6,jS,nQ,ru,fk,gz,gR,mO,kM,nj,nl]
abbrev yS:=bi 29
abbrev wZ:=bi 24
abbrev yT:=bi 25
def yU:=bi 26
def Au:=K.v 27
def yV:=aV Au
abbrev J9:=K.v 28
abbrev w6:=aV J9
def Cw:=bi 30
abbrev Ka:=gm et
def Kb:=K.c 29
def aab:=rz Kb bC
def NX:=K.c 841
def Tf:=rz NX lg
def aac:=rz Kb ce
abbrev pW:=jw (pQ 260)
abbrev Kc:=gm iA
abbrev NY:=BE.not (.and l m)
abbrev aad:=NY JX NO
abbrev aae:List C:=[gz,bh,DZ]
abbrev aaf:List C:=[gR,e8,ub]
abbrev vp:=gm cV
abbrev Tg:=NY vp (gm fC)
abbrev Th:List C:=[mO,bh,DZ]
abbrev Ti:List C:=[kM,e8,ub]
abbrev Kd:=mg 10
abbrev NZ:=NY (gm gM) (gm dD)
abbrev N0:List C:=[nj,bh,DZ]
abbrev N1:List C:=[nl,e8,ub]
abbrev Ke:=qI 57 pW i l r y
abbrev yW:=Ke (Ke i m s z) l r y
abbrev ajY:=T.aW NZ (yW pR (mh 9) (mh 10) (mg 9) Kd N0 N1) pR
abbrev ajZ:=T.aW NZ (yW pR (mh 7) (mh 8) D0 GD N0 N1) pR
abbrev aj0:=T.aW Tg (yW ajY (mh 7) (mh 8) D0 GD Th Ti) ajZ
abbrev aj1:=T.aW NZ (yW pR JS (mh 6) An Cf N0 N1) pR
abbrev aj2:=T.aW Tg (yW ajZ JS (mh 6) An Cf Th Ti) aj1
abbrev aj3:=T.aW aad (yW aj0 JS (mh 6) An Cf aae aaf) aj2
abbrev Kf:=ug eu (uf be eu)
abbrev aag:=db eh bX
abbrev ul:=jw (pQ 140)
abbrev aj4:=nq eh (.c 32768)
abbrev aah:=uf be eh
abbrev aj5:=Ao (sP (rz bC bC) (rz ce ce)) (rz eh eh)
abbrev f9:=gh (pQ 250) pU
abbrev Kg:=K.c 500
abbrev pl:=T.bz pN i
abbrev oB:=pl f9
abbrev yX:=K.c 16
abbrev Kh:List C:=[mi,fk]
abbrev Cx:=RK.mr ⟨177,4,2,J,E⟩
abbrev N2:=db eu qH
abbrev um:=BE.and wV N2
abbrev Tj:=uj 2 eu
abbrev aai:=ab7 (uj 9 eu)
abbrev Ki:=uj 1 eu
abbrev jT:=T.back a [r,s]
abbrev mu:=jT 0 r s
abbrev aaj:=mu wW nu
abbrev aak:=mu wW ot
abbrev N3:=RK.own 177
abbrev Tk:=rA N3
abbrev jU:=K.len ky
abbrev Tl:=LE.am ky
abbrev Eh:=jk fC
abbrev N4:List C:=[mi,fk,gz]
def Tm:=iM++[dK]
abbrev Kj:List LK:=[.am aS,aR]
def w8:=Tm++[aS]
abbrev kO:=K.len Cl
abbrev Tn:=pQ 270
abbrev To:=ll kO
abbrev Kk:=LE.am Cl
def aj6:=w8++[iS]
abbrev rB:=db e kO
abbrev Tp:=rB cV
abbrev Kl:=yK Tp
abbrev kP:=K.len nx
abbrev Tq:=db fC kP
abbrev GX:=iu fC
abbrev Ts:=BE.and GX Tq
abbrev Tt:=BE.and GX (db fC ny)
abbrev kA:=K.len wT
abbrev Ei:=ll kA
abbrev Ej:=LE.am wT
abbrev aal:=T.stuck ""
def aj7:List C:=[gR,mO,kM,nj,nl,pf,ol,oz,mP,oo,ph,oq,qF]
def Tu:=C.agg aj7
abbrev vq:=BE.and (iu e) l
def aj8:=vq yQ (db yQ jU)
def vu:=K.v 38
def Cy:=K.v 40
def nX:=K.v 41
def aj9:=w8++[Cv]
def GY:List LK:=[aR,aR,aR,aR,aR,aR,aR,aR,aR,aR,aR,aR,aR,aR]
def Km:=bi 50
def Ko:=bi 51
def G0:=bi 52
def G1:=bi 53
def G2:=bi 54
def Kq:=bi 55
def G3:=K.v 56
def N5:=aV G3
def Kr:=bi 57
def Ks:=bi 58
def Kt:=bi 59
def Ku:=bi 60
def Kv:=bi 61
def Kw:=bi 62
def Ek:=bi 31
def Kx:=bi 32
def N6:=bi 33
def N7:=bi 34
def G4:=K.v 35
def Tv:=aV G4
def uo:=K.v 36
def N8:=aV uo
abbrev oC:=iH e bX
def xe:=oC wR
def El:=iH wR e
def yY:=El oj
def Cz:=El j7
def CA:=El qJ
def CB:=El wY
def Em:=El (.c 6)
def N9:=El vg
def Oa:=El jH
def Ob:=El (.c 9)
abbrev pX:=K.dg l e (.dg m f g)
def xf:=pX be be e l m
def aka:=xf (pX be bX be Oa Ob) Em N9
def Tw:=xf (.dg Ob be be) N9 Oa
def akb:=xf (.dg CB be (.dg Em be Tw)) Cz CA
abbrev Ky:=pX e f (.dg n g h) l m
def akc:=Ky jH jH jH (.dg Em be Tw) Cz CA CB
def akd:=aV (xf (Ky bX bX bX aka Cz CA CB) xe yY)
def ake:=aV (xf (pX j7 j7 (pX j7 be (xf (.dg Ob j7 be) N9 Oa) CB Em) Cz CA) xe yY)
def vw:=ab7 mQ
def aam:=iH vw j7
def aan:=iH vw qJ
def Av:=aV (.dg l be e)
abbrev rC:=iH e oj
def akf:=C.agg [Co bC (rz (.v 21) (.v 33)),Co ce (rz (.v 21) (.v 34)),j6,Av eB (gm vw),Av da (gm vw),Av iA (oC vw),Av et (oC vw),Av cP (rC vw),Av eu (rC vw),Av cV aam,Av fC aam,Av gM aan,Av dD aan]
abbrev Oc:=gh yE sQ
abbrev gT:=gh (pQ 130) sQ
abbrev Aw:=sP eh bX
abbrev Ax:=wX ce
abbrev Tx:=K.c (-65536)
abbrev Kz:=K.c 65536
abbrev akg:=f8 (lK 1 ce) Kz
abbrev vx:=BE.not (f8 e f)
abbrev akh:=vx (lK 2 ce) Kz
abbrev Od:=jz lj As Ck yF
abbrev aao:=db da pi
abbrev aap:=fP da jA
abbrev aaq:=db et D7
abbrev KC:=iu et
abbrev aar:=fP et Ci
def KD:=tq6++[fh]
abbrev qL:=K.len ou
abbrev Oe:=rB eu
abbrev En:=BE.and wV Oe
def Tz:=fu eu jU wV
abbrev KE:=fu eu kP wV
abbrev qM:=C.am (.cell A e a F)
abbrev Eo:=qM a e Cl .str
abbrev qN:=fw a e Cl
abbrev oD:=qN a eu
abbrev aas:=vo [Eo 0 eu,oD 1,oD 2,oD 3,oD 4,oD 5,oD 6,oD 7,oD 8,oD 9,oD 10,oD 11,oD 12,oD 13,oD 14,oD 15,oD 16]
def vy:=fw a eu nx
def aki:=vo [vy 0,vy 1,vy 2,vy 3,vy 4,vy 5,vy 6,vy 7,vy 8,vy 9,vy 10,vy 11,vy 12]
def aat:=BE.not (gm fC)
abbrev lL:=T.aW (.not l) i j
def akj:=lL cq SX (gm gM)
def TA:List LK:=[.am de]
def TC:=LK.am bw
def pm:=RK.own 105
def TE:=LK.am mq
def akk:List LK:=[aR,.am kz,.am pm,TE]
abbrev aau:=db cV jU
abbrev KF:=yK aau
abbrev vz:=fu cV e (iu cV)
def TF:=vz qL
def aav:=qM 0 cV ou dK
abbrev iv:=C.am (.v a)
abbrev xg:=iv 15
abbrev sZ:=RE.v 13
abbrev CC:=K.len sZ
abbrev G5:=ll CC
abbrev KG:=LE.am sZ
def tq8:=KD++[de,bw]
def akm:=tq8++[kz,.ap,mq,dK,pm]
def vA:=fw a cV nx
def akn:=C.agg [vA 0,vA 1,vA 2,vA 3,vA 4,vA 5,vA 6,vA 7,vA 8,vA 9,vA 10,vA 11,vA 12]
def tq9:=tq8++[.ap,.ap]
def akp:=tq9++[.ap,dK,.ap]
def akq:List C:=[kM,nj,nl,pf,ol,oz,mP,oo,ph,oq,qF,ue,yP]
abbrev CD:=LE.am GN
def akr:=tq9++[mq,dK,pm,kz]
abbrev Ay:=RE.v 14
def G6:=ll (.len Ay)
abbrev CE:=LE.am Ay
abbrev rD:=iv 17
abbrev CF:=RE.v 16
abbrev uq:=C.am CF
abbrev vC:=RE.v 18
abbrev ur:=C.am vC
abbrev vD:=C.am sZ
abbrev pn:=C.am Ay
abbrev aaw:=nq ny jH
abbrev Of:=qK et be
abbrev mR:=K.len nV
abbrev nA:=BE.and wV (db eu kA)
abbrev aax:=db cV mR
abbrev ut:=yK aax
def aks:=jz (yL 0 nV) (yL 1 nV) (yL 2 nV) (yL 3 nV)
abbrev TG:=ji 1 sS
abbrev rE:=iu gM
def aay:=qM 0 gM wT dK
abbrev nY:=K.len (.v a)
abbrev vE:=ll (nY a)
abbrev G7:=vE 15
abbrev pY:=LE.am (.v a)
abbrev KH:=pY 15
def ako:=Cm++[de,bw]
def aku:=ako++[kz,.ap,mq,dK,pm]
def vF:=fw a gM nx
def akv:=C.agg [vF 0,vF 1,vF 2,vF 3,vF 4,vF 5,vF 6,vF 7,vF 8,vF 9,vF 10,vF 11,vF 12]
def akw:=ako++[.ap,.ap]
def akx:=akw++[.ap]
def aky:=akx++[dK,.ap]
def akz:List C:=[nl,pf,ol,oz,mP,oo,ph,oq,qF,ue,yP,yR,wZ]
def akA:=akw++[mq,dK,pm,kz]
def TH:=ll (.len CF)
abbrev G8:=LE.am CF
abbrev TJ:=jk gM
abbrev vG:=iv 19
abbrev yZ:=iv 20
def pZ:=RK.mr ⟨243,4,3,J,E⟩
def Og:=rA pZ
abbrev s4:=iu dD
abbrev TK:=BE.and s4 (db dD qL)
def akB:=fu dD (.len Ay) s4
abbrev aaz:=fP dD ou
def akC:=fu dD (.len CF) s4
def TL:=akx++[pZ]
def Oi:List LK:=[.bool,aR]
abbrev Az:=K.len vC
def aaA:=db lg Az
def KI:=iu lg
abbrev ln:=RE.cell A e 0 F
def Ep:=ln dD wT dK
abbrev AA:=db e (.len A)
def TN:=vq nS (AA nS Ep)
def akD:=TL++[aS,pZ]
def TO:=jk lg
abbrev TP:=jk dD
abbrev AB:=iv 21
def aaB:=db jh kP
abbrev CG:=iu jh
abbrev Oj:=jk jh
def aaC:=db lg qL
def TQ:=RK.sl 301
abbrev KJ:=iv 22
def KK:=RK.mr ⟨3,1099511627778,1,E,E⟩
abbrev Ol:=iv 27
def Om:=tq3++[ja,ja,jR]
def aaD:=LK.am (.own 301)
abbrev TR:=db gM ny
def xj:List LK:=[aR,aaD]
abbrev On:=jk i8
def akE:=fu mQ kO (iu mQ)
abbrev xk:=yN e f .mul
def akF:=jz bh (xk NX bC) bh (xk NX ce)
def akG:=Om++[.ap,Cx,.ap,.ap,.ap,.ap,.ap,.ap,.ap,.ap,.ap]
def akH:=fu mQ jU (iu mQ)
def aaE:=iM++[.str]
def TS:List RK:=[ZG,ZH,jR,bM,bL,bN,bO,aS,.str,dK,aS]
def akI:=vq Cy (db Cy mR)
def Es:=K.cell nV Cy 4
def akJ:=fu Es DY (iu Es)
def akK:=fu Es pi (iu Es)
def akL:List LK:=[aR,.bool,.bool,.bool,.bool,.bool]
abbrev aq:=RK.sl 3
def aaF:=AA nX (ln Es jA aq)
def TU:=iu nX
def xl:=ab7 (sP (fP nX (ln Es jA aq)) (.cell nV Cy 5))
def TV:=rz NX yQ
def aaG:=db nX wY
def Et:=NL nX oj .quo
def aaH:=iH nX j7
def aaI:=iH nX qJ
def aaJ:=jz (bi 42) (bi 43) (bi 44) (bi 45)
def TW:=rz NX (Ky (.v 26) Au J9 be (gm Et) (oC Et) (rC Et))
def G9:=TS++[Cv]
def TX:=jz (bi 46) (bi 47) (bi 48) (bi 49)
def akM:=vq G3 (db G3 mR)
def akN:=jz (bi 88) (bi 89) (bi 90) (bi 91)
def akO:=jz Kr Ks Kt Ku
def aaK:=iM++[bv,dK]
def akP:=vq G4 (db G4 ny)
def Hd:=RK.mr ⟨3,104,1,E,J⟩
def akQ:=aaK++[Hd]
abbrev TY:=BE.and KC (db et ny)
def TZ:=RK.own 295
def akR:=vq vu (db vu kP)
def Oo:=fP vu nx
def akS:=BE.look ky 1 Oo be be 4
abbrev CH:=LE.am nV
def KL:=fP (ab7 yJ) GN
def T1:=T.back 3 [bi 66,bi 67,bi 68,bi 69,bi 70,bi 71,bi 72,bi 73,bi 74,bi 75,bi 76,bi 77,bi 78,ov,Ee]
def KM:=K.conv I (.bin .shr .u64 (NQ (sP eu cV)) bX)
abbrev s5:=fw a eu vi
abbrev akT:List C:=[s5 0,aV Ki,aV Tj,s5 3,s5 4,s5 5,s5 6,s5 7,s5 8,s5 9,s5 10,s5 11,s5 12,s5 13]
abbrev T2:=C.agg akT
def T3:=iM++[jR]
abbrev cM:=RK.own 3
abbrev He:=rA cM
def tq5:=T3++[.ap]
def akV:=tq5++[cM]
abbrev aaL:=db cV ny
abbrev aaM:=bm.lex [] E
def akW:=tq5++[.ap,cM]
abbrev akX:=fP (fP cV mj) nx
abbrev Eu:=K.cell A cV a
abbrev akY:=fP (Eu 1 mj) ou
abbrev Oq:=ug akX akY
abbrev T4:=fu bC pi (iu bC)
abbrev Hf:=ji 0 (jk bC)
abbrev T5:=vq Aw (ow Aw)
abbrev Hg:=T.back 0 y
abbrev aaN:=Hg [aV Aw]
abbrev Hh:=iu eh
abbrev KN:=BE.and Hh (ow eh)
abbrev dp:=T.bz l (.bz m i)
abbrev akZ:=dp (gh (Co (lK 1 eh) (rz (uf ce (wX eh)) (lK 2 eh))) sQ) KN KN
abbrev Hj:=ab7 ce
abbrev ak0:=fu Hj fq (iu Hj)
abbrev ak1:=T.aW (qK Ax bC) gT (mo (lK 1 ce) Tx (lL gT (mo (lK 2 ce) Tx (.aW akh gT J3) gT) akg) gT)
abbrev zd:=nz a i j yC lJ w y
abbrev ak2:=zd 126 gT (.back 1 [aV Aw]) sQ [nQ,e8,aV Kz]
abbrev aaO:=db eB pi
abbrev lM:=fu f g (iu e)
abbrev ak3:=lM (ab7 eB) (ab7 eB) pi
abbrev s6:=JT e f i j .lss
abbrev oE:=s6 e f i (kN g h j k)
abbrev ak4:=s6 (sW 2 eB) be gT (oE (sW 3 eB) (sW 2 eB) (sW 3 eB) pT gT gT (ji 2 (jk eB)))
abbrev lq:=JT e f i j .neq
abbrev ak5:=lq (sW 1 eB) bX (lq (sW 1 eB) oj gT ak4) ak4
abbrev aaP:=db da D7
abbrev aaQ:=fP da Ci
abbrev aaR:=f8 ce D8
abbrev aaS:=qK bC JU
abbrev aaT:=f8 bC D8
abbrev rF:=qK e bX
abbrev T6:=rF iA
abbrev aaU:=f8 iA oj
abbrev Ot:=f8 et jH
abbrev T7:=rF eu
abbrev aaV:=BE.and JX vp
abbrev T8:=rF cP
abbrev aaW:=f8 cP j7
abbrev aaX:=BE.and NO vp
abbrev xo:=jy i iR iR l m
abbrev ak6:=xo (xo (xo (wQ aaX) T8 aaW) Of Ot) T6 aaU
abbrev Ou:=wQ (.and l m)
abbrev ak7:=GU (jB cV jh (Ou Kc (.and Ka (.and JX NO))) iR) (rF cV)
abbrev mw:=nR iM
abbrev Ov:=ow cP
abbrev Ew:=BE.and (iu cP) l
abbrev T9:=Ew Ov
abbrev Ex:=jk cP
abbrev Hk:=ji 0 Ex
abbrev ak8:=lM (ab7 eu) (ab7 eu) qH
abbrev rG:=nz a i j l r iM y
abbrev ak9:=rG 130 mw (rG 130 mw (rG 130 mw (rG 132 mw (rG 133 mw (ji 1 wW) JS An [T2]) Am ud [T2,SQ]) yD uc [s5 3,e8,ub]) Al qD [aV Tj,bh,SR]) yC lJ [aV Ki,bh,aV (ab7 fq)]
abbrev Hl:=K.mV kw bC
abbrev ala:=lL Cp Hf (iH Hl (.c 95))
abbrev alb:=sU Hl (.c 48) Hl (.c 57) Hf ala ala
abbrev alc:=sU Hl (.c 65) Hl (.c 90) Hf alb alb
abbrev my:=T.loop a L y (.aW l i j)
abbrev CI:=my a i j l wU [aR]
abbrev Hm:=CI a i (sO w) l
abbrev ald:=Hm 0 (.bz pj (sU Hl (.c 97) Hl (.c 122) Hf alc alc)) GV pU
abbrev s7:=lL i j (f8 e f)
abbrev vH:=mo e f (s7 g h i j) k
abbrev ale:=vH NU (.c 65) NU (.c 90) Cp ald Cp
abbrev aaY:=iH i8 j7
abbrev aaZ:=iH i8 qJ
abbrev aa0:=pX eB iA (Ky cP cV gM be (rC i8) aaY aaZ) (gm i8) (oC i8)
abbrev aa1:=pX da et (Ky eu fC dD be (rC i8) aaY aaZ) (gm i8) (oC i8)
abbrev alf:=sU aa0 be aa0 jH (vH aa1 bX aa1 j7 pW (ji 0 On) pW) pW pW
abbrev KO:=ab7 cV
def aa2:=tq1++[.ap]
def alg:=ZX++[iS]
def alh:=S5++[iS,aS]
def tq7:=S5++[.ap,aS]
def aa3:=tq7++[iS]
def alj:=aa3++[iS]
def aa4:=tq7++[.ap,iS,iS]
def alk:=aa4++[aS]
abbrev mz:=T.bz l (.new a D w x i)
abbrev p7:=mz a i pN w x D
abbrev j8:=mz a i l w x (.mW D M)
abbrev CJ:=LE.lit [y]
abbrev nC:=p7 a i w x (CJ y)
abbrev ze:=BE.and l (ll yJ)
abbrev alm:=p7 97 (mz 97 (j8 97 (nC 97 (j8 97 (mz 97 (j8 97 (mu wW vD) (ze (ll mR)) alk [bM,bL,bN,bO,aS,.ap,aS,.ap,aS,.ap,iS,.ap,aS,iS] CH CD) (yK (f8 cV kO)) aa4 alk (.sub Kk cV kO)) (.and (ll qL) Ei) alj aa4 (.am ou) Ej) aa3 alj akT) (.and (ll jU) (ll kP)) alh aa3 Tl (.am nx)) (yK (f8 cV kO)) alg alh (.sub Kk be cV)) ZX alg yO
abbrev aln:=fu Hj Ct (iu Hj)
def alo:List RK:=[aS,dK,.ap,iS,iS]
def tq0:List RK:=[aS,dK,.ap,aS]
def alq:=tq0++[iS,aS]
def ZW:=tq0++[.ap,aS]
def aa5:=ZW++[iS]
def als:=aa5++[iS]
def aa6:=ZW++[.ap,iS,iS]
def alu:=aa6++[aS]
abbrev alv:=p7 97 (mz 97 (j8 97 (dp (nC 97 (j8 97 (mz 97 (j8 97 (mu (jk bC) ov) (.and (ll kP) (ll qL)) alu [aS,dK,.ap,aS,.ap,aS,.ap,iS,.ap,aS,iS] (.am nx) (.am ou)) (GR (f8 ce Ct)) aa6 alu (.sub (.am yG) ce Ct)) (.and To (ll jU)) als aa6 Kk Tl) aa5 als ajW) pj pj) (.and (ll qH) (ll ny)) alq aa5 (.am vi) S4) (GR (f8 ce Ct)) alo alq (.sub (.am yG) be ce)) [aS,dK,.ap,iS] alo yO
abbrev aa7:=nR [aS,dK,.ap,aS]
abbrev KP:=pl aa7
abbrev alw:=T.aW (gm J8) (pl (lL aa7 (ji 1 GS) (gm NW))) KP
abbrev Ua:=K.cell yG ce 4
abbrev alx:=mo NW bX (pl (s7 NW j7 aa7 (ji 1 GS))) KP
abbrev aa8:=sU J8 be J8 jH alx KP KP
abbrev aa9:=qK bC uh
abbrev aba:=f8 ce ui
abbrev Ub:=e9 qG qG (jy (pl qG) (pl qG) (pl qG) (qK NP uh) (f8 NP SP)) ZP ZQ
abbrev Uc:=T.aW (vx SO ui) qG qG
abbrev Ow:=ji 0 sS
abbrev aly:=Cj (ug (uf eu da) be) (sP (uf iA da) bX)
abbrev abb:=C.agg [lj,lf,j6,jS,nQ,ru,fk,gz]
abbrev oF:=j8 a i l w x D (CJ y)
abbrev alz:=oF 177 (jT 1 wW vj) To [bM,bL,bN,bO,aS,.ap,N3] [bM,bL,bN,bO,aS,.ap,.ap,N3] [gz,gR] Kk
abbrev Ud:=lM NT NT Ct
abbrev alA:=fu GQ Ct (iu GQ)
abbrev alB:List C:=[aV (Cj (fP NT yG) (fP GQ yG))]
def alC:List RK:=[jR,.ap,.ap,.ap,cM]
abbrev alD:=fu GQ qH (iu GQ)
abbrev dG:=RK.sl 39
abbrev dH:=RK.sl 84
def jI:=tq4++[dG,dH,aq]
abbrev oG:=nR jI
abbrev Ox:=K.c 50
abbrev Hn:=K.c 20
abbrev Ue:=db et jU
abbrev KQ:=BE.and KC Ue
abbrev abc:=ln et ky aq
abbrev Oy:=K.len abc
abbrev Ho:=Hg [jk et]
abbrev abd:=db cP kP
abbrev KR:=Ew abd
abbrev Ey:=RK.sl 108
abbrev abe:=ln cP nx Ey
abbrev Oz:=T.aW l oG i
abbrev alE:=Oz (ji 1 Ex) jG
abbrev xp:=my a (dp i m n) j l wU [aR]
abbrev po:=xp 0 i j l m n
abbrev Hp:=gh r jI
abbrev alF:=kN ny DY oG (po (kN Oy Hn oG Ho) (xp 1 (sT 20 alE ku jI [.am abe]) (sT 21 (Hp ku) ku jI yH) abd KR KR) Ue KQ KQ)
abbrev Hq:=kN e f i (kN g h j k)
abbrev alG:=Hq jU DY ny oj oG (Oz alF (f8 ny jH)) alF
abbrev alH:=Hq kO Hn jU j7 oG (Oz alG (f8 jU jH)) alG
abbrev alI:=Hq kP (.c 70) kO (.c 6) oG (Oz alH (f8 kO yX)) alH
abbrev alJ:=Hq fq Hn kP (.c 6) oG (jB kP (.c 64) oG alI) alI
abbrev xq:=ln ce jA bw
abbrev AC:=K.len xq
abbrev aJ:=RK.sl 75
def OA:List RK:=[aq,aJ,aq]
abbrev AD:=nR OA
def OC:List RK:=[aq,aJ,aq,aq,aJ,aq]
abbrev KS:=nR OC
abbrev abf:=db eh pi
abbrev OD:=nR [Ey]
abbrev abg:=RE.cell kw bC 1 fh
abbrev abh:=AA ce abg
abbrev uu:=dp (.aW n i j) l m
abbrev gZ:=dp (dp i n o) l m
abbrev alK:=T.aW (nq fq (.c 12)) OD (po (kN (.len (ln bC kw de)) Hn OD (dp (kN (.len abg) Hn OD (.loop 1 [aR] wU (uu (gZ (kN (.len (ln ce abg dK)) Ox OD (ji 1 GS)) pj pj (GR abh) (GR abh)) Hf pj pj abh))) pj pj)) (sO [Ey]) GV pj pj)
abbrev lu:=C.agg [lj,lf,j6,jS,nQ,As,ru,Ck,yF,GK,GM,ot,nu,vj,yI,Ed]
abbrev xt:List C:=[lu]
abbrev KT:=Ew (rB cP)
abbrev CL:=aV Kg
abbrev Uf:=Hp CL
def OE:=jI++[aq]
def fF:=OE++[aJ,aq]
abbrev CM:=nR fF
abbrev Ug:=Ew (db cP kA)
abbrev uv:=C.agg [r,s,t,u,v]
abbrev KU:=uv r fk s t ku
abbrev uw:=KU ov vk Ee
abbrev Uh:=sO fF
abbrev CN:=sO jI
abbrev abi:=db et kP
abbrev KV:=BE.and KC abi
abbrev Ui:=ln et nx Ey
abbrev abj:=db cP Oy
abbrev Ez:=Ew abj
abbrev CO:=fP cP abc
abbrev abk:=AA cP Ui
abbrev Uj:=BE.and KC (db et qL)
abbrev alL:=lM (ab7 et) (ab7 et) qL
abbrev KW:=fu ce D7 (iu ce)
abbrev abl:=fP ce Ci
abbrev abm:=db eh AC
abbrev Ht:=ab7 abl
abbrev AE:=xp a i j l (.and m n) o
abbrev vJ:=fw a eh xq
abbrev alM:=AE 0 (nW 92 AD aaN SM jS OA (vo [vJ 0,vJ 1,vJ 2,vJ 3,vJ 4,vJ 5,vJ 6,vJ 7,vJ 8,vJ 9,vJ 10,vJ 11,vJ 12])) (gZ (sN abl (sO OA) (mo Ht be (.aW (ow Ht) (dp (GA (im (wX Ht)) OA) (vq Ht (ow Ht)) (vq Ht (ow Ht))) AD) AD)) KW KW KW KW) abm Hh abm (.and Hh abm)
def Uk:=iM++[de,fh]
abbrev AF:=LK.am aq
abbrev xu:=fu cP e (iu cP)
abbrev KY:=xu ny
abbrev OF:=fP cP ky
abbrev ux:=BE.cell A e 0
abbrev abn:=ux cP mj
def OG:=Uk++[aq]
abbrev alN:=uu (dp (nW 141 (nR OG) Hk uk gR OG [mi,gz,fk,.am (ln cP Cl dK)]) KT KT) Hk KY KY abn
abbrev OH:List C:=[lu,uw]
abbrev EA:=RK.mr ⟨3,4,1,E,E⟩
abbrev abo:=nR [aq,EA]
abbrev OI:=uv dE bh dE dE oh
abbrev Hu:=pP OI e8 fF
abbrev Ul:=fP eu wT
abbrev abp:=f8 kA be
def KZ:=fF++[cM]
def Um:=fF++[.ap]
def CP:=Um++[cM]
abbrev K0:=f8 mR be
abbrev gN:=RK.own 75
def Un:=CP++[gN]
def alO:=CP++[.ap]
def CQ:=alO++[gN]
abbrev EB:=f8 yJ be
def Uo:=CQ++[cM]
def Hv:=CQ++[.ap,cM]
abbrev rH:=xu yJ
abbrev EC:=Ao (fP cP GN) (sP bX eu)
abbrev AG:=pS (KU r s t) w
abbrev alP:=AG pn uq ur [bM,bL,bN,bO,aS,cE,bv,dG,dH,aq,aq,aJ,aq,.ap,aq,.ap,aJ,.ap,aq]
abbrev Uq:=ln cP nV bw
abbrev AH:=AA be Uq
abbrev ED:=xu (.len CF)
abbrev vK:=fw a be Uq
abbrev Ur:=CJ [vK 0,vK 1,vK 2,vK 3,vK 4,vK 5,vK 6,vK 7,vK 8,vK 9,vK 10,vK 11,vK 12]
def abq:=Hv++[kz]
def alQ:=alO++[.ap,.ap,cM,bw,gN]
abbrev uy:=LE.set D e 0 y
abbrev Hx:=dp (.new a D w x i) l m
abbrev alR:=mz 75 (Hx 3 (AG pn yZ AB [bM,bL,bN,bO,aS,cE,bv,dG,dH,aq,aq,aJ,aq,.ap,aq,.ap,.ap,.ap,.ap,bw,aJ,aq]) (xu Az) (xu Az) alQ [bM,bL,bN,bO,aS,cE,bv,dG,dH,aq,aq,aJ,aq,.ap,cM,.ap,.ap,.ap,.ap,bw,gN,cM] (uy cP wU (.am vC))) ED abq alQ (uy cP [vG] G8)
abbrev EE:=iH cV Ul
abbrev AI:=AA bX Uq
abbrev vL:=fw a bX Uq
abbrev Us:=CJ [vL 0,vL 1,vL 2,vL 3,vL 4,vL 5,vL 6,vL 7,vL 8,vL 9,vL 10,vL 11,vL 12]
abbrev alS:=AG pn uq dE [bM,bL,bN,bO,aS,cE,bv,dG,dH,aq,aq,aJ,aq,.ap,aq,.ap,aJ]
def abr:=CQ++[kz]
abbrev alT:=T.stuck ""
abbrev alU:=mz 75 alT ED abr [bM,bL,bN,bO,aS,cE,bv,dG,dH,aq,aq,aJ,aq,.ap,cM,.ap,.ap,bw,gN] (uy cP [rD] G8)
def alV:=CP++[cM]
abbrev abs:=LE.mW KH CD
abbrev alW:=AG pn dE uq [bM,bL,bN,bO,aS,cE,bv,dG,dH,aq,aq,aJ,aq,.ap,aq,.ap,aq]
abbrev AJ:=gZ i (xu mR) (xu mR) l m
abbrev Ut:=AJ aal AH AH
abbrev Uu:=AJ aal AI AI
def alX:=Um++[aq]
abbrev alY:=AG pn dE dE alX
def Uv:=fF++[gN]
def CR:=Um++[gN]
def Uw:=CR++[cM]
def Hy:=CR++[.ap,cM]
abbrev alZ:=AG dE pn uq [bM,bL,bN,bO,aS,cE,bv,dG,dH,aq,aq,aJ,aq,.ap,aJ,.ap,aq]
abbrev K6:=xu (.len Ay)
def abt:=Hy++[kz]
def al0:=Um++[.ap,.ap,cM,bw,gN]
abbrev al1:=mz 75 (Hx 3 (AG dE ur vG [bM,bL,bN,bO,aS,cE,bv,dG,dH,aq,aq,aJ,aq,.ap,.ap,.ap,.ap,bw,aJ,aq]) ED ED al0 [bM,bL,bN,bO,aS,cE,bv,dG,dH,aq,aq,aJ,aq,.ap,.ap,.ap,.ap,bw,gN,cM] (uy cP wU G8)) K6 abt al0 (uy cP [rD] CE)
abbrev al2:=AG dE pn dE [bM,bL,bN,bO,aS,cE,bv,dG,dH,aq,aq,aJ,aq,.ap,aJ]
def abu:=CR++[kz]
abbrev al3:=mz 75 alT K6 abu [bM,bL,bN,bO,aS,cE,bv,dG,dH,aq,aq,aJ,aq,.ap,.ap,bw,gN] (uy cP [xg] CE)
abbrev al4:=AG dE dE pn alX
abbrev al5:=AG dE dE dE fF
abbrev K7:=C.bP []
abbrev abv:=C.agg [gz,gR,mO]
abbrev CS:List LK:=[AF,aR,.am aJ,AF,.bool,aR]
abbrev Ux:=uv vD ol pn xg ud
abbrev al6:=uv uq mP rD ur An
def Uy:=fF++[aq,aJ,aq,aq,aJ,aq]
abbrev al7:=uv vG ph yZ AB Cf
abbrev OJ:=iv 24
abbrev abw:=uv KJ qF (iv 23) OJ D0
abbrev OK:=iv 26
abbrev al8:=uv (iv 25) yP OK Ol GD
def K8:=Uy++[aq,aJ,aq,aq,aJ,aq,aq,aJ,aq]
abbrev OL:=nR K8
abbrev lw:=T.stuck ""
abbrev qO:=ln cV nV bw
abbrev AK:=K.len qO
abbrev Uz:=vz yJ
abbrev abx:=db fC AK
abbrev ON:=ab7 (fP cV GN)
abbrev al9:=vq ON (db ON kA)
abbrev EF:=iB a i r w (vo y)
abbrev vM:=fw a fC qO
abbrev Hz:=dp (lL i j n) l m
abbrev aby:=AE 2 (EF 29 (lL lw (ji 2 Eh) (gm gM)) nj fF [vM 0,vM 1,vM 2,vM 3,vM 4,vM 5,vM 6,vM 7,vM 8,vM 9,vM 10,vM 11,vM 12]) (uu TG (mo ON be (.aW (db ON kA) (Hz lw TG al9 al9 (im (fP ON wT))) lw) lw) Uz Uz (oC AK)) abx GX abx (.and GX abx)
abbrev xw:=db be e
abbrev K9:=xw AK
abbrev abz:=fP be qO
abbrev zf:=Cg e (.cell A f a) l
abbrev La:=zf a e bX (zf b f bX l B) A
abbrev OO:=K.cell A be a
abbrev iN:=OO a qO
abbrev ama:=jx AK oj (gZ (gj 28 aby K7 fF [.bool (.not (La 0 1 abz (iN 1) (La 2 3 (iN 2) (iN 3) (La 4 5 (iN 4) (iN 5) (La 6 7 (iN 6) (iN 7) (La 8 9 (iN 8) (iN 9) (La 10 11 (iN 10) (iN 11) (iH (iN 12) (.cell qO bX 12)) qO qO) qO qO) qO qO) qO qO) qO qO) qO qO)),CL] []) K9 K9 (db bX AK) (db bX AK)) (gj 28 aby K7 fF [oh,CL] [])
abbrev abA:=ln fC nx Ey
abbrev abB:=AA i8 abA
abbrev OP:=ln i8 abA de
abbrev UA:=RE.cell abA i8 1 fh
abbrev abC:=db jh (.len OP)
abbrev abD:=fP jh wT
abbrev amc:=lM abD abD (.len OP)
abbrev abE:=ux jh OP
abbrev UB:=fu jh (.len UA) CG
abbrev abF:=lL (ji 6 Oj) (dp (iB 42 (gj 28 (ji 6 Oj) K7 OE [.bool S7,CL] []) oz OE [mi,ol,kM,.am (ln jh UA dK)]) UB UB) abE
abbrev abG:=db gM qH
def amd:=jI++[EA]
abbrev ame:=lM (ab7 dD) (ab7 dD) qL
def Lb:=LK.am bv
def UC:=C.bP [vD,gR]
def UD:List C:=[lu,uw,e8]
def eC:=RK.sl 80
def OQ:List LK:=[AF,aR,.am aJ,AF,.bool,.am eC,aR]
def OS:=uv xg kM uq rD lJ
def amf:=uv vG nl yZ AB qD
def amg:=uv KJ ol (iv 23) OJ uc
def EG:=uv r s (iv a) (iv b) t
def amh:=EG 33 34 (iv 32) qF Cf
def abH:=fF++[bv,bv,aq,aJ,aq,eC,aq,aJ,aq,aq,aJ,aq,aq,aJ,aq,aq,aJ,aq,eC,aq,aJ,aq,eC,aq,aJ,aq,eC]
def nZ:=RK.sl 116
def abI:List LK:=[.am nZ,aR]
def abJ:List C:=[S8,S8,bh,bh,bh,bh,bh,bh,bh,bh,bh,bh,bh]
def ami:=abH++[aq,nZ,aq,aJ,aq,eC]
def amj:=ami++[kz]
def amk:=ami++[bw]
def abK:=amk++[gN]
def Lc:=CJ wU
def abL:=abK++[cM]
def OT:=CJ [e8]
def UE:=abL++[cM]
def aml:List C:=[S8,pQ 348,bh,bh,bh,bh,bh,bh,bh,bh,bh,bh,bh]
def amm:=UE++[kz]
def abM:=UE++[bw,gN]
def abN:=abM++[cM]
def UF:=abN++[cM]
def amn:=UF++[kz]
def abO:=UF++[bw,gN]
def abP:=abO++[cM]
def UG:=abP++[cM]
def amo:=UG++[kz]
def amp:=UG++[bw,gN]
def AL:=xw CC
def amq:=RE.k (.string ⟨#[113]⟩)
def UH:=amk++[.ap,.ap,.ap,bw,.ap,.ap,.ap,bw,.ap,.ap,.ap,bw,.ap,.ap]
def AM:=RK.own 99
def EH:=RK.own 101
def amr:List RK:=[AM,EH,iS,Eg,.own 104]
def ams:List LK:=[.am .str,aR,aR,aR,aR,aR,aR,aR,aR,aR,aR,aR,aR,aR,aR,aR,aR]
def amt:List C:=[nu,lj,lf,j6,jS,nQ,ru,fk,gz,gR,mO,kM,nj,nl,pf,ol,oz]
def amu:List C:=[vj,mP,oo,ph,oq,qF,ue,yP,yR,wZ,yT,yU,yV,w6,yS,Cw,Ek]
def abQ:List RK:=[bM,bL,aS,de,dK,fh,.str,.str,bv]
def abR:=abQ++[aq]
def abS:=abR++[aq]
def abT:=abS++[dG]
def abU:=abT++[Ey]
def amv:=abU++[dH]
def UI:=jI++[gN]
def amw:=UI++[kz]
def amx:=UI++[bw,gN]
def amy:=jI++[bv]
def amz:=Hv++[cM]
def amA:=Hy++[cM]
def Ld:List C:=[lu,uw,gz]
def xx:=fF++[nZ]
def amB:=xx++[cM]
def abV:=xx++[.ap]
def UJ:=abV++[cM]
def amC:=UJ++[gN]
def UK:=UJ++[.ap,gN]
def amD:=UK++[cM]
def abW:=UK++[.ap,cM]
def amE:=abW++[cM]
def pu:=RK.own 80
def amF:List LK:=[aR,.am pu,.am gN,.am cM]
def abX:=RE.cell sZ be 1 de
def abY:=AA cV abX
def UL:=yK abY
def UM:=aV kA
def amG:=CJ [UM,mO,UM,gz]
def amH:=abV++[.ap,.ap,.ap]
def amI:=amH++[.ap,.ap,cM,cM]
def amJ:=amI++[pu,gN,cM,pu]
def amK:=amI++[.ap]
def abZ:=amK++[gN,cM,pu,pu]
def AN:=RE.cell sZ be 3 bw
def UN:=vz (.len AN)
def OU:=zf a e f (zf b g h l AN) AN
def amL:=BE.not (OU 0 1 abz cV (iN 1) cV (OU 2 3 (iN 2) cV (iN 3) cV (OU 4 5 (iN 4) cV (iN 5) cV (OU 6 7 (iN 6) cV (iN 7) cV (OU 8 9 (iN 8) cV (iN 9) cV (Cg (iN 10) (Eu 10 AN) (Ch (iN 11) (Eu 11 AN) (iN 12) (Eu 12 AN))))))))
def AO:=yL a AN
def amM:=LE.lit [[aV abz,aV (iN 1),aV (iN 2),aV (iN 3),aV (iN 4),aV (iN 5),aV (iN 6),aV (iN 7),aV (iN 8),aV (iN 9),aV (iN 10),aV (iN 11),aV (iN 12)],[AO 0,AO 1,AO 2,AO 3,AO 4,AO 5,AO 6,AO 7,AO 8,AO 9,aV (Eu 10 AN),aV (Eu 11 AN),aV (Eu 12 AN)]]
def amN:=abZ++[kz]
def amO:=amK++[.ap,cM,pu,pu,bw,gN]
def amP:=xx++[gN]
def UO:=abV++[gN]
def amQ:=UO++[cM]
def ab0:=UO++[.ap,cM]
def amR:=ab0++[cM]
def amS:=amH++[cM,cM]
def amT:=amS++[pu,gN,cM,pu]
def amU:=amS++[.ap]
def ab1:=amU++[gN,cM,pu,pu]
def amV:=ab1++[kz]
def amW:=amU++[.ap,cM,pu,pu,bw,gN]
def UP:=db cV CC
def ab2:=db gM CC
def Le:=fu kA kP (iu kA)
def OV:=ab7 cP
def OW:=ln kA nx Ey
def UQ:=lM OV OV (.len OW)
def amX:=RE.cell OW OV 1 fh
def amY:=fu gM (.len amX) rE
def amZ:=fu gM (nY 15) rE
def EI:=RK.own 116
def ab3:=AA dD (ln be nV bw)
def UR:=fF++[de,.ap,fh,EI,fh,aJ]
def am0:=UR++[kz]
def am1:List C:=[pf,KJ,iv 23,OJ,iv 25,OK]
def am2:=UR++[.ap,bw,bv,de,bw,bw,fh,ja,EI]
def ab4:=db cP CC
def ab5:=db fC CC
def am3:=fu fC (.len (ln OV OW de)) GX
abbrev s8:=zf b (.cell A e a) f l B
abbrev iI:=T.aW l cq i
abbrev s9:=T.loop a L y (s6 e f i j)
abbrev Lf:=T.gE pN l i j
abbrev zg:=C.bool (.cell A e a)
abbrev ta:=C.int .u64 e
def tc:=lq e f cq i
def xz:=fD a i (.agg z) r w y L
abbrev gH:=qN a cV
def qP:=fw a yQ ky
def qQ:=fw a G3 nV
def zh:=T.aW l i cq
def rI:=fw a G4 mj
abbrev AP:=my a i j l [bh,dE] L
def rJ:=e9 cq cq i l m
def rK:=qN a lg
abbrev qR:=Lf (p7 a i w x yO) j l
abbrev HA:=jB e f (jB g h i gT) gT
def rL:=qN a jh
abbrev US:=BE.dg l pN (.dg m pN n)
abbrev uz:=K.cell Ci e a
def rM:=qN a dD
def rN:=qN a gM
abbrev rO:=qN a cP
def rP:=qN a CO
abbrev uA:=qN a KO
abbrev HB:=BE.dg l pN m
def vN:=fw a dD (ln be nV bw)
def vO:=fw a lg ou
def vP:=yL a ou
abbrev td:=my a i j l [bh,r] L
def vQ:=fw a jh nx
abbrev uB:=gh bh w
def vR:=fw a dD nx
def vS:=fw a vu nx
abbrev HC:=US l m (US n o p)
abbrev EJ:=gZ i (.and l m) (.and n o) p q
def EK:=gh (.bP [r,s,t]) w
abbrev CU:=AP a (dp i m n) j l L
abbrev CV:=dp (e9 i j k n o) l m
abbrev zi:=fw a e jA
def OX:=C.bool (HB l m)
abbrev xA:=iB a i r [] y
abbrev ab6:=dp (pl i) pN pN
abbrev CW:=yN e f .sub
def HD:=tc (.v a) be i
def OY:=s8 a b dD e (s8 c d dD f l ou Ay) ou Ay
abbrev zj:=nz a i j l ku w y
abbrev OZ:=T.aj F (.ins D a y) w i
abbrev O6:=s8 a b be e (s8 c d be f l xq xq) xq xq
abbrev p8:=db e be
abbrev EL:=fw a et mj
abbrev vT:=iH e fq
abbrev EM:=fw a gM mj
abbrev HE:=oE e bX f g i j (ab6 k)
abbrev Lg:=BE.and l (ll mR)
def AQ:=s9 a e f cq i y L
abbrev AR:=Hx a i l pN w x D
def EN:=e9 cq i cq l m
abbrev EO:=kN e be i j
def T82:T:=mo bC ce GB iR
def O7:T:=zj 44 pM (zd 44 pM (nz 44 pM (nz 44 pM (dp (nz 82 pM (nz 82 pM (nz 82 pM (nz 82 pM (nz 82 pM (fD 83 (GH nS be pM pM (jy (.aW (Ch fC dD gM i8) pM ZJ) ZJ ZJ (gm nS) (Ch be fC bX gM)) (im wR)) mP oo qC [.agg [bh,e8],NJ] qE) (mh 8) GD qC [mO,zg 2 da kw,e8,ol]) (mh 7) D0 qC [gR,.bool (nq (lK 5 da) be),e8,Cu 5 da]) (mh 6) Cf qC [gz,.bool (nq (lK 4 da) be),e8,Cu 4 da]) JS An qC [fk,zg 1 da kw,Cu 3 da,DZ]) Am ud qC [ru,zg 0 da kw,e8,yE]) (fu da DY GC) (fu da fq GC)) yD uc qC [jS,e8,ub]) Al qD qC [j6,bh,CW lg bX]) qC [lf,bh,CW jh bX]) jG qC [nQ,e8,aV (.c 9)]
def ab8:T:=jB ce bC GB iR
def am4:T:=rJ (iI (kN ce vg cq (iI (kN (sP bC ce) jH cq (Ar (aV (sP bC ce)))) (gm bC))) (p8 ce)) (p8 bC) (nq bC jH)
def am5:T:=rJ (gZ (EK (fw 0 D6 Ci) (fw 1 D6 Ci) bh qC) ajD ajE ajD ajE) (db bC bX) (nq bC jH)
def UT:T:=xA 125 (lq da be wS (nW 125 wS (xA 119 (Ar fk) fk [aV ZK,aV ZL]) (im iA) ru [] (vo [j6,jS]))) nQ (vo [lj,lf])
def UU:T:=oE ce bX ce D8 Ap Ap (oE bC JU bC D8 Ap Ap (gj 167 (gj 166 (lq eB bX Ap pR) (ta eB) [] [ta eh,ta (NQ ce)] [NM]) (ta eh) [] [lj] [NM]))
def UV:T:=.aW (p8 bC) (jw (ta (.bin .sub .u64 be (NQ bC)))) (jw (ta (NQ bC)))
def UW:T:=sN ce (jw (ta bC)) (my 0 (.bz (im (ug da bX)) (sN ajF (jw (ta da)) (Hg [ta eB,ta da,ta ajF]))) (jw (ta eh)) SM [ta ce,ta bC,ta ce] [NM,NM,NM])
def UX:T:=pV 162 (pV 162 (e9 (.aW yB pR (jw D9)) JV (oE bC ce bC ce (jw D9) JV pR) ua yB) lJ [lf]) ku [lj]
def UY:T:=wQ (Ao bC bC)
def T66:T:=oE bC uh bC ui iR iR (oE ce uh ce ui iR iR (oE eh uh eh ui iR iR (oE eB uh eB ui iR iR (GU (wQ ZM) SN))))
def T72:T:=qI 112 nT (qI 112 nT ajG yC lJ [ZN]) jG ku [Aq]
def T69:T:=fD 74 (wQ NO) ZN gR [] [Aq,Aq] nU
def acd:T:=pV 112 (e9 nT qG (e9 qG qG (.aW ZQ qG (qI 112 qG (Ar ZS) yC lJ [ZS])) ajH ZP) jG (db da ZO)) ku [Aq]
def T24:T:=qI 112 cq (qI 112 cq (sU bC da ce iA (mo eh et (Ar (.bool (f8 eB cP))) cq) cq cq) yC lJ [ZN]) jG ku [Aq]
def ace:T:=.aW jG (wQ (gm bC)) (pV 44 (jw lJ) lJ [lj,lf,j6])
def UZ:T:=s9 0 eh eB (Hz (mu (jk GI) jS) (mu j6 (aV GI)) (lM GI GI fq) (lM GI GI fq) (nq (wX GI) ce)) (dp (.bz (lM GJ GJ fq) (gh (Co (lK 1 GJ) (rz (uf ce (wX GJ)) (lK 2 GJ))) sQ)) pN (lM GJ GJ fq)) [bh,SQ] qE
def T70:T:=jB ce bC GB iR
def T65:T:=nW 19 (rG 72 (GO e8) (GO gz) jG ku [fk,bh,SR]) (GO gz) JX gz iM yH
def T18:T:=fD 94 (zh (pP (.bool (gm yJ)) gz [bM,bL,bN,bO,aS,cE,bv,de,bw,bw,fh,ja,.sl 251]) JX) Ee gz Cm [mi,SS,nu,.agg [fk,vj,yI,Ed,ov,vk]] [.am (.sl 251),aR]
def U0:T:=e9 SU SU (nW 43 (GO fk) (rG 44 vl (rG 44 vl (iB 45 (e9 vl vl (e9 vl vl (AE 0 (rG 44 vl (rG 44 vl (rG 44 vl SX Am ud [Cu 3 eu,bh,aV vg]) yD uc [Cu 2 eu,bh,lf]) Al qD [Cu 1 eu,bh,lj]) (td 1 (dp (jB SZ fC vl (kN SZ pT vl (rG 46 vl (jT 1 sS (aV SZ)) Al qD [.agg ajM,SQ,ru]))) JZ JZ) (uB iM) SY D9 qE) NR wV NR (.and wV NR)) (p8 eB) (gm fq)) vn (p8 eh)) gz iM (vo [j6,jS,nQ])) yC lJ [lf,e8,GP]) jG ku [lj,e8,GP]) JY fk iM ajL) (nq fq (.c 64)) (nq qH Ef)
def T86:T:=Lf (mz 4 (gh Ck [de,de]) NS [de] [de,Eg] S3) (gh dE [de]) S2
def T87:T:=Lf (mz 74 (gh Ck [bw,bw]) NS [bw] [bw,kz] S3) (gh dE [bw]) S2
def T88:T:=Lf (mz 104 (gh Ck [dK,dK]) NS [dK] [dK,.own 104] S3) (gh dE [dK]) S2
def anb:T:=iB 222 (GA (qK eB be) [dK]) jS [dK] [As,jz lj lf j6 ku]
def anc:T:=po (zh (gh jS [dK]) (Cg bC NT (Cg ce GQ (zf 2 eh eB (.beq ua (.cell kw eB 3)) kw)))) cq (ow eB) J0 J0
def U4:T:=e9 Cp Cp (.bz J1 (iB 103 (lq bC oj Cp (Hm 0 (.bz Cq (iB 103 (lq eh oj (lq eh j7 (lq eh wY Cp J3) J3) J3) j6 pU [.int .u8 (.mV kw ce)])) J2 pU)) lj pU [.int .u8 NU])) (.seq kw (.k (.string ⟨#[]⟩))) (nq fq (.c 32))
def T77:T:=nW 19 (pP dE gR iM) (rG 44 J4 (rG 44 J4 (CU 0 (jx (uj 1 cV) et (jx (uj 2 cV) cP (oF 97 (mu sS nu) (ll ny) ZV ZX ajM S4) (mu sS ot)) (mu sS ot)) (.dO 114 115 97 (.ratio 10 11) J mj ZV (gh ZY S5)) SY JZ JZ (rA iS)) yC lJ [gz,bh,SR]) jG ku [fk,bh,aV (ab7 fq)]) uk gR iM yH
def aci:T:=e9 ajP ajP (e9 iR (.aW (iH da wY) ajN Z0) Z0 (Ao jh bC) jG) (iH da j7) (iH da qJ)
def acj:T:=mo bC ce GB iR
def U5:T:=sU bC (.c 97) bC (.c 122) (jw yE) ajS ajS
def Lh:T:=pV 71 (e9 Cs (lL Cs (mo iA Ef Cs (jB S9 et (s7 et pT Cs (jB S9 cP (e9 Cs (s7 eu (.c 4095) Z1 (gj 111 (.aW J5 qG (oF 129 (gj 111 (.aW (im mQ) (pP NN yE [ja]) (oF 129 (gZ (gj 74 (gh Tb [.ap,ja]) Tb [.ap,.ap] [jz (zi 0 be) (zi 1 be) (zi 2 be) (zi 3 be),jz (zi 0 bX) (zi 1 bX) (zi 2 bX) (zi 3 bX)] nU) (xw pi) (xw pi) (db bX pi) (db bX pi)) NS [mq] [.ap,mq] Z4 (.am kw))) ajV [.ap] [Aq,xk ajU et,xk ajU cP] nU) pN [] [mq] Z3 yO)) Ta [] [Aq,xk ajT et,xk ajT cP] nU)) Z1 (vx cP pT) wV) Cs)) Cs)) (f8 da iA)) Cs jG GC) ku [Aq]
def ane:T:=iI (Lf (mz 97 (.dO 117 118 97 Z6 E Ci Z5 (CU 0 (td 1 (dp (jx (fP ce yG) J7 (dp (zj 120 (dp (oF 226 (mu (jk bC) nu) (ll ny) [aS,dK,.ap,iS,.ap,NV] [aS,dK,.ap,iS,.ap,.ap,NV] [aV J7,oA 1,oA 2,oA 3,oA 4,oA 5,oA 6,oA 7,oA 8,oA 9,aV Z8,aV Z9,aV aaa,oA 13,zi 0 ce,aV J8,aV NW,zg 3 ce jA] S4) At At) cq ua [aS,dK,.ap,.ap,.ap,.ap] [.agg ajW,JW J8 (zi 0 ce) (aV NW) (zg 3 ce jA)]) At At) cq) Te Te) cq Z7 GM J6) (pP GM GG [aS,dK,.ap,aS,Cv]) GV pj pj J6)) NS [aS,dK] Z5 S3) cq S2) Td
def T27:T:=iB 29 (HD 29 (EF 38 (EN (jy (jy (pS (jz (CW aab Tf) (Co aab Tf) (CW aac Tf) (Co aac Tf)) pU) cq cq (gm fC) (gm dD)) cq cq Ka NO) (pO 30) (gm da)) Cw pU [As,pf,ol,oz,mP,oo,ph,oq,qF,ue,yP,yR,wZ,yT,yU,yV,w6])) yS pU ajX
def O8:T:=yW (pV 57 (e9 pW (Ke (pV 57 (e9 pW (Ke (pV 57 (e9 pW (Ke (pV 57 (e9 pW (Ke (pV 57 (e9 pW (pV 57 (lL pW (pV 57 (lL pW pR (.v 12)) (mg 12) N1) (.v 11)) (mg 11) N0) pR (mh 10) NZ) Kd Ti) (mh 9) (mg 9) Th) ajY (mh 8) Tg) GD aaf) (mh 7) D0 aae) aj0 (mh 6) aad) Cf [fk,e8,ub]) JS An [ru,bh,DZ]) aj3 Am (NY Kc Ka)) ud [nQ,e8,ub]) yD uc [jS,bh,DZ]) (e9 (yW aj3 yD Am uc ud [ru,bh,DZ] [fk,e8,ub]) (yW aj2 yD Am uc ud aae aaf) (e9 (yW aj1 yD Am uc ud Th Ti) (yW pR yD Am uc ud N0 N1) pR Tg NZ) (NY Kc Ka) aad) Al (.not (Cg eB be (gm da)))) qD [j6,bh,aV vg]) jG yC ku lJ [lj,aV JU,aV D8] [lf,aV JU,aV D8]
def U6:T:=my 0 (.bz SM (mu (yN da eB .rem) jS)) (my 1 (.bz (im iA) (jT 1 (yN et iA .rem) ru)) (my 2 (.bz vn (jT 2 (yN eu cP .rem) gz)) (dp (.bz (im Kf) (jw (.agg [yN bC Kf .quo,yN ce Kf .quo,yN eh Kf .quo]))) (im Kf) (im Kf)) vn [j6,fk] qE) (im iA) [lf,nQ] qE) SM [lj,bh] qE
def U7:T:=e9 ul ul (oE (Cj bC ce) aah (ug bC ce) eh ul ul (.aW aj5 ul (gj 81 (lL ul pR (Cg eB bC (Ch da ce iA eh))) (.agg [jS,nQ,ru]) [] (vo [lj,lf,j6]) [aR,aR,aR]))) aag aj4
def U8:T:=sT 68 (e9 f9 f9 (kN bC Kg f9 (GH eh qJ f9 f9 (oE iA bX iA jH f9 f9 (oE et bX et jH f9 f9 (GH cP jH f9 f9 (oE lg be lg pT f9 f9 (dp (HE gM gM j7 oB oB (HE dD dD j7 oB oB (HE i8 i8 j7 oB oB (HE eu eu pT oB oB (HE cV cV pT oB oB (HE fC fC pT oB oB (HE eB eB yX oB oB (GH da yX oB oB (ab6 (GH ce Kg oB oB (ab6 (oE jh be jh pT oB oB (pl (uB pU)))) (p8 ce))) (p8 da))))))))) pN pN)) (db cP bX)))) aag)) jG (db bC bX)) ku pU [As]
def T23:T:=nW 113 (pP dE gz iM) (CU 0 (jx Tj et (jx (uj 4 eu) vg (lq aai Ki (OZ 2 aaj [bM,bL,bN,bO,aS,Cx] [aV (Cj Ki aai),aV (ug Ki aai),GG] S4 Cx) aak) aak) aak) (AP 1 (s9 2 fC fq (.aW (.look mj 2 cV fC be 2) (oF 177 (jT 2 Eh yI) (ll jU) [bM,bL,bN,bO,aS,Cx,.ap,N3] [bM,bL,bN,bO,aS,Cx,.ap,.ap,N3] [mO,kM] Tl) (jT 2 Eh vj)) (jT 1 sS vj) [bh,nu] Tk) (gh ZY [bM,bL,bN,bO,aS,Cx,jR]) (ow cV) Tk) N2 um um (rA Cx)) vn gz iM Kh
def U9:T:=fD 77 (.aW uk (gh gR w8) (lq kO ny (gh Tn w8) (Lf (j8 97 (.dO 117 118 97 Z6 E ky aj6 (CU 0 (td 1 (dp (jx (fP fC nx) (fP cV Cl) (dp (zj 120 (dp (oF 226 (mu sS vk) Ei [bM,bL,bN,bO,aS,dK,aS,.ap,iS,.ap,NV] [bM,bL,bN,bO,aS,dK,aS,.ap,iS,.ap,.ap,NV] [gH 0,gH 1,gH 2,gH 3,gH 4,gH 5,gH 6,gH 7,gH 8,gH 9,gH 10,gH 11,gH 12,gH 13,fw 0 fC mj,fw 1 fC mj,fw 2 fC mj,zg 3 fC mj] Ej) Tt Tt) (jT 1 Eh ov) ua [bM,bL,bN,bO,aS,dK,aS,.ap,.ap,.ap,.ap] [.agg [gH 0,gH 1,gH 2,gH 3,gH 4,gH 5,gH 6,gH 7,gH 8,gH 9,gH 10,gH 11,gH 12,gH 13],jz (fw 0 fC mj) (fw 1 fC mj) (fw 2 fC mj) (zg 3 fC mj)]) Tt Tt) (jT 1 Eh ov)) Ts Ts) (gh Tn [bM,bL,bN,bO,aS,dK,aS,.ap,aS,.ap,Cv]) Tq Ed J6) (uB [bM,bL,bN,bO,aS,dK,aS,.ap,aS,Cv]) Tp Kl Kl J6)) To w8 aj6 yO Kk) (.dO 117 118 97 Z6 E ZU w8 (CU 0 (td 1 aal (gh Tn [bM,bL,bN,bO,aS,dK,aS,aS,.ap,Cv]) (p8 fC) yI J6) (uB [bM,bL,bN,bO,aS,dK,aS,aS,Cv]) Tp Kl Kl J6)) (f8 kO be)))) nu gR Tm N4 Kj
def T89:T:=fD 77 (iI (iB 29 (HD 22 (fD 78 (iI (my 0 (dp (xz 195 (rJ (Hg [jk yQ,Km,Ko,G0,G1,G2,Kq,N5,Kr,Ks,Kt,Ku,Kv,Kw,Km,Ko,G0,G1,G2,Kq,N5,Kr,Ks,Kt,Ku,Kv,Kw]) (pO 63) (pO 63)) (bi 63) aj9 [.agg [bi 37,aV vu,bi 39,aV Cy,aV nX,bi 42,bi 43,bi 44,bi 45,bi 46,bi 47,bi 48,bi 49],.agg [qP 0,qP 1,qP 2,qP 3,qP 4,qP 5,qP 6,qP 7,qP 8,qP 9,qP 10,qP 11,qP 12,qP 13],jz (qP 14) (qP 15) (qP 16) (zg 17 yQ ky)] [Km,Ko,G0,G1,G2,Kq,N5,Kr,Ks,Kt,Ku,Kv,Kw] GY) aj8 aj8) (pS (.agg [wZ,yT,yU,yV,w6,yS,Cw,Ek,Kx,N6,N7,Tv,N8]) aj9) (db yQ jU) [bh,gR,mO,kM,nj,nl,pf,ol,oz,mP,oo,ph,oq,qF,gR,mO,kM,nj,nl,pf,ol,oz,mP,oo,ph,oq,qF] [aR,aR,aR,aR,aR,aR,aR,aR,aR,aR,aR,aR,aR,aR,aR,aR,aR,aR,aR,aR,aR,aR,aR,aR,aR,aR,aR]) jG) vj ku w8 [nu,ot] [.am Cv,.bool])) yP w8 [Tu]) (pO 21)) nu ue Tm N4 Kj
def anh:T:=xA 29 (EN (qI 57 (qI 57 (qI 57 (qI 57 (pV 57 (EN (qI 57 (qI 57 cq (tc Au i8 (EN (fD 154 (gj 324 (dp (xA 29 (iI (Ar akf) (im uo)) N8 [akf]) (lM vw vw wY) (HC (gm vw) (oC vw) (rC vw) aam (HB aan Ce))) (.bP [N6,N7,Tv]) [] [Ek] [aR,aR,aR]) Ek Kx [] [oq,j6] qE) ua xe)) (mh 7) D0 [yS,akd,ake]) cq (.v 6) Cf [w6,aV (xf akb xe yY),aV (xf akc xe yY)]) ua (.v 5)) An [ue,aV (pX bX bX (xf (pX be bX Tw CB Em) Cz CA) xe yY),aV (pX yX yX (xf (pX be vg Tw CB Em) Cz CA) xe yY)]) cq (.v 4) ud [qF,akd,ake]) cq (.v 3) uc [oq,aV (pX bX bX akb xe yY),aV (pX jH jH akc xe yY)]) cq (.v 2) qD [ph,aV (pX bX be (pX bX bX (.dg CB be aka) Cz CA) xe yY),aV (pX oj be (pX oj oj (xf (xf (.dg Ob oj be) N9 Oa) CB Em) Cz CA) xe yY)]) cq yB lJ ZZ) (pO 30) (HC xe yY Cz CA (HC CB Em N9 Oa (HB Ob Ce)))) Cw ajX
def Va:T:=jB (ug fq pi) Ef (s7 D7 (.c 256) Oc (jB bX bC (.aW (f8 bC Ef) (EO fq (Hz gT (td 0 (dp (HA Aw Ax Ax D6 (jB Tx (lK 1 ce) (.aW akg (jB Tx (lK 2 ce) (.aW akh gT (mu GS (aV Ax))) gT) gT) gT)) Cq Cq) (s9 1 eB bC (iB 123 (jB bX da (s7 da Kz gT (ji 1 (jk eB))) gT) nQ sQ [Od,jS]) (td 2 (dp (HA Z2 aap aap (uf bC oj) (HA bX (sW 1 da) (sW 1 da) oj (HA be (sW 2 da) (sW 2 da) (sW 3 da) (s7 (sW 3 da) pT gT (jT 2 (jk da) (aV aap)))))) (.and GC aao) (.and GC aao)) (AE 3 (HA be aar aar bC (HA be (uz 1 et) (uz 1 et) bC (lq aar (uz 1 et) (HA uh (uz 2 et) (uz 2 et) (uz 3 et) (s7 (uz 3 et) ui gT (.back 3 [jk et]))) gT))) (uB sQ) aaq KC aaq (.and KC aaq)) aao D9 qE) wU [aR]) J2 D9 qE) J1 J1 (gm (wX be))) gT) gT) gT)) Oc
def T13:T:=iB 19 (rJ (mo et iA cq (jy (jy cq (CI 0 (gZ (gZ (nW 38 (iB 29 (EN (iB 42 akj nj KD [mi,gR,fk,qM 0 eu ou dK]) aat (ux eu ky)) kM KD aki) cq vp mO KD aas) KE KE (fu eu qL wV) (fu eu qL wV)) En En Tz Tz) (gj 97 (gj 98 (my 1 (gZ (gZ (gj 99 (oF 105 (zh (xz 100 (iI (xz 101 (tc J9 be (oF 74 (oF 129 (.back 1 [sS,rD,uq,ur]) G6 akr [bM,bL,bN,bO,aS,cE,bv,de,bw,fh,de,bw,.ap,.ap,.ap,dK,pm,kz,mq] [wZ,yT,yU,yV] CE) (ll yJ) akm akr akq CD)) w6 akp [mi,mO,fk,akn,.agg [Eo 0 cV,gH 1,gH 2,gH 3,gH 4,gH 5,gH 6,gH 7,gH 8,gH 9,gH 10,gH 11,gH 12,gH 13,gH 14,gH 15,gH 16],aav] [wZ,yT,yU,yV] nU) (im yQ)) yR akp [mi,mO,fk,akn,aav] akq GY) (ux cV ky)) G5 [bM,bL,bN,bO,aS,cE,bv,de,bw,fh,de,bw,kz,pm,mq,dK] akm [xg] KG) xg [bM,bL,bN,bO,aS,cE,bv,de,bw,fh,de,bw,.ap,.ap,.ap] [aav] [.am dK]) (vz kP) (vz kP) TF TF) Kl Kl KF KF) (pS (.agg [fk,ov,vk,Ee,vD,pn]) [bM,bL,bN,bO,aS,cE,bv,de,bw,fh,de,bw,bw,fh,ja]) Tp [bh,dE,dE,dE] akk) vk [bM,bL,bN,bO,aS,cE,bv,de,bw,fh,de] [yI] [TC]) ov KD [vj] TA) Oe) cq (vT kP) (.not (vT qL))) cq cq (vT kO) (vT jU))) vn (p8 et)) gz KD yH
def T16:T:=iB 19 (rJ (zh (s6 et iA (zh (EN (jy (lL cq (CI 0 (gZ (gZ (nW 38 (iB 29 (EN (iB 42 akj nj Cm [mi,gR,fk,qM 0 eu wT dK]) aat (ux eu ky)) kM Cm aki) cq vp mO Cm aas) KE KE nA nA) En En Tz Tz) (CI 1 (gZ (fD 74 (sN jh (dp (EF 29 (lL cq TG S7) oz Cm [vP 0,vP 1,vP 2,vP 3,vP 4,vP 5,vP 6,vP 7,vP 8,vP 9,vP 10,vP 11,vP 12]) TF TF) cq) (jz kM nj nl pf) ol Cm [aks,aks] nU) ut ut ut ut) (CI 2 cq (gj 97 (gj 98 (my 3 (EJ (gZ (gj 99 (oF 105 (zh (xz 100 (iI (xz 101 (iI (oF 74 (oF 129 (.back 3 [TJ,vG,ur,yZ]) TH akA [bM,bL,bN,bO,aS,cE,bv,de,bw,bw,fh,ja,de,bw,.ap,.ap,.ap,dK,pm,kz,mq] [yU,yV,w6,yS] G8) G6 aku akA akz CE) (pO 30)) Cw aky [mi,nj,fk,akv,.agg [Eo 0 gM,rN 1,rN 2,rN 3,rN 4,rN 5,rN 6,rN 7,rN 8,rN 9,rN 10,rN 11,rN 12,rN 13,rN 14,rN 15,rN 16],aay] [yU,yV,w6,yS] nU) (pO 25)) yT aky [mi,nj,fk,akv,aay] akz GY) (ux gM ky)) G7 [bM,bL,bN,bO,aS,cE,bv,de,bw,bw,fh,ja,de,bw,kz,pm,mq,dK] aku [rD] KH) rD [bM,bL,bN,bO,aS,cE,bv,de,bw,bw,fh,ja,de,bw,.ap,.ap,.ap] [aay] [.am dK]) (fu gM kP rE) (fu gM kP rE) (fu gM kA rE) (fu gM kA rE)) rE (rB gM) rE (rB gM) (fu gM jU rE) (fu gM jU rE)) (AP 4 (EJ (gZ (gZ (lL cq (gZ (fD 145 (rJ (zh (fD 77 (iI (td 5 (dp (xp 6 (jx (fP nS Ep) (fP lg vC) (fD 185 (iI (dp (zd 186 cq (Cr (.cell vC lg 4) vg (.cell vC lg 4) jH cq cq (jT 5 TO vG)) [bM,bL,bN,bO,aS,cE,bv,de,bw,bw,fh,ja,de,bw,.ap,.ap,.ap,pZ,aS,pZ,dK] [yZ,jz (fw 0 nS Ep) (fw 1 nS Ep) (fw 2 nS Ep) (zg 3 nS Ep)]) TN TN) (im wR)) yZ oo akD [mi,fw 0 lg vC,.agg [Eo 0 dD,rM 1,rM 2,rM 3,rM 4,rM 5,rM 6,rM 7,rM 8,rM 9,rM 10,rM 11,rM 12,rM 13,rM 14,rM 15,rM 16]] [.am dK,aR]) cq) cq (AA nS Ep) TN TN) (.and KI aaA) (.and KI aaA)) (fD 188 (iI (AQ 6 wR (nY 20) (jT 4 TP AB) [bh,vG] Og) (im nS)) yZ mP akD [mi,nl,fk,.agg [vR 0,vR 1,vR 2,vR 3,vR 4,vR 5,vR 6,vR 7,vR 8,vR 9,vR 10,vR 11,vR 12],nu,.am Ep] [.am (.sl 295),aR]) aaA rD Og) (im jh)) ur ol TL [mi,nl,fk] Kj) (ux dD ky)) J5 jG) ku pf TL [jz (fw 0 dD CF) (fw 1 dD CF) (fw 2 dD CF) (fw 3 dD CF),jz (fw 0 dD nV) (fw 1 dD nV) (fw 2 dD nV) (fw 3 dD nV)] Oi) akC akC (fu dD mR s4) (fu dD mR s4)) (zf 0 aaz dD (OY 1 1 2 2 dD dD (OY 3 3 4 4 dD dD (OY 5 5 6 6 dD dD (OY 7 7 8 8 dD dD (OY 9 9 10 10 dD dD (s8 11 11 dD dD (iH (.cell ou dD 12) (.cell Ay dD 12)) ou Ay)))))) Ay)) TK TK akB akB) (fu dD kP s4) (fu dD kP s4) (fu dD kA s4) (fu dD kA s4)) s4 (rB dD) s4 (rB dD) (fu dD jU s4) (fu dD jU s4)) (fD 75 (iI (AP 5 (EJ (xz 102 (iI (oF 129 (jT 5 Oj yZ) (vE 19) [bM,bL,bN,bO,aS,cE,bv,de,bw,bw,fh,ja,de,bw,kz,pm,mq,pZ,jR,mq] [bM,bL,bN,bO,aS,cE,bv,de,bw,bw,fh,ja,de,bw,kz,pm,mq,pZ,jR,.ap,mq] [oz,mP,oo,ph] (pY 19)) (im GF)) oq [bM,bL,bN,bO,aS,cE,bv,de,bw,bw,fh,ja,de,bw,.ap,.ap,.ap,pZ,jR,.ap] [.agg [vQ 0,vQ 1,vQ 2,vQ 3,vQ 4,vQ 5,vQ 6,vQ 7,vQ 8,vQ 9,vQ 10,vQ 11,vQ 12],.agg [Eo 0 jh,rL 1,rL 2,rL 3,rL 4,rL 5,rL 6,rL 7,rL 8,rL 9,rL 10,rL 11,rL 12,rL 13,rL 14,rL 15,rL 16]] [oz,mP,oo,ph] nU) CG aaB CG aaB (.and CG (rB jh)) (.and CG (rB jh))) (AP 6 (EJ (xz 102 (tc NK be (oF 129 (jT 6 TO AB) (vE 20) [bM,bL,bN,bO,aS,cE,bv,de,bw,bw,fh,ja,de,bw,kz,pm,mq,pZ,jR,mq,mq] [bM,bL,bN,bO,aS,cE,bv,de,bw,bw,fh,ja,de,bw,kz,pm,mq,pZ,jR,mq,.ap,mq] [mP,oo,ph,oq] (pY 20))) qF [bM,bL,bN,bO,aS,cE,bv,de,bw,bw,fh,ja,de,bw,.ap,.ap,.ap,pZ,jR,.ap,.ap] [.agg [vO 0,vO 1,vO 2,vO 3,vO 4,vO 5,vO 6,vO 7,vO 8,vO 9,vO 10,vO 11,vO 12],.agg [Eo 0 lg,rK 1,rK 2,rK 3,rK 4,rK 5,rK 6,rK 7,rK 8,rK 9,rK 10,rK 11,rK 12,rK 13,rK 14,rK 15,rK 16]] [mP,oo,ph,oq] nU) KI aaC KI aaC (fu lg kO KI) (fu lg kO KI)) (dp (fD 190 (iI (AQ 7 wR (nY 21) (AQ 8 mQ Az (.loop 9 [.am (.own 243),.am KK] [dE,dE] (.pick (nY 23) (.not (.has (.v 25) 1 GF be be)) (f8 (nY 23) (nY 25)) cq (.dO 148 149 243 (.lex [0,1,2] E) E (.v 24) [bM,bL,bN,bO,aS,cE,bv,de,bw,bw,fh,ja,de,bw,kz,pm,mq,pZ,jR,ja,mq,TQ,pZ,pZ,.own 243,KK] (AQ 10 GF (nY 26) (pS Ol [bM,bL,bN,bO,aS,cE,bv,de,bw,bw,fh,ja,de,bw,bw,fh,ja,pZ,jR,ja,ja,TQ,pZ,pZ,.ap,KK,.sl 243,.sl 251]) [bh,dE] (rA (.own 251)))))) [bh,KJ] Og) [bh,rD] Og) (im nS)) AB mP [bM,bL,bN,bO,aS,cE,bv,de,bw,bw,fh,ja,de,bw,.ap,.ap,.ap,pZ,jR,ja,.ap] [mi,SS,fk,vk,vG,ur] [.am TQ,aR]) pN pN) aaC [aR,TE]) aaB [aR,TE]) J5) ur pf TL Kh [.am jR,aR]) (rB dD) Og) (rB gM) [bh,dE,dE,dE] akk) vD [bM,bL,bN,bO,aS,cE,bv,de,bw,bw,fh,ja,de] [yI] [TC]) Ee Cm [vj] TA) (db fC ny)) (ow cV)) Oe) (vT kA)) cq cq (vT jU) (vT kP)) (.not (vT mR)) (vT kO)) (vT qL)) cq) Of) vn aaw) gz Cm yH
def ank:T:=iB 19 (rJ (sT 72 (rJ (tc jU fq (po (zd 71 cq SX Om [jz (oD 0) (oD 1) (oD 2) (oD 3)]) (xp 1 (zd 71 cq TG Om [jz (yL 0 ky) (yL 1 ky) (yL 2 ky) (yL 3 ky)]) (my 2 cq (my 3 cq (AQ 4 dD be (s9 5 i8 kO (AQ 6 jh fq (jT 5 On xg) [On,pn] xj) (td 6 (AQ 7 lg fq (jT 6 Oj uq) [Oj,xg] xj) (s9 7 lg jU (AQ 8 nS fq (jT 7 TO rD) [TO,uq] xj) (s9 8 nS jU (my 9 cq (jT 8 (jk nS) ur) (ow wR) [jk nS,rD] xj) (td 9 (AQ 10 mQ mR (jT 9 (jk wR) vG) [bh,ur] xj) (s9 10 mQ fq (dp (fD 145 (dp (fD 145 (rJ (jT 10 (jk mQ) vG) yC Al) qD qF akG [jz (fw 0 mQ ky) (fw 1 mQ ky) (fw 2 mQ ky) (fw 3 mQ ky),akF] Oi) akH akH) lJ oq akG [jz (qN 0 mQ) (qN 1 mQ) (qN 2 mQ) (qN 3 mQ),akF] Oi) akE akE) (pS vG [bM,bL,bN,bO,aS,cE,ja,ja,jR,.ap,Cx,ja,.ap,.ap,.ap,.ap,.ap,.ap,.ap,TQ]) [bh,ur] xj) (ow wR) rD xj) [bh,uq] xj) [bh,xg] xj) (rB jh) pn xj) [bh,vD] xj) [bh,Ee] xj) TR [bh,dE,Ed] [aR,TE,aaD]) Tq [bh,dE,dE] [aR,aaD,.am Cx]) aau KF KF) Oe En En)) jG (Ao kO fq)) ku Om [fk,bh,SR]) vn aaw) gz Om yH
def T78:T:=xz 220 (iI (EF 38 (rJ (jy (pl (kN (.v 31) fC cq (nC 104 (tc (.v 26) bX (gh ZY [bM,bL,bN,bO,aS,.str,dK])) aaE [bM,bL,bN,bO,aS,.str,.own 104] [yR,bh,bh,oh]))) cq cq (HC (oC Au) (rC Au) (iH Au j7) (iH Au qJ) (US (iH Au wY) (iH Au (.c 9)) Ce)) (oC Au)) (im vu) (pO 37)) (aV vu) aaE [ot,gz,gR,mO,kM,nj,nl,pf,ol,oz,mP,oo,ph,oq,qF,ue,yP]) (pO 37)) (bi 37) aaE Kh [yR,wZ,yT,yU,yV,w6,yS,Cw,Ek,Kx,N6,N7,Tv,N8] [aR,aR,aR,aR,aR,aR,aR,aR,aR,aR,aR,aR,aR,aR,aR]
def T90:T:=fD 77 (iI (iB 29 (iI (EF 38 (HD 39 (fD 78 (iI (my 0 (dp (rJ (dp (my 1 (EJ (.back 1 [jk nX,OX (gm xl) (.v 7),OX (oC xl) (.v 8),OX (rC xl) (.v 9),OX (iH xl j7) (.v 10),OX (iH xl qJ) (.v 11)]) TU aaF TU aaF (lM xl xl wY) (HC (gm xl) (oC xl) (rC xl) (iH xl j7) (HB (iH xl qJ) Ce))) (dp (AQ 2 (.v 42) (.len (.cell jA Es 1 aq)) (Hg [jk Cy,.bool (iH Es (.c 6)),mg 12,mg 13,mg 14,mg 15,mg 16]) [bh,D0,GD,mg 9,Kd,mg 11] akL) akJ akK) aaF [bh,qD,uc,ud,An,Cf] akL) akJ akK) (.cell nV Cy 17) yB) akI akI) (my 1 (gZ (.bz (HC (gm nX) (oC nX) (rC nX) aaH (HB aaI Ce)) (e9 (fD 74 (.back 1 [jk nX,bi 46,bi 47,bi 48,bi 49]) TX Km G9 [aaJ,JW TW (CW be TW) (CW be TW) (aV TW)] nU) cq (tc (pX dD jh (Ky nS mQ NK be (rC nX) aaH aaI) (gm nX) (oC nX)) be (.back 1 [jk nX,bi 42,bi 43,bi 44,bi 45])) (.dg (gm nX) (.v 2) (.dg (oC nX) (.v 3) (.dg (rC nX) (.v 4) (.dg aaH (.v 5) (.dg aaI (.v 6) Ce))))) yB)) (.and TU aaG) (lM Et Et j7) (US (gm Et) (oC Et) (HB (rC Et) Ce)) (.and TU aaG)) (fD 111 (HD 50 (fD 74 (my 2 (dp (xz 195 (iI (fD 111 (HD 92 (iI (fD 74 (iI (.back 2 [jk G3,bi 93,bi 94,bi 95,bi 96,bi 74,bi 75,bi 76,bi 77,bi 78,bi 79,bi 80,bi 81,bi 82,bi 83,bi 84,bi 85,bi 86,oh]) (pO 87)) (jz (bi 93) (bi 94) (bi 95) (bi 96)) (bi 97) G9 [akO,akN] nU) (.v 7))) akN (bi 92) G9 [aaJ,xk Kb (.v 74),xk Kb (.v 75)] nU) (pO 87)) (bi 87) G9 [.agg [Kv,Kw,bi 63,bi 64,bi 65,bi 66,bi 67,bi 68,bi 69,bi 70,bi 71,bi 72,bi 73],.agg [qQ 0,qQ 1,qQ 2,qQ 3,qQ 4,qQ 5,qQ 6,qQ 7,qQ 8,qQ 9,qQ 10,qQ 11,qQ 12,qQ 13],jz (qQ 14) (qQ 15) (qQ 16) (zg 17 G3 nV)] [bi 74,bi 75,bi 76,bi 77,bi 78,bi 79,bi 80,bi 81,bi 82,bi 83,bi 84,bi 85,bi 86] GY) akM akM) (pS akO G9) (db G3 mR) [bh,Ko,G0,G1,G2,gR,mO,kM,nj,nl,pf,ol,oz,mP,oo,ph,oq,qF,oh] [aR,aR,aR,aR,aR,aR,aR,aR,aR,aR,aR,aR,aR,aR,aR,aR,aR,aR,.bool]) (jz Ko G0 G1 G2) Kq G9 [TX,TX] nU)) TX Km G9 [aaJ,xk Kb eu,xk Kb cV] nU) aaG [bh,CW be TV,aV TV,CW be TV,aV TV] nU) (db Cy mR) [bh,oh,oh,oh,oh,oh,oh] [aR,.bool,.bool,.bool,.bool,.bool,.bool]) jG) vk ku TS [ov,Ed] [.am Cv,.bool])) (bi 39) TS [yI,ue,yP,yR,wZ,yT,yU,yV,w6,yS,Cw,Ek,Kx,N6,N7,Tv,N8]) (im vu)) (aV vu) TS [Tu]) (pO 37)) ov (bi 37) [ZG,ZH,jR,bM,bL,bN,bO,aS,.str,dK] [.agg [lj,lf,j6,jS,nQ,GK,ru,GM,ot,nu,vj],fk,gz] Kj
def ann:T:=xz 100 (HD 34 (jx ny fq (po (EF 38 (iI (ji 0 (jk G4)) (im uo)) N8 aaK [qM 0 G4 mj .str,rI 1,rI 2,rI 3,rI 4,rI 5,rI 6,rI 7,rI 8,rI 9,rI 10,rI 11,rI 12,rI 13,rI 14,rI 15,rI 16]) (CU 1 (OZ 1 (jT 1 (jk uo) yI) akQ [qN 0 uo,qN 0 uo,qN 1 uo,qN 2 uo,zg 3 uo Cl] Tl Hd) (fD 77 (dp (my 2 (dp (xz 195 (iI (jx (.cell nx vu 4) bX (.loop 3 [aR,aR,aR,aR,aR,aR,aR,aR,aR,aR,aR,aR,aR,.am TZ,.am KK] [G0,G1,G2,Kq,N5,Kr,Ks,Kt,Ku,Kv,Kw,bi 63,bi 64,Ed,dE] (.pick qJ (.not (.has nV 1 (.v 79) be be)) (f8 qJ mR) (OZ 1 (.bz (.and (ze (f8 bX yJ)) (lM KL KL qJ)) (Cr KL be KL bX T1 T1 (Cr KL oj KL j7 (kN (.cell nx vu 8) (.cell mj et 4) cq T1) T1 cq))) [bM,bL,bN,bO,aS,bv,dK,Hd,aS,.ap,TZ,KK] [bi 79] CH KK) (.back 2 [jk vu,bi 66,bi 67,bi 68,bi 69,bi 70,bi 71,bi 72,bi 73,bi 74,bi 75,bi 76,bi 77,bi 78,ov]))) cq) akS) (bi 65) [bM,bL,bN,bO,aS,bv,dK,Hd,aS,.ap] [.agg [bi 39,aV Cy,aV nX,bi 42,bi 43,bi 44,bi 45,bi 46,bi 47,bi 48,bi 49,Km,Ko],.agg [aV Oo,vS 1,vS 2,vS 3,vS 4,vS 5,vS 6,vS 7,vS 8,vS 9,vS 10,vS 11,vS 12,vS 13],JW (.look ky 1 Oo be be 2) (aV (.look ky 1 Oo be be 1)) (aV (.look ky 1 Oo be be 3)) (.bool akS)] [G0,G1,G2,Kq,N5,Kr,Ks,Kt,Ku,Kv,Kw,bi 63,bi 64] GY) akR akR) (.dO 264 227 295 (.lex [1,0] E) E ou [bM,bL,bN,bO,aS,bv,dK,Hd,aS,TZ] (pl (pS ov [bM,bL,bN,bO,aS,bv,dK,Hd,aS,.ap,.sl 295]))) (db vu kP) [bh,gR,mO,kM,nj,nl,pf,ol,oz,mP,oo,ph,oq,qF,dE] [aR,aR,aR,aR,aR,aR,aR,aR,aR,aR,aR,aR,aR,aR,.am TZ]) TY TY) yI (bi 37) akQ N4 Kj) (rB uo) (vq uo (rB uo)) (vq uo (rB uo)) (rA Hd)) (db G4 ny) akP akP) cq)) N7 aaK [mi,fk,gz,Tu,nu] [ue,yP,yR,wZ,yT,yU,yV,w6,yS,Cw,Ek,Kx,N6] GY
def ano:T:=iB 19 (iI (s9 0 eu cV (dp (iB 119 (iI (mu gR (aV KM)) (p8 fC)) kM iM [fw 0 KM vi,fk]) (lM KM KM qH) (lM KM KM qH)) (zh (dp (iB 119 (iI (dp (pS T2 iM) um um) aat) kM iM [s5 0,fk]) um um) N2) [bh,aV qH] qE) vn) gz iM yH
def T63:T:=fD 75 (.aW vn (pP dE gz T3) (AP 0 (oF 3 (mu wW vj) To [bM,bL,bN,bO,aS,jR,cM] akV [gR] Kk) (td 1 (dp (.dO 76 76 3 (.dh 0 aaM [fP cV mj]) J ky akV (.dO 76 76 3 (.dh 0 aaM [Eu 1 mj]) J nx akW (gZ (.new 3 (uy Oq [aV (Cj akX akY)] (.am ou)) [bM,bL,bN,bO,aS,jR,.ap,.ap,.ap,cM] [bM,bL,bN,bO,aS,jR,.ap,.ap,.ap,.ap,cM] (jT 1 sS ov)) pN pN (lM Oq Oq qL) (lM Oq Oq qL)))) (yK aaL) (yK aaL)) (s9 2 fC jU (.dO 76 76 3 (.dh 0 aaM [fC]) J nx akW (jT 2 Eh Ed)) (pS yI [bM,bL,bN,bO,aS,jR,.ap,.ap,aq]) [bh,vj] He) aaL nu He) NR He)) ot gz iM Kh [.am jR,aR]
def T44:T:=.aW Td (nR [bw,bw]) (Hm 0 (gZ (lL (nR [bw,bw]) Hf (zf 0 J7 bC (s8 1 1 bC bC (s8 2 2 bC bC (s8 3 3 bC bC (s8 4 4 bC bC (s8 5 5 bC bC (s8 6 6 bC bC (s8 7 7 bC bC (s8 8 8 bC bC (s8 9 9 bC bC (zf 10 Z8 bC (zf 11 Z9 bC (iH aaa (sW 12 bC)) jA) jA) kw jA) kw jA) kw jA) kw jA) kw jA) kw jA) kw jA) kw jA) kw jA) jA)) pj pj T4 T4) GV [bw,bw])
def acn:T:=mo bC ce GB iR
def aco:T:=mo bC ce GB iR
def acp:T:=po (jB (wX Aw) ce aaN akZ) akZ (ow Aw) T5 T5
def T91:T:=Hq fq Ef pi Ef Oc Oc (kN D7 (.c 256) Oc (.aW (rF bC) (e9 gT gT (dp (lq (wX be) be gT (po (.aW (nq ce be) (dp (jB Ax (wX Hj) gT ak1) ak0 ak0) ak1) (CI 1 (.aW (ow Aw) (gZ (iB 168 (zj 126 gT (iB 168 ak2 nQ sQ [Od,CW (wX Aw) bX]) jG sQ [jS,e8,aV Kz]) jS sQ [Od,Cu 0 eh]) T5 T5 KN KN) (dp (iB 168 (zj 126 gT (iB 168 ak2 nQ sQ [Od,aV D6]) jG sQ [jS,e8,aV Kz]) jS sQ [Od,Cu 0 eh]) KN KN)) (AE 2 (zj 126 gT (EO eB (dp (jB (fP eB jA) (fP (ab7 eB) jA) gT ak5) ak3 ak3) ak5) jG sQ [zi 0 eB,bh,aV (uf bC oj)]) (AE 3 (vH aaQ be aaQ bC gT (vH (uz 1 da) be (uz 1 da) bC gT (jx aaQ (uz 1 da) gT (s6 (uz 2 da) uh gT (oE (uz 3 da) (uz 2 da) (uz 3 da) ui gT gT (ji 3 (jk da))))) gT) gT) (uB sQ) aaP GC aaP (.and GC aaP)) aaO (iu eB) aaO (.and (iu eB) aaO)) (ow eh)) J2 Cq Cq)) J1 J1) (.not (f8 bC Ef)) (gm fq)) gT))
def acr:T:=.loop 0 qE [lf,lj] (EO eh (.bz (im eh) (mu (yN eB eh .rem) j6)) (jw jS))
def acs:T:=e9 ul ul (oE bC aah bC eh ul ul (oE ce aah ce eh ul ul (.aW aj5 ul (xA 169 (xA 169 (lq da bX ul pR) nQ [jS,j6]) jS [aV (ug bC (uf be bC)),aV (ug ce (uf be ce))])))) aag aj4
def acu:T:=.loop 0 qE [lf,lj] (EO eh (.bz (im eh) (mu (yN eB eh .rem) j6)) (jw jS))
def acv:T:=.aW (p8 bC) (jw (aV (uf be bC))) (jw lj)
def Vb:T:=jy (jy (xA 251 (xA 250 (lL Ap pR (oC eB)) jS [j6,lf]) j6 [lj]) Ap Ap aaS aaT) Ap Ap (rF ce) aaR
def O9:T:=jy (jy (xA 251 (xA 250 (jx iA bX (.aW (rF eB) (jB eB D8 (sU eh JU eh D8 (xA 251 (xA 250 (lL wS (s6 ZK ZL (Ar D9) (s6 ZL ZK (Ar e8) (Ar bh))) (oC cP)) gz [fk,jS]) fk [j6]) wS wS) wS) wS) wS) ru [nQ,lf]) nQ [lj]) wS wS aaS aaT) wS wS (rF ce) aaR
def Vc:T:=Cr da bX da oj (xo (xo (xo (wQ aaV) T7 (f8 eu yX)) (rF et) Ot) T6 aaU) (xo (xo (Ou Kc aaV) T7 (f8 eu yX)) (rF et) Ot) (e9 ak6 ak6 (jy (xo (GU (Ou Kc aaX) aaW) Ot T8) iR (Cr da (.c 6) da vg (GU (jB eu vg (Ou Kc (.and Ka aaV)) iR) T7) ak7 (jx da jH ak7 (xo (xo (GU (Ou Ka aaX) aaW) aaU T8) (iH da (.c 9)) T6))) (iH da wY) Of) (iH da j7) (iH da qJ))
def acw:T:=nW 171 iR (nW 171 iR (fD 172 (mo fC be (s6 nS be (wQ (f8 dD i8)) iR) iR) mP oo [] [NJ,SL] qE) (im lg) oz [] [SL]) (im jh) ol [] [NJ]
def T92:T:=.aW (rF bC) (e9 mw (s7 ce (.c 1000) mw (iB 131 (e9 mw mw (e9 mw mw (po (vH (lK 1 cP) be (lK 1 cP) bC mw (vH (lK 2 cP) be (lK 2 cP) ce mw (vH (lK 3 cP) be (lK 3 cP) vg mw Hk mw) mw) mw) (xp 1 (rG 130 mw (EO eu (dp (jB (fP eu vi) (fP (ab7 eu) vi) mw ak9) ak8 ak8) ak9) jG ku [s5 0,bh,aV pT]) (sO iM) N2 um um) Ov T9 T9) (p8 eB) (gm fq)) JY (p8 eh)) fk iM (vo [j6,jS,nQ]))) mw (vx bC (.c 1000)) (rF ce)) mw
def T40:T:=e9 SU SU (nW 84 (GO fk) (rG 85 vl (uB iM) jG ku yH) JY fk iM ajL) (nq fq (.c 64)) (nq qH Ef)
def acz:T:=fD 172 (s6 J9 be (jw GG) (sN J9 (wQ (db bC jh)) iR)) w6 yS [] [NJ,.agg [wZ,yT]] qE
def acA:T:=s6 fq bX Cp (.aW (nq fq (.c 32)) Cp (.bz J1 (sU NU (.c 97) NU (.c 122) ald ale ale)))
def acB:T:=sT 86 (e9 f9 (e9 f9 (s7 ce Kg f9 (mo eh bX (e9 f9 (s7 eB yX f9 (mo da be (e9 f9 (jB iA jH (jy (.aW T8 (e9 f9 (jB eu pT (.aW (rF cV) (jB cV pT (vH fC bX fC pT f9 (sU gM bX gM j7 (sU dD bX dD j7 (vH i8 bX i8 j7 f9 (vH jh be jh pT f9 (vH lg be lg pT f9 (uB pU) f9) f9) f9) f9 f9) f9 f9) f9) f9) f9) f9) f9 (vx cP jH) T7) f9) f9 f9 (rF et) Ot) f9) f9 (vx da yX) T6) f9)) f9 (vx eh qJ) (rF eB)) f9)) f9 (vx bC Kg) (qK ce be)) f9 jG (rF bC)) ku pU [As]
def T94:T:=jy pW (mo ce JU (lL pW (vH eh be eh vg pW (AE 0 (sN aa0 (sN aa1 (ji 0 On) alf) alf) pR (db i8 wY) (iu i8) (db i8 wY) (HC (gm i8) (oC i8) (rC i8) aaY (HB aaZ Ce))) pW) aaR) pW) pW aaS (.not aaT)
def acD:T:=p7 97 (td 0 (dp (jx Ki et (dp (jx Tj cP (dp (.loop 1 [aR] [aV kO] (EO cV (dp (zj 288 (ji 1 (aV KO)) alm ua aa2 [T2,.agg [uA 0,uA 1,uA 2,uA 3,uA 4,uA 5,uA 6,uA 7,uA 8,uA 9,uA 10,uA 11,uA 12,uA 13]]) (lM KO KO kO) (lM KO KO kO)) alm)) um um) aaj) um um) aaj) um um) (gh nu S5) N2 ot (rA iS)) iM ZV yO
def acE:T:=iB 47 (e9 (pP dE gR iM) (s7 et (ab7 fq) J4 (vH cP be cP (ab7 iA) J4 (gj 217 (pS ot [bM,bL,bN,bO,aS,aS]) ot iM N4 [.am aS]) J4)) J4 uk Of) gR iM yH
def acF:T:=.aW Td (nR [aS,dK]) (p7 97 (td 0 (my 1 (gZ (s6 J7 (fP Hj yG) (ji 1 (aV Hj)) alv) pj pj aln aln) alv (nq ce be) [aV Ct] [aR]) (Hm 1 (gZ (lq (fP ce jA) (fP ce yG) KP (.aW (.cell jA ce 3) alw (Cr Ua j7 Ua qJ aa8 aa8 (Cr Ua wY Ua (.c 9) aa8 (.aW (gm J8) alx KP) alw)))) Te Te At At) Z7 [aS,dK,.ap,aS]) GV yF (rA iS)) [aS,dK] Z5 yO)
def T95:T:=fD 179 (.aW uk (gh gR w8) (zj 180 (gh Tn w8) (uB w8) jG w8 [nu,ot])) nu gR Tm N4 Kj
def acH:T:=jy (jy (jy nT (mo da uh (.aW (f8 da iA) (jB iA ui (sU et uh et cP (s7 cP ui nT (pl ajG)) nT nT) nT) nT) nT) nT ZM (vx eB ui)) nT nT aba (qK eh uh)) nT nT aa9 SN
def Li:T:=jy (jy (.aW ZM (e9 nT Ub (.aW ajH Ub (sU ZR uh ZR SO (pl (e9 Uc Uc (jy (pl (e9 qG qG (Ar ZS) (vx SO ui) (vx SP ui))) (pl Uc) (pl Uc) (qK NP uh) (f8 NP SP)) ZP ZQ)) (pl Ub) (pl Ub))) (vx eB ui) (db da ZO)) nT) nT nT aba (qK eh uh)) nT nT aa9 SN
def acI:T:=qI 214 (pV 214 (jw lJ) lJ (vo [j6,jS])) iR ua ku (vo [lj,lf])
def acJ:T:=xo (wQ aba) aa9 SN
def acK:T:=po (jx (uj 2 cV) et (jx (uj 4 cV) vg (jx (uj 1 cV) cP (jx (uj 9 cV) ZT (sO iM) Ow) Ow) Ow) Ow) mw SY JZ JZ
def acL:T:=mo bC ce GB iR
def acM:T:=pV 174 (e9 iR iR (oE iA da iA (.c 4095) iR iR (qI 137 (pV 137 (jw qD) qD [gz,aV S9,aV pT]) iR yB lJ [fk,aV S9,aV pT])) jG (p8 da)) ku [Aq]
def acN:T:=gj 175 (jw Ta) Ta [] [Aq,xk aly et,xk aly cP] nU
def Pa:T:=qI 136 Cs (qI 137 Z1 (gj 138 (gj 138 (e9 qG qG (gj 139 (jw Tb) Tb [] [.agg Z3,.agg Z4] nU) J5 (im mQ)) ajV [] [abb,wW] nU) Ta [] [abb,gR] nU) yC lJ [gR,bh,pQ 4095]) jG ku [abb]
def T56:T:=AP 0 (my 1 (sT 216 (sT 216 (e9 alz alz (jT 1 wW nu) ua yB) lJ aa2 [mi,fk,gR,gz]) ku aa2 [mi,fk,gz,gR]) (mu Ex nu) NR [Ex,ot] Tk) (gh ot T3) Ov Tk
def T64:T:=s9 0 ce bC (oF 3 (mu GS yF) (ll pi) [jR,cM] [jR,.ap,cM] [lf] (.am jA)) (s9 1 eh bC (td 2 (gZ (gZ (Hx 3 (Hx 3 (jT 2 (jk eB) ot) alD alD alC [jR,.ap,.ap,.ap,.ap,cM] (uy GQ alB (.am vi))) Ud Ud [jR,.ap,.ap,cM] alC (uy NT alB (.am yG))) Ud Ud alA alA) J0 J0 J0 J0) (jT 1 (aV Aw) GK) (ow eB) yF He) (gh yF [jR,.ap,aq]) [bh,Ck] He) [bh,dE] He
def HF:T:=Hq qH (.c 40) qL Ox oG oG (kN fq qJ (Oz alJ (f8 fq (.c 12))) alJ)
def acQ:T:=po (kN AC DY AD J3) (jB fq (.c 100) (jB pi (.c 30) (GA (f8 D7 (.c 30)) OA) AD) AD) (db ce pi) At At
def acR:T:=lq bC ce KS (lL KS (nz 25 KS (nz 25 KS (lq pi qH KS (Hm 0 (EJ (nz 26 KS aaN Am ud OC [qM 0 eh jA bw,qM 0 eh vi bw]) Hh abf Hh abf (fu eh qH Hh) (fu eh qH Hh)) abf OC)) yD uc OC [yF,ot]) Al qD OC [As,GK]) (.beq ua yB))
def Pb:T:=kN fq j7 (jB fq jH OD alK) alK
def acS:T:=jB pi Ox (jB D7 Ox (GA (f8 Ct Ox) iM) mw) mw
def acT:T:=nW 47 (Hp fk) (zj 48 (Hp yE) (po (nW 49 (Hp gR) Hk uk gR jI (vo [Eo 0 cP,rO 1,rO 2,rO 3,rO 4,rO 5,rO 6,rO 7,rO 8,rO 9,rO 10,rO 11,rO 12,rO 13,rO 14,rO 15,rO 16])) (zd 50 Uf (nz 51 Uf (nz 52 Uf (nz 53 Uf (uB jI) Am ud jI xt) yD uc jI xt) Al qD jI xt) jI xt) (rB cP) KT KT) ua jI xt) JY fk jI yH
def acU:T:=kN kA kP CM (e9 CM CM (lq mR fq CM (lq yJ fq CM (po (s6 (fP cP wT) be CM (gZ (kN (fP cP wT) (.len abe) CM Hk) Ug Ug KR KR)) (s9 1 eu mR (zd 54 CM (ji 1 wW) fF [uw,gR]) Uh wU [aR]) (db cP kA) Ug Ug))) (p8 et) (qK et jU))
def acV:T:=.aW Td (nR [aq,aq]) (Hm 0 (gZ (lq J7 (fP bC jA) (nR [aq,aq]) Hf) pj pj T4 T4) GV [aq,aq])
def acW:T:=e9 CN CN (Hq kO yX jU jH CN CN (kN iA (.c 64) CN (po (kN (.len Ui) jH CN Ho) oG abi KV KV))) aaw (nq fq (.c 12))
def acX:T:=CI 0 (s9 1 cP iA (dp (fD 89 (lq dD be oG (ji 1 Ex)) (jz gR mO kM nj) nl jI [.agg [EL 0,EL 1,EL 2,EL 3,EL 4,EL 5,EL 6,EL 7],gz] nU) TY TY) Ho wU [aR]) CN (db et ny)
def acY:T:=po (lq Oy fq oG (xp 1 (s6 CO be oG (dp (mo CO kO oG (s9 2 eu cP (gZ (jx (fP eu abc) CO oG (ji 2 wW)) (fu eu Oy wV) (fu eu Oy wV) Ez Ez) (ji 1 Ex) wU [aR])) Ez Ez)) Ho abj Ez Ez)) (GA (nq jU be) jI) Ue KQ KQ
def acZ:T:=lq kP iA oG (CI 0 (.loop 1 [aR] wU (uu (gZ (sT 90 alE ku jI [mi,fk,.agg [qM 0 cP Ui de,qM 1 cP Ui fh]]) KV KV (Ew abk) (Ew abk)) Ho KV KV abk)) CN abi)
def ac0:T:=po (nW 91 oG (dp (jx (uj 3 cP) bX oG (EO et (gZ (jB (fP et ou) (fP (ab7 et) ou) oG Ho) Uj Uj alL alL) Ho)) (xu qH) (xu qH)) (p8 cP) gz jI [GM,fw 0 et ou]) CN (db et qL) Uj Uj
def Lj:T:=dp (oE AC bX AC oj AD AD (CV AD (gZ (.aW (zf 0 (fP be xq) bX (O6 1 1 2 2 bX bX (O6 3 3 4 4 bX bX (O6 5 5 6 6 bX bX (O6 7 7 8 8 bX bX (O6 9 9 10 10 bX bX (s8 11 11 be bX (iH (OO 12 xq) (.cell xq bX 12)) xq xq)))))) xq) AD alM) (xw AC) (xw AC) (db bX AC) (db bX AC)) alM KW KW (.not (.beq (rC AC) (im abl))) (rC AC))) At At
def ac1:T:=lq ny fq (nR Uk) (.aW (Ao kO fq) (nR Uk) (gj 140 (Hm 0 (gZ (Hz (nR OG) (Hz (dp (EO (.len (ln cP Cl dK)) (nR OG) alN) KT KT) alN KY KY abn) (lM OF OF ny) (lM OF OF ny) (.beq abn (ux OF mj))) KY KY (xu jU) (xu jU)) Ov OG) vj Uk Kh [AF]))
def ac2:T:=po (jx Ax bC (gh lf [aS]) J3) (gh D9 [aS]) J2 Cq Cq
def ac3:T:=gj 178 (gj 177 (gh nu [bM,bL,bN,bO,aS,jR,aq]) nu T3 [SQ,ot] [AF]) ot iM Kh [.am jR]
def ac4:T:=nW 22 (gh gz fF) (zd 23 (gh CL fF) (uB fF) fF OH) vn gz fF xt
def ac5:T:=CU 0 (s6 Ax be abo (e9 abo abo (OZ 1 (mu GS yF) [aq,EA] [aV Ax,GG] (.am jA) EA) (qK Ax bC) (.look jA 1 Ax be be 1))) (sO [aq,EA]) J2 Cq Cq (rA EA)
def Vd:T:=iB 10 (lq fC be (pP OI kM fF) (.aW (p8 cP) Hu (mo cP yJ Hu (s6 eu be Hu (mo eu kA Hu (dp (sN Ul Hu (oE cV be cV jH Hu Hu (qR 3 (j8 3 (qR 75 (j8 75 (qR 3 (mz 3 (CV alP (AJ (AR 74 alR ED Hv abq Ur) AH AH) (uu (AJ (AR 74 alR ED Hv abq Us) AI AI) alP nA nA EE) rH rH EC vp) (ze (vE 17)) Uo Hv (.mW (pY 17) CD)) (CV alS (AJ (AR 74 alU ED CQ abr Ur) AH AH) (uu (AJ (AR 74 alU ED CQ abr Us) AI AI) alS nA nA EE) rH rH EC vp) EB CQ Uo) (Lg G7) Un CQ KH CH) (qR 3 (mz 3 (CV alW Ut (uu Uu alW nA nA EE) rH rH EC vp) (ze G7) alV [bM,bL,bN,bO,aS,cE,bv,dG,dH,aq,aq,aJ,aq,.ap,cM,.ap,cM] abs) (CV alY Ut (uu Uu alY nA nA EE) rH rH EC vp) EB CP alV) K0 CP Un) (.and G5 Ei) KZ CP KG Ej) (qR 75 (j8 75 (qR 3 (mz 3 (CV alZ (AJ (AR 74 al1 K6 Hy abt Ur) AH AH) (uu (AJ (AR 74 al1 K6 Hy abt Us) AI AI) alZ nA nA EE) rH rH EC vp) (ze G7) Uw Hy abs) (CV al2 (AJ (AR 74 al3 K6 CR abu Ur) AH AH) (uu (AJ (AR 74 al3 K6 CR abu Us) AI AI) al2 nA nA EE) rH rH EC vp) EB CR Uw) (Lg G5) Uv CR KG CH) (qR 3 (j8 3 (CV al4 Ut (uu Uu al4 nA nA EE) rH rH EC vp) (ze G5) KZ CP KG CD) (CV al5 Ut (uu Uu al5 nA nA EE) rH rH EC vp) EB fF KZ) K0 fF Uv) abp fF KZ))) nA nA)))))) kM fF OH
def ac6:T:=iI (jw K7) jG
def ac7:T:=zd 4 CM (nz 5 Uh (nz 6 Uh (nW 7 Uh (fD 8 (fD 8 (e9 (sO Uy) (sO Uy) (fD 8 (fD 8 (fD 8 (e9 OL OL (.aW (im yQ) OL (nz 9 OL (nW 10 OL (jx cP fC (sO K8) (sT 9 (gh Kd K8) Kd K8 [abw,al8])) (pO 24) wZ K8 [lu,abw]) (mh 9) (mg 9) K8 [al7,Ux])) (im GF) (pO 21)) al8 yR [bM,bL,bN,bO,aS,cE,bv,dG,dH,aq,aq,aJ,aq,aq,aJ,aq,aq,aJ,aq,aq,aJ,aq,aq,aJ,aq] [lu,al6,abv] CS) abw ue [bM,bL,bN,bO,aS,cE,bv,dG,dH,aq,aq,aJ,aq,aq,aJ,aq,aq,aJ,aq,aq,aJ,aq] [lu,Ux,.agg [kM,nj,nl]] CS) al7 oq Uy [lu,Ux,abv] CS) (im lg) (im wR)) al6 oo [bM,bL,bN,bO,aS,cE,bv,dG,dH,aq,aq,aJ,aq,aq,aJ,aq] [lu,uw,.agg [kM,nj,nl]] CS) Ux oz fF [lu,uw,abv] CS) J5 pf fF OH) yD uc fF [uw]) Al qD fF xt) fF []
def ac8:T:=nW 18 (gh gz fF) (jB kA kP (jy (jy lw (po (mo Ul be (dp (s7 Ul (.len (ln eu nx Ey)) lw SX) KE KE) lw) (xp 1 (.aW (oC AK) (dp (sN (fP cV GN) aby ama) Uz Uz) ama) (uB fF) aax ut ut) (db eu kA) nA nA) lw (vT mR) (.not (vT yJ))) lw lw Of Ue) lw) vn gz fF xt
def ac9:T:=iB 19 (e9 (Hp fk) (jy (jy lw (po (s7 (.len abe) jH lw Hk) (xp 1 (iB 38 (lq cV be (Hp mO) (ji 1 wW)) mO jI aas) (jy lw (xp 2 (jx (.len (ln cV ky aq)) fq (zj 39 lw (ji 2 sS) jG jI [.am (ln cV ky aq),aV kO]) lw) (xp 3 (AE 4 (fD 40 (lL lw (ji 4 TJ) (gm nS)) (jz nl pf ol oz) mP jI [.agg [EM 0,EM 1,EM 2,EM 3,EM 4,EM 5,EM 6,EM 7],kM] nU) (fD 41 (AE 5 (jx (.len OP) fq (lL lw (CI 6 (EJ (dp (jy abF (dp (gj 28 abF K7 OE [.bool (gm (.len (ln jh UA dK))),CL] []) UB UB) (gj 28 abF K7 OE [oh,CL] []) (.beq abE (ux abD OP)) abE) amc amc) CG abC CG abC (fu jh kA CG) (fu jh kA CG)) (ji 5 On) abC) (vT (.len UA))) lw) (ji 3 Eh) abB (iu i8) abB (.and (iu i8) abB)) ov nl jI [mi,kM] [AF,aR]) TR rE TR (.and rE TR)) (CU 4 (OZ 1 (jT 4 TJ vk) amd [fw 0 gM vi,.bool (Ao (uj 3 gM) bX)] Ej EA) (xp 5 (jy (ji 5 TP) (Hz lw (ji 5 TP) ame ame (nq aaz (fP (ab7 dD) ou))) lw (.look wT 1 aaz be be 1) (gm dD)) (uB amd) (db dD qL) TK TK) abG (.and rE abG) (.and rE abG) (rA EA)) Tq Ts Ts) aau KF KF) lw (nq jU be) (.not (iH kP iA))) Oe En En) abd KR KR) lw (f8 jU jH) (vx iA (.c 64))) lw lw (f8 fq (.c 12)) (f8 kO yX)) lw JY (f8 ny jH)) fk jI yH
def anp:T:=gj 11 (fD 12 (gj 13 (fD 13 (gj 14 (fD 8 (fD 8 (fD 8 (gj 14 (gj 14 (gj 14 (fD 15 (fD 16 (fD 17 (gj 14 (rJ (tc cV bX (tc gM be (rJ (tc wR bX (tc GF bX (iI (tc yQ bX (rJ (HD 26 (tc J9 Kg (nC 74 (nC 75 (p7 3 (p7 3 (p7 74 (nC 75 (p7 3 (p7 3 (nC 74 (nC 75 (p7 3 (p7 3 (nC 74 (nC 75 (p7 3 (nz 9 cq (sT 9 (lL cq (sT 9 (lL cq (sT 9 (lL cq (tc CC bX (Hz cq (tc Az bX (dp (EN (jx (nY 40) bX (dp (sN (fP be (.v 40)) (jx (nY 41) bX (EF 18 (EF 19 (jx (.v 29) (.v 30) (iB 18 (sN (.v 31) (iB 10 (GA (gm (.v 32)) [bM,bL,bN,bO,aS,cE,bv,dG,dH,aq,aq,aJ,aq,bv,bv,aq,aJ,aq,eC,aq,aJ,aq,aq,aJ,aq,aq,aJ,aq,aq,aJ,aq,eC,aq,aJ,aq,eC,aq,aJ,aq,eC,aq,nZ,aq,aJ,aq,eC,bw,aJ,aq,aq,bw,aJ,aq,aq,bw,aJ,aq,aq,bw,aJ,aq]) Kx UH [lu,OS]) cq) Ek UH xt) cq) Cw UH [bh,bh,bh,bh,bh,dE,bh,dE,dE,dE,dE]) yS UH [bh,bh,bh,bh,bh,dE,bh,dE,dE,dE,dE,dE,dE,dE,dE,dE]) cq) cq) (xw (nY 40)) (xw (nY 40))) cq) (.not (Cg (fP be vC) be (Cg (OO 1 vC) be (Ch (OO 2 vC) be (OO 3 vC) bX)))) (.v 8)) (xw Az) (xw Az))) AL AL (.seq (ln be sZ .str) amq))) (.v 13)) (mg 13) [bM,bL,bN,bO,aS,cE,bv,dG,dH,aq,aq,aJ,aq,bv,bv,aq,aJ,aq,eC,aq,aJ,aq,aq,aJ,aq,aq,aJ,aq,aq,aJ,aq,eC,aq,aJ,aq,eC,aq,aJ,aq,eC,aq,nZ,aq,aJ,aq,eC,bw,.ap,.ap,.ap,bw,.ap,.ap,.ap,bw,.ap,.ap,aq,bw,aJ,aq] [amg,EG 59 60 (iv 57) bh oh]) (.v 12)) (mg 12) [bM,bL,bN,bO,aS,cE,bv,dG,dH,aq,aq,aJ,aq,bv,bv,aq,aJ,aq,eC,aq,aJ,aq,aq,aJ,aq,aq,aJ,aq,aq,aJ,aq,eC,aq,aJ,aq,eC,aq,aJ,aq,eC,aq,nZ,aq,aJ,aq,eC,bw,.ap,.ap,.ap,bw,.ap,.ap,aq,bw,aJ,aq,.ap,bw,.ap,.ap] [amf,EG 55 56 (iv 53) bh oh]) (.v 11)) (mg 11) [bM,bL,bN,bO,aS,cE,bv,dG,dH,aq,aq,aJ,aq,bv,bv,aq,aJ,aq,eC,aq,aJ,aq,aq,aJ,aq,aq,aJ,aq,aq,aJ,aq,eC,aq,aJ,aq,eC,aq,aJ,aq,eC,aq,nZ,aq,aJ,aq,eC,bw,.ap,.ap,aq,bw,aJ,aq,.ap,bw,.ap,.ap,.ap,bw,.ap,.ap] [OS,EG 51 52 (iv 49) bh oh]) (mh 10) Kd [bM,bL,bN,bO,aS,cE,bv,dG,dH,aq,aq,aJ,aq,bv,bv,aq,aJ,aq,eC,aq,aJ,aq,aq,aJ,aq,aq,aJ,aq,aq,aJ,aq,eC,aq,aJ,aq,eC,aq,aJ,aq,eC,aq,nZ,aq,aJ,aq,eC,bw,aJ,aq,.ap,bw,.ap,.ap,.ap,bw,.ap,.ap,.ap,bw,.ap,.ap] [uw,EG 47 48 dE bh oh]) amp [bM,bL,bN,bO,aS,cE,bv,dG,dH,aq,aq,aJ,aq,bv,bv,aq,aJ,aq,eC,aq,aJ,aq,aq,aJ,aq,aq,aJ,aq,aq,aJ,aq,eC,aq,aJ,aq,eC,aq,aJ,aq,eC,aq,nZ,aq,aJ,aq,eC,bw,gN,cM,cM,bw,gN,cM,cM,bw,gN,cM,cM,bw,gN,cM] Lc) amo amp [iv 58]) UG amo aml) abP UG OT) abO abP Lc) amn abO [iv 54]) UF amn abJ) abN UF OT) abM abN OT) amm abM [iv 50]) UE amm (.lit [abJ,aml])) abL UE OT) abK abL Lc) amj abK [iv 46]) [bM,bL,bN,bO,aS,cE,bv,dG,dH,aq,aq,aJ,aq,bv,bv,aq,aJ,aq,eC,aq,aJ,aq,aq,aJ,aq,aq,aJ,aq,aq,aJ,aq,eC,aq,aJ,aq,eC,aq,aJ,aq,eC,aq,nZ,aq,aJ,aq,eC] amj abJ))) (pO 24) (pO 25))) (pO 21)))) J5 (im lg)))) vn uk) (.bP [EG 43 44 (iv 42) yV (mg 9),iv 45,w6]) [bM,bL,bN,bO,aS,cE,bv,dG,dH,aq,aq,aJ,aq,bv,bv,aq,aJ,aq,eC,aq,aJ,aq,aq,aJ,aq,aq,aJ,aq,aq,aJ,aq,eC,aq,aJ,aq,eC,aq,aJ,aq,eC,aq,nZ] [lu,uv ov fk vk Ee GG,e8] OQ) (iv 41) yU [bM,bL,bN,bO,aS,cE,bv,dG,dH,aq,aq,aJ,aq,bv,bv,aq,aJ,aq,eC,aq,aJ,aq,aq,aJ,aq,aq,aJ,aq,aq,aJ,aq,eC,aq,aJ,aq,eC,aq,aJ,aq,eC,aq] UD abI) (iv 40) yT abH UD [AF,aR]) GD wZ abH UD Oi) (.bP [EG 37 38 (iv 36) yP D0,iv 39,yR]) [bM,bL,bN,bO,aS,cE,bv,dG,dH,aq,aq,aJ,aq,bv,bv,aq,aJ,aq,eC,aq,aJ,aq,aq,aJ,aq,aq,aJ,aq,aq,aJ,aq,eC,aq,aJ,aq,eC] [lu,amh,bh] OQ) (.bP [amh,iv 35,ue]) [bM,bL,bN,bO,aS,cE,bv,dG,dH,aq,aq,aJ,aq,bv,bv,aq,aJ,aq,eC,aq,aJ,aq,aq,aJ,aq,aq,aJ,aq,aq,aJ,aq,eC] [lu,uw,bh] OQ) (.bP [EG 29 30 (iv 28) ph An,iv 31,oq]) [bM,bL,bN,bO,aS,cE,bv,dG,dH,aq,aq,aJ,aq,bv,bv,aq,aJ,aq,eC,aq,aJ,aq,aq,aJ,aq,aq,aJ,aq] [lu,uw,yE] OQ) (uv (iv 25) mP OK Ol ud) oo [bM,bL,bN,bO,aS,cE,bv,dG,dH,aq,aq,aJ,aq,bv,bv,aq,aJ,aq,eC,aq,aJ,aq,aq,aJ,aq] [lu,uw,.agg [bh,bh,e8]] CS) amg oz [bM,bL,bN,bO,aS,cE,bv,dG,dH,aq,aq,aJ,aq,bv,bv,aq,aJ,aq,eC,aq,aJ,aq] [lu,OS,.agg [bh,bh,e8]] CS) amf pf [bM,bL,bN,bO,aS,cE,bv,dG,dH,aq,aq,aJ,aq,bv,bv,aq,aJ,aq,eC] [lu,OS,.agg [bh,bh,bh]] CS) (.bP [OS,ur,nj]) [bM,bL,bN,bO,aS,cE,bv,dG,dH,aq,aq,aJ,aq,bv,bv] UD OQ) pn mO [bM,bL,bN,bO,aS,cE,bv,dG,dH,aq,aq,aJ,aq,bv] [lu,D9] [Lb,aR]) UC fF [lu,e8] [Lb,aR]) uw gz jI xt CS) lu [] [] [aR,aR,aR,aR,aR,.am bM,aR,.am bL,.am bN,.am bO,.am aS,.am cE,Lb,.am dG,.am dH,AF]
def anq:T:=nC 99 (nC 101 (nC 97 (nC 4 (nC 104 (nC 105 (gj 30 (gj 30 (.new 78 (.lit [amt,amu]) [bM,bL,aS,de,dK,fh,.str,.str] abQ (.new 3 Lc abQ abR (.new 3 OT abR abS (.new 39 (.lit [[Ed],[ov]]) abS abT (.new 108 (CJ [GK,ot]) abT abU (.new 84 (CJ [Ee]) abU amv (gh (.agg [aV Hn,aV Hn,e8,bh,e8,As,e8,Ck,dE,dE,yF,dE,yI,vk,vD,dE]) amv))))))) (.agg amu) [.ap,.ap,.ap,.ap,dK,.ap,.str] [.am amq] ams) (.agg amt) [.ap,.ap,.ap,.ap,dK,.ap] [.am (.k (.string ⟨#[112]⟩))] ams) amr [AM,EH,iS,Eg,dK,pm] [GM]) [AM,EH,iS,Eg] amr [e8,bh,bh,oh]) [AM,EH,iS] [AM,EH,iS,Eg] [GG]) [AM,EH] [AM,EH,iS] [e8,bh,bh,e8,e8,e8,e8,bh,yE,bh,bh,e8,e8,e8]) [AM] [AM,EH] [bh,pQ 100,bh]) [] [AM] [.am (.k (.string ⟨#[97]⟩)),aV DY,aV DY,bh]
def anr:T:=iB 18 (iI (CU 0 (fD 31 (nC 74 (nC 75 (j8 75 (mu Ex vD) (ze Ei) amx [bM,bL,bN,bO,aS,cE,bv,dG,dH,aq,.ap,bw,gN,gN] Ej CD) amw amx [vk]) UI amw aj7) Tu ue [bM,bL,bN,bO,aS,cE,bv,dG,dH,aq,.ap] [JW (lK 1 cP) (qM 0 cP kw .str) (aV (lK 2 cP)) (aV (lK 3 cP))] GY) (mz 3 (pS (uv dE bh ov vk oh) [bM,bL,bN,bO,aS,cE,bv,dG,dH,aq,aJ,aq]) (.and (iu kA) Ei) UI [bM,bL,bN,bO,aS,cE,bv,dG,dH,aq,gN,cM] (.uP kA wU)) Ov T9 T9 (rA gN)) JY) fk jI xt
def ans:T:=iB 18 (e9 cq (pP dE e8 jI) (iI (gj 32 (pS ov amy) ov jI [lu,fk] [Lb]) (qK et jU)) vn (p8 et)) gz jI xt
def ant:T:=.aW JX (iB 10 (e9 cq (EK OI dE e8 fF) (qR 3 (j8 3 (qR 75 (j8 75 (qR 3 (mz 3 (p7 3 (j8 3 (EK (KU yZ uq ur) dE bh [bM,bL,bN,bO,aS,cE,bv,dG,dH,aq,aq,aJ,aq,.ap,.ap,.ap,aJ,.ap,aq,aq,aq]) (.and G6 (vE 19)) amz [bM,bL,bN,bO,aS,cE,bv,dG,dH,aq,aq,aJ,aq,.ap,.ap,.ap,gN,.ap,cM,cM,cM] CE (pY 19)) Hv amz Lc) (ze (vE 17)) Uo Hv (.mW (pY 17) CD)) cq EB CQ Uo) (Lg G7) Un CQ KH CH) cq K0 CP Un) (.and G5 Ei) KZ CP KG Ej) (qR 75 (j8 75 (qR 3 (mz 3 (p7 3 (j8 3 (EK (KU ur pn uq) dE bh [bM,bL,bN,bO,aS,cE,bv,dG,dH,aq,aq,aJ,aq,.ap,aJ,.ap,aq,aq,aq]) (vE 17) amA [bM,bL,bN,bO,aS,cE,bv,dG,dH,aq,aq,aJ,aq,.ap,gN,.ap,cM,cM,cM] yO (pY 17)) Hy amA Lc) (ze G7) Uw Hy abs) cq EB CR Uw) (Lg G5) Uv CR KG CH) cq K0 fF Uv) abp fF KZ) uk (qK kA kP)) gR fF OH) (gj 17 (e9 (EK OI dE gR xx) (EK OI dE CL xx) (zd 33 cq (qR 3 (j8 3 (qR 75 (j8 75 (qR 3 (j8 3 (nC 3 (j8 3 (dp (my 0 (dp (iI (p7 80 (j8 80 (gZ (gZ (zh (AR 74 (mz 75 (Hx 3 (Hg [sS,OK,iv 28,iv 29]) (vz (nY 24)) (vz (nY 24)) amO [bM,bL,bN,bO,aS,cE,bv,dG,dH,aq,aq,aJ,aq,nZ,.ap,.ap,.ap,.ap,.ap,.ap,cM,cM,.ap,.ap,.ap,pu,pu,bw,gN,cM] (uy cV [Co bX kA] (pY 24))) (vz (nY 23)) amN amO (uy cV [Ol] (pY 23))) (vz (nY 23)) abZ amN amM) amL) AL AL UN UN) ut ut K9 K9) (.and (vE 22) (vE 25)) amJ abZ (pY 22) (pY 25)) [bM,bL,bN,bO,aS,cE,bv,dG,dH,aq,aq,aJ,aq,nZ,.ap,.ap,.ap,.ap,.ap,.ap,cM,cM,pu,gN,cM] amJ amG) (.not (ux cV abX))) UL UL) (EK (KU AB (iv 23) OJ) KJ bh [bM,bL,bN,bO,aS,cE,bv,dG,dH,aq,aq,aJ,aq,nZ,.ap,.ap,.ap,.ap,.ap,.ap,aq,aq,eC,aJ,aq]) abY [bh,dE,rD,vG] amF) AL AL) (.and G7 (vE 20)) amE [bM,bL,bN,bO,aS,cE,bv,dG,dH,aq,aq,aJ,aq,nZ,.ap,.ap,.ap,gN,.ap,cM,cM,cM] KH (pY 20)) abW amE [gz]) (ze (ll Az)) amD abW (.am vC) CD) cq EB UK amD) (Lg TH) amC UK G8 CH) cq K0 UJ amC) (.and G6 Ei) amB UJ CE Ej) (qR 75 (j8 75 (qR 3 (j8 3 (nC 3 (j8 3 (dp (my 0 (dp (iI (p7 80 (j8 80 (gZ (gZ (zh (AR 74 (mz 75 (Hx 3 (Hg [sS,OJ,OK,Ol]) (vz (nY 22)) (vz (nY 22)) amW [bM,bL,bN,bO,aS,cE,bv,dG,dH,aq,aq,aJ,aq,nZ,.ap,.ap,.ap,.ap,cM,cM,.ap,.ap,.ap,pu,pu,bw,gN,cM] (uy cV [Co bX kA] (pY 22))) (vz (nY 21)) amV amW (uy cV [iv 25] (pY 21))) (vz (nY 21)) ab1 amV amM) amL) AL AL UN UN) ut ut K9 K9) (.and (vE 20) (ll (nY 23))) amT ab1 (pY 20) (pY 23)) [bM,bL,bN,bO,aS,cE,bv,dG,dH,aq,aq,aJ,aq,nZ,.ap,.ap,.ap,.ap,cM,cM,pu,gN,cM] amT amG) (.not (ux cV abX))) UL UL) (EK (KU vG AB KJ) yZ bh [bM,bL,bN,bO,aS,cE,bv,dG,dH,aq,aq,aJ,aq,nZ,.ap,.ap,.ap,.ap,aq,aq,eC,aJ,aq]) abY [bh,dE,xg,rD] amF) AL AL) (ll Az) amR [bM,bL,bN,bO,aS,cE,bv,dG,dH,aq,aq,aJ,aq,nZ,.ap,gN,.ap,cM,cM,cM] yO (.am vC)) ab0 amR [gz]) (ze TH) amQ ab0 G8 CD) cq EB UO amQ) (Lg G6) amP UO CE CH) cq K0 xx amP) abp xx amB) xx [lu,uw,vD]) uk ua) UC fF Ld abI)
def anu:T:=gj 17 (iI (sT 33 (pS lJ xx) lJ xx [lu,uw,vD]) uk) UC fF Ld abI
def anv:T:=iB 34 (iI (gj 35 (AP 0 (uu (oF 3 (mu sS xg) G6 [bM,bL,bN,bO,aS,cE,bv,dG,dH,aq,aq,aJ,aq,de,cM] [bM,bL,bN,bO,aS,cE,bv,dG,dH,aq,aq,aJ,aq,de,.ap,cM] [mO] CE) cq (yK UP) (yK UP) (ux cV sZ)) (pS pn [bM,bL,bN,bO,aS,cE,bv,dG,dH,aq,aq,aJ,aq,de,aq]) UP He) vD fF Ld TA) uk) gR fF Ld
def anw:T:=nW 34 (pP dE gR fF) (td 0 (dp (kN (rz fC AK) (.c 256) cq (mu sS (aV (rz fC AK)))) ut ut) (gj 35 (mz 105 (td 1 (uu (gZ (gZ (.new 105 (uy gM [qM 0 gM amX dK] KH) [bM,bL,bN,bO,aS,cE,bv,dG,dH,aq,aq,aJ,aq,de,.ap,pm] [bM,bL,bN,bO,aS,cE,bv,dG,dH,aq,aq,aJ,aq,de,.ap,.ap,pm] (jT 1 TJ uq)) amY amY amZ amZ) Le Le UQ UQ) cq (.and rE ab2) (.and rE ab2) (ux gM sZ)) (sN mR cq (dp (my 2 (dp (mz 75 (sN Az (nC 74 (j8 74 (gj 32 (xz 37 (iI (nC 116 (j8 116 (pl (.back 2 [TP,iv 28,rD])) (.and TH (vE 27)) am2 [bM,bL,bN,bO,aS,cE,bv,dG,dH,aq,aq,aJ,aq,de,.ap,fh,.ap,fh,aJ,.ap,bw,bv,de,bw,bw,fh,ja,EI,EI] G8 (pY 27)) [bM,bL,bN,bO,aS,cE,bv,dG,dH,aq,aq,aJ,aq,de,.ap,fh,EI,fh,aJ,.ap,bw,bv,de,bw,bw,fh,ja] am2 am1) (im jh)) ol [bM,bL,bN,bO,aS,cE,bv,dG,dH,aq,aq,aJ,aq,de,.ap,fh,.ap,fh,aJ,.ap,bw,bv] [mi,SS,AB,UM,vD,yZ,rD] am1 [aR,.am de,TC,TC,.am fh,.am ja,aR]) AB [bM,bL,bN,bO,aS,cE,bv,dG,dH,aq,aq,aJ,aq,de,.ap,fh,.ap,fh,aJ,.ap,.ap] [lu,fk] [Lb]) (vE 19) am0 [bM,bL,bN,bO,aS,cE,bv,dG,dH,aq,aq,aJ,aq,de,.ap,fh,EI,fh,aJ,.ap,kz] (pY 19) yO) UR am0 [vN 0,vN 1,vN 2,vN 3,vN 4,vN 5,vN 6,vN 7,vN 8,vN 9,vN 10,vN 11,vN 12]) cq) (f8 bX mR) [bM,bL,bN,bO,aS,cE,bv,dG,dH,aq,aq,aJ,aq,de,.ap,fh,EI,fh] UR (.sub CH bX mR)) (.and s4 ab3) (.and s4 ab3)) (pS uq [bM,bL,bN,bO,aS,cE,bv,dG,dH,aq,aq,aJ,aq,de,.ap,fh,nZ,fh]) ab3 [bh,dE,xg] [aR,.am EI,.am fh]) (xw mR) (xw mR))) ab2 pn (rA pm)) (vq CC G5) [bM,bL,bN,bO,aS,cE,bv,dG,dH,aq,aq,aJ,aq,de] [bM,bL,bN,bO,aS,cE,bv,dG,dH,aq,aq,aJ,aq,de,pm] (.uP CC [dE])) vD fF Ld TA) aax e8 qE) uk gR fF Ld
def anx:T:=gh (.agg [As,pQ 60,pQ 40,e8,ub,yE,e8,e8,e8,GP,GP,GP,ub,ub,ub,CL,pQ 100]) pU
def anz:T:=zj 57 cq (zd 57 cq (nz 57 cq (pS (.agg [aV aab,aV aac,j6,bh,bh,bh,bh,bh,bh,bh,bh,bh,bh]) pU) Al qD pU [j6,bh,aV vg]) pU [lf,bh,GP]) jG pU [lj,bh,GP]
def anA:T:=dp (AP 0 (gZ (oF 78 (mu Ex vk) Ei [bM,bL,bN,bO,aS,cE,bv,dG,dH,aq,.own 78] [bM,bL,bN,bO,aS,cE,bv,dG,dH,aq,.ap,.own 78] [Eo 0 CO,rP 1,rP 2,rP 3,rP 4,rP 5,rP 6,rP 7,rP 8,rP 9,rP 10,rP 11,rP 12,rP 13,rP 14,rP 15,rP 16] Ej) Ez Ez (lM CO CO kO) (lM CO CO kO)) (gh ov amy) abj (rA (.own 78))) KQ KQ
def anB:T:=AE 0 (gj 32 (fD 60 (rJ Hk yC uk) lJ gR [bM,bL,bN,bO,aS,cE,bv,dG,dH,aq,aq,aJ,aq,nZ,bv] [mi,SS,pn,.agg [fw 0 cP sZ,qM 1 cP sZ de,qM 2 cP sZ bw,qM 3 cP sZ bw,qM 4 cP sZ fh,qM 5 cP sZ ja]] Oi) pn xx [lu,fk] [Lb]) (sO xx) ab4 (iu cP) ab4 (Ew ab4)
def anC:T:=iB 10 (rJ (iI (dp (kN cP (.len OW) (gh e8 fF) (uB fF)) Le Le) (db cP bX)) uk (qK kA kP)) gR fF OH
def anD:T:=gj 41 (po (kN AK bX cq Ow) (AP 1 (EJ (gZ (zh (oF 4 (jT 1 Eh xg) G6 [bM,bL,bN,bO,aS,cE,bv,dG,dH,aq,aq,aJ,aq,aq,Eg] [bM,bL,bN,bO,aS,cE,bv,dG,dH,aq,aq,aJ,aq,aq,.ap,Eg] [.bool (gm (.look ZU 1 (fP fC sZ) be be 1))] CE) (ux fC (ln OV OW de))) UQ UQ am3 am3) GX ab5 GX ab5 Le Le) (gh pn [bM,bL,bN,bO,aS,cE,bv,dG,dH,aq,aq,aJ,aq,aq,de]) ab5 (rA Eg)) UP ut ut) UC fF [mi,UM] [AF,aR]
end
section
def dL(a b c d:Int):Bool:=decide (-1099511627776<=a)&&decide (a<=1099511627776)&&decide (-1099511627776<=b)&&decide (b<=1099511627776)&&decide (-1099511627776<=c)&&decide (c<=1099511627776)&&decide (-1099511627776<=d)&&decide (d<=1099511627776)&&decide (a<=b)&&decide (c<=d)
def HG(a b c d X W V Q:Int):Bool:= !(decide (a<=W)&&decide (X<=b)&&decide (c<=Q)&&decide (V<=d))
def ada:bn->j5
 |[.i a,.i b,.i c,.i d,.i X,.i W,.i V,.i Q]=>U (.ret (if dL a b c d&&dL X W V Q then[.b (HG a b c d X W V Q),.i 0] else[.b E,.i 150]))
 |_=>Z
def EP:Nat->List UInt8->UInt8->Int
 |_,[],_=>-1
 |k,x::l,b=>if x==b then k else EP (k+1) l b
def Ve:bn->j5
 |[.r s,.i b]=>match s.val with
  |.string t=>U (.ret [.i (EP 0 t.toList (UInt8.ofNat b.toNat))])
  |_=>U (.ret [.i (-1)])
 |_=>Z
def Lk:mK:=λf X=>if f=191 then ada X else if f=157 then Ve X else Z
def EQ:FuncId->Option Fn
 |44=>U ⟨T82,E,E⟩
 |46=>U ⟨O7,J,E⟩
 |57=>U ⟨ab8,E,E⟩
 |154=>U ⟨am4,E,E⟩
 |324=>U ⟨am5,J,E⟩
 |83=>U ⟨UT,E,E⟩
 |125=>U ⟨UU,E,E⟩
 |167=>U ⟨UV,E,E⟩
 |166=>U ⟨UW,E,E⟩
 |119=>U ⟨UX,E,E⟩
 |162=>U ⟨UY,E,E⟩
 |112=>U ⟨T66,E,E⟩
 |74=>U ⟨T72,E,E⟩
 |71=>U ⟨T69,E,E⟩
 |111=>U ⟨acd,E,E⟩
 |145=>U ⟨T24,E,E⟩
 |82=>U ⟨ace,E,E⟩
 |123=>U ⟨UZ,E,E⟩
 |72=>U ⟨T70,E,E⟩
 |113=>U ⟨T65,E,E⟩
 |60=>U ⟨T18,E,E⟩
 |19=>U ⟨U0,E,E⟩
 |97=>U ⟨T86,E,E⟩
 |98=>U ⟨T87,E,E⟩
 |99=>U ⟨T88,E,E⟩
 |186=>U ⟨anb,E,E⟩
 |222=>U ⟨anc,E,E⟩
 |68=>U ⟨U4,E,E⟩
 |77=>U ⟨T77,E,E⟩
 |120=>U ⟨aci,E,E⟩
 |163=>U ⟨acj,E,E⟩
 |103=>U ⟨U5,E,E⟩
 |40=>U ⟨Lh,E,E⟩
 |78=>U ⟨ane,E,E⟩
 |102=>U ⟨T27,E,E⟩
 |29=>U ⟨O8,E,E⟩
 |81=>U ⟨U6,E,E⟩
 |45=>U ⟨U7,E,E⟩
 |38=>U ⟨U8,E,E⟩
 |75=>U ⟨T23,E,E⟩
 |42=>U ⟨U9,E,E⟩
 |100=>U ⟨T89,E,E⟩
 |195=>U ⟨anh,E,E⟩
 |43=>U ⟨Va,E,J⟩
 |37=>U ⟨T13,E,J⟩
 |94=>U ⟨T16,E,J⟩
 |190=>U ⟨ank,E,E⟩
 |185=>U ⟨T78,E,E⟩
 |101=>U ⟨T90,J,E⟩
 |188=>U ⟨ann,E,E⟩
 |220=>U ⟨ano,E,E⟩
 |41=>U ⟨T63,E,E⟩
 |26=>U ⟨T44,E,E⟩
 |126=>U ⟨acn,E,E⟩
 |130=>U ⟨aco,E,E⟩
 |168=>U ⟨acp,E,E⟩
 |84=>U ⟨T91,E,E⟩
 |169=>U ⟨acr,E,E⟩
 |131=>U ⟨acs,E,E⟩
 |250=>U ⟨acu,E,E⟩
 |251=>U ⟨acv,E,E⟩
 |171=>U ⟨Vb,E,E⟩
 |172=>U ⟨O9,E,E⟩
 |132=>U ⟨Vc,E,E⟩
 |133=>U ⟨acw,E,E⟩
 |85=>U ⟨T92,E,E⟩
 |47=>U ⟨T40,E,E⟩
 |288=>U ⟨acz,E,E⟩
 |86=>U ⟨acA,E,E⟩
 |49=>U ⟨acB,E,E⟩
 |92=>U ⟨T94,E,E⟩
 |217=>U ⟨acD,E,E⟩
 |179=>U ⟨acE,E,E⟩
 |180=>U ⟨acF,E,E⟩
 |141=>U ⟨T95,E,E⟩
 |139=>U ⟨acH,E,E⟩
 |175=>U ⟨Li,E,E⟩
 |174=>U ⟨acI,E,E⟩
 |214=>U ⟨acJ,E,E⟩
 |216=>U ⟨acK,E,E⟩
 |137=>U ⟨acL,E,E⟩
 |136=>U ⟨acM,E,E⟩
 |138=>U ⟨acN,E,E⟩
 |89=>U ⟨Pa,E,E⟩
 |178=>U ⟨T56,E,E⟩
 |177=>U ⟨T64,E,E⟩
 |3=>U ⟨ac7,E,E⟩
 |4=>U ⟨anp,E,E⟩
 |5=>U ⟨HF,E,E⟩
 |6=>U ⟨acQ,E,E⟩
 |7=>U ⟨ac4,E,E⟩
 |8=>U ⟨Vd,E,E⟩
 |9=>U ⟨acR,E,E⟩
 |10=>U ⟨ac8,E,J⟩
 |11=>U ⟨anq,E,E⟩
 |12=>U ⟨anr,E,E⟩
 |13=>U ⟨ans,E,E⟩
 |14=>U ⟨ant,E,E⟩
 |15=>U ⟨anu,E,E⟩
 |16=>U ⟨anv,E,E⟩
 |17=>U ⟨anw,E,E⟩
 |18=>U ⟨ac9,E,J⟩
 |20=>U ⟨Pb,E,E⟩
 |21=>U ⟨acS,E,E⟩
 |22=>U ⟨acT,E,E⟩
 |23=>U ⟨acU,E,E⟩
 |25=>U ⟨acV,E,E⟩
 |28=>U ⟨ac6,E,E⟩
 |30=>U ⟨anx,E,E⟩
 |31=>U ⟨anz,E,E⟩
 |32=>U ⟨anA,E,E⟩
 |33=>U ⟨anB,E,E⟩
 |34=>U ⟨anC,E,E⟩
 |35=>U ⟨anD,E,E⟩
 |39=>U ⟨ac5,E,E⟩
 |48=>U ⟨acW,E,E⟩
 |50=>U ⟨acX,E,E⟩
 |51=>U ⟨acY,E,E⟩
 |52=>U ⟨acZ,E,E⟩
 |53=>U ⟨ac0,E,E⟩
 |54=>U ⟨Lj,E,E⟩
 |90=>U ⟨ac1,E,E⟩
 |91=>U ⟨ac2,E,E⟩
 |140=>U ⟨ac3,E,E⟩
 |_=>Z
def TB:kL:=⟨EQ,Lk⟩
def iT(j:FuncId->bn->bo->Prop)(R:bo->Prop)(f:FuncId)(W:bn)(V:aQ)(t:T)(O:ak)(L:dj):Prop:=∃o,j f W o/\(match o with
  |.ret X=>mL V X=J/\t.wp j R (O.ext X) L
  |.bI v=>R (.bI v))
def iU(j:FuncId->bn->bo->Prop)(R:bo->Prop)(o:bo)(W:aQ)(t:T)(O:ak)(L:dj):Prop:=match o with
  |.ret X=>mL W X=J/\t.wp j R (O.ext X) L
  |.bI v=>R (.bI v)
def Pc(c:Option PC)(X:bn):Prop:=match c with
 |U c=>c.I X/\c.μ X<c.m
 |none=>False
section
variable{j:FuncId->bn->bo->Prop}{R:bo->Prop}{O:ak}{L:dj}
def au2{X:bn}{Q:aQ}{t:T}(h:V=X):iT j R W V Q t O L=iT j R W X Q t O L:=by rw[h]
def au3{o X:bo}{W:aQ}{t:T}(h:o=X):iU j R o W t O L=iU j R X W t O L:=by rw[h]
def au4{t:T}{X:ak}(h:O=X):T.wp j R t O L=T.wp j R t X L:=by rw[h]
def anE(b:BE)(t f:T):T.wp j R (.aW b t f) O L=(if b.ah O=J then t.wp j R O L else f.wp j R O L):=by
 simp only[T.wp,T.mN];cases b.ah O<;>simp
def au5(b:BE)(t:T):T.wp j R (.bz b t) O L=(b.ah O=J/\t.wp j R O L):=by simp only[T.wp,T.mN]
def anF(v:C)(X:bE)(W:bp):T.wp j R (.ret v X W) O L=R (.ret ((Af v).map (C.xv O))):=by simp only[T.wp,T.mN]
def au6(f:FuncId)(X:av)(V:bE)(Q:bp)(W:aQ)(jf:C)(t:T):T.wp j R (.call f X V Q W jf t) O L=iT j R f ((rq X).map (C.xv O)) W t O L:=by simp only[T.wp,T.mN,iT];rfl
def au7(e:TypeId)(x:LE)(X W:bp)(t:T):T.wp j R (.new e x X W t) O L=t.wp j R (O.add (.r (iq x O))) L:=by simp only[T.wp,T.mN]
def au8(k:RK)(x:LE)(X:bp)(t:T):T.wp j R (.aj k x X t) O L=t.wp j R (O.add (.r (iq x O))) L:=by simp only[T.wp,T.mN]
def au9(X:bn)(W:aQ)(t:T):iU j R (.ret X) W t O L=(mL W X=J/\t.wp j R (O.ext X) L):=rfl
def ava(v:Value)(X:aQ)(t:T):iU j R (.bI v) X t O L=R (.bI v):=rfl
def avb(aA:Nat)(x:av):T.wp j R (.back aA x) O L=Pc (Gx aA L) (x.map (C.xv O)):=by
 simp only[T.wp,T.mN,Pc];cases Gx aA L<;>rfl
def uC(c:PC)(X:bn):Pc (U c) X=(c.I X/\c.μ X<c.m):=rfl
def adb(g h:BE)(t f:T):T.wp j R (.gE g h t f) O L=((g.ah O=J\/h.ah O=J)/\(g.ah O=J->t.wp j R O L)/\(h.ah O=J->f.wp j R O L)/\(g.ah O=J->h.ah O=J->Sz R)):=rfl
def avc(f g:FuncId)(e:TypeId)(X:bm)(W:Bool)(r:RE)(Q:bp)(t:T):T.wp j R (.dO f g e X W r Q t) O L=(∃V,nf O X W (r.rv O).aj=U V/\t.wp j R (O.add (.r (.mk (r.rv O).val V))) L):=rfl
def Pd(f g:FuncId)(e:TypeId)(X:aw)(d:Bool)(W:Bool)(r:RE)(Q:bp)(t:T):T.wp j R (.dO f g e (.lex X d) W r Q t) O L=(∃V,iQ (.lex X d) W (r.rv O).aj=U V/\t.wp j R (O.add (.r (.mk (r.rv O).val V))) L):=rfl
def Pe(f g:FuncId)(e:TypeId)(n d:Nat)(X:Bool)(r:RE)(V:bp)(t:T):T.wp j R (.dO f g e (.ratio n d) X r V t) O L=(∃W,iQ (.ratio n d) X (r.rv O).aj=U W/\t.wp j R (O.add (.r (.mk (r.rv O).val W))) L):=rfl
def uD{N:aQ}{P:av}{t:T}(X:bn->Prop)(W:bn->Nat)(M:X (P.map (C.xv O)))(h:∀V,X V->t.wp j R (O.ext V) (⟨Q,X,W,W V⟩::L)):T.wp j R (.loop Q N P t) O L:=by
 simp only[T.wp,T.mN];exact⟨R,L,.inl ⟨rfl,rfl⟩,X,W,M,h⟩
end
def bu{X:kL}{R:bo->Prop}{P:aQ}{t:T}{O:ak}{L:dj}{o:bo}(h:X.Ev W V o):iT X.Ev R W V P t O L=iU X.Ev R o P t O L:=by
 refine propext ⟨λ⟨M,N,Q⟩=> ?_,λQ=>⟨o,h,Q⟩⟩;rw[ZA h N];exact Q
attribute[congr] au2 au3 au4
def has{X:Fn}(h:EQ W=U X)(V:W≠191)(Q:W≠157):JM TB W X:=⟨h,λP=>by simp[TB,Lk,V,Q]⟩
def single{o:bo}(h:B8 o o=J):Sz (· =o):=λa b X W=>by subst X;exact⟨W.symm,h⟩
def evo{X:Fn}{o:bo}(P:EQ W=U X)(Q:(W !=191&&W !=157)=J)(N:X.d=E\/∀v,o≠ .bI v)(h:X.t.wp TB.Ev (· =o) (fM (lI X.g) V) []):TB.Ev W V o:=by
 simp only[az,bne_iff_ne,ne_eq] at Q;exact Gy (has P Q.1 Q.2) N h
def evr{X:Fn}{R:bo->Prop}(P:EQ W=U X)(Q:(W !=191&&W !=157)=J)(N:X.d=E\/∀v,¬R (.bI v))(h:X.t.wp TB.Ev R (fM (lI X.g) V) []):∃o,TB.Ev W V o/\R o:=by
 simp only[az,bne_iff_ne,ne_eq] at Q;exact ajn (has P Q.1 Q.2) N h
def gA{X:Fn}{o:bo}(h:X.t.wp TB.Ev (· =o) (fM (lI X.g) V) [])(Q:EQ W=U X:=by exact rfl)(P:(W !=191&&W !=157)=true:=by exact rfl)(N:X.d=false:=by exact rfl):TB.Ev W V o:=evo Q P (.inl N) h
def fj{X:Fn}{R:bo->Prop}(h:X.t.wp TB.Ev R (fM (lI X.g) V) [])(Q:EQ W=U X:=by exact rfl)(P:(W !=191&&W !=157)=true:=by exact rfl)(N:X.d=false:=by exact rfl):∃o,TB.Ev W V o/\R o:=evr Q P (.inl N) h
end
section
attribute[simp] K.ah BE.ah RE.rv RE.ah gX ak.rv fM ak.ext ak.add rq Af Ny C.xv lI Gx mL Y4 anE au5 anF au6 au7 au8 au9 ava avb
def out(f:FuncId)(X:bn):bn:=by classical exact if h:∃W,TB.Ev f X (.ret W) then h.choose else[]
def xi(X:bn)(k:Nat):Int:=match X.getD k (.i 0) with
 |.i n=>n
 |_=>0
def xb(X:bn)(k:Nat):Bool:=match X.getD k (.i 0) with
 |.b x=>x
 |_=>E
def xr(X:bn)(k:Nat):RV:=match X.getD k (.i 0) with
 |.r x=>x
 |_=>default
def oi(f:FuncId)(X:bn)(k:Nat):Int:=xi (out f X) k
def ob(f:FuncId)(X:bn)(k:Nat):Bool:=xb (out f X) k
def adf{X:bn}(h:TB.Ev W V (.ret X)):out W V=X:=by
 have Q:∃X,TB.Ev W V (.ret X):=⟨X,h⟩;have:out W V=Q.choose:=by unfold out;rw[dif_pos Q]
 rw[this];have:=ZA Q.choose_spec h;injection this
def avd{P:bn->Prop}(h:∃o,TB.Ev W V o/\∃X,o=.ret X/\P X):TB.Ev W V (.ret (out W V))/\P (out W V):=by
 obtain⟨o,Q,X,rfl,N⟩:=h;rw[adf Q];exact⟨Q,N⟩
def ER(X:bn):aQ->Nat->bn
 |[],_=>[]
 |.int _::G,n=>.i (xi X n)::ER X G (n+1)
 |.bool::G,n=>.b (xb X n)::ER X G (n+1)
 |.am _::G,n=>.r (xr X n)::ER X G (n+1)
def anG(W:bn):∀(G:aQ)(X:bn),mL G X=J->ER (W++X) G (Y W)=X
 |[],[],_=>rfl
 |[],_::_,h=>by simp at h
 |k::G,[],h=>by cases k<;>simp at h
 |k::G,y::X,h=>by
  have V:=anG (W++[y]) G X;simp only[mL,az] at h;have V:=V h.2;simp only[H7,List.singleton_append,gD,Wc] at V;have Q:(W++y::X).getD (Y W) (.i 0)=y:=by simp[List.getD]
  cases k<;>cases y<;>simp at h<;>simp only[ER,V,xi,xb,xr,Q]
def shp(G:aQ){P:bn->Prop}(h:∃o,TB.Ev W V o/\∃X,o=.ret X/\mL G X=J/\P X):TB.Ev W V (.ret (ER (out W V) G 0))/\P (out W V):=by
 obtain⟨Q,N,M⟩:=avd h;rw[show ER (out W V) G 0=out W V from anG [] G _ N];exact⟨Q,M⟩
def jb(n X W:Int):Bool:=decide (X<=n)&&decide (n<=W)
@[simp] def Pf (n X W:Int):jb n X W=J<->X<=n/\n<=W:=by simp[jb]
def rQ(a b:Int):Int:=if a<b then-1 else if b<a then 1 else 0
def nD(a b c d:Int):Int:=if fY a b&&fY c d then rQ (IntKind.i64.wrap (a*d)) (IntKind.i64.wrap (c*b)) else 0
def CX:FuncId->Option Fn
 |83=>U ⟨UT,E,E⟩
 |125=>U ⟨UU,E,E⟩
 |167=>U ⟨UV,E,E⟩
 |166=>U ⟨UW,E,E⟩
 |119=>U ⟨UX,E,E⟩
 |162=>U ⟨UY,E,E⟩
 |_=>Z
section
variable{p:kL}(H:∀f fn,CX f=U fn->JM p f fn)
include H
def avf(a b:Nat):p.Ev 166 [.i a,.i b] (.ret [.i (kE a b)]):=by
 refine Gy (H _ _ rfl) (.inl rfl) ?_;simp[UW];split;rename_i W;simp[W];rename_i W;refine uD (λX=>∃d x y:Nat,X=[.i d,.i x,.i y]/\y≠0/\kE x y=kE a b/\(x=0->d=kE a b)) (λX=>(xi X 2).toNat) ⟨b,a,b,ay,W,rfl,λV=>by subst V;simp⟩ ?_;rintro X ⟨d,x,y,rfl,P,Q,V⟩;have N:max (y:Int) 1=y:=ae;have M:aU .rem .u64 (x:Int) (y:Int)=((x%y:Nat):Int):=by
  simp only[aU];rw[Wb ae];exact(Int.natCast_emod x y).symm
 simp[xi,N,M,uC];split;rename_i G;simp[V G];refine⟨ae, ?_⟩;split;rename_i D;rw[<-Q,LX,Wy,show x%y=0 from ae];simp;refine⟨⟨x,y,x%y,⟨rfl,rfl,ae⟩,ae, ?_,λF=>aY F P⟩, ?_⟩;rw[<-Q,LX x y,Wy y x,LX];have:=Fo x (show 0<y from ae);omega
def avg(n:Int)(W:-1073741824<=n)(V:n<=1073741824):p.Ev 167 [.i n] (.ret [.i n.natAbs]):=by
 refine Gy (H _ _ rfl) (.inl rfl) ?_;simp[UV,aU];have X:∀x:Int,IntKind.u64.wrap x=x%18446744073709551616:=λx=>rfl
 rw[X,X];split<;>omega
def anH(n:Int):p.Ev 162 [.i n] (.ret [.b E]):=by
 refine Gy (H _ _ rfl) (.inl rfl) ?_;simp[UY]
def adg(a b:Int):p.Ev 119 [.i a,.i b] (.ret [.i (rQ a b)]):=by
 refine Gy (H _ _ rfl) (.inl rfl) ?_;simp[UX,rQ,bu (anH H _)]
 grind
def anI(n d:Int):p.Ev 125 [.i n,.i d] (.ret [.i (if fY n d then 0 else 120)]):=by
 refine Gy (H _ _ rfl) (.inl rfl) ?_;simp[UU]
 repeat' split
 any_goals(simp[fY];omega)
 all_goals
  rw[bu (avg H n ae ae)];have X:IntKind.u64.wrap d=(d.toNat:Int):=by
   have:IntKind.u64.wrap d=d%18446744073709551616:=rfl;omega
  have W:max d 0=(d.toNat:Int):=ae;simp[X];rw[W,bu (avf H n.natAbs d.toNat)];simp[fY] at*;omega
def anJ(a b c d:Int):p.Ev 83 [.i a,.i b,.i c,.i d] (.ret [.i (nD a b c d),.i (if fY a b&&fY c d then 0 else 120)]):=by
 refine Gy (H _ _ rfl) (.inl rfl) ?_;simp[UT,nD,aU,bu (anI H _ _),bu (adg H _ _)]
 grind
end
def Vf(f:FuncId)(fn:Fn)(h:CX f=U fn):JM TB f fn:=by
 unfold CX at h;split at h<;>cases h<;>exact has rfl eY eY
section
variable{R:bo->Prop}{G:aQ}{t:T}{O:ak}{L:dj}
def e82(n X W:Int):TB.Ev 44 [.i n,.i X,.i W] (.ret [.b (jb n X W)]):=by
 refine gA ?_;simp[T82,jb]
 grind
@[simp] def c82 (n X W:Int):iT TB.Ev R 44 [.i n,.i X,.i W] G t O L=iU TB.Ev R (.ret [.b (jb n X W)]) G t O L:=bu (e82 n X W)
def avi(n X W:Int):TB.Ev 57 [.i n,.i X,.i W] (.ret [.b (jb n X W)]):=by
 refine gA ?_;simp[ab8,jb]
 grind
@[simp] def aDQ (n X W:Int):iT TB.Ev R 57 [.i n,.i X,.i W] G t O L=iU TB.Ev R (.ret [.b (jb n X W)]) G t O L:=bu (avi n X W)
def e70(n X W:Int):TB.Ev 72 [.i n,.i X,.i W] (.ret [.b (jb n X W)]):=by
 refine gA ?_;simp[T70,jb]
 grind
@[simp] def c70 (n X W:Int):iT TB.Ev R 72 [.i n,.i X,.i W] G t O L=iU TB.Ev R (.ret [.b (jb n X W)]) G t O L:=bu (e70 n X W)
def avk(n X W:Int):TB.Ev 163 [.i n,.i X,.i W] (.ret [.b (jb n X W)]):=by
 refine gA ?_;simp[acj,jb]
 grind
@[simp] def aDS (n X W:Int):iT TB.Ev R 163 [.i n,.i X,.i W] G t O L=iU TB.Ev R (.ret [.b (jb n X W)]) G t O L:=bu (avk n X W)
def qS(n:Int)(u:Bool)(X W:Int):Bool:=if u then jb n X W else n==0
def avl(n X W:Int)(u:Bool):TB.Ev 82 [.i n,.b u,.i X,.i W] (.ret [.b (qS n u X W)]):=by
 refine gA ?_;simp[ace,qS]
 grind
@[simp] def aDT (n X W:Int) (u:Bool):iT TB.Ev R 82 [.i n,.b u,.i X,.i W] G t O L=iU TB.Ev R (.ret [.b (qS n u X W)]) G t O L:=bu (avl n X W u)
@[simp] def aDU (n:Int):iT TB.Ev R 162 [.i n] G t O L=iU TB.Ev R (.ret [.b E]) G t O L:=bu (anH Vf n)
@[simp] def aDV (a b:Int):iT TB.Ev R 119 [.i a,.i b] G t O L=iU TB.Ev R (.ret [.i (rQ a b)]) G t O L:=bu (adg Vf a b)
@[simp] def aDW (n d:Int):iT TB.Ev R 125 [.i n,.i d] G t O L=iU TB.Ev R (.ret [.i (if fY n d then 0 else 120)]) G t O L:=bu (anI Vf n d)
@[simp] def aDX (a b c d:Int):iT TB.Ev R 83 [.i a,.i b,.i c,.i d] G t O L=iU TB.Ev R (.ret [.i (nD a b c d),.i (if fY a b&&fY c d then 0 else 120)]) G t O L:=bu (anJ Vf a b c d)
def e66(a b c d:Int):TB.Ev 112 [.i a,.i b,.i c,.i d] (.ret [.b (dL a b c d)]):=by
 refine gA ?_;simp[T66,dL]
 grind
@[simp] def c66 (a b c d:Int):iT TB.Ev R 112 [.i a,.i b,.i c,.i d] G t O L=iU TB.Ev R (.ret [.b (dL a b c d)]) G t O L:=bu (e66 a b c d)
def jn(X:Bool)(x:Int):Int:=if X then x else 0
def e72(a b c d X W V Q:Int):TB.Ev 74 [.i a,.i b,.i c,.i d,.i X,.i W,.i V,.i Q] (.ret [.i (jn (dL a b c d&&dL X W V Q) (min a X)),.i (jn (dL a b c d&&dL X W V Q) (max b W)),.i (jn (dL a b c d&&dL X W V Q) (min c V)),.i (jn (dL a b c d&&dL X W V Q) (max d Q)),.i (if dL a b c d&&dL X W V Q then 0 else 150)]):=by
 refine gA ?_;simp[T72,jn]
 grind
@[simp] def c72 (a b c d X W V Q:Int):iT TB.Ev R 74 [.i a,.i b,.i c,.i d,.i X,.i W,.i V,.i Q] G t O L=iU TB.Ev R (.ret [.i (jn (dL a b c d&&dL X W V Q) (min a X)),.i (jn (dL a b c d&&dL X W V Q) (max b W)),.i (jn (dL a b c d&&dL X W V Q) (min c V)),.i (jn (dL a b c d&&dL X W V Q) (max d Q)),.i (if dL a b c d&&dL X W V Q then 0 else 150)]) G t O L:=bu (e72 a b c d X W V Q)
def e69(a b c d:Int):TB.Ev 71 [.i a,.i b,.i c,.i d] (.ret [.b (dL a b c d)]):=by
 refine gA ?_;simp[T69]
 grind
@[simp] def c69 (a b c d:Int):iT TB.Ev R 71 [.i a,.i b,.i c,.i d] G t O L=iU TB.Ev R (.ret [.b (dL a b c d)]) G t O L:=bu (e69 a b c d)
def anK(a b c d X W V Q:Int):Bool:=decide (X<=a)&&decide (b<=W)&&decide (V<=c)&&decide (d<=Q)
def jc(a b c d x y:Int):Int:=if !dL a b c d then 150 else if !(decide (-2199023255552<=x)&&decide (x<=2199023255552)&&decide (-2199023255552<=y)&&decide (y<=2199023255552)) then 2 else if dL (IntKind.i64.wrap (a+x)) (IntKind.i64.wrap (b+x)) (IntKind.i64.wrap (c+y)) (IntKind.i64.wrap (d+y)) then 0 else 2
def avp(a b c d x y:Int):TB.Ev 111 [.i a,.i b,.i c,.i d,.i x,.i y] (.ret [.i (jn (jc a b c d x y==0) (IntKind.i64.wrap (a+x))),.i (jn (jc a b c d x y==0) (IntKind.i64.wrap (b+x))),.i (jn (jc a b c d x y==0) (IntKind.i64.wrap (c+y))),.i (jn (jc a b c d x y==0) (IntKind.i64.wrap (d+y))),.i (jc a b c d x y)]):=by
 refine gA ?_;simp[acd,jn,aU]
 repeat' split
 all_goals(simp_all[jc])
 all_goals grind
@[simp] def aD1 (a b c d x y:Int):iT TB.Ev R 111 [.i a,.i b,.i c,.i d,.i x,.i y] G t O L=iU TB.Ev R (.ret [.i (jn (jc a b c d x y==0) (IntKind.i64.wrap (a+x))),.i (jn (jc a b c d x y==0) (IntKind.i64.wrap (b+x))),.i (jn (jc a b c d x y==0) (IntKind.i64.wrap (c+y))),.i (jn (jc a b c d x y==0) (IntKind.i64.wrap (d+y))),.i (jc a b c d x y)]) G t O L:=bu (avp a b c d x y)
end
structure Sl(v:RV):Prop where
 sl:∃a n c,v.val=.slice a n c
 len:lenOf v.val=Y v.aj
 sm:Y v.aj<=140737488355328
def ci(v:RV)(i j:Nat):Int:=bS (bQ v.aj i j).val
def cb(v:RV)(i j:Nat):Bool:=jp (bQ v.aj i j).val
def Pg(n:Nat)(X:Nat->bn->Prop):bn->Prop
 |.i j::W=>∃i:Nat,j=i/\i<=n/\X i W
 |_=>False
def Ll(n:Nat):bn->Nat
 |.i j::_=>n-j.toNat
 |_=>0
section
variable{e:FuncId->bn->bo->Prop}{R:bo->Prop}{O:ak}{L:dj}
def cT{G:aQ}{P:av}{t:T}(n:Nat)(X:Nat->bn->Prop)(N:Pg n X (P.map (C.xv O)))(h:∀(i:Nat) W,i<=n->X i W->t.wp e R (O.ext (.i i::W)) (⟨Q,Pg n X,Ll n,n-i⟩::L)):T.wp e R (.loop Q G P t) O L:=by
 refine uD (Pg n X) (Ll n) N λM V=> ?_
 match M,V with
 |.i j::W,V=>
  obtain⟨i,rfl,F,D⟩:=V;have:=h i W F D;simpa[Ll] using this
def ew{n:Int}(X:-9223372036854775808<=n)(W:n<9223372036854775808):IntKind.i64.wrap n=n:=by
 rw[IntKind.wrap_i64];omega
def HH{i:Nat}(h:i<=140737488355328):aU .add I (i:Int) 1=((i+1:Nat):Int):=by
 simp only[aU];rw[ew ae ae];omega
def cJ{aA n:Nat}{J:Nat->bn->Prop}{rest:bn}(X:Q<n)(W:n<=140737488355328):Pc (U ⟨aA,Pg n J,Ll n,n-Q⟩) (.i (aU .add I (Q:Int) 1)::rest)=J (Q+1) rest:=by
 rw[HH ae];refine propext ⟨λh=> ?_,λh=>⟨⟨Q+1,rfl,ae,h⟩, ?_⟩⟩;obtain⟨⟨k,V,_,h⟩,_⟩:=h;have:k=Q+1:=ae;exact this▸h;simp only[Ll];omega
end
end
inductive KX where
 |i
 |b
 |r
 deriving DecidableEq
def LK.kx:LK->KX
 |.int _=>.i
 |.bool=>.b
 |.am _=>.r
def XV.kx:XV->KX
 |.i _=>.i
 |.b _=>.b
 |.r _=>.r
def C.kx:C->KX
 |.bool _=>.b
 |.am _=>.r
 |_=>.i
abbrev Tot:=FuncId->Option (List KX×List KX)
def Tot.ok(V:Tot):Prop:=∀f p r,V f=U (p,r)->∀X,X.map XV.kx=p->∃W,TB.Ev f X (.ret W)/\W.map XV.kx=r
def vU{P:Int->Prop}(h:∃o,TB.Ev W V o/\∃e,o=.ret [.i e]/\P e):TB.Ev W V (.ret [.i (oi W V 0)])/\P (oi W V 0):=by
 obtain⟨o,X,e,rfl,Q⟩:=h;have:oi W V 0=e:=by simp only[oi,adf X];rfl
 rw[this];exact⟨X,Q⟩
def mkb{P:Bool->Prop}(h:∃o,TB.Ev W V o/\∃e,o=.ret [.b e]/\P e):TB.Ev W V (.ret [.b (ob W V 0)])/\P (ob W V 0):=by
 obtain⟨o,X,e,rfl,Q⟩:=h;have:ob W V 0=e:=by simp only[ob,adf X];rfl
 rw[this];exact⟨X,Q⟩
structure CY(roles bars:Int)(c:Nat->Int):Prop where
 kind:1<=c 4/\c 4<=9
 bj:0<=c 1/\c 1<roles
 ar:0<=c 2/\c 2<bars
 mark:1<=c 3/\c 3<=3
 side:if c 4=1\/c 4=3\/c 4=4\/c 4=9 then 1<=c 5/\c 5<=2 else c 5=0
 dir:if c 4=1\/c 4=2 then 1<=c 6/\c 6<=8 else if c 4=3\/c 4=4\/c 4=5 then 0<=c 6/\c 6<=8 else c 6=0
 avq:if c 4=3\/c 4=4\/c 4=5\/c 4=9 then 1<=c 7/\c 7<=3 else c 7=0
 size:if c 4=1\/c 4=2 then 1<=c 8/\c 8<=16 else if c 4=6 then 1<=c 8/\c 8<=7 else c 8=0
 wth:if c 4=7\/c 4=8 then 1<=c 9/\c 9<=roles else c 9=0
 from_:fY (c 10) (c 11)=J
 to:fY (c 12) (c 13)=J
section
variable{R:bo->Prop}{G:aQ}{t:T}{O:ak}{L:dj}
def lN(c:Nat->Int):bn:=[.i (c 0),.i (c 1),.i (c 2),.i (c 3),.i (c 4),.i (c 5),.i (c 6),.i (c 7),.i (c 8),.i (c 9),.i (c 10),.i (c 11),.i (c 12),.i (c 13)]
def kT(k:Int)(j:Nat):RV:=bQ (DW[0]?.getD default).aj k j
def anN{c:Nat->Int}{X W:Int}(H:1<=c 4/\c 4<=9)(G:0<=c 1/\c 1<=X-1)(F:0<=c 2/\c 2<=W-1)(D:1<=c 3/\c 3<=3)(V:qS (c 5) (jp (kT (c 4) 0).val) 1 2=J)(Q:qS (c 6) (jp (kT (c 4) 1).val) (bS (kT (c 4) 3).val) 8=J)(P:qS (c 7) (decide (0<bS (kT (c 4) 4).val)) 1 (bS (kT (c 4) 4).val)=J)(N:qS (c 8) (decide (0<bS (kT (c 4) 5).val)) 1 (bS (kT (c 4) 5).val)=J)(M:qS (c 9) (jp (kT (c 4) 2).val) 1 X=J)
  (B:fY (c 10) (c 11)=J)(A:fY (c 12) (c 13)=J):CY X W c:=by
 have:c 4=1\/c 4=2\/c 4=3\/c 4=4\/c 4=5\/c 4=6\/c 4=7\/c 4=8\/c 4=9:=ae;rcases this with h|h|h|h|h|h|h|h|h
 all_goals
  simp[h,kT,DW,Ai,bV,iV,bQ,qS,jp,bS] at V Q P N M;constructor<;>(first|omega|assumption|(simp[h];done)|(simp[h];omega))
def t84(c:Nat->Int)(X W:Int)(N:-1000<=X/\X<=1000000)(M:-1000<=W/\W<=1000000):∃o,TB.Ev 46 (lN c++[.i X,.i W]) o/\∃b,o=.ret [.b b]/\(b=J->CY X W c):=by
 refine fj ?_;have V:aU .sub I X 1=X-1:=by simp only[aU];rw[ew ae ae]
 have Q:aU .sub I W 1=W-1:=by simp only[aU];rw[ew ae ae]
 have P:lenOf (DW[0]?.getD default).val=10:=rfl;simp[O7,lN,V,Q,P]
 repeat' split
 all_goals(try simp)
 all_goals(intros;refine⟨ae, ?_⟩;intros;apply anN<;>(first|assumption|omega|grind))
def f84(c:Nat->Int)(X W:Int)(V:-1000<=X/\X<=1000000)(Q:-1000<=W/\W<=1000000):TB.Ev 46 (lN c++[.i X,.i W]) (.ret [.b (ob 46 (lN c++[.i X,.i W]) 0)])/\(ob 46 (lN c++[.i X,.i W]) 0=J->CY X W c):=mkb (t84 c X W V Q)
def Ln{a b:Int}(h:b≠0):(a.tmod b).natAbs<b.natAbs:=by
 rw[Ia];exact Fo _ ae
def avt(a b c:Int)(N:1<=c)(M:c<=32768)(H:-c<=a/\a<=c)(G:-c<=b/\b<=c):∃o,TB.Ev 81 [.i a,.i b,.i c] o/\∃x y z,o=.ret [.i x,.i y,.i z]:=by
 refine fj ?_;simp[U6];refine uD (λX=>∃n d:Int,X=[.i n,.i d]∧-c<=n/\n<=c∧-c<=d/\d<=c) (λX=>(xi X 0).natAbs) ⟨a,0,rfl,ae,ae,ae,ae⟩ ?_;rintro _ ⟨n,d,rfl,W,V,Q,P⟩;simp[xi,uC,aU];split
 case isFalse h=>
  have:=Ln (a:=d) h;refine⟨h,⟨_,_,⟨rfl,rfl⟩, ?_⟩,by rw[<-Ia];exact this⟩;omega
 refine uD (λX=>∃n d:Int,X=[.i n,.i d]∧-c<=n/\n<=c∧-c<=d/\d<=c) (λX=>(xi X 0).natAbs) ⟨b,d,rfl,ae,ae,ae,ae⟩ ?_;rintro _ ⟨n,d,rfl,W,V,Q,P⟩;simp[xi,uC,aU];split
 case isFalse h=>
  have:=Ln (a:=d) h;refine⟨h,⟨_,_,⟨rfl,rfl⟩, ?_⟩,by rw[<-Ia];exact this⟩;omega
 refine uD (λX=>∃n d:Int,X=[.i n,.i d]∧-c<=n/\n<=c∧-c<=d/\d<=c/\(n≠0\/d≠0)) (λX=>(xi X 0).natAbs) ⟨c,d,rfl,ae,ae,ae,ae,ae⟩ ?_;rintro _ ⟨n,d,rfl,W,V,Q,P,F⟩;simp[xi,uC,aU];split
 case isFalse h=>
  have:=Ln (a:=d) h;refine⟨h,⟨_,_,⟨rfl,rfl⟩, ?_⟩,by rw[<-Ia];exact this⟩;omega
 have:IntKind.i64.wrap (-d)=-d:=ew ae ae;simp[this];omega
def t83(a b c:Int):∃o,TB.Ev 45 [.i a,.i b,.i c] o/\∃e,o=.ret [.i e]/\True:=by
 refine fj ?_;simp[U7];intro V Q X P N;have W:aU .sub I 0 c=-c:=by simp only[aU];rw[ew ae ae];omega
 rw[W] at X;obtain⟨o,h,x,y,z,rfl⟩:=avt a b c ae ae ae ae;rw[bu h];simp
@[simp] def c83 (a b c:Int):iT TB.Ev R 45 [.i a,.i b,.i c] G t O L=iU TB.Ev R (.ret [.i (oi 45 [.i a,.i b,.i c] 0)]) G t O L:=bu (vU (t83 a b c)).1
structure Lq(tp:RV):Prop where
 sl:Sl tp
 pos:0<Y tp.aj
 zero:ci tp 0 0=0
def anO{j:Nat}(h:j<=140737488355328)(W:Q<=j):IntKind.i64.wrap (aU .shr .u64 (IntKind.u64.wrap (aU .add I (Q:Int) (j:Int))) 1)=(((Q+j)/2:Nat):Int):=by
 simp only[aU];rw[ew (n:=(Q:Int)+j) ae ae];rw[show IntKind.u64.wrap ((Q:Int)+j)=(Q:Int)+j by rw[IntKind.wrap_u64];omega];have:((Q:Int)+j).fdiv (2^min (1:Int).toNat IntKind.u64.bits)=(((Q+j)/2:Nat):Int):=by
  have X:(2:Int)^min (1:Int).toNat IntKind.u64.bits=2:=rfl;rw[X,aDb _ ae];omega
 rw[this,ew ae ae]
def avv(P ar:Int)(X N M:RV)(h:Lq X)(A:0<=ar):∃o,TB.Ev 123 [.i P,.r X,.r N,.r M,.i ar] o/\∃e,o=.ret [.i e]/\True:=by
 refine fj ?_;simp[UZ];have z:=h.pos;have y:=h.sl.sm;refine uD (λW=>∃i j:Nat,W=[.i i,.i j]/\i<=j/\j<=Y X.aj/\(j=Y X.aj\/ar<ci X j 0)) (λW=>(xi W 1-xi W 0).toNat) ⟨0,Y X.aj,by simp[h.sl.len],ae,ae,.inl rfl⟩ ?_;rintro _ ⟨i,j,rfl,H,x,V⟩;simp[xi,uC,h.sl.len,anO (show j<=140737488355328 from ae) H];split;rename_i G;refine⟨ae, ?_⟩;have F:((i:Int)+j)/2=(((i+j)/2:Nat):Int):=ae;have D:=HH (i:=(i+j)/2) ae;rw[F,D];split;refine⟨⟨(i+j)/2+1,j,⟨rfl,rfl⟩,ae,ae,V⟩,ae⟩;rename_i Q;refine⟨⟨i,(i+j)/2,⟨rfl,rfl⟩,ae,ae,.inr ?_⟩,ae⟩;simp only[ci];omega;rename_i G;have B:i=j:=ae;subst B;have:1<=i:=by
  rcases zt i with rfl|Q;have:=h.zero;rcases V with V|V<;>omega;exact Q
 rw[show aU .sub I (i:Int) 1=(i:Int)-1 by simp only[aU];rw[ew ae ae]];omega
def avw(W ar:Int)(X V Q:RV)(h:Lq X)(P:0<=ar):iT TB.Ev R 123 [.i W,.r X,.r V,.r Q,.i ar] G t O L=iU TB.Ev R (.ret [.i (oi 123 [.i W,.r X,.r V,.r Q,.i ar] 0)]) G t O L:=bu (vU (avv W ar X V Q h P)).1
end
section
def bK(X:ax):RV:=.mk (.slice Z (Y X) (Y X)) X
@[simp] def aD3 (x:LE) (O:ak):iq x O=bK (x.aj O):=rfl
@[simp] def aD4 (r:ax):(bK r).aj=r:=rfl
@[simp] def aD5 (r:ax):lenOf (bK r).val=Y r:=rfl
@[simp] def aD6:RV.mk (.slice Z 0 0) []=bK []:=rfl
def Vg(h:Y X<=140737488355328):Sl (bK X):=⟨⟨_,_,_,rfl⟩,rfl,h⟩
attribute[simp] LE.aj C.cj
def pw(c:Nat->Int):aH:=[.mk (.int I (c 0)) [],.mk (.int I (c 1)) [],.mk (.int I (c 2)) [],.mk (.int I (c 3)) [],.mk (.int I (c 4)) [],.mk (.int I (c 5)) [],.mk (.int I (c 6)) [],.mk (.int I (c 7)) [],.mk (.int I (c 8)) [],.mk (.int I (c 9)) [],.mk (.int I (c 10)) [],.mk (.int I (c 11)) [],.mk (.int I (c 12)) [],.mk (.int I (c 13)) []]
def anP{lt:aH->aH->Bool}{x:aH}:∀{l:ax},(ef lt x l).Perm (x::l)
 |[]=>aqH _
 |y::r=>by
  simp only[ef];split;exact aqH _;exact((anP (l:=r)).cons y).trans (aDH x y r)
def anQ{lt:aH->aH->Bool}:∀(l acc:ax),(l.foldl (λacc x=>ef lt x acc) acc).Perm (acc++l)
 |[],acc=>ay
 |x::l,acc=>by
  simp only[Dg];refine(anQ l _).trans ?_;refine(List.Perm.append_right l anP).trans ?_;rw[fG];exact List.perm_middle.symm
def AS{lt:aH->aH->Bool}(l:ax):(bT lt l).Perm l:=by
 have:=anQ (lt:=lt) l [];simpa[bT] using this
def AT(X:ax):Prop:=X.Pairwise λx y=>aN 0 x≠aN 0 y
def AT.perm(h:AT X)(W:P.Perm X):AT P:=(W.symm.pairwise_iff (λ{x y} h=>h.symm)).1 h
def anR:∀{X:ax},AT X->wF (bm.lex [0] E).lt X=J
 |[],_=>rfl
 |x::r,h=>by
  simp only[AT,jL] at h;simp only[wF,az,fp,jd];refine⟨λy V=> ?_,anR h.2⟩;have W:¬aN 0 x=aN 0 y:=h.1 y V;have Q:¬aN 0 y=aN 0 x:=λe=>W e.symm
  simp only[bm.lt,jq,aK W,aK Q,iW,ga,cF];omega
def avx{W:Bool}(V:Y X<=1099511627776)(h:AT X):iQ (.lex [0] E) W X=U (bT (bm.lex [0] E).lt X):=by
 simp only[iQ];rw[aI (by simp[V,anR h,bm.ok])]
def avy{rows:ax}(X:Y rows<=1099511627776)(h:∀x∈rows,fY (aN 10 x) (aN 11 x)=J):iQ (.ratio 10 11) J rows=U (bT (bm.ratio 10 11).lt rows):=by
 simp only[iQ];rw[aI (by simp only[az,cF,aqK,and_true];exact⟨X,fp.2 h⟩)]
structure cX where
 cW:Int
 cD:Int
 cA:Int
 cB:Int
 cC:Int
 cO:Int
 cr0:RV
 ct0:RV
 cp0:RV
 kj:RV
 cg0:RV
section
variable[Inhabited cX]
def th:Int:=(default:cX).cW
def tj:Int:=(default:cX).cD
def Ph:Int:=(default:cX).cA
def Pj:Int:=(default:cX).cB
def Vh:Int:=(default:cX).cC
def eW:Int:=(default:cX).cO
def aX:RV:=(default:cX).cr0
def px:RV:=(default:cX).ct0
def qT:RV:=(default:cX).cp0
def qU:RV:=(default:cX).kj
def bB:RV:=(default:cX).cg0
end
structure Lr[Inhabited cX]:Prop where
 nr:1<=Y aX.aj/\Y aX.aj<=64
 ns:Y bB.aj<=4096
 br:1<=eW/\eW<=4096
 wd:1<=th/\th<=1000/\1<=tj/\tj<=1000
 tp:Lq px
 ES:∀i<Y bB.aj,CY (Y aX.aj) eW (ci bB i)
 id:∀i<Y bB.aj,0<=ci bB i 0/\ci bB i 0<=1048576
 ids:∀i j,i<j->j<Y bB.aj->ci bB i 0<ci bB j 0
structure gU[Inhabited cX]:Prop where
 rl:Sl aX
 tp:Sl px
 ps:Sl qT
 sp:Sl qU
 sg:Sl bB
section
variable{R:bo->Prop}{G:aQ}{t:T}{O:ak}{L:dj}
variable[Inhabited cX]
def wk:bn:=[.i th,.i tj,.i Ph,.i Pj,.i Vh,.r aX,.i eW,.r px,.r qT,.r qU,.r bB]
def Ls:Prop:=∀(eW:Int)(px qT qU:RV),Sl px->Sl qT->Sl qU->TB.Ev 43 [.i eW,.r px,.r qT,.r qU] (.ret [.i (oi 43 [.i eW,.r px,.r qT,.r qU] 0)])/\(oi 43 [.i eW,.r px,.r qT,.r qU] 0=0->Lq px/\1<=eW/\eW<=4096)
def t37(F:Ls)(h:gU):∃o,TB.Ev 19 wk o/\∃e,o=.ret [.i e]/\(e=0->Lr):=by
 refine fj ?_;obtain⟨D,B⟩:=F eW px qT qU h.tp h.ps h.sp;simp[U0,wk,h.rl.len,h.sg.len,bu D]
 repeat'(first|intro _|split)
 any_goals(exfalso;omega)
 obtain⟨A,q,p⟩:=B uM;refine cT (Y aX.aj) (λ_ P=>P=[]) ⟨0,rfl,ae,rfl⟩ ?_;rintro i _ X rfl;simp[h.rl.len];split;rename_i X;simp[cJ X h.rl.sm,X];refine cT (Y bB.aj) (λi P=>∃V:Int,P=[.i V]∧-1<=V/\(∀k<i,CY (Y aX.aj) eW (ci bB k)/\0<=ci bB k 0/\ci bB k 0<=V/\ci bB k 0<=1048576)/\∀j k,j<k->k<i->ci bB j 0<ci bB k 0) ⟨0,rfl,ae,-1,rfl,ae,ae,ae⟩ ?_;rintro j _ N ⟨V,rfl,n,W,M⟩;simp[h.rl.len,h.sg.len];split;rename_i N;refine⟨N,λm l=> ?_⟩;obtain⟨H,Q⟩:=f84 (ci bB j) (Y aX.aj) eW ae ae;simp only[lN,ci,fG,gr] at H Q;rw[bu H];simp[cJ N h.sg.sm];intro z;have Q:=Q z;refine⟨ae,λk g=> ?_,λa b G f=> ?_⟩;by_cases y:k=j;subst y;refine⟨Q, ?_, ?_, ?_⟩<;>simp only[ci]<;>omega;obtain⟨x,w,v,u⟩:=W k ae;exact⟨x,w,by simp only[ci] at v⊢;omega,u⟩;by_cases s:b=j;subst s;have:=(W a G).2.2.1;simp only[ci] at this⊢;omega;exact M a b G ae;have r:j=Y bB.aj:=ae;subst r;have d:Y aX.aj≠0:=λe=>aY (Fa.1 e) uM
 exact⟨ae,ae,ae,ae,A,λi X=>(W i X).1,λi X=>⟨(W i X).2.1,(W i X).2.2.2⟩,M⟩
end
end
section
variable{R:bo->Prop}{G:aQ}{t:T}{O:ak}{L:dj}
variable[Inhabited cX]
@[simp] def vV (c:Nat->Int) (j:Nat) (h:j<14):aN j (pw c)=c j:=by
 match j,h with
 |0,_|1,_|2,_|3,_|4,_|5,_|6,_|7,_|8,_|9,_|10,_|11,_|12,_|13,_=>rfl
def j9(bj ar:Int):Nat->ax
 |0=>[]
 |i+1=>j9 bj ar i++(if ci bB i 1=bj/\ci bB i 2=ar then[pw (ci bB i)] else[])
def Pl{bj ar:Int}:∀i,(j9 bj ar i).length<=i
 |0=>by simp[j9]
 |i+1=>by
  have:=Pl (bj:=bj) (ar:=ar) i;simp only[j9,gD];split<;>simp<;>omega
def Pm{bj ar:Int}{x:aH}:∀{i},x∈j9 bj ar i<->∃k<i,x=pw (ci bB k)/\ci bB k 1=bj/\ci bB k 2=ar
 |0=>by simp[j9]
 |i+1=>by
  simp only[j9,eP,Pm (i:=i)];constructor;rintro(⟨k,V,X⟩|h);exact⟨k,ae,X⟩;split at h;rename_i Q;simp at h;exact⟨i,ae,h,Q⟩;simp at h;rintro⟨k,V,X,W⟩;by_cases P:k=i;subst P;right;rw[aI W];simp[X];exact .inl ⟨k,ae,X,W⟩
def anS{bj ar:Int}(h:∀i j,i<j->j<Y bB.aj->ci bB i 0<ci bB j 0):∀{i},i<=Y bB.aj->AT (j9 bj ar i)
 |0,_=>xK
 |i+1,Q=>by
  simp only[j9,AT,mT];refine⟨anS h ae,by split<;>simp,λx W y X=> ?_⟩;obtain⟨k,V,rfl,-⟩:=(Pm).1 W;split at X;simp at X;subst X;rw[vV _ _ ae,vV _ _ ae];have:=h k i V ae;omega;simp at X
def kQ:Int:=oi 19 wk 0
def gV(bj ar:Int):Int:=if kQ=0 then(if jb bj 0 (Y aX.aj-1)&&jb ar 0 (eW-1) then 0 else 1) else kQ
def fy(bj ar:Int):ax:=if gV bj ar=0 then bT (bm.ratio 10 11).lt (j9 bj ar (Y bB.aj)) else[]
def CZ(X:Ls)(h:gU):TB.Ev 19 wk (.ret [.i kQ])/\(kQ=0->Lr):=vU (t37 X h)
def e77(G:Ls)(h:gU)(bj ar:Int):TB.Ev 77 (wk++[.i bj,.i ar]) (.ret [.r (bK (fy bj ar)),.i (gV bj ar)]):=by
 refine gA ?_;obtain⟨W,F⟩:=CZ G h;simp only[wk] at W;simp[T77,wk,h.rl.len,bu W];split
 case isFalse X=>
  simp[fy,gV,X]
 rename_i X;have V:=F X;have w:=V.nr;have v:=V.br;rw[show aU .sub I (Y aX.aj:Int) 1=Y aX.aj-1 by simp only[aU];rw[ew ae ae],show aU .sub I eW 1=eW-1 by simp only[aU];rw[ew ae ae]];split
 case isFalse Q=>
  simp[fy,gV,X,Q]
 rename_i Q;split
 case isFalse N=>
  simp[fy,gV,X,Q,N]
 rename_i N;refine cT (Y bB.aj) (λi D=>D=[.r (bK (j9 bj ar i))]) ⟨0,rfl,ae,rfl⟩ ?_;rintro i _ M rfl;have u:=Pl (bj:=bj) (ar:=ar) i;have s:=V.ns;simp[h.sg.len];split;rename_i M;simp[cJ M h.sg.sm,j9,ci,M];have q:(j9 bj ar i).length<=536870912:=ae;split;rename_i P;split;rename_i H;simp[P,H,pw,ci];omega;rename_i H;simp[P,H];rename_i P;simp[P];have B:i=Y bB.aj:=ae;subst B;have A:=avy (rows:=j9 bj ar (Y bB.aj)) (by have:=Pl (bj:=bj) (ar:=ar) (Y bB.aj);have:=h.sg.sm;omega) (λx z=>by
  obtain⟨k,W,rfl,-⟩:=(Pm).1 z;rw[vV _ _ ae,vV _ _ ae];exact(V.ES k W).from_)
 simp only[Pd,Pe];refine⟨_,A, ?_⟩;have y:gV bj ar=0:=by simp[gV,X,Q,N]
 simp[fy,y,bK,nO]
def avE{bj ar:Int}(Q:kQ=0->Lr)(X:N∈fy bj ar):∃k<Y bB.aj,N=pw (ci bB k)/\ci bB k 1=bj/\ci bB k 2=ar/\CY (Y aX.aj) eW (ci bB k):=by
 unfold fy at X;split at X;rename_i W;have P:kQ=0:=by
  unfold gV at W;split at W;assumption;exact W
 obtain⟨k,V,M,H,G⟩:=(Pm).1 ((AS _).mem_iff.1 X);exact⟨k,V,M,H,G,(Q P).ES k V⟩;simp at X
def avF{bj ar:Int}(W:kQ=0->Lr):AT (fy bj ar):=by
 unfold fy;split;rename_i X;have V:kQ=0:=by
  unfold gV at X;split at X;assumption;exact X
 exact(anS (W V).ids (cd _)).perm (AS _);exact xK
def avG{bj ar:Int}(W:kQ=0->Lr):(fy bj ar).length<=4096:=by
 unfold fy;split;rename_i X;have V:kQ=0:=by
  unfold gV at X;split at X;assumption;exact X
 rw[nO];have:=Pl (bj:=bj) (ar:=ar) (Y bB.aj);have:=(W V).ns;omega;simp
end
section
variable{R:bo->Prop}{G:aQ}{t:T}{O:ak}{L:dj}
def avH(c:Nat->Int)(r:RV)(k:Nat):aH:=pw c++[.mk (.int I (ci r k 0)) [],.mk (.int I (ci r k 1)) [],.mk (.int I (ci r k 2)) [],.mk (.bool (cb r k 3)) []]
def fQ(X:ax)(i j:Nat):Int:=bS (bQ X i j).val
def anU(l:ax)(r:RV)(n:Nat)(out:ax):Prop:=Y out=n/\∀i<n,∃k<Y r.aj,out[i]?=U (avH (fQ l i) r k)/\ci r k 0=fQ l i 0
def anU.add{r:RV}(h:anU X r Q P){k:Nat}(W:k<Y r.aj)(hid:ci r k 0=fQ X Q 0):anU X r (Q+1) (P++[avH (fQ X Q) r k]):=by
 refine⟨by simp[h.1],λi F=> ?_⟩;by_cases V:i=Q;subst V;refine⟨k,W, ?_,hid⟩;rw[iC (by rw[h.1];omega),h.1];simp;obtain⟨N,M,H,G⟩:=h.2 i ae;exact⟨N,M,by rw[dU (by rw[h.1];omega)];exact H,G⟩
def Pn(G:aQ)(h:∃o,TB.Ev W V o/\∃X,o=.ret X/\mL G X=J):TB.Ev W V (.ret (ER (out W V) G 0)):=by
 obtain⟨o,Q,X,N,M⟩:=h;exact(shp G (P:=λ_=>True) ⟨o,Q,X,N,M,trivial⟩).1
def kI:Nat->aQ
 |0=>[]
 |n+1=>.int I::kI n
@[simp] def kI0:kI 0=[]:=rfl
@[simp] def kIs (n:Nat):kI (n+1)=.int I::kI n:=rfl
def avI(s:RV)(b:Int):∃o,TB.Ev 157 [.r s,.i b] o/\∃X,o=.ret X/\mL (kI 1) X=true:=by
 cases W:s.val with
 |string u=>exact⟨_,ajk (by simp only[TB,Lk,Ve,W];rfl),_,rfl,rfl⟩
 |_=>exact⟨_,ajk (by simp only[TB,Lk,Ve,W];rfl),_,rfl,rfl⟩
@[simp] def aD9 (s:RV) (b:Int):iT TB.Ev R 157 [.r s,.i b] G t O L=iU TB.Ev R (.ret [.i (oi 157 [.r s,.i b] 0)]) G t O L:=bu (Pn _ (avI s b))
def avJ(a:Int):∃o,TB.Ev 103 [.i a] o/\∃X,o=.ret X/\mL (kI 1) X=true:=by
 refine fj ?_;simp[U5]
@[simp] def aEa (a:Int):iT TB.Ev R 103 [.i a] G t O L=iU TB.Ev R (.ret [.i (oi 103 [.i a] 0)]) G t O L:=bu (Pn _ (avJ a))
def tq(v:RV):Prop:=∃s,v.val=.string s
def anV(v:RV):tq (ee .str v):=by
 simp only[ee];split<;>exact⟨_,rfl⟩
def avK(s:RV)(Q:tq s):∃o,TB.Ev 68 [.r s] o/\∃W,o=.ret W/\mL [.bool] W=true:=by
 refine fj ?_;obtain⟨u,V⟩:=Q;simp[U4,V,sy,lenOf];intro P G;have N:0<u.size:=by
  rcases zt u.size with h|h;exfalso;apply P;have M:u=ByteArray.empty:=by simpa using h
  rw[M,ByteArray.toList,ByteArray.toList.loop];simp;exact h
 refine⟨N,λ_=> ?_⟩;refine cT u.size (λ_ H=>H=[]) ⟨0,rfl,ae,rfl⟩ ?_;rintro i _ X rfl;simp[V,lenOf];intro X;simp[cJ X (show u.size<=140737488355328 from ae),X]
def anW(s:RV)(X:tq s):iT TB.Ev R 68 [.r s] G t O L=iU TB.Ev R (.ret [.b (ob 68 [.r s] 0)]) G t O L:=bu (Pn [.bool] (avK s X))
def t74(W V a2 Q P a5 a6 a7 a8 N M gp gq:Int):∃o,TB.Ev 29 [.i W,.i V,.i a2,.i Q,.i P,.i a5,.i a6,.i a7,.i a8,.i N,.i M,.i gp,.i gq] o/\∃X,o=.ret X/\mL (kI 1) X=true:=by
 refine fj ?_;simp[O8]
def ET(X W a2 V Q a5 a6 a7 a8 P N gp gq:Int):Int:=oi 29 [.i X,.i W,.i a2,.i V,.i Q,.i a5,.i a6,.i a7,.i a8,.i P,.i N,.i gp,.i gq] 0
@[simp] def c74 (X W a2 V Q a5 a6 a7 a8 P N gp gq:Int):iT TB.Ev R 29 [.i X,.i W,.i a2,.i V,.i Q,.i a5,.i a6,.i a7,.i a8,.i P,.i N,.i gp,.i gq] G t O L=iU TB.Ev R (.ret [.i (ET X W a2 V Q a5 a6 a7 a8 P N gp gq)]) G t O L:=bu (Pn _ (t74 X W a2 V Q a5 a6 a7 a8 P N gp gq))
def t75(s:RV)(W:tq s)(V Q a2 P N a5 a6 a7 a8 M H gp gq X G F:Int):∃o,TB.Ev 38 [.r s,.i V,.i Q,.i a2,.i P,.i N,.i a5,.i a6,.i a7,.i a8,.i M,.i H,.i gp,.i gq,.i X,.i G,.i F] o/\∃e,o=.ret [.i e]/\(e=0->(1<=gp/\gp<=3)/\(1<=gq/\gq<=3)/\1<=X/\X<=3):=by
 refine fj ?_;simp[U8,anW s W];intros;omega
def C0(s:RV)(X W a2 V Q a5 a6 a7 a8 P N gp gq M H G:Int):Int:=oi 38 [.r s,.i X,.i W,.i a2,.i V,.i Q,.i a5,.i a6,.i a7,.i a8,.i P,.i N,.i gp,.i gq,.i M,.i H,.i G] 0
def f75(s:RV)(F:tq s)(W V a2 Q P a5 a6 a7 a8 N M gp gq X H G:Int):TB.Ev 38 [.r s,.i W,.i V,.i a2,.i Q,.i P,.i a5,.i a6,.i a7,.i a8,.i N,.i M,.i gp,.i gq,.i X,.i H,.i G] (.ret [.i (C0 s W V a2 Q P a5 a6 a7 a8 N M gp gq X H G)])/\(C0 s W V a2 Q P a5 a6 a7 a8 N M gp gq X H G=0->(1<=gp/\gp<=3)/\(1<=gq/\gq<=3)/\1<=X/\X<=3):=vU (t75 s F W V a2 Q P a5 a6 a7 a8 N M gp gq X H G)
def c75(s:RV)(D:tq s)(X W a2 V Q a5 a6 a7 a8 P N gp gq M H F:Int):iT TB.Ev R 38 [.r s,.i X,.i W,.i a2,.i V,.i Q,.i a5,.i a6,.i a7,.i a8,.i P,.i N,.i gp,.i gq,.i M,.i H,.i F] G t O L=iU TB.Ev R (.ret [.i (C0 s X W a2 V Q a5 a6 a7 a8 P N gp gq M H F)]) G t O L:=bu (f75 s D X W a2 V Q a5 a6 a7 a8 P N gp gq M H F).1

variable[Inhabited cX]
structure avP:Prop where
 rl:lenOf aX.val<=100
 tp:lenOf px.val<=64
 ps:lenOf qT.val<=64
 sp:lenOf qU.val<=64
 sg:lenOf bB.val<=5000
def cr(e:TypeId)(v:RV)(i:Nat):RV:=ee (.sl e) (bQ v.aj i 0)
structure aEc(wg bd st re:RV):Prop where
 few:avP
 wg:lenOf wg.val<=20
 bd:lenOf bd.val<=100
 st:lenOf st.val<=100
 rel:lenOf re.val<=100
 jf:∀i:Nat,i<lenOf re.val->lenOf (cr 104 re i).val<=100
def e65(V:Ls)(h:gU)(ar:Int):TB.Ev 113 (wk++[.i ar]) (.ret [.i (if kQ=0 then(if jb ar 0 (eW-1) then 0 else 1) else kQ)]):=by
 refine gA ?_;obtain⟨W,Q⟩:=CZ V h;simp only[wk] at W;simp[T65,wk,bu W];split;rename_i X;have:=(Q X).br;rw[show aU .sub I eW 1=eW-1 by simp only[aU];rw[ew ae ae]];split<;>simp_all;rename_i X;simp[X]
def oH(c:Nat->Int):bn:=[.i (c 0),.i (c 1),.i (c 2),.i (c 3),.i (c 4),.i (c 5),.i (c 6),.i (c 7)]
def t25(c:Nat->Int)(ar:Int):∃o,TB.Ev 40 (oH c++[.i ar]) o/\∃X,o=.ret X/\mL (kI 5) X=true:=by
 refine fj ?_;simp[Lh,oH]
def p9(c:Nat->Int)(ar:Int)(k:Nat):Int:=oi 40 (oH c++[.i ar]) k
def f25(c:Nat->Int)(ar:Int):TB.Ev 40 (oH c++[.i ar]) (.ret [.i (p9 c ar 0),.i (p9 c ar 1),.i (p9 c ar 2),.i (p9 c ar 3),.i (p9 c ar 4)]):=Pn _ (t25 c ar)
end
