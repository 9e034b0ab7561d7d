/- Part 4 of the proof; the last part says what is shown. -/
import Derived.Test.YtfpoabmmjhhncaaGreatDoorQ3
set_option linter.all false
set_option maxRecDepth 100000
set_option maxHeartbeats 100000000
open Bool renaming and_eq_true->aw,not_eq_true'->f9,false_eq_true->iC,or_eq_true->iD,true_or->alH,true->J,false->E
open List renaming getElem?_eq_some_iff->bJ,getD_eq_getElem?_getD->cw,getElem?_eq_getElem->ce,getElem?_append_left->dF,getElem?_append_right->gK,mem_append->eC,mem_cons->dJ,all_eq_true->eO,replicate->ew,length_append->fQ,cons_append->gA,pairwise_cons->iv,nil_append->gU,range->e8,pairwise_append->mB,getElem?_take->lT,getElem?_of_mem->qI,getElem?_drop->rJ,length_eq_zero_iff->Dx,append_assoc->BD,foldl_cons->BF,pairwise_iff_getElem->NC,take_append_drop->JD,length_drop->DD,length_take->F9,length_singleton->NE,append_nil->Gc,drop_drop->JJ,pairwise_singleton->aw5,length->Y
open Nat renaming le_refl->bU,eq_zero_or_pos->BB,mod_lt->JN,gcd->JO,gcd_comm->alK
open Option renaming some->U,none->Z
open List.Pairwise renaming nil->uD
open Int renaming mul_le_mul_of_nonneg_right->awU,natAbs_tmod->aaG,mul_lt_mul_of_pos_right->awW,fdiv_eq_ediv_of_nonneg->awY
open List.Perm renaming refl->alF,swap->axB
open Go.IntKind renaming i64->I
namespace Go.Proofs.YtfpoabmmjhhncaaGreatDoor.Y
open Go.RowKit
noncomputable section
variable{N:aC}{X P:aq}{Q M:Nat}{W:FuncId}{V:aX}
section
variable{lt:aC->aC->Bool}{p:aC->Prop}
structure kW(lt:aC->aC->Bool)(p:aC->Prop):Prop where
 Qc:∀x,p x->lt x x=E
 tr:∀x y z,p x->p y->p z->lt x y=J->lt y z=J->lt x z=J
 nt:∀x y z,p x->p y->p z->lt x y=E->lt y z=E->lt x z=E
def kW.asym(h:kW lt p){y:aC}(X:p N)(W:p y)(V:lt N y=J):lt y N=false:=by
 cases R:lt y N;rfl;have:=h.tr N y N X W X V R;rw[h.Qc N X] at this;cases this
def afz(h:kW lt p){x y:aC}(W:p x)(V:p y)(X:lt y x=J):∀{l:aq},(∀z∈l,p z)->eH lt y (eH lt x l)=eH lt x (eH lt y l)
 |[],_=>by
  have R:=h.asym V W X;simp[eH,X,R]
 |z::r,O=>by
  have N:=O z au;have M:=afz h W V X (l:=r) (λw L=>O w (by simp[L]));have R:=h.asym V W X;cases Q:lt x z;cases P:lt y z;simp[eH,Q,P,M];simp[eH,Q,P,R];have P:lt y z=true:=h.tr y x z V W N X Q;simp[eH,Q,P,X,R]
inductive fC(lt:List RV->List RV->Bool)(l:List (List RV)):List (List RV)->Prop
 |refl:fC lt l l
 |step {P Q:List (List RV)} {x y:List RV}:lt y x=J->fC lt l (P++x::y::Q)->fC lt l (P++y::x::Q)
def fC.trans{b:aq}(W:fC lt X b)(V:fC lt b P):fC lt X P:=by
 induction V with
 |refl=>exact W
 |step h _ R=>exact .step h R
def fC.HZ(A B:aq)(h:fC lt X P):fC lt (A++X++B) (A++P++B):=by
 induction h with
 |refl=>exact .refl
 | @step W Q x y h _ V=>
  have R:A++(W++x::y::Q)++B=(A++W)++x::y::(Q++B):=au;have O:A++(W++y::x::Q)++B=(A++W)++y::x::(Q++B):=au;rw[R] at V;rw[O];exact .step h V
def fC.perm(h:fC lt X P):P.Perm X:=by
 induction h with
 |refl=>exact alF _
 |step _ _ W=>exact((axB _ _ _).append_left _).trans W
def fC.afA(P:aq)(b:aC):∀(A Q:aq),(∀a∈A,lt b a=J)->fC lt (P++A.reverse++b::Q) (P++b::(A.reverse++Q))
 |[],Q,_=>by simpa using fC.refl
 |a::A,Q,h=>by
  have X:fC lt (P++(a::A).reverse++b::Q) ((P++A.reverse)++b::a::Q):=by
   have:P++(a::A).reverse++b::Q=(P++A.reverse)++a::b::Q:=au;rw[this];exact .step (h a au) .refl
  have W:=fC.afA P b A (a::Q) (λx V=>h x (by simp[V]));have e:P++b::((a::A).reverse++Q)=P++b::(A.reverse++a::Q):=au;rw[e];exact X.trans W
def fC.one(P Q:aq)(b:aC)(A:aq)(h:∀a∈A,lt b a=J):fC lt (P++A++b::Q) (P++b::(A++Q)):=by
 have:=fC.afA (lt:=lt) P b A.reverse Q (λa X=>h a (by simpa using X));simpa using this
def fC.block(Q:aq)(A:aq):∀(B P:aq),(∀a∈A,∀b∈B,lt b a=J)->fC lt (P++A++(B++Q)) (P++B++(A++Q))
 |[],P,_=>by simpa using fC.refl
 |b::B,P,h=>by
  have W:=fC.one P (B++Q) b A (λa X=>h a X b au);have V:=fC.block Q A B (P++[b]) (λa X R O=>h a X R (by simp[O]));have N:P++b::(A++(B++Q))=P++[b]++A++(B++Q):=au;have M:P++b::B++(A++Q)=P++[b]++B++(A++Q):=au;rw[N] at W;rw[M];exact W.trans V
def vf(lt:aC->aC->Bool)(acc l:aq):aq:=l.foldl (λacc x=>eH lt x acc) acc
def ap3{acc:aq}(R:∀z∈acc,p z)(Q:∀z∈X,p z):∀z∈vf lt acc X,p z:=by
 induction X generalizing acc with
 |nil=>exact R
 |cons x X W=>
  refine W (acc:=eH lt x acc) (λz V=> ?_) (λz V=>Q z (by simp[V]));have P:∀{X:aq},z∈eH lt x X->z=x\/z∈X:=by
   intro X;induction X with
   |nil=>intro h;simpa[eH] using h
   |cons y r W=>
    intro h;simp only[eH] at h;split at h;simpa using h;rcases dJ.1 h with h|h;exact .inr (by simp[h]);rcases W h with h|h;exact .inl h;exact .inr (by simp[h])
  rcases P V with rfl|h;exact Q _ au;exact R z h
def fC.fold(h:kW lt p)(V:fC lt X P){acc:aq}(M:∀z∈X,p z)(L:∀z∈acc,p z):vf lt acc P=vf lt acc X:=by
 induction V with
 |refl=>rfl
 | @step W Q x y H V G=>
  rw[<-G];have R:=λz(O:z∈W++x::y::Q)=>M z (V.perm.mem_iff.1 O)
  have N:∀z∈vf lt acc W,p z:=ap3 L λz O=>R z (by simp[O])
  simp only[vf,List.foldl_append,BF] at N⊢;rw[afz h (R x au) (R y au) H N]
def gg(lt:aC->aC->Bool)(l:aq):Prop:=l.Pairwise λa b=>lt b a=E
def afB{x:aC}:∀{l:aq},(∀y∈l,lt x y=E)->eH lt x l=l++[x]
 |[],_=>rfl
 |y::r,h=>by
  have X:=h y au;simp[eH,X,afB (l:=r) λz W=>h z (by simp[W])]
def ap4:∀{acc:aq},gg lt (acc++X)->vf lt acc X=acc++X:=by
 induction X with
 |nil=>intro acc _;simp[vf]
 |cons x X W=>
  intro acc h;have V:∀y∈acc,lt x y=false:=λy R=>(mB.1 h).2.2 y R x au
  have e:acc++x::X=(acc++[x])++X:=au;rw[e] at h⊢;rw[<-W h];simp only[vf,BF];rw[afB V]
def Qd(h:gg lt X):bK lt X=X:=ap4 (acc:=[]) h
def LA{x z:aC}:∀{l:aq},z∈eH lt x l->z=x\/z∈l
 |[],h=>by simpa[eH] using h
 |y::r,h=>by
  simp only[eH] at h;split at h;simpa using h;rcases dJ.1 h with h|h;exact .inr (by simp[h]);rcases LA h with h|h;exact .inl h;exact .inr (by simp[h])
def gg.ins(h:kW lt p){x:aC}(W:p x):∀{l:aq},(∀z∈l,p z)->gg lt l->gg lt (eH lt x l)
 |[],_,_=>aw5 _ _
 |y::r,V,Q=>by
  have P:=V y au;have R:=iv.1 Q;simp only[eH];cases O:lt x y;refine iv.2 ⟨λz X=> ?_,gg.ins h W (λz X=>V z (by simp[X])) R.2⟩;rcases LA X with rfl|X;exact O;exact R.1 z X;refine iv.2 ⟨λz X=> ?_,Q⟩;have N:=h.asym W P O;rcases dJ.1 X with rfl|X;exact N;exact h.nt z y x (V z (by simp[X])) P W (R.1 z X) N
def gg.fold(h:kW lt p):∀{acc:aq},(∀z∈acc,p z)->(∀z∈X,p z)->gg lt acc->gg lt (vf lt acc X):=by
 induction X with
 |nil=>intro acc _ _ h;exact h
 |cons x X Q=>
  intro acc R V P;refine Q (acc:=eH lt x acc) (λz W=> ?_) (λz W=>V z (by simp[W])) (P.ins h (V x au) R);rcases LA W with rfl|W;exact V _ au;exact R z W
def ES(h:kW lt p)(W:∀z∈X,p z):gg lt (bK lt X):=gg.fold h (acc:=[]) au W uD
def fC.ins(h:kW lt p){x:aC}(V:p x):∀{l:aq},(∀z∈l,p z)->gg lt l->fC lt (l++[x]) (eH lt x l)
 |[],_,_=>.refl
 |y::r,W,P=>by
  have O:=W y au;have R:=iv.1 P;simp only[eH];cases Q:lt x y;have:=(fC.ins h V (l:=r) (λz X=>W z (by simp[X])) R.2).HZ [y] [];simpa using this;have:=fC.one (lt:=lt) [] [] x (y::r) (λz X=>by
   rcases dJ.1 X with rfl|X;exact Q;cases N:lt x z;have:=h.nt x z y V (W z (by simp[X])) O N (R.1 z X);rw[Q] at this;cases this;rfl)
  simpa using this
def fC.ap5(h:kW lt p):∀{acc:aq},(∀z∈acc,p z)->(∀z∈X,p z)->gg lt acc->fC lt (acc++X) (vf lt acc X):=by
 induction X with
 |nil=>intro acc _ _ _;simpa[vf] using fC.refl
 |cons x X P=>
  intro acc R V Q;have O:=(fC.ins h (V x au) R Q).HZ [] X;have N:=P (acc:=eH lt x acc) (λz W=>by
   rcases LA W with rfl|W;exact V _ au;exact R z W) (λz W=>V z (by simp[W])) (Q.ins h (V x au) R)
  have e:acc++x::X=[]++(acc++[x])++X:=au;rw[e];refine O.trans ?_;rw[gU];exact N
def fC.Qe(h:kW lt p)(W:∀z∈X,p z):fC lt X (bK lt X):=by
 exact fC.ap5 h (acc:=[]) au W uD
def WN(h:kW lt p)(W:∀z∈X,p z)(V:fC lt X P)(R:gg lt P):bK lt X=P:=by
 rw[<-Qd R];exact(V.fold h (acc:=[]) W au).symm
def ET(h:N∈bK lt X):N∈X:=by
 have:∀(X acc:aq),N∈vf lt acc X->N∈acc\/N∈X:=by
  intro X;induction X with
  |nil=>intro acc h;exact .inl h
  |cons x X W=>
   intro acc h;rcases W (eH lt x acc) h with h|h;rcases LA h with rfl|h;exact .inr au;exact .inl h;exact .inr (by simp[h])
 rcases this X [] h with h|h;cases h;exact h
def ap6(h:kW lt p)(R:∀z∈N::(X++P),p z)(M:gg lt (X++P))(O:∀y∈X,lt y N=J)(L:∀y∈P,lt y N=E):bK lt (N::(X++P))=X++N::P:=by
 refine WN h R ?_ ?_;have:=fC.block (lt:=lt) P [N] X [] (λa W b V=>by simp at W;subst W;exact O b V);simpa using this;have Q:=mB.1 M;refine mB.2 ⟨Q.1,iv.2 ⟨L,Q.2.1⟩,λa W b V=> ?_⟩;rcases dJ.1 V with rfl|V;exact h.asym (R a (by simp[W])) (R b au) (O a W);exact Q.2.2 a W b V
def ap7(h:kW lt p)(V:∀z∈X++P++[N],p z)(M:gg lt (X++P))(L:∀x∈X,lt N x=E)(Q:∀x∈P,lt N x=J):bK lt (X++P++[N])=X++N::P:=by
 refine WN h V ?_ ?_;have:=fC.one (lt:=lt) X [] N P Q;simpa using this;have R:=mB.1 M;refine mB.2 ⟨R.1,iv.2 ⟨λb W=>h.asym (V N au) (V b (by simp[W])) (Q b W),R.2.1⟩,λa O b W=> ?_⟩;rcases dJ.1 W with rfl|W;exact L a O;exact R.2.2 a O b W
def ap8(h:kW lt p){R Q:aq}(O:∀z∈X++P++(R++Q),p z)(D:gg lt (X++P))(B:gg lt (R++Q))(A:∀x∈X,∀y∈Q,lt y x=E)(H:∀x∈P,∀y∈R,lt y x=J):
  bK lt (X++P++(R++Q))=bK lt (X++R)++bK lt (P++Q):=by
 have w:=mB.1 D;have v:=mB.1 B;have N:∀z∈X++R,p z:=λz M=>O z (by rcases eC.1 M with h|h<;>simp[h])
 have L:∀z∈P++Q,p z:=λz M=>O z (by rcases eC.1 M with h|h<;>simp[h])
 refine WN h O ?_ ?_;have u:=fC.block (lt:=lt) Q P R X H;have G:=(fC.Qe h N).HZ [] (P++Q);have F:=(fC.Qe h L).HZ (bK lt (X++R)) [];simp only[gU,Gc] at G F;exact(u.trans G).trans F;refine mB.2 ⟨ES h N,ES h L,λa V b W=> ?_⟩;have V:=ET V;have W:=ET W;have t:=N a V;have s:=L b W;rcases eC.1 V with V|V;rcases eC.1 W with W|W;exact w.2.2 a V b W;exact A a V b W;rcases eC.1 W with W|W;exact h.asym t s (H b W a V);exact v.2.2 a V b W
def afC(h:kW lt p)(W:∀z∈X,p z)(V:∀z∈P,p z):bK lt (bK lt X++bK lt P)=bK lt (X++P):=by
 have R:=(fC.Qe h W).HZ [] P;have Q:=(fC.Qe h V).HZ (bK lt X) [];simp only[gU,Gc] at R Q;exact(R.trans Q).fold h (acc:=[]) (λz O=>by exact(eC.1 O).elim (W z) (V z)) au
end
section
def afD(d:Bool):∀(Q:ap)(x y z:aC),i7 d Q x y=E->i7 d Q y z=E->i7 d Q x z=E
 |[],_,_,_,_,_=>rfl
 |c::Q,x,y,z,V,X=>by
  simp only[i7] at V X⊢;by_cases R:aK c x=aK c y;rw[aE R] at V;by_cases W:aK c y=aK c z;rw[aE W] at X;rw[aE (R.trans W)];exact afD d Q x y z V X;rw[aJ W] at X;rw[aJ (by rw[R];exact W),R];exact X;rw[aJ R] at V;by_cases W:aK c y=aK c z;rw[aJ (by rw[<-W];exact R),<-W];exact V;rw[aJ W] at X;cases d;simp only[iC,fH,decide_eq_false_iff_not] at V X⊢;rw[aJ aa];simp only[decide_eq_false_iff_not];omega;simp only[cH,decide_eq_false_iff_not] at V X⊢;rw[aJ aa];simp only[decide_eq_false_iff_not];omega
def afE(d:Bool):∀(X:ap)(x:aC),i7 d X x x=E
 |[],_=>rfl
 |c::X,x=>by simp[i7,afE d X x]
def afF(d:Bool):∀(Q:ap)(x y z:aC),i7 d Q x y=J->i7 d Q y z=J->i7 d Q x z=J
 |[],_,_,_,h,_=>by simp[i7] at h
 |c::Q,x,y,z,V,X=>by
  simp only[i7] at V X⊢;by_cases R:aK c x=aK c y;rw[aE R] at V;by_cases W:aK c y=aK c z;rw[aE W] at X;rw[aE (R.trans W)];exact afF d Q x y z V X;rw[aJ W] at X;rw[aJ (by rw[R];exact W),R];exact X;rw[aJ R] at V;by_cases W:aK c y=aK c z;rw[aJ (by rw[<-W];exact R),<-W];exact V;rw[aJ W] at X;cases d;simp only[iC,fH,bZ] at V X⊢;rw[aJ aa];simp only[bZ];omega;simp only[cH,bZ] at V X⊢;rw[aJ aa];simp only[bZ];omega
def Qf(X:ap)(d:Bool):kW (bB.lex X d).lt (λx=>(bB.lex X d).ok x=J):=
 ⟨λx _=>afE d X x,λx y z _ _ _=>afF d X x y z,λx y z _ _ _=>afD d X x y z⟩
def H0{n d:Int}(h:kM n d=J):0<d:=by
 simp only[kM,aw,bZ] at h;omega
def WO(n d:Nat):kW (bB.ratio n d).lt (λx=>(bB.ratio n d).ok x=J):=by
 refine⟨λx _=> ?_,λx y z V R Q X W=> ?_,λx y z V R Q X W=> ?_⟩;simp[bB.lt];have P:=H0 V;have N:=H0 R;have O:=H0 Q;simp only[bB.lt,bZ] at X W⊢;have M:=awW X O;have L:=awW W P;refine Int.lt_of_mul_lt_mul_left (a:=aK d y) ?_ aa;have H:aK n x*aK d y*aK d z=aK d y*(aK n x*aK d z):=by ac_rfl
 have G:aK n y*aK d x*aK d z=aK n y*aK d z*aK d x:=by ac_rfl
 have F:aK n z*aK d y*aK d x=aK d y*(aK n z*aK d x):=by ac_rfl
 omega;have P:=H0 V;have N:=H0 R;have O:=H0 Q;simp only[bB.lt,decide_eq_false_iff_not,Int.not_lt] at X W⊢;have M:=awU X (show 0<=aK d z from aa);have L:=awU W (show 0<=aK d x from aa);refine Int.le_of_mul_le_mul_left (a:=aK d y) ?_ aa;have H:aK n x*aK d y*aK d z=aK d y*(aK n x*aK d z):=by ac_rfl
 have G:aK n y*aK d x*aK d z=aK n y*aK d z*aK d x:=by ac_rfl
 have F:aK n z*aK d y*aK d x=aK d y*(aK n z*aK d x):=by ac_rfl
 omega
end
section
variable{lt:aC->aC->Bool}{p:aC->Prop}
def od(X:aq){b:Nat}(W:Q<=M)(V:M<=b):aR X Q b=aR X Q M++aR X M b:=by
 simp only[aR];have e:b-Q=(M-Q)+(b-M):=aa;rw[e,List.take_add,JJ,show Q+(M-Q)=M from aa]
def H3(X:aq)(W:Q<=M):X.take Q++(aR X Q M++X.drop M)=X:=by
 simp only[aR];have e:X.drop M=(X.drop Q).drop (M-Q):=by rw[JJ];congr 1;omega
 rw[e,JD,JD]
def LB(X:aq){a b i:Nat}(h:i<b-a):(aR X a b)[i]?=X[a+i]?:=by
 simp only[aR,lT,h,cH,rJ]
def pz(X:aq)(h:M<=Y X):(aR X Q M).length=M-Q:=by simp[aR];omega
def Cr(h:N∈aR X Q M):∃i,Q<=i/\i<M/\i<Y X/\X.getD i []=N:=by
 obtain⟨i,W⟩:=qI h;have V:=(bJ.1 W).1;simp only[aR,F9,DD] at V;rw[LB X aa] at W;exact⟨Q+i,aa,aa,aa,by simp[cw,W]⟩
def H4(W:M<=Y X)(h:gg lt (aR X Q M)){i j:Nat}(R:Q<=i)(O:i<j)(P:j<M):lt (X.getD j []) (X.getD i [])=false:=by
 have:=NC.1 h (i-Q) (j-Q) (by rw[pz X W];omega) (by rw[pz X W];omega) aa;have e:∀k(V:k-Q<(aR X Q M).length),Q<=k->k<M->(aR X Q M)[k-Q]=X.getD k []:=λk V N L=>by
  have q:=LB X (a:=Q) (b:=M) (i:=k-Q) aa;rw[ce V,show Q+(k-Q)=k from aa] at q;simp[cw,<-q]
 rw[e i _ R aa,e j _ aa P] at this;exact this
def afG:uX lt X=J<->gg lt X:=by
 induction X with
 |nil=>exact⟨λ_=>uD,λ_=>rfl⟩
 |cons x r W=>
  simp only[uX,aw,W,eO,f9,gg,iv]
def ap9(h:kW lt p)(H:∀z∈X,p z){m e b:Nat}(G:Q<=M)(F:M<=m)(D:m<=e)(B:e<=b)(t:b<=Y X)(A:gg lt (aR X Q m))(w:gg lt (aR X m b))
  (v:∀i j,Q<=i->i<M->e<=j->j<b->lt (X.getD j []) (X.getD i [])=E)(u:∀i j,M<=i->i<m->m<=j->j<e->lt (X.getD j []) (X.getD i [])=J):
  bK lt (aR X Q b)=bK lt (aR X Q M++aR X m e)++bK lt (aR X M m++aR X e b):=by
 rw[od X (show Q<=m from aa) (show m<=b from aa),od X G F,od X D B] at*;refine ap8 h (λz W=>H z ?_) A w (λx V y R=> ?_) (λx V y R=> ?_);simp only[eC] at W;rcases W with(W|W)|(W|W)<;>exact se W;obtain⟨i,P,O,_,rfl⟩:=Cr V;obtain⟨j,N,L,_,rfl⟩:=Cr R;exact v i j P O N L;obtain⟨i,P,O,_,rfl⟩:=Cr V;obtain⟨j,N,L,_,rfl⟩:=Cr R;exact u i j P O N L
end
section
variable(a b:Nat)(c d e f:K)(g h i:T)(j k l m n o:BE)(p q r s t:C)(u v:List RK)(w x:List C)(y:RE)(z:List LK)(A:RK)(B F:LE)(D:BinOp)(G:Int)
abbrev cN:=K.v 0
abbrev dN:=K.v 1
abbrev iI:=K.v 2
abbrev fD:=T.ret p [] u
abbrev tW:=fD (.bool j) u
abbrev jD:=BE.cmp .leq c d
abbrev Qg:=tW (jD cN iI) []
abbrev Cs:=BE.c E
abbrev pA:=C.bool Cs
abbrev mi:=fD p []
abbrev oL:=mi pA
abbrev fu:=K.v 4
abbrev bv:=C.int I c
abbrev vg:=bv fu
abbrev cd:=K.c 1
abbrev eF:=bv cd
abbrev WP:=RK.sl 188
abbrev WQ:=RK.sl 288
abbrev jq:=RK.sl 148
def pB:List RK:=[WP,WQ,jq]
abbrev yT:=BE.v 0
abbrev ja:=C.bool yT
abbrev mJ:=BE.not yT
abbrev tX:=fD pA u
abbrev oM:=tX pB
abbrev mj:=bv dN
abbrev bh:=K.c 0
abbrev aT:=bv bh
abbrev jP:=K.v 14
abbrev yU:=BE.v 1
abbrev iQ:=C.bool yU
abbrev oN:=BE.not yU
abbrev mK:=bv iI
abbrev jQ:=K.v 15
abbrev kX:=C.bool (.v a)
abbrev oO:=kX 2
abbrev lC:=BE.not (.v a)
abbrev yV:=lC 2
abbrev gQ:=K.v 3
abbrev rf:=bv gQ
abbrev nz:=K.c 3
abbrev qa:=bv nz
abbrev rg:=kX 3
abbrev Ct:=lC 3
abbrev kw:=jD bh c
abbrev LD:=kw fu
abbrev EU:=K.c 10
abbrev kY:=RE.v 0
abbrev gw:=K.len kY
abbrev lD:=K.v 5
abbrev tY:=bv lD
abbrev m7:=K.c 2
abbrev su:=bv m7
abbrev wQ:=kX 4
abbrev EV:=lC 4
abbrev iJ:=K.v 6
abbrev fO:=bv iJ
abbrev lF:=K.c 8
abbrev Cu:=bv lF
abbrev Cv:=kX 5
abbrev eu:=K.v 7
abbrev iR:=bv eu
abbrev AT:=kX 6
abbrev eP:=K.v 8
abbrev iK:=bv eP
abbrev EW:=kX 7
abbrev H5:=lC 7
abbrev eh:=K.v 9
abbrev lG:=bv eh
abbrev nA:=bv jP
abbrev fF:=K.v 10
abbrev ky:=bv fF
abbrev gX:=K.v 11
abbrev kZ:=bv gX
abbrev aP:=LK.int I
abbrev qb:List LK:=[aP,aP]
abbrev mL:=K.v 16
abbrev j9:=bv mL
abbrev oe:=K.v 17
abbrev m8:=bv oe
abbrev dp:=K.v 12
abbrev mM:=K.v 13
abbrev lH:=bv dp
abbrev lI:=bv mM
abbrev kb:=K.v 18
abbrev mN:=bv kb
abbrev rh:=K.v 19
abbrev mO:=bv rh
abbrev AU:=K.v 20
abbrev oP:=bv AU
abbrev EX:=K.v 21
abbrev sx:=bv EX
abbrev jr:=BE.c J
abbrev vi:=C.bool jr
abbrev kz:=T.call a w [] u z p g
abbrev Cw:=kz a g (.bA x) u w z
abbrev iq:=Cw a g u w [p,q] z
abbrev wR:=iq a g p q u w qb
abbrev vj:=C.agg [p,q]
abbrev H6:=T.aS (.cmp D c d) g h
abbrev k8:=H6 c d g h .gtr
abbrev yW:=T.aS j g (k8 c d h i)
abbrev AV:=BE.cmp .neq c d
abbrev fl:=AV c bh
abbrev mP:=H6 c d g h .eql
abbrev lJ:=T.aS j (.aS k g h) i
abbrev iS:=BE.cmp .eql c d
abbrev H7:=BE.and (iS c d) j
abbrev Cx:=H7 c d (iS e f)
abbrev wS:=fD vi u
abbrev WR:=wR 71 (yW AU bh oM oM (mP AU bh (lJ oM (wS pB) (wS pB) (Cx dp fF mM gX) (Cx cd dp cd mM)) (wS pB)) (fl EX)) oP sx pB [vj lH lI,vj eF eF]
abbrev gR:=iS c bh
abbrev WS:=wR 71 (yW kb bh oM oM (lJ (.aS (Cx dp dp mM mM) oM WR) WR WR (gR kb) (Cx fF fF gX gX)) (fl rh)) mN mO pB [vj ky kZ,vj lH lI]
def cP:=T.stuck ""
abbrev Cy:=K.c 7
abbrev LF:=K.bin D I c d
abbrev EY:=LF c d .sub
abbrev vk:=EY c cd
abbrev EZ:=vk cN
abbrev cL:=BE.cmp .lss c d
abbrev fm:=BE.and j (cL c d)
def afH:=fm EZ lF (kw EZ)
abbrev tZ:=RE.v 2
abbrev LG:=K.len tZ
def afI:=fm EZ LG (kw EZ)
abbrev og:=bv cN
abbrev yX:=fD (.bA w) u
abbrev m9:=yX u [p,q]
abbrev kA:=bv (.c G)
abbrev afJ:=m9 aT (kA 120) []
abbrev LH:=mi (kA 120)
abbrev Qh:=K.c 1073741824
abbrev WT:=K.c (-1073741824)
abbrev LI:=LK.int .u64
abbrev ri:=mi aT
abbrev wU:=K.mm J c d
abbrev afK:=K.bin .rem .u64 gQ (wU fu cd)
abbrev E0:=kA (-1)
abbrev H8:=mi eF
abbrev WU:=AV cN cN
abbrev LJ:=K.c (-1099511627776)
abbrev LL:=K.c 1099511627776
abbrev gN:=C.agg [p,q,r,s]
abbrev Cz:=gN og mj mK rf
abbrev H9:=gN aT aT aT aT
abbrev WV:=m9 H9 (kA 150) []
abbrev WW:=gN vg tY fO iR
abbrev qc:List LK:=[aP,aP,aP,aP,aP]
abbrev Qi:=gR eP
abbrev afL:=K.c (-2199023255552)
abbrev Ia:=m9 H9 su []
abbrev AW:=bv (LF c d D)
abbrev vl:=AW c d .add
abbrev afM:=gN (vl cN fu) (vl dN fu) (vl iI lD) (vl gQ lD)
abbrev Ib:=K.conv .u64 c
abbrev oh:=LF c d .add
abbrev E1:=K.conv I (.bin .shr .u64 (Ib (oh iI gQ)) cd)
abbrev E2:=vk iI
abbrev bL:=RK.sl 86
abbrev bP:=RK.sl 218
abbrev bQ:=RK.sl 220
def Ic:List RK:=[bL,bP,bQ]
abbrev CA:=C.ah kY
abbrev ke:=RE.v 1
abbrev yY:=C.ah ke
abbrev E3:=C.ah tZ
abbrev sy:=C.ah (.v a)
abbrev Ie:=sy 3
abbrev sC:=RE.v 4
abbrev E4:=C.ah sC
abbrev jE:=C.agg [og,mj,mK,rf,vg,CA,tY,yY,E3,Ie,E4]
abbrev bO:=RK.sl 84
abbrev bq:=RK.sl 56
def iL:List RK:=[bO,bL,bP,bQ,bq]
abbrev Qj:=gR eu
abbrev yZ:=AW c d .sub
abbrev WX:=yZ lD cd
abbrev lK:=RE.v 5
abbrev wV:=C.ah lK
def WY:=C.agg [wV]
abbrev rj:=RE.v 6
abbrev qe:=C.ah rj
abbrev jF:=RE.v 7
abbrev vn:=C.ah jF
abbrev mo:=RE.v 8
abbrev t6:=C.ah mo
abbrev sD:=RE.v 9
abbrev zd:=C.ah sD
abbrev ze:=RE.v 10
abbrev qf:=C.ah ze
abbrev nC:=RE.v 11
abbrev vo:=C.ah nC
abbrev dD:=RK.sl 126
abbrev dh:=RK.sl 81
abbrev cS:=RK.sl 4
abbrev bY:=RK.sl 93
abbrev gh:=RK.sl 58
abbrev gj:=RK.sl 124
def tq0:=iL++[dD]
def tq1:=tq0++[dh]
def tq3:=tq1++[cS,bY]
def AX:=tq3++[bY,gh,gj]
abbrev E5:=RE.v 12
abbrev E6:=C.ah E5
abbrev wW:=K.len E5
abbrev AY:=K.len sC
abbrev CB:=K.c 4096
abbrev LM:=kA 1000
abbrev CC:=fD p iL
abbrev vp:=CC (kA 190)
abbrev wX:=fl eu
abbrev qg:=cL c gw
abbrev Qk:=qg eP
abbrev zf:=kw eP
abbrev LN:=bv (oh eP cd)
abbrev nD:=T.back a [p]
abbrev LO:=nD 0 LN
abbrev Ql:=cL eh AY
abbrev Qm:=kw eh
abbrev If:=BE.and Qm j
abbrev Ig:=If Ql
abbrev AZ:=K.c 1048576
abbrev iu:=K.cell y c 0
abbrev zg:=iu eh y
abbrev LP:=bv (zg sC)
abbrev dq:=bv (.cell y c a)
abbrev vq:=dq a eh y
abbrev t7:=vq a sC
abbrev afQ:List C:=[LP,t7 1,t7 2,t7 3,t7 4,t7 5,t7 6,t7 7,t7 8,t7 9,t7 10,t7 11,t7 12,t7 13]
abbrev gz:=vl c cd
abbrev oQ:=gz eh
def LQ:=jD gw bh
abbrev mq:=jD c (.c 536870912)
abbrev Ih:=mq gw
abbrev wY:=LE.lit []
def LR:=LE.jW wY (.ah kY)
abbrev A4:=RK.own 4
abbrev afR:=RE.k (.slice Z 0 0)
abbrev fZ:=C.ah afR
def mu:=RK.own 93
abbrev ey:=RK.sl 64
def E7:=RK.own 64
def sF:List RK:=[.str]
abbrev Qn:=tX sF
abbrev LS:=qg dN
abbrev Ii:=kw dN
abbrev A5:=BE.and Ii LS
abbrev wZ:=K.c 5
abbrev Qo:=gz dN
abbrev Qp:=nD 0 Qo
abbrev zh:=fl eP
abbrev w6:=RK.own 56
abbrev oR:=K.len lK
def afS:=iL++[w6]
abbrev WZ:=C.bA [qe,aT]
abbrev nc:=bv jQ
abbrev W0:List C:=[j9,eF,qa]
abbrev vu:=kz a g p u w [.bool]
abbrev jc:=vu a (.aS j g h) p u w
abbrev sG:=jc a g h j p [] w
abbrev afT:=sG 106 (vu 106 (mi oO) oO [] W0) oL yU iQ [nc,aT,Cu]
abbrev Qq:=gR jQ
abbrev afU:=T.aS Qq (tW (gR mL) []) oL
abbrev W5:=T.aS mJ (mP fu (.c 9) (.aS Qq (vu 106 (mi iQ) iQ [] W0) oL) afU) afU
abbrev Qr:=T.aS j g (.aS k h i)
abbrev afV:=Qr oL afT W5 (AV jP cN) mJ
abbrev sH:=K.c 4
abbrev Ij:=bv sH
abbrev E8:=mP c d g (mP e f h i)
abbrev lL:=kz a g p u w [aP]
abbrev qh:=H6 c d g h .geq
abbrev afW:=E8 cN (.c 95) cN (.c 32) (mi (bv wZ)) H8 (E8 cN (.c 9) cN EU H8 H8 (mP cN (.c 13) H8 (lL 101 (qh dN bh (mi Ij) ri) mj [] [.ah (.k (.string ⟨#[123,125,40,41,59,44,61,58,46,60,62,33,43,45,42,47]⟩)),.int .u8 cN])))
abbrev mQ:=H6 c d g h .leq
abbrev afX:=qh cN (.c 48) (mQ cN (.c 57) (mi qa) afW) afW
abbrev afY:=qh cN (.c 65) (mQ cN (.c 90) (mi su) afX) afX
abbrev CD:=m9 H9 (kA 290) []
abbrev W6:=oh lD cd
abbrev CE:=K.mm E c d
abbrev afZ:=wU bh (EY (CE eP W6) fu)
abbrev gY:=RK.own 124
abbrev af0:=wU bh (EY (CE (oh eP cd) W6) fu)
abbrev sI:=K.len ke
abbrev aV:=bv (.v a)
abbrev zi:=aV 22
abbrev A6:=K.v 23
abbrev zj:=bv A6
abbrev af3:=C.bA [gN mO oP sx zi,zj]
abbrev W7:=bB.lex [0] E
abbrev LU:=RK.own 205
abbrev sJ:List LK:=[aP,.ah A]
abbrev Ik:=sJ LU
abbrev Qs:=qg cN
abbrev vw:=BE.and (kw cN) Qs
abbrev w7:=K.len (.v a)
def W8:=cL dN (w7 3)
def Qt:=iu cN kY
abbrev Il:=BE.and Ii (cL dN sI)
abbrev A7:=RK.sl 205
def W9:=C.agg [og,mj,mK,rf,vg,tY,fO,iR,iK,lG,ky,kZ,lH]
def A8:=aV 29
def zk:=aV 24
def A9:=aV 25
def zl:=aV 26
def w8:=K.v 27
def zm:=bv w8
def xe:=aV 28
def E9:=aV 30
def Xa:=fl (.v 30)
abbrev Im:=gR fF
def In:=K.c 29
abbrev vx:=LF c d .mul
def Xb:=vx In cN
def LV:=K.c 841
def Qu:=vx LV jQ
def Xc:=vx In dN
abbrev af4:=BE.not (H7 lD bh (gR iJ))
abbrev Xd:=BE.not (.and Qj Qi)
abbrev Xe:List C:=[iR,aT,Cu]
abbrev Xf:List C:=[iK,eF,qa]
abbrev Qv:=gR eh
abbrev Qw:=BE.not (.and Qv Im)
abbrev Qx:List C:=[lG,aT,Cu]
abbrev Qy:List C:=[ky,eF,qa]
abbrev LW:=BE.not (.and (gR gX) (gR dp))
abbrev LX:List C:=[kZ,aT,Cu]
abbrev LY:List C:=[lH,eF,qa]
abbrev sK:=T.aS j (sG 40 (mi (kA 260)) g k p w) h
abbrev ol:=sG 40 (mi (kA 260)) g j p w
abbrev af5:=sK (ol ri (lC 10) (kX 10) LY) ri LW (lC 9) (kX 9) LX
abbrev af6:=sK (ol ri (lC 8) (kX 8) LY) ri LW H5 EW LX
abbrev af7:=sK (ol af5 (lC 8) (kX 8) Qy) af6 Qw H5 EW Qx
abbrev af8:=sK (ol ri (lC 6) AT LY) ri LW (lC 5) Cv LX
abbrev af9:=sK (ol af6 (lC 6) AT Qy) af8 Qw (lC 5) Cv Qx
abbrev aga:=sK (ol af7 (lC 6) AT Xf) af9 Xd (lC 5) Cv Xe
abbrev Io:=wU eP (EY bh eP)
abbrev Ip:=mi (kA 140)
abbrev sL:=fD (kA 250) sF
abbrev Xg:=cL eu cd
abbrev nE:=T.aN jr sL
abbrev Iq:=K.c 16
abbrev xf:=RK.mr ⟨148,4,2,J,E⟩
abbrev Xh:=cL eP AY
abbrev Ir:=BE.and zf Xh
abbrev CF:=K.cell sC c a
abbrev Xi:=vk (CF 9 eP)
abbrev Qz:=CF 1 eP
abbrev gG:=T.back a [p,q]
abbrev kB:=gG 0 p q
abbrev Xj:=kB LN wV
abbrev QA:=RK.own 148
abbrev mw:=K.len jF
abbrev xg:=gz fF
abbrev Xk:List C:=[jE,fO,iR]
def Xl:=iL++[ey]
abbrev Ba:List LK:=[.ah A,aP]
abbrev LZ:=Ba bq
def CG:=Xl++[bq]
abbrev kC:=K.len rj
def agb:=CG++[w6]
abbrev QB:=cL eh kC
abbrev Is:=If QB
abbrev kf:=K.len mo
abbrev QC:=cL fF kf
abbrev CH:=kw fF
abbrev QD:=BE.and CH QC
abbrev QE:=BE.and CH (cL fF oR)
abbrev jR:=K.len ze
abbrev Fa:=mq jR
abbrev Fb:=LE.ah ze
def agc:List C:=[iK,lG,ky,kZ,lH,lI,nA,nc,j9,m8,mN,mO,oP]
def QF:=C.agg agc
abbrev vy:=BE.and (kw c) j
def agd:=vy A6 (cL A6 mw)
def sM:=K.v 38
def zn:=K.v 40
def oo:=K.v 41
def age:=CG++[A7]
def Fc:List LK:=[aP,aP,aP,aP,aP,aP,aP,aP,aP,aP,aP,aP,aP,aP]
def It:=aV 50
def Iu:=aV 51
def CI:=aV 52
def CJ:=aV 53
def CL:=aV 54
def Fe:=aV 55
def Ff:=K.v 56
def Iv:=bv Ff
def Fh:=aV 57
def Fi:=aV 58
def Fj:=aV 59
def Fk:=aV 60
def Fl:=aV 61
def Fm:=aV 62
def L4:=aV 63
def Iw:=aV 31
def L5:=aV 32
def L6:=aV 33
def L7:=aV 34
def Fo:=K.v 35
def QG:=bv Fo
def vz:=K.v 36
def L8:=bv vz
abbrev oS:=iS c cd
def vA:=oS oe
def CM:=iS oe c
def xj:=CM m7
def Bb:=CM nz
def Bc:=CM sH
def Be:=CM wZ
def CN:=CM (.c 6)
def L9:=CM Cy
def Ma:=CM lF
def Mb:=CM (.c 9)
def oq:=K.dv j c (.dv k d e)
def vC:=oq bh bh c j k
def agf:=vC (oq bh cd bh Ma Mb) CN L9
def QH:=vC (.dv Mb bh bh) L9 Ma
def agh:=vC (.dv Be bh (.dv CN bh QH)) Bb Bc
def agi:=oq lF lF (.dv Be lF (.dv CN bh QH)) Bb Bc
def agj:=bv (vC (oq cd cd (.dv Be cd agf) Bb Bc) vA xj)
def agk:=bv (vC (oq nz nz (oq nz bh (vC (.dv Mb nz bh) L9 Ma) Be CN) Bb Bc) vA xj)
def xk:=vk kb
def Xm:=iS xk m7
def Xn:=iS xk nz
def Xo:=iS xk sH
def zo:=bv (.dv j bh c)
def agl:=C.agg [vl cN (vx EX (.v 33)),vl dN (vx EX (.v 34)),mK,zo gQ (gR xk),zo fu (gR xk),zo lD (oS xk),zo iJ (oS xk),zo eu Xm,zo eP Xm,zo eh Xn,zo fF Xn,zo gX Xo,zo dp Xo]
abbrev kg:=fD (kA 130) Ic
abbrev zp:=iu dN kY
abbrev Xp:=cL fu sI
abbrev Xq:=iu fu ke
abbrev Xr:=cL iJ LG
abbrev Mc:=kw iJ
abbrev Xs:=iu iJ tZ
def Ix:=tq3++[gh]
abbrev t8:=K.len sD
abbrev Me:=cL eP kC
abbrev CO:=BE.and zf Me
def QI:=fm eP mw zf
abbrev Iy:=fm eP kf zf
abbrev zq:List C:=[.agg w]
abbrev zr:=C.ah (.cell y c a A)
abbrev Bf:=zr a c y .str
abbrev rk:=dq a c rj
abbrev nF:=rk a eP
abbrev Xt:=zq [Bf 0 eP rj,nF 1,nF 2,nF 3,nF 4,nF 5,nF 6,nF 7,nF 8,nF 9,nF 10,nF 11,nF 12,nF 13,nF 14,nF 15,nF 16]
def ua:=dq a eP mo
def agm:=zq [ua 0,ua 1,ua 2,ua 3,ua 4,ua 5,ua 6,ua 7,ua 8,ua 9,ua 10,ua 11,ua 12]
def nG:=RK.own 58
def QJ:=LK.ah gY
def agn:List LK:=[aP,.ah mu,.ah nG,QJ]
abbrev Xu:=cL eh mw
abbrev Iz:=If Xu
abbrev ub:=fm eh c Qm
def QK:=ub t8
def Xv:=zr 0 eh sD ey
abbrev Mf:=RE.v 15
abbrev qi:=C.ah Mf
abbrev pC:=RE.v 13
abbrev IA:=K.len pC
def QL:=mq IA
def QM:=LE.ah pC
def tq4:=Ix++[cS,bY]
def agp:=tq4++[mu,.ao,gY,ey,nG]
def uc:=dq a eh mo
def agq:=C.agg [uc 0,uc 1,uc 2,uc 3,uc 4,uc 5,uc 6,uc 7,uc 8,uc 9,uc 10,uc 11,uc 12]
def tq5:=tq4++[.ao,.ao]
def ags:=tq5++[.ao,ey,.ao]
def agt:List C:=[ky,kZ,lH,lI,nA,nc,j9,m8,mN,mO,oP,sx,zi]
def Fp:=LE.ah E5
def agu:=tq5++[gY,ey,nG,mu]
abbrev zt:=RE.v 14
abbrev IB:=mq (.len zt)
abbrev zu:=LE.ah zt
def sN:=sy 17
abbrev zv:=RE.v 16
abbrev rm:=C.ah zv
def Fq:=RE.v 18
def ud:=C.ah Fq
abbrev sO:=C.ah pC
abbrev nH:=C.ah zt
abbrev qj:=K.len nC
abbrev CP:=BE.and zf (cL eP jR)
abbrev vD:=If (cL eh qj)
def agv:=gN (vq 0 nC) (vq 1 nC) (vq 2 nC) (vq 3 nC)
abbrev QN:=nD 1 oQ
def Xw:=cL gX kC
abbrev sP:=kw gX
def Xx:=zr 0 gX ze ey
abbrev IC:=K.len Mf
abbrev Fs:=mq IC
abbrev Bg:=LE.ah Mf
def tq6:=AX++[cS,bY]
def tq9:=tq6++[mu]
def agy:=tq9++[.ao,gY,ey,nG]
def ue:=dq a gX mo
def agz:=C.agg [ue 0,ue 1,ue 2,ue 3,ue 4,ue 5,ue 6,ue 7,ue 8,ue 9,ue 10,ue 11,ue 12]
def agA:=tq6++[.ao,.ao]
def agB:=agA++[.ao]
def agC:=agB++[ey,.ao]
def agD:List C:=[lH,lI,nA,nc,j9,m8,mN,mO,oP,sx,zi,zj,zk]
def agE:=agA++[gY,ey,nG,mu]
def CQ:=K.len zv
def QO:=LE.ah zv
abbrev ID:=gz gX
def ql:=sy 19
def rn:=sy 20
def iM:=RK.mr ⟨267,4,3,J,E⟩
def Mg:=sJ iM
def Xy:=cL dp kC
abbrev oT:=kw dp
abbrev QP:=BE.and oT (cL dp t8)
def agF:=fm dp (.len zt) oT
abbrev Xz:=iu dp sD
def QQ:=agB++[iM]
def Ft:List LK:=[.bool,aP]
def Mh:=K.len Fq
def XA:=cL jQ Mh
abbrev CR:=kw jQ
abbrev nJ:=RE.cell y c 0 A
def CU:=nJ dp ze ey
abbrev vE:=cL c (.len y)
def QR:=vy mL (vE mL CU)
def agG:=QQ++[bq,iM]
abbrev CV:=gz jQ
abbrev Bh:=gz dp
def CW:=RE.v 21
def vF:=C.ah CW
def XB:=cL jP kf
abbrev Bi:=kw jP
def XC:=cL jP kC
abbrev Mi:=gz jP
def XD:=cL jQ t8
def XF:=mq (w7 20)
def Bj:=RK.sl 316
def agH:=vy oe (vE oe CW)
def Fu:=RE.v 23
def Mj:=C.ah Fu
def Bk:=sy 22
def IF:=RK.own 267
def uf:=RK.mr ⟨3,1099511627778,1,E,E⟩
def IG:=K.len Fu
def agI:=tq9++[nG,gY,iM,jq,gj,gY,Bj,iM,iM,IF,uf]
def II:=RE.v 26
def Ml:=K.len II
def Mm:=iu (vk Ml) II
def QS:=C.ah II
def agJ:=vy rh (cL rh Ml)
def Mn:=tq0++[gj,gj,jq]
def XG:=LK.ah (.own 316)
abbrev QT:=cL gX oR
def vG:List LK:=[aP,XG]
abbrev Mo:=gz mM
abbrev QU:=gz mL
def agK:=fm kb kC (kw kb)
abbrev ug:=AW c d .mul
def agL:=gN aT (ug LV cN) aT (ug LV dN)
def agM:=Mn++[.ao,xf,.ao,.ao,.ao,.ao,.ao,.ao,.ao,.ao,.ao]
def agN:=fm kb mw (kw kb)
def QW:=iL++[.str]
def XH:=fl (.v 37)
def XI:=QW++[E7]
def agO:=XI++[E7]
def QX:List RK:=[WP,WQ,jq,bO,bL,bP,bQ,bq,.str,ey,bq]
def agP:=vy zn (cL zn qj)
def CX:=K.cell nC zn 4
def agQ:=fm CX EU (kw CX)
def agR:=fm CX sI (kw CX)
def agS:List LK:=[aP,.bool,.bool,.bool,.bool,.bool]
abbrev aA:=RK.sl 3
def XJ:=vE oo (nJ CX ke aA)
def QY:=kw oo
def vH:=vk (oh (iu oo (nJ CX ke aA)) (.cell nC zn 5))
def QZ:=vx LV A6
def XK:=cL oo wZ
def CY:=LF oo m7 .quo
def XL:=iS oo m7
def XM:=iS oo nz
def XN:=iS oo sH
def XO:=gN (aV 42) (aV 43) (aV 44) (aV 45)
def Q0:=vx LV (oq (.v 26) w8 (.dv (iS CY m7) (.v 28) bh) (gR CY) (oS CY))
def Fv:=QX++[A7]
def Q1:=gN (aV 46) (aV 47) (aV 48) (aV 49)
def agT:=vy Ff (cL Ff qj)
def agU:=gN (aV 88) (aV 89) (aV 90) (aV 91)
def agV:=gN Fh Fi Fj Fk
def XP:=iL++[dh,ey]
def agW:=vy Fo (cL Fo oR)
def Fw:=RK.mr ⟨3,64,1,E,J⟩
def agX:=vy vz (cL vz kC)
def agY:=XP++[Fw]
def Q2:=RK.own 310
def agZ:=vy sM (cL sM kf)
def Mp:=iu sM mo
abbrev Fy:=BE.look y a c d bh b
def ag0:=Fy 1 4 Mp bh jF
def IJ:=LE.ah nC
def IK:=iu (vk wW) E5
def Q3:=T.back 3 [aV 66,aV 67,aV 68,aV 69,aV 70,aV 71,aV 72,aV 73,aV 74,aV 75,aV 76,aV 77,aV 78,qf,E6]
def Fz:=K.conv I (.bin .shr .u64 (Ib (oh eP eh)) cd)
abbrev dt:=RK.own 3
abbrev Q4:=sJ dt
def tq2:=iL++[jq,.ao]
def ag2:=tq2++[dt]
abbrev XQ:=cL eh oR
abbrev XR:=bB.lex [] E
def ag3:=tq2++[.ao,dt]
abbrev CZ:=K.cell y eh a
abbrev ag4:=iu (CZ 1 lK) sD
abbrev Mq:=wU (iu (zg lK) mo) ag4
abbrev gr:=RK.sl 39
abbrev fG:=RK.sl 57
def oU:=tq1++[gr,fG,aA]
abbrev sQ:=tX oU
abbrev IL:=K.c 50
abbrev IM:=K.c 20
abbrev XS:=cL iJ mw
abbrev Q5:=BE.and Mc XS
abbrev XT:=nJ iJ jF aA
abbrev Q6:=cL eu kf
abbrev rp:=kw eu
abbrev IN:=BE.and rp Q6
abbrev xl:=RK.sl 62
abbrev XU:=nJ eu mo xl
abbrev IP:=gz eu
abbrev mR:=T.loop a z w (.aS j g h)
abbrev sS:=mR a g h j [aT] [aP]
abbrev dH:=T.aN j (.aN k g)
abbrev qm:=sS a (dH g k l) h j
abbrev xo:=T.back 0 w
abbrev ag5:=k8 oR EU sQ (qm 0 (k8 (.len XT) IM sQ (xo [gz iJ])) (qm 1 (jc 27 sQ (nD 1 IP) mJ ja oU [.ah XU]) (vu 28 (fD ja oU) ja oU [jE]) Q6 IN IN) XS Q5 Q5)
abbrev FA:=k8 c d g (k8 e f h i)
abbrev ag6:=FA mw EU oR m7 sQ (.aS (jD oR lF) sQ ag5) ag5
abbrev ag7:=FA kC IM mw nz sQ (.aS (jD mw lF) sQ ag6) ag6
abbrev ag8:=FA kf (.c 70) kC (.c 6) sQ (.aS (jD kC Iq) sQ ag7) ag7
abbrev ag9:=FA gw IM kf (.c 6) sQ (mQ kf (.c 64) sQ ag8) ag8
abbrev Mr:=tX [xl]
abbrev XW:=RE.cell kY cN 1 gh
abbrev XX:=vE dN XW
abbrev FB:=K.len (nJ c y A)
abbrev Ms:=T.loop a z w (dH g j k)
abbrev jG:=dH (dH g l m) j k
abbrev aha:=k8 gw (.c 12) Mr (qm 0 (k8 (FB cN kY cS) IM Mr (dH (k8 (.len XW) IM Mr (Ms 1 (.aS XX (jG (k8 (FB dN XW ey) IL Mr (nD 1 Qo)) vw vw (.and Ii XX) (.and Ii XX)) (nD 0 (gz cN))) vw vw [aT] [aP])) vw vw)) (wS [xl]) Qs vw vw)
abbrev sT:=RK.mr ⟨3,4,1,E,E⟩
abbrev Mt:=sJ sT
abbrev XY:=tX [aA,sT]
abbrev lM:=C.agg [og,mj,mK,rf,vg,CA,tY,yY,E3,Ie,E4,wV,qe,vn,t6,zd]
abbrev rq:=C.agg [p,q,r,s,t]
abbrev sU:=rq qf fO vo E6 ja
abbrev FC:List C:=[lM,sU]
abbrev eQ:=RK.sl 96
def XZ:=oU++[aA]
def fP:=XZ++[eQ,aA]
abbrev Q7:=iu eP ze
def X0:=jD jR bh
def Q8:=fP++[dt]
def tq7:=fP++[.ao]
def IQ:=tq7++[dt]
def Mu:=jD qj bh
def jd:=RK.own 96
def Q9:=IQ++[jd]
def Mv:=mq qj
def ahc:=IQ++[.ao]
def IR:=ahc++[jd]
def Mw:=jD wW bh
def Ra:=IR++[dt]
def IS:=IR++[.ao,dt]
def ahd:=vE cd (nJ eu nC bY)
def ahe:=IS++[mu]
def ahf:=ahc++[.ao,.ao,dt,bY,jd]
def IT:=LE.ah Fq
abbrev Mx:=kA 500
abbrev Bl:=fD p fP
abbrev uh:=Bl Mx
abbrev FD:=nJ eh nC bY
abbrev C0:=K.len FD
abbrev Rc:=ub wW
abbrev X1:=cL fF C0
abbrev My:=vk (zg E5)
abbrev ahg:=vy My (cL My jR)
abbrev oV:=dH g (.and j k) (.and l m)
abbrev ui:=dq a fF FD
abbrev pD:=T.aS (.not j) g h
abbrev Mz:=T.aS j (dH g k l) h
abbrev ahh:=sS 2 (oV (lL 41 (pD uh (nD 2 xg) (gR gX)) kZ fP (zq [ui 0,ui 1,ui 2,ui 3,ui 4,ui 5,ui 6,ui 7,ui 8,ui 9,ui 10,ui 11,ui 12])) CH X1 CH X1) (dH (.aS (oS C0) QN (qh My bh (Mz (pD uh QN (fl (iu My ze))) uh (cL My jR) ahg ahg) uh)) Rc Rc) X1
abbrev IU:=cL bh C0
abbrev X2:=iu bh FD
abbrev Bm:=H7 c (.cell y d a) j
abbrev IW:=Bm a c d (Bm b e f j FD) FD
abbrev gZ:=K.cell FD bh a
abbrev ahi:=mP C0 m7 (jG (pD uh ahh (.not (IW 0 1 X2 cd (gZ 1) cd (IW 2 3 (gZ 2) cd (gZ 3) cd (IW 4 5 (gZ 4) cd (gZ 5) cd (IW 6 7 (gZ 6) cd (gZ 7) cd (IW 8 9 (gZ 8) cd (gZ 9) cd (IW 10 11 (gZ 10) cd (gZ 11) cd (iS (gZ 12) (.cell FD cd 12)))))))))) IU IU (cL cd C0) (cL cd C0)) uh
abbrev IX:=fD su oU
abbrev MA:=fD Mx oU
abbrev pE:=LK.ah aA
abbrev X3:=nJ fF mo xl
abbrev X4:=vE mM X3
abbrev Re:=kw mM
abbrev MB:=nJ mM X3 cS
abbrev Rf:=RE.cell X3 mM 1 gh
abbrev MC:=fD Mx XZ
abbrev X5:=cL jP (.len MB)
abbrev X6:=iu jP ze
abbrev my:=fm d e (kw c)
abbrev ahj:=my X6 X6 (.len MB)
abbrev xp:=BE.cell y c 0
abbrev X7:=xp jP MB
abbrev Rg:=fm jP (.len Rf) Bi
abbrev ahk:=pD (nD 6 Mi) (dH (lL 39 (pD MC (nD 6 Mi) Qq) nc XZ [jE,nA,ky,.ah (nJ jP Rf ey)]) Rg Rg) X7
abbrev X8:=cL gX AY
def Rh:=oU++[sT]
abbrev ahl:=my (vk dp) (vk dp) t8
def Ri:=oU++[jd]
def ahm:=Ri++[mu]
def ahn:=Ri++[bY,jd]
abbrev C1:List C:=[lM,sU,iR]
def xq:=RK.sl 182
abbrev Rj:=C.bA [sO,iK]
def xt:=fP++[xq]
abbrev X9:=BE.cmp .geq jR kf
abbrev zw:=LE.lit [w]
def IY:=zw [aT]
def aho:=IS++[dt]
def ahp:=fP++[jd]
def Rk:=tq7++[jd]
def ahq:=Rk++[dt]
def Ya:=Rk++[.ao,dt]
def ahr:=Ya++[dt]
def ahs:=xt++[dt]
def Yb:=xt++[.ao]
def Rl:=Yb++[dt]
def aht:=Rl++[jd]
def Rm:=Rl++[.ao,jd]
def ahu:=Rm++[dt]
def C2:=mq Mh
def Yc:=Rm++[.ao,dt]
def ahv:=Yc++[dt]
def C3:=cL bh IA
def ot:=RK.own 140
def ahw:List LK:=[aP,.ah ot,.ah jd,.ah dt]
def Yd:=RE.cell pC bh 1 cS
def Ye:=vE eh Yd
def Ro:=If Ye
abbrev Rp:=bv jR
def ahx:=zw [Rp,lG,Rp,iR]
def ahy:=Yb++[.ao,.ao,.ao]
def ahz:=ahy++[.ao,.ao,dt,dt]
def ahA:=ahz++[ot,jd,dt,ot]
def ahB:=ahz++[.ao]
def Yf:=ahB++[jd,dt,ot,ot]
def zx:=RE.cell pC bh 3 bY
def Rq:=ub (.len zx)
def MD:=Bm a c d (Bm b e f j zx) zx
def ahC:=BE.not (MD 0 1 X2 eh (gZ 1) eh (MD 2 3 (gZ 2) eh (gZ 3) eh (MD 4 5 (gZ 4) eh (gZ 5) eh (MD 6 7 (gZ 6) eh (gZ 7) eh (MD 8 9 (gZ 8) eh (gZ 9) eh (H7 (gZ 10) (CZ 10 zx) (Cx (gZ 11) (CZ 11 zx) (gZ 12) (CZ 12 zx))))))))
def zy:=vq a zx
def ahD:=LE.lit [[bv X2,bv (gZ 1),bv (gZ 2),bv (gZ 3),bv (gZ 4),bv (gZ 5),bv (gZ 6),bv (gZ 7),bv (gZ 8),bv (gZ 9),bv (gZ 10),bv (gZ 11),bv (gZ 12)],[zy 0,zy 1,zy 2,zy 3,zy 4,zy 5,zy 6,zy 7,zy 8,zy 9,bv (CZ 10 zx),bv (CZ 11 zx),bv (CZ 12 zx)]]
def ahE:=Yf++[mu]
def ahF:=ahB++[.ao,dt,ot,ot,bY,jd]
def C4:=sy 24
def Ru:=RK.sl 140
def ahG:=xt++[jd]
def Rv:=Yb++[jd]
def ahH:=Rv++[dt]
def Yg:=Rv++[.ao,dt]
def ahI:=Yg++[dt]
def ahJ:=ahy++[dt,dt]
def ahK:=ahJ++[ot,jd,dt,ot]
def ahL:=ahJ++[.ao]
def Yh:=ahL++[jd,dt,ot,ot]
def ahM:=Yh++[mu]
def ahN:=ahL++[.ao,dt,ot,ot,bY,jd]
abbrev Rw:=cL eh IA
abbrev IZ:=If Rw
abbrev Rx:=kB oQ qi
def Yi:=vE eu XT
def I0:=iu eu XT
def Yj:=cL eu IA
def ahO:=xt++[dh]
abbrev vJ:=fm jR kf (kw jR)
abbrev FE:=nJ jR mo xl
abbrev ME:=RK.mr ⟨3,3,1,E,E⟩
abbrev Yk:=cL fF IA
abbrev Ry:=BE.and CH Yk
abbrev MF:=vk eu
abbrev I1:=my MF MF (.len FE)
abbrev ahP:=fm fF (.len (nJ MF FE cS)) CH
abbrev Rz:=iu fF pC
def C5:=fP++[aA]
def ahQ:=C5++[ME]
def ahR:=ahQ++[A4]
def ahS:=ahQ++[.ao,A4]
abbrev Yl:=cL gX t8
def I2:=C5++[sT]
abbrev Ym:=cL dp AY
def RA:=I2++[sT]
abbrev Yn:=cL mM IA
abbrev MG:=iu mM pC
abbrev MH:=tX RA
abbrev RC:=RE.cell FE MF 1 gh
abbrev ahT:=my MG MG (.len RC)
abbrev Yo:=nJ MG RC ey
abbrev Yq:=vE jQ Yo
abbrev ahU:=my Rz Rz (.len RC)
abbrev Yr:=nJ Rz RC ey
abbrev Ys:=vE dp Yr
abbrev RD:=tX [aA,eQ,aA]
abbrev ahV:=Bl (bv (CE eP (.c 4097)))
abbrev C6:=K.conv I (.bin .shr .u64 (Ib (oh dN iI)) cd)
abbrev Yt:=iu C6 kY
abbrev vK:=H6 c d g h .lss
abbrev ahW:=vK Yt cN (kB (gz C6) mK) (kB mj (bv C6))
def RF:=LK.ah eQ
def ahX:List LK:=[pE,aP,RF,pE,.bool,aP]
def RG:List C:=[lM,sU,aT]
def MI:List LK:=[pE,aP,aP,aP]
def ahY:=LE.lit [[eF],[aT]]
def Yu:=C5++[aA,aA,aA,aA,dt]
def ahZ:=Yu++[dt]
def Yv:List LK:=[.ah cS,.ah gh]
def Yw:List RK:=[bO,bL,bq,cS,gh,cS,gh,cS,gh,dh]
def Yx:=Yw++[aA]
def Yy:=Yx++[gr]
def Yz:=Yy++[xl]
def YA:=Yz++[xl]
def YB:=YA++[fG]
def ah0:=YB++[aA]
def ah1:=fm cN sI (kw cN)
def YC:=cL fF CQ
def ah2:=rq sN kZ ud ql oO
def ah3:=C5++[eQ,aA,Ru,aA,eQ,aA]
def ah4:=vx fF (oh cd (FB eh pC xl))
def RI:List LK:=[aP,aP,pE,aP]
def YD:List C:=[lM,sU,kZ]
def I3:=fP++[fG,aA]
def RJ:=rq qi m8 rm sN oO
def MJ:=I3++[aA,eQ,aA]
def RN:=MJ++[dt]
def YE:=iS IC kf
def I4:=my IC IC kf
def YF:List C:=[lM,RJ,mN]
def xu:=MJ++[.ao,aA]
def ah5:=T.back 2 [gz kb,gz rh,ql,oP]
def FF:=RN++[aA,aA,eQ,aA]
def I5:=FF++[dt]
def I6:=iS (w7 20) kf
def YG:=rq rn sx vF Bk rg
def RO:=LE.jW IT IY
def YI:=oh (oh bh jQ) bh
def ah6:=xu++[aA,eQ,aA,aA]
abbrev FG:=T.back 1 w
def ah7:=kz 42 (FG [ID,mO,C4,bv YI]) C4 ah6 [Mj] [pE]
def MK:=rq qi nA rm sN iQ
def ah8:=jD jQ (FB IC mo xl)
def ah9:=rq rn mN vF Bk oO
def aia:=yX [bO,bL,bP,bQ,bq,dD,dh,gr,fG,aA,aA,eQ,aA,fG,aA,aA,eQ,aA,aA,aA,aA,eQ,aA,aA] [ql,m8,j9,aT]
def YJ:List C:=[lM,MK,nc]
abbrev oW:=T.aN j (.new a B u v g)
def gT:=T.aS j cP g
abbrev mz:=oW a g j u v (.jW B F)
def kh:=T.aS j g cP
abbrev nf:=H6 c d g h .neq
abbrev oX:=T.loop a z w (vK c d g h)
abbrev lN:=mz a g j u v B (zw w)
def vL:=oW a g jr u v B
abbrev qn:=vK c d g (k8 e f h i)
abbrev uj:=T.ae A (.ins B a w) u g
def ru:=gT (gT g k) j
abbrev Bn:=T.fU jr j g h
abbrev lQ:=m9 p aT u
abbrev uk:=lL a (.aS j g h) p u w
abbrev sW:=iq a g (.agg x) p u w z
abbrev zA:=dq a c kY
abbrev xw:=C.bool (.cell y c a)
abbrev rz:=C.int .u64 c
abbrev zB:=mQ c d (mQ e f g h) i
abbrev xx:=mR a g h j [aT,fZ] z
abbrev f8:=rk a eh
def pF:=dq a A6 jF
def pG:=dq a Ff nC
def ul:=lL a (gT g j) p u w
def qo:=dq a Fo lK
def pH:=LE.ah (.v a)
abbrev rA:=BE.cmp .gtr c d
def qp:=rk a jQ
def xz:=vL a g u v (zw w)
def qr:=rk a jP
abbrev pI:=mR a g h j [aT,p] z
def qu:=rk a dp
def qw:=rk a gX
def qy:=rk a I0
abbrev zC:=pD g h (jD c d)
abbrev xA:=xx a (dH g k l) h j z
def kD:=zA a cN
def um:=dq a cd (nJ eu nC bY)
def sZ:=dq a eP sC
def uo:=dq a jQ sD
def uq:=vq a sD
def zD:=vu a (gT g j) p u w
def ur:=dq a jP mo
def RP:=BE.dv j jr (.dv k jr l)
def ut:=dq a dp mo
def I7:=BE.dv j jr k
def uu:=dq a sM mo
def I8:=nf c bh cP g
abbrev C7:=K.cell kY c a
def I9:=RP j k (RP l m n)
def zE:=mP c d g cP
abbrev FH:=jG g (.and j k) (.and l m) n o
def ML:=C.bool (I7 j k)
def xB:=Bm b (.cell sD dp a) c j zt
def FI:=BE.and j (mq wW)
def xC:=Bn (vL a g u v wY) cP j
def zF:=mq (w7 a)
abbrev C8:=K.cell y iJ a
def FJ:=I8 (.v a) g
abbrev C9:=qn c d e f g h (dH (.aN jr i) jr jr)
abbrev Ja:=K.cell ke c a
abbrev Da:=dq a gX lK
def Jb:=gT g (.not j)
abbrev uv:=iS c gw
def MM:=T.aS j g (gT h k)
def MN:=RK.own 84
def Bo:=kz a g p u w [pE,aP,RF,pE,.bool]
def YK:T:=qh cN dN Qg oL
def YL:T:=jc 51 oM (jc 51 oM (jc 51 oM (jc 51 oM (dH (jc 70 oM (jc 70 oM (jc 70 oM (jc 70 oM (jc 70 oM (wR 71 (yW mL bh oM oM (lJ (.aS (Cx fF dp gX mM) oM WS) WS WS (gR mL) (Cx bh fF cd gX)) (fl oe)) j9 m8 pB [vj aT eF,vj ky kZ]) (lC 8) (kX 8) pB [lG,xw 2 fu kY,eF,nA]) H5 EW pB [iK,.bool (rA (C7 5 fu) bh),eF,zA 5 fu]) (lC 6) AT pB [iR,.bool (rA (C7 4 fu) bh),eF,zA 4 fu]) (lC 5) Cv pB [fO,xw 1 fu kY,zA 3 fu,Cu]) EV wQ pB [tY,xw 0 fu kY,eF,su]) (fm fu EU LD) (fm fu gw LD)) Ct rg pB [rf,eF,qa]) yV oO pB [mK,aT,yZ jQ cd]) oN iQ pB [mj,aT,yZ jP cd]) mJ ja pB [vg,eF,kA 9]
def YM:T:=mQ dN cN Qg oL
def aib:T:=ru (gT (k8 dN Cy cP (gT (k8 (oh cN dN) lF cP (lQ (bv (oh cN dN)) [])) (gR cN))) (cL dN bh)) (cL cN bh) (rA cN lF)
def aic:T:=ru (jG (yX pB [dq 0 EZ tZ,dq 1 EZ tZ,aT]) afH afI afH afI) (cL cN cd) (rA cN lF)
def RQ:T:=lL 100 (nf fu bh afJ (uk 100 afJ (lL 87 (lQ fO []) fO [] [ug cN gQ,ug iI dN]) (fl lD) tY [] [vj mK rf])) vg [] [vj og mj]
def RT:T:=qn dN cd dN Qh LH LH (qn cN WT cN Qh LH LH (kz 118 (kz 117 (nf gQ cd LH ri) (rz gQ) [] [rz iI,rz (Ib dN)] [LI]) (rz iI) [] [og] [LI]))
def RU:T:=.aS (cL cN bh) (mi (rz (.bin .sub .u64 bh (Ib cN)))) (mi (rz (Ib cN)))
def RW:T:=mP dN bh (mi (rz cN)) (mR 0 (.aN (fl (wU fu cd)) (mP afK bh (mi (rz fu)) (xo [rz gQ,rz fu,rz afK]))) (mi (rz iI)) (fl gQ) [rz dN,rz cN,rz dN] [LI,LI,LI])
def RX:T:=vu 47 (vu 47 (lJ ri (mi E0) (.aS yU H8 (qn cN dN cN dN (mi E0) H8 ri)) yT yU) iQ [] [mj]) ja [] [og]
def RY:T:=tW WU []
def YN:T:=qn cN LJ cN LL oL oL (qn dN LJ dN LL oL oL (qn iI LJ iI LL oL oL (qn gQ LJ gQ LL oL oL (mQ cN dN (tW (jD iI gQ) []) oL))))
def YO:T:=sG 81 WV (sG 81 WV (lQ (gN (bv (CE cN fu)) (bv (wU dN lD)) (bv (CE iI iJ)) (bv (wU gQ eu))) []) oN iQ [WW]) mJ ja [Cz]
def YP:T:=iq 60 (tW Qi []) WW iK [] [Cz,Cz] qc
def YQ:T:=sG 81 WV (qn fu afL fu (.c 2199023255552) Ia Ia (qn lD afL lD (.c 2199023255552) Ia Ia (sG 81 Ia (lQ afM []) oN iQ [afM]))) mJ ja [Cz]
def T24:T:=zD 81 (zD 81 (qh cN fu (mQ dN lD (qh iI iJ (lQ (.bool (jD gQ eu)) []) cP) cP) cP) oN iQ [] [WW]) mJ ja [] [Cz]
def YR:T:=.aS mJ (tW (gR cN) []) (vu 51 (mi iQ) iQ [] [og,mj,mK])
def YS:T:=oX 0 iI gQ (dH (pD (kB (gz E1) rf) (kB mK (bv E1)) (rA (iu E1 kY) dN)) (my E1 E1 gw) (my E1 E1 gw)) (dH (.aN (my E2 E2 gw) (fD (vl (C7 1 E2) (vx (EY dN (iu E2 kY)) (C7 2 E2))) Ic)) jr (my E2 E2 gw)) [aT,bv gw] qb
def YT:T:=mQ dN cN Qg oL
def YU:T:=uk 33 (jc 58 (CC eF) (CC iR) mJ ja iL [fO,aT,WX]) (CC iR) Qj iR iL [jE]
def T18:T:=iq 114 (kh (m9 (.bool (gR wW)) iR [bO,bL,bP,bQ,bq,dD,dh,cS,bY,bY,gh,gj,.sl 275]) Qj) E6 iR AX [jE,WY,qe,.agg [fO,vn,t6,zd,qf,vo]] (Ba (.sl 275))
def YV:T:=FA gw (.c 64) AY CB (CC su) (CC su) (uk 50 (CC fO) (jc 51 vp (jc 51 vp (uk 52 vp (vK iI bh vp (vK gQ bh vp (mP gw bh vp (sS 0 (oV (jc 51 vp (jc 51 vp (jc 51 vp LO EV wQ iL [zA 3 eP,aT,bv Cy]) Ct rg iL [zA 2 eP,aT,mj]) yV oO iL [zA 1 eP,aT,og]) zf Qk zf Qk) (pI 1 (dH (mQ (zg sC) fF vp (k8 (zg sC) AZ vp (jc 53 vp (gG 1 oQ LP) yV oO iL [.agg afQ,bv gw,tY]))) Ig Ig) (CC aT) Ql E0 qb) Qk)))) wX iR iL (zq [mK,rf,vg])) oN iQ iL [mj,eF,LM]) mJ ja iL [og,eF,LM]) (fl iJ) fO iL [gN tY yY E3 Ie])
def T86:T:=Bn (oW 4 (fD yY [cS,cS]) Ih [cS] [cS,A4] LR) (fD fZ [cS]) LQ
def T87:T:=Bn (oW 93 (fD yY [bY,bY]) Ih [bY] [bY,mu] LR) (fD fZ [bY]) LQ
def T88:T:=Bn (oW 64 (fD yY [ey,ey]) Ih [ey] [ey,E7] LR) (fD fZ [ey]) LQ
def aii:T:=lL 183 (tW (.cmp .geq gQ bh) [ey]) rf [ey] [CA,.agg [og,mj,mK,ja]]
def aij:T:=qm 0 (.aS (Bm 0 cN gQ (Bm 1 dN gQ (Bm 2 iI gQ (.beq yT (.cell kY gQ 3)) kY) kY) kY) (fD rf [ey]) (xo [gz gQ])) cP (qg gQ) (vy gQ (qg gQ)) (vy gQ (qg gQ))
def YW:T:=yW gw (.c 32) Qn Qn (.aN (qg bh) (lL 72 (nf cN m7 Qn (sS 0 (.aN A5 (lL 72 (nf iI m7 (nf iI nz (nf iI wZ Qn Qp) Qp) Qp) mK sF [.int .u8 (.mV kY dN)])) (wS sF) LS)) og sF [.int .u8 (.mV kY bh)])) (.seq kY (.k (.string ⟨#[]⟩)))
def YX:T:=uk 33 (m9 fZ iK iL) (jc 51 (m9 fZ eF iL) (jc 51 (m9 fZ eF iL) (xA 0 (mP (CF 1 eh) iJ (mP (CF 2 eh) eu (lN 56 (kB oQ qe) (mq oR) afS [bO,bL,bP,bQ,bq,.ao,w6] afQ (.ah lK)) (kB oQ wV)) (kB oQ wV)) (.dK 82 83 56 (.ratio 10 11) J lK afS (fD WZ [bO,bL,bP,bQ,bq,.ao,bq])) Ql Ig Ig (sJ w6)) oN iQ iL [iR,aT,WX]) mJ ja iL [fO,aT,yZ gw cd]) zh iK iL [jE]
def YY:T:=E8 fu nz fu sH afV afV (Qr oL (mP fu wZ afT W5) W5 (AV jP cN) mJ)
def YZ:T:=qh cN dN Qg oL
def Y0:T:=qh cN (.c 97) (mQ cN (.c 122) (mi su) afY) afY
def Y1:T:=sG 57 CD (lJ CD (qh lD CB CD (mQ (.c (-1048576)) iJ (zC iJ AZ CD (mQ (.c (-1048576)) eu (zC eu AZ CD (lJ (m9 H9 eF []) (sW 80 (.aS (fl mM) Ia (lN 124 (sW 80 (.aS (fl kb) (m9 H9 su [gj]) (lN 124 (jG (kz 60 (fD af3 [.ao,gj]) af3 [.ao,.ao] [gN (dq 0 bh ke) (dq 1 bh ke) (dq 2 bh ke) (dq 3 bh ke),gN (dq 0 cd ke) (dq 1 cd ke) (dq 2 cd ke) (dq 3 cd ke)] qc) (cL bh sI) (cL bh sI) (cL cd sI) (cL cd sI)) Ih [gY] [.ao,gY] [nA,nc,j9,m8] (.ah kY))) mN [.ao] [Cz,ug af0 iJ,ug af0 eu] [nA,nc,j9,m8] qc) jr [] [gY] [lG,ky,kZ,lH] wY)) lI [] [Cz,ug afZ iJ,ug afZ eu] [lG,ky,kZ,lH] qc) (m9 H9 eF []) zf (.not (jD eP (.c 4095))))) CD)) CD)) CD LD (.not (jD fu lD))) mJ ja [Cz]
def aik:T:=gT (Bn (oW 56 (.dK 85 86 56 W7 E tZ [bq,ey,w6] (xA 0 (pI 1 (oV (zE (iu dN (.v 3)) Qt (dH (jc 88 (dH (lN 205 (kB (gz cN) qe) (mq oR) [bq,ey,.ao,w6,.ao,LU] [bq,ey,.ao,w6,.ao,.ao,LU] [bv Qt,kD 1,kD 2,kD 3,kD 4,kD 5,kD 6,kD 7,kD 8,kD 9,kD 10,kD 11,kD 12,kD 13,dq 0 dN ke,dq 1 dN ke,dq 2 dN ke,xw 3 dN ke] (.ah lK)) Il Il) cP yT ja [bq,ey,.ao,.ao,.ao,.ao] [.agg [bv Qt,kD 1,kD 2,kD 3,kD 4,kD 5,kD 6,kD 7,kD 8,kD 9,kD 10,kD 11,kD 12,kD 13],gN (dq 0 dN ke) (dq 1 dN ke) (dq 2 dN ke) (xw 3 dN ke)]) Il Il)) Ii W8 Ii W8) cP W8 E4 Ik) (m9 E4 vi [bq,ey,.ao,bq,A7]) Qs vw vw Ik)) Ih [bq,ey] [bq,ey,w6] LR) cP LQ) (AV gw sI)
def T27:T:=lL 41 (FJ 29 (ul 36 (lJ (lJ (kh (lQ (gN (yZ Xb Qu) (vl Xb Qu) (yZ Xc Qu) (vl Xc Qu)) sF) (gR dp)) cP cP Qi Im) cP cP (gR fu) (gR iJ)) Xa E9 sF (zq [CA,lI,nA,nc,j9,m8,mN,mO,oP,sx,zi,zj,zk,A9,zl,zm,xe]))) A8 sF [W9]
def Y2:T:=ol (ol (ol (pD (ol (ol (sK (ol (sK (ol (sK (ol (sK (ol ri (lC 12) (kX 12) LY) ri LW (lC 11) (kX 11) LX) (lC 10) (kX 10) Qy) af5 Qw (lC 9) (kX 9) Qx) (lC 8) (kX 8) Xf) af7 Xd H5 EW Xe) (lC 6) AT [fO,eF,qa]) aga af4 (lC 5) Cv [tY,aT,Cu]) EV wQ [vg,eF,qa]) Ct rg [rf,aT,Cu]) (sK (ol aga EV wQ [fO,eF,qa]) (sK (ol af9 EV wQ Xf) (sK (ol af8 EV wQ Qy) (sK (ol ri EV wQ LY) ri LW Ct rg LX) Qw Ct rg Qx) Xd Ct rg Xe) af4 Ct rg [tY,aT,Cu]) (H7 gQ bh (gR fu))) yV oO [mK,aT,bv Cy]) oN iQ [mj,bv WT,bv Qh]) mJ ja [og,bv WT,bv Qh]
def Y3:T:=mR 0 (.aN (fl gQ) (kB (AW fu gQ .rem) rf)) (mR 1 (.aN (fl lD) (gG 1 (AW iJ lD .rem) tY)) (mR 2 (.aN wX (gG 2 (AW eP eu .rem) iR)) (dH (.aN (fl Io) (mi (.agg [AW cN Io .quo,AW dN Io .quo,AW iI Io .quo]))) (fl Io) (fl Io)) wX [mK,fO] qb) (fl lD) [mj,vg] qb) (fl gQ) [og,aT] qb
def Y4:T:=yW iI (.c 32768) Ip Ip (qn (CE cN dN) (EY bh iI) (wU cN dN) iI Ip Ip (nf (oh (vx cN cN) (vx dN dN)) (vx iI iI) Ip (kz 69 (pD Ip ri (H7 gQ cN (Cx fu dN lD iI))) (.agg [rf,vg,tY]) [] (zq [og,mj,mK]) [aP,aP,aP]))) (cL iI cd)
def Y5:T:=jc 54 sL (yW cN (.c 500) sL sL (yW iI sH sL sL (qn lD cd lD lF sL sL (qn iJ cd iJ lF sL sL (yW eu lF sL sL (qn jQ bh jQ AZ sL sL (dH (C9 gX cd gX nz nE nE (C9 dp cd dp nz nE nE (C9 mM cd mM nz nE nE (C9 eP cd eP AZ nE nE (C9 eh cd eh AZ nE nE (C9 fF cd fF AZ nE nE (C9 gQ cd gQ Iq nE nE (C9 fu bh fu Iq nE nE (yW dN (.c 500) nE nE (dH (.aN jr (qn jP bh jP AZ nE nE (.aN jr (fD aT sF)))) jr jr) (cL dN bh)))))))))) jr jr)) Xg))) (cL iI cd)) (cL cN cd)) mJ ja sF [CA]
def Y6:T:=uk 66 (m9 fZ iR iL) (xA 0 (mP (CF 2 eP) iJ (mP (CF 4 eP) Cy (nf Xi Qz (uj 2 (kB LN qe) [bO,bL,bP,bQ,bq,xf] [bv (CE Qz Xi),bv (wU Qz Xi),vi] xf (.ah lK)) Xj) Xj) Xj) (xx 1 (oX 2 fF gw (.aS (Fy 2 2 eh fF lK) (lN 148 (gG 2 xg t6) (mq mw) [bO,bL,bP,bQ,bq,xf,.ao,QA] [bO,bL,bP,bQ,bq,xf,.ao,.ao,QA] [lG,ky] (.ah jF)) (gG 2 xg vn)) (gG 1 oQ vn) [aT,qe] (sJ QA)) (fD WZ [bO,bL,bP,bQ,bq,xf,jq]) (qg eh) (sJ QA)) Xh Ir Ir (sJ xf)) wX iR iL [jE,fO]
def RZ:T:=iq 61 (.aS zh (fD iK CG) (nf kC oR (fD (kA 270) CG) (Bn (mz 56 (.dK 85 86 56 W7 E jF agb (xA 0 (pI 1 (dH (mP (iu fF mo) (zg rj) (dH (jc 88 (dH (lN 205 (kB oQ vo) Fa [bO,bL,bP,bQ,bq,ey,bq,.ao,w6,.ao,LU] [bO,bL,bP,bQ,bq,ey,bq,.ao,w6,.ao,.ao,LU] [f8 0,f8 1,f8 2,f8 3,f8 4,f8 5,f8 6,f8 7,f8 8,f8 9,f8 10,f8 11,f8 12,f8 13,dq 0 fF lK,dq 1 fF lK,dq 2 fF lK,xw 3 fF lK] Fb) QE QE) (gG 1 xg qf) yT ja [bO,bL,bP,bQ,bq,ey,bq,.ao,.ao,.ao,.ao] [.agg [f8 0,f8 1,f8 2,f8 3,f8 4,f8 5,f8 6,f8 7,f8 8,f8 9,f8 10,f8 11,f8 12,f8 13],gN (dq 0 fF lK) (dq 1 fF lK) (dq 2 fF lK) (xw 3 fF lK)]) QE QE) (gG 1 xg qf)) QD QD) (fD (kA 270) [bO,bL,bP,bQ,bq,ey,bq,.ao,bq,.ao,A7]) QC zd Ik) (fD aT [bO,bL,bP,bQ,bq,ey,bq,.ao,bq,A7]) QB Is Is Ik)) (mq kC) CG agb wY (.ah rj)) (.dK 85 86 56 W7 E afR CG (xA 0 (pI 1 (.stuck "") (fD (kA 270) [bO,bL,bP,bQ,bq,ey,bq,bq,.ao,A7]) (cL fF bh) t6 Ik) (fD aT [bO,bL,bP,bQ,bq,ey,bq,bq,A7]) QB Is Is Ik)) (jD kC bh)))) qe iK Xl Xk LZ
def T89:T:=iq 61 (gT (ul 41 (iq 62 (gT (mR 0 (dH (sW 178 (ru (xo [gz A6,It,Iu,CI,CJ,CL,Fe,Iv,Fh,Fi,Fj,Fk,Fl,Fm,It,Iu,CI,CJ,CL,Fe,Iv,Fh,Fi,Fj,Fk,Fl,Fm]) (fl (.v 63)) (fl (.v 63))) L4 age [.agg [aV 37,bv sM,aV 39,bv zn,bv oo,aV 42,aV 43,aV 44,aV 45,aV 46,aV 47,aV 48,aV 49],.agg [pF 0,pF 1,pF 2,pF 3,pF 4,pF 5,pF 6,pF 7,pF 8,pF 9,pF 10,pF 11,pF 12,pF 13],gN (pF 14) (pF 15) (pF 16) (xw 17 A6 jF)] [It,Iu,CI,CJ,CL,Fe,Iv,Fh,Fi,Fj,Fk,Fl,Fm] Fc) agd agd) (lQ (.agg [zk,A9,zl,zm,xe,A8,E9,Iw,L5,L6,L7,QG,L8]) age) (cL A6 mw) [aT,iK,lG,ky,kZ,lH,lI,nA,nc,j9,m8,mN,mO,oP,iK,lG,ky,kZ,lH,lI,nA,nc,j9,m8,mN,mO,oP] [aP,aP,aP,aP,aP,aP,aP,aP,aP,aP,aP,aP,aP,aP,aP,aP,aP,aP,aP,aP,aP,aP,aP,aP,aP,aP,aP]) mJ) vn ja CG [qe,wV] [.ah A7,.bool]) (fl (.v 22)) zi CG [QF]) (fl EX)) qe sx Xl Xk LZ
def ain:T:=ul 41 (kh (sG 40 (sG 40 (sG 40 (sG 40 (vu 40 (lJ (sG 40 (vu 40 (ru (kh (lQ W9 []) yT) H5 (AV w8 mM)) EW [] [A8,aT,aT]) cP (.v 6) AT [xe,aT,aT]) cP (kh (sG 40 (vu 40 (ru (gT (kh (wR 158 (Cw 270 (dH (ul 41 (lQ agl []) (fl vz) L8 [] [agl]) (my xk xk wZ) (I9 (gR xk) (oS xk) Xm Xn (I7 Xo Cs))) [] [Iw] [L6,L7,QG] [aP,aP,aP]) Iw L5 [] [mO,mK]) vA) yT) H5 (AV w8 mM)) EW [] [A8,agj,agk]) cP (.v 6) AT [xe,bv (vC agh vA xj),bv (vC agi vA xj)]) (.v 5)) yT (.v 5)) Cv [] [sx,bv (oq cd cd (vC (oq bh cd QH Be CN) Bb Bc) vA xj),bv (oq Iq Iq (vC (oq bh Cy QH Be CN) Bb Bc) vA xj)]) cP (.v 4) wQ [oP,agj,agk]) cP (.v 3) rg [mO,bv (oq cd cd agh vA xj),bv (oq lF lF agi vA xj)]) cP (.v 2) oO [mN,bv (oq cd bh (oq cd cd (.dv Be bh agf) Bb Bc) vA xj),bv (oq m7 bh (oq m7 m7 (vC (vC (.dv Mb m7 bh) L9 Ma) Be CN) Bb Bc) vA xj)]) cP yU iQ W0) (I9 vA xj Bb Bc (I9 Be CN L9 Ma (I7 Mb Cs)))) Xa E9 [] [W9]
def Y7:T:=mQ (wU gw sI) CB (zC LG (.c 256) (fD su Ic) (zB cd cN cN CB (k8 gw bh (dH (pD kg (pI 0 (dH (zB (oh iI cd) zp zp EZ (zB (.c (-65536)) (C7 1 dN) (C7 1 dN) (.c 65536) (mQ (.c (-65536)) (C7 2 dN) (zC (C7 2 dN) (.c 65536) kg (kB Qo (bv zp))) kg) kg kg) kg kg) A5 A5) (oX 1 gQ cN (lL 98 (mQ cd fu (zC fu (.c 65536) kg (FG [gz gQ])) kg) vg Ic [gN og CA yY E3,rf]) (pI 2 (oV (zB W6 Xq Xq (EY cN m7) (zB cd (Ja 1 fu) (Ja 1 fu) m7 (zB bh (Ja 2 fu) (Ja 2 fu) (Ja 3 fu) (zC (Ja 3 fu) AZ kg (gG 2 (gz fu) (bv Xq))) kg kg) kg kg) kg kg) LD Xp LD Xp) (sS 3 (oV (zB bh Xs Xs cN (zB bh (C8 1 tZ) (C8 1 tZ) cN (nf Xs (C8 1 tZ) (zB LJ (C8 2 tZ) (C8 2 tZ) (C8 3 tZ) (zC (C8 3 tZ) LL kg (.back 3 [gz iJ])) kg kg) kg) kg kg) kg kg) Mc Xr Mc Xr) (fD aT Ic) Xr) Xp E0 qb) [aT] [aP]) LS E0 qb) (gR (iu bh kY))) (qg bh) (qg bh)) kg) kg kg)) (fD su Ic)
def T13:T:=ul 33 (vK iJ bh cP (qh iJ lD cP (lJ (kh (Jb (sS 0 (jG (jG (lL 36 (kh (ul 41 (kh (lL 39 (Jb LO (gR gX)) kZ Ix [jE,iK,fO,zr 0 eP sD ey]) (xp eP jF)) (.not Im) ky Ix agm) Qv) lG Ix Xt) Iy Iy (fm eP t8 zf) (fm eP t8 zf)) CO CO QI QI) (kz 133 (kz 134 (mR 1 (jG (jG (kz 135 (lN 58 (kh (sW 136 (I8 A6 (sW 137 (FJ 28 (lN 93 (lN 124 (FG [oQ,sN,rm,ud]) IB agu [bO,bL,bP,bQ,bq,dD,dh,cS,bY,gh,cS,bY,.ao,.ao,.ao,ey,nG,mu,gY] [zk,A9,zl,zm] zu) (mq wW) agp agu agt Fp)) xe ags [jE,lG,fO,agq,.agg [Bf 0 eh rj,f8 1,f8 2,f8 3,f8 4,f8 5,f8 6,f8 7,f8 8,f8 9,f8 10,f8 11,f8 12,f8 13,f8 14,f8 15,f8 16],Xv] [zk,A9,zl,zm] qc)) zj ags [jE,lG,fO,agq,Xv] agt Fc) (xp eh jF)) QL [bO,bL,bP,bQ,bq,dD,dh,cS,bY,gh,cS,bY,mu,nG,gY,ey] agp [qi] QM) qi [bO,bL,bP,bQ,bq,dD,dh,cS,bY,gh,cS,bY,.ao,.ao,.ao] [Xv] [.ah ey]) (ub kf) (ub kf) QK QK) Is Is Iz Iz) (lQ (.agg [fO,qf,vo,E6,sO,nH]) [bO,bL,bP,bQ,bq,dD,dh,cS,bY,gh,cS,bY,bY,gh,gj]) QB [aT,fZ,fZ,fZ] agn) vo [bO,bL,bP,bQ,bq,dD,dh,cS,bY,gh,cS] [t6] [.ah bY]) qf Ix [vn] [.ah cS]) Me) (uv t8)) (uv kf)) cP cP (uv kC) (uv mw)))) wX iR Ix [jE]
def T16:T:=lL 33 (ru (kh (vK iJ lD (kh (Jb (lJ (kh (Jb (sS 0 (jG (jG (lL 36 (kh (ul 41 (kh (lL 39 (Jb LO (gR gX)) kZ AX [jE,iK,fO,zr 0 eP ze ey]) (xp eP jF)) (.not Im) ky AX agm) Qv) lG AX Xt) Iy Iy CP CP) CO CO QI QI) (sS 1 (jG (iq 60 (zE jP bh (dH (ul 41 QN (.not Qq) nc AX (zq [uq 0,uq 1,uq 2,uq 3,uq 4,uq 5,uq 6,uq 7,uq 8,uq 9,uq 10,uq 11,uq 12])) QK QK)) (gN ky kZ lH lI) nA AX [agv,agv] qc) vD vD vD vD) (sS 2 cP (kz 133 (kz 134 (mR 3 (FH (jG (kz 135 (lN 58 (kh (sW 136 (FJ 25 (sW 137 (gT (lN 93 (lN 124 (.back 3 [ID,ql,ud,rn]) (mq CQ) agE [bO,bL,bP,bQ,bq,dD,dh,cS,bY,bY,gh,gj,cS,bY,.ao,.ao,.ao,ey,nG,mu,gY] [zl,zm,xe,A8] QO) IB agy agE agD zu) Xa) E9 agC [jE,kZ,fO,agz,.agg [Bf 0 gX rj,qw 1,qw 2,qw 3,qw 4,qw 5,qw 6,qw 7,qw 8,qw 9,qw 10,qw 11,qw 12,qw 13,qw 14,qw 15,qw 16],Xx] [zl,zm,xe,A8] qc)) A9 agC [jE,kZ,fO,agz,Xx] agD Fc) (xp gX jF)) Fs [bO,bL,bP,bQ,bq,dD,dh,cS,bY,bY,gh,gj,cS,bY,mu,nG,gY,ey] agy [sN] Bg) sN [bO,bL,bP,bQ,bq,dD,dh,cS,bY,bY,gh,gj,cS,bY,.ao,.ao,.ao] [Xx] [.ah ey]) (fm gX kf sP) (fm gX kf sP) (fm gX jR sP) (fm gX jR sP)) sP Xw sP Xw (fm gX mw sP) (fm gX mw sP)) (xx 4 (FH (jG (jG (Jb (jG (iq 141 (ru (kh (iq 61 (gT (pI 5 (oV (qm 6 (zE (iu mL CU) (iu jQ Fq) (iq 165 (gT (dH (zD 166 (E8 (.cell Fq jQ 4) Cy (.cell Fq jQ 4) lF cP cP (gG 5 CV ql)) oN iQ [bO,bL,bP,bQ,bq,dD,dh,cS,bY,bY,gh,gj,cS,bY,.ao,.ao,.ao,iM,bq,iM,ey] [rn,gN (dq 0 mL CU) (dq 1 mL CU) (dq 2 mL CU) (xw 3 mL CU)]) QR QR) (fl oe)) rn m8 agG [jE,dq 0 jQ Fq,.agg [Bf 0 dp rj,qu 1,qu 2,qu 3,qu 4,qu 5,qu 6,qu 7,qu 8,qu 9,qu 10,qu 11,qu 12,qu 13,qu 14,qu 15,qu 16]] (Ba ey))) cP (vE mL CU) QR QR) CR XA CR XA) (iq 168 (gT (oX 6 oe (w7 20) cP (gG 4 Bh vF) [aT,ql] Mg) (fl mL)) rn j9 agG [jE,lH,fO,.agg [ut 0,ut 1,ut 2,ut 3,ut 4,ut 5,ut 6,ut 7,ut 8,ut 9,ut 10,ut 11,ut 12],qe,.ah CU] (Ba (.sl 310))) XA sN Mg) (fl jP)) ud nA QQ [jE,lH,fO] LZ) (xp dp jF)) (fl mM) mJ) ja lI QQ [gN (dq 0 dp zv) (dq 1 dp zv) (dq 2 dp zv) (dq 3 dp zv),gN (dq 0 dp nC) (dq 1 dp nC) (dq 2 dp nC) (dq 3 dp nC)] Ft) (fm dp CQ oT) (fm dp CQ oT) (fm dp qj oT) (fm dp qj oT)) (Bm 0 Xz dp (xB 1 1 dp (xB 2 2 dp (xB 3 3 dp (xB 4 4 dp (xB 5 5 dp (xB 6 6 dp (xB 7 7 dp (xB 8 8 dp (xB 9 9 dp (xB 10 10 dp (xB 11 11 dp (iS (.cell sD dp 12) (.cell zt dp 12))))))))))))) zt)) QP QP agF agF) (fm dp kf oT) (fm dp kf oT) (fm dp jR oT) (fm dp jR oT)) oT Xy oT Xy (fm dp mw oT) (fm dp mw oT)) (iq 48 (gT (xx 5 (FH (sW 138 (gT (lN 124 (gG 5 Mi rn) (zF 19) [bO,bL,bP,bQ,bq,dD,dh,cS,bY,bY,gh,gj,cS,bY,mu,nG,gY,iM,jq,gY] [bO,bL,bP,bQ,bq,dD,dh,cS,bY,bY,gh,gj,cS,bY,mu,nG,gY,iM,jq,.ao,gY] [nc,j9,m8,mN] (pH 19)) (fl rh)) mO [bO,bL,bP,bQ,bq,dD,dh,cS,bY,bY,gh,gj,cS,bY,.ao,.ao,.ao,iM,jq,.ao] [.agg [ur 0,ur 1,ur 2,ur 3,ur 4,ur 5,ur 6,ur 7,ur 8,ur 9,ur 10,ur 11,ur 12],.agg [Bf 0 jP rj,qr 1,qr 2,qr 3,qr 4,qr 5,qr 6,qr 7,qr 8,qr 9,qr 10,qr 11,qr 12,qr 13,qr 14,qr 15,qr 16]] [nc,j9,m8,mN] qc) Bi XB Bi XB (.and Bi XC) (.and Bi XC)) (xx 6 (FH (sW 138 (I8 AU (lN 124 (gG 6 CV vF) XF [bO,bL,bP,bQ,bq,dD,dh,cS,bY,bY,gh,gj,cS,bY,mu,nG,gY,iM,jq,gY,gY] [bO,bL,bP,bQ,bq,dD,dh,cS,bY,bY,gh,gj,cS,bY,mu,nG,gY,iM,jq,gY,.ao,gY] [j9,m8,mN,mO] (pH 20))) oP [bO,bL,bP,bQ,bq,dD,dh,cS,bY,bY,gh,gj,cS,bY,.ao,.ao,.ao,iM,jq,.ao,.ao] [.agg [uo 0,uo 1,uo 2,uo 3,uo 4,uo 5,uo 6,uo 7,uo 8,uo 9,uo 10,uo 11,uo 12],.agg [Bf 0 jQ rj,qp 1,qp 2,qp 3,qp 4,qp 5,qp 6,qp 7,qp 8,qp 9,qp 10,qp 11,qp 12,qp 13,qp 14,qp 15,qp 16]] [j9,m8,mN,mO] qc) CR XD CR XD (fm jQ kC CR) (fm jQ kC CR)) (dH (iq 170 (gT (pI 7 (dH (uj 3 (mQ (iu oe CW) sH cP (gG 7 (gz oe) Mj)) [bO,bL,bP,bQ,bq,dD,dh,cS,bY,bY,gh,gj,cS,bY,mu,nG,gY,iM,jq,gj,gY,Bj,iM] [kA 6,dq 1 oe CW,aT,vi] iM (pH 22)) agH agH) (oX 8 kb Mh cP (.loop 9 [.ah IF,.ah uf] [fZ,fZ] (.pick IG (.not (.has (.v 25) 1 rh bh bh)) (jD IG (w7 25)) (uj 1 (dH (.new 267 (.jW (pH 24) (zw [dq 0 Mm Fu,dq 1 Mm Fu,dq 2 Mm Fu])) [bO,bL,bP,bQ,bq,dD,dh,cS,bY,bY,gh,gj,cS,bY,mu,nG,gY,iM,jq,gj,gY,Bj,iM,iM,IF,uf,uf] [bO,bL,bP,bQ,bq,dD,dh,cS,bY,bY,gh,gj,cS,bY,mu,nG,gY,iM,jq,gj,gY,Bj,iM,iM,.ao,uf,uf,IF] (gG 9 (sy 27) QS)) (.and (.and (jD cd Ml) (mq Ml)) (my Mm Mm IG)) (zF 24)) agI [mO] uf (pH 25)) (.dK 144 145 267 (.lex [0,1,2] E) E (.v 24) agI (xA 10 (lN 275 (gG 10 (gz rh) (sy 28)) (zF 27) [bO,bL,bP,bQ,bq,dD,dh,cS,bY,bY,gh,gj,cS,bY,mu,nG,gY,iM,jq,gj,gY,Bj,iM,iM,.ao,uf,IF,.own 275] [bO,bL,bP,bQ,bq,dD,dh,cS,bY,bY,gh,gj,cS,bY,mu,nG,gY,iM,jq,gj,gY,Bj,iM,iM,.ao,uf,IF,.ao,.own 275] [dq 0 rh II,dq 1 rh II,dq 2 rh II] (pH 27)) (lQ (sy 27) [bO,bL,bP,bQ,bq,dD,dh,cS,bY,bY,gh,gj,cS,bY,bY,gh,gj,iM,jq,gj,gj,Bj,iM,iM,.ao,uf,.sl 267,.sl 275]) (cL rh Ml) agJ agJ (sJ (.own 275)))))) [aT,Bk] Mg) (vE oe CW) sN Mg) (fl mL)) vF j9 [bO,bL,bP,bQ,bq,dD,dh,cS,bY,bY,gh,gj,cS,bY,.ao,.ao,.ao,iM,jq,gj,.ao] [jE,WY,fO,vo,ql,ud] (Ba Bj)) jr jr) XD [aP,QJ]) XB [aP,QJ]) (fl mM)) ud lI QQ [jE,fO] (Ba jq)) Xy Mg) Xw [aT,fZ,fZ,fZ] agn) sO [bO,bL,bP,bQ,bq,dD,dh,cS,bY,bY,gh,gj,cS] [t6] [.ah bY]) E6 AX [vn] [.ah cS]) (cL fF oR)) (qg eh)) Me) (uv jR)) (uv kf)) cP cP (uv kC) (uv mw)) (uv qj)) (uv t8)) cP) (.cmp .geq iJ bh)) wX (rA oR lF)) iR AX [jE]
def aiq:T:=lL 33 (ru (zD 58 (nf kC gw cP (nf mw gw cP (qm 0 (zD 57 LO oN iQ Mn [gN (nF 0) (nF 1) (nF 2) (nF 3)]) (qm 1 (zD 57 QN oN iQ Mn [gN (vq 0 jF) (vq 1 jF) (vq 2 jF) (vq 3 jF)]) (mR 2 cP (mR 3 cP (oX 4 dp bh cP (oX 5 mM kC (oX 6 jP gw cP (gG 5 Mo qi) [Mo,nH] vG) (pI 6 (oX 7 jQ gw cP (gG 6 Mi rm) [Mi,qi] vG) (oX 7 jQ mw (oX 8 mL gw cP (gG 7 CV sN) [CV,rm] vG) (oX 8 mL mw (mR 9 cP (gG 8 QU ud) (qg oe) [QU,sN] vG) (pI 9 (oX 10 kb qj cP (gG 9 (gz oe) ql) [aT,ud] vG) (oX 10 kb gw (dH (iq 141 (dH (iq 141 (MM (lN 316 (gG 10 (gz kb) rn) (zF 19) [bO,bL,bP,bQ,bq,dD,gj,gj,jq,.ao,xf,gY,.ao,.ao,.ao,.ao,.ao,.ao,.ao,.own 316] [bO,bL,bP,bQ,bq,dD,gj,gj,jq,.ao,xf,gY,.ao,.ao,.ao,.ao,.ao,.ao,.ao,.ao,.own 316] [kA 6,mN,aT] (pH 19)) (gG 10 (gz kb) ql) oN yV) oO oP agM [gN (dq 0 kb jF) (dq 1 kb jF) (dq 2 kb jF) (dq 3 kb jF),agL] Ft) agN agN) iQ mO agM [gN (rk 0 kb) (rk 1 kb) (rk 2 kb) (rk 3 kb),agL] Ft) agK agK) (lQ ql [bO,bL,bP,bQ,bq,dD,gj,gj,jq,.ao,xf,gj,.ao,.ao,.ao,.ao,.ao,.ao,.ao,Bj]) [aT,ud] vG) (qg oe) sN vG) [aT,rm] vG) [aT,qi] vG) XC nH vG) [aT,sO] vG) [aT,E6] vG) QT [aT,fZ,zd] [aP,QJ,XG]) QC [aT,fZ,fZ] [aP,XG,.ah xf]) Xu Iz Iz) Me CO CO))) mJ ja Mn [fO,aT,WX]) wX (rA oR lF)) iR Mn [jE]
def T78:T:=sW 181 (gT (lL 36 (ru (lJ (.aN jr (k8 (.v 31) fF cP (xz 64 (nf (.v 26) cd (xz 64 (mz 64 (lQ t6 [bO,bL,bP,bQ,bq,.str,.ao,ey,ey]) (.and (mq kC) (mq mw)) agO [bO,bL,bP,bQ,bq,.str,.ao,E7,E7] (.ah rj) (.ah jF)) XI agO [fO,aT,aT,vi]) (fD WZ [bO,bL,bP,bQ,bq,.str,ey])) QW XI [zj,aT,aT,pA]))) cP cP (I9 (oS w8) (iS w8 m7) (iS w8 nz) (iS w8 sH) (RP (iS w8 wZ) (iS w8 (.c 9)) Cs)) (oS w8)) (fl sM) XH) (bv sM) QW (zq [wV,iR,iK,lG,ky,kZ,lH,lI,nA,nc,j9,m8,mN,mO,oP,sx,zi])) XH) (aV 37) QW [jE,fO] [zj,zk,A9,zl,zm,xe,A8,E9,Iw,L5,L6,L7,QG,L8] [aP,aP,aP,aP,aP,aP,aP,aP,aP,aP,aP,aP,aP,aP,aP]
def T90:T:=iq 61 (gT (ul 41 (lL 36 (FJ 39 (iq 62 (gT (mR 0 (dH (MM (xo [gz zn,iQ,oO,rg,wQ,Cv,AT]) (dH (mR 1 (FH (FG [gz oo,ML (gR vH) (.v 7),ML (oS vH) (.v 8),ML (iS vH m7) (.v 9),ML (iS vH nz) (.v 10),ML (iS vH sH) (.v 11)]) QY XJ QY XJ (my vH vH wZ) (I9 (gR vH) (oS vH) (iS vH m7) (iS vH nz) (I7 (iS vH sH) Cs))) (dH (oX 2 (.v 42) (.len (.cell ke CX 1 aA)) cP (xo [gz zn,.bool (iS CX (.c 6)),kX 12,kX 13,kX 14,kX 15,kX 16]) [aT,EW,kX 8,kX 9,kX 10,kX 11] agS) agQ agR) XJ [aT,oO,rg,wQ,Cv,AT] agS) agQ agR) (.cell nC zn 17) yU) agP agP) (mR 1 (jG (.aN (I9 (gR oo) (oS oo) XL XM (I7 XN Cs)) (MM (iq 60 (FG [gz oo,aV 46,aV 47,aV 48,aV 49]) Q1 It Fv [XO,gN (yZ bh Q0) (bv Q0) (yZ bh Q0) (bv Q0)] qc) (I8 (oq dp jP (oq mL kb (.dv XN AU bh) XL XM) (gR oo) (oS oo)) (FG [gz oo,aV 42,aV 43,aV 44,aV 45])) (.dv (gR oo) (.v 2) (.dv (oS oo) (.v 3) (.dv XL (.v 4) (.dv XM (.v 5) (.dv XN (.v 6) Cs))))) yU)) (.and QY XK) (my CY CY nz) (RP (gR CY) (oS CY) (I7 (iS CY m7) Cs)) (.and QY XK)) (iq 80 (FJ 50 (iq 60 (mR 2 (dH (sW 178 (gT (iq 80 (FJ 92 (gT (iq 60 (gT (.back 2 [gz Ff,aV 93,aV 94,aV 95,aV 96,aV 74,aV 75,aV 76,aV 77,aV 78,aV 79,aV 80,aV 81,aV 82,aV 83,aV 84,aV 85,aV 86,pA]) (fl (.v 87))) (gN (aV 93) (aV 94) (aV 95) (aV 96)) (aV 97) Fv [agV,agU] qc) (.v 7))) agU (aV 92) Fv [XO,ug In (.v 74),ug In (.v 75)] qc) (fl (.v 87))) (aV 87) Fv [.agg [Fl,Fm,L4,aV 64,aV 65,aV 66,aV 67,aV 68,aV 69,aV 70,aV 71,aV 72,aV 73],.agg [pG 0,pG 1,pG 2,pG 3,pG 4,pG 5,pG 6,pG 7,pG 8,pG 9,pG 10,pG 11,pG 12,pG 13],gN (pG 14) (pG 15) (pG 16) (xw 17 Ff nC)] [aV 74,aV 75,aV 76,aV 77,aV 78,aV 79,aV 80,aV 81,aV 82,aV 83,aV 84,aV 85,aV 86] Fc) agT agT) (lQ agV Fv) (cL Ff qj) [aT,Iu,CI,CJ,CL,iK,lG,ky,kZ,lH,lI,nA,nc,j9,m8,mN,mO,oP,pA] [aP,aP,aP,aP,aP,aP,aP,aP,aP,aP,aP,aP,aP,aP,aP,aP,aP,aP,.bool]) (gN Iu CI CJ CL) Fe Fv [Q1,Q1] qc)) Q1 It Fv [XO,ug In eP,ug In eh] qc) XK [aT,yZ bh QZ,bv QZ,yZ bh QZ,bv QZ] qc) (cL zn qj) [aT,pA,pA,pA,pA,pA,pA] [aP,.bool,.bool,.bool,.bool,.bool,.bool]) mJ) vo ja QX [qf,zd] [.ah A7,.bool])) (aV 39) QX (zq [t6,sx,zi,zj,zk,A9,zl,zm,xe,A8,E9,Iw,L5,L6,L7,QG,L8])) (fl sM) (bv sM) QX [QF]) XH) qf (aV 37) [WP,WQ,jq,bO,bL,bP,bQ,bq,.str,ey] [.agg [og,mj,mK,rf,vg,Ie,tY,E4,wV,qe,vn],fO,iR] LZ
def ait:T:=sW 136 (FJ 34 (zE oR gw (qm 0 (ul 36 (nD 0 (gz Fo)) (fl vz) L8 XP (zq [Bf 0 Fo lK,qo 1,qo 2,qo 3,qo 4,qo 5,qo 6,qo 7,qo 8,qo 9,qo 10,qo 11,qo 12,qo 13,qo 14,qo 15,qo 16])) (xA 1 (uj 1 (gG 1 (gz vz) t6) agY [rk 0 vz,rk 0 vz,rk 1 vz,rk 2 vz,xw 3 vz rj] Fw (.ah jF)) (iq 61 (dH (mR 2 (dH (sW 178 (.aS ag0 (.back 2 [gz sM,CI,CJ,CL,Fe,Iv,Fh,Fi,Fj,Fk,Fl,Fm,L4,aV 64,zd]) (zE (.cell mo sM 4) cd (.loop 3 [aP,aP,aP,aP,aP,aP,aP,aP,aP,aP,aP,aP,aP,.ah Q2,.ah uf] [CI,CJ,CL,Fe,Iv,Fh,Fi,Fj,Fk,Fl,Fm,L4,aV 64,zd,fZ] (.pick sH (.not (.has nC 1 (.v 79) bh bh)) (jD sH qj) (uj 1 (.aN (.and (FI (jD cd wW)) (my IK IK sH)) (E8 IK bh IK cd Q3 Q3 (E8 IK m7 IK nz (k8 (.cell mo sM 8) (C8 4 lK) cP Q3) Q3 cP))) [bO,bL,bP,bQ,bq,dh,ey,Fw,bq,.ao,Q2,uf] [aV 79] uf IJ) (.back 2 [gz sM,aV 66,aV 67,aV 68,aV 69,aV 70,aV 71,aV 72,aV 73,aV 74,aV 75,aV 76,aV 77,aV 78,qf]))))) (aV 65) [bO,bL,bP,bQ,bq,dh,ey,Fw,bq,.ao] [.agg [aV 39,bv zn,bv oo,aV 42,aV 43,aV 44,aV 45,aV 46,aV 47,aV 48,aV 49,It,Iu],.agg [bv Mp,uu 1,uu 2,uu 3,uu 4,uu 5,uu 6,uu 7,uu 8,uu 9,uu 10,uu 11,uu 12,uu 13],gN (bv (.look jF 1 Mp bh bh 1)) (bv (.look jF 1 Mp bh bh 2)) (bv (.look jF 1 Mp bh bh 3)) (.bool ag0)] [CI,CJ,CL,Fe,Iv,Fh,Fi,Fj,Fk,Fl,Fm,L4,aV 64] Fc) agZ agZ) (.dK 213 188 310 (.lex [1,0] E) E sD [bO,bL,bP,bQ,bq,dh,ey,Fw,bq,Q2] (.aN jr (lQ qf [bO,bL,bP,bQ,bq,dh,ey,Fw,bq,.ao,.sl 310]))) (cL sM kf) [aT,iK,lG,ky,kZ,lH,lI,nA,nc,j9,m8,mN,mO,oP,fZ] [aP,aP,aP,aP,aP,aP,aP,aP,aP,aP,aP,aP,aP,aP,.ah Q2]) (fm iJ oR Mc) (fm iJ oR Mc)) t6 (aV 37) agY Xk LZ) (cL vz kC) agX agX (sJ Fw)) (cL Fo oR) agW agW))) L7 XP [jE,fO,iR,QF,qe] [sx,zi,zj,zk,A9,zl,zm,xe,A8,E9,Iw,L5,L6] Fc
def aiu:T:=ul 33 (oX 0 eP eh (dH (uk 87 (kB (gz Fz) lG) (kB iK (bv Fz)) (cL fF bh) ky iL [dq 0 Fz sC,fO]) (my Fz Fz AY) (my Fz Fz AY)) (kh (dH (ul 87 (dH (lQ (.agg [sZ 0,bv Qz,sZ 2,sZ 3,sZ 4,sZ 5,sZ 6,sZ 7,sZ 8,sZ 9,sZ 10,sZ 11,sZ 12,sZ 13]) iL) Ir Ir) (.not Im) ky iL [sZ 0,fO]) Ir Ir) Xh) [aT,bv AY] qb) wX iR iL [jE]
def Y8:T:=iq 48 (.aS wX (m9 fZ iR [bO,bL,bP,bQ,bq,jq]) (xx 0 (lN 3 (kB LN vn) (mq kC) [bO,bL,bP,bQ,bq,jq,dt] ag2 [iK] (.ah rj)) (pI 1 (oV (.dK 49 49 3 (.da 0 XR [zg lK]) J jF ag2 (.dK 49 49 3 (.da 0 XR [CZ 1 lK]) J mo ag3 (jG (.new 3 (.set (.ah sD) Mq 0 [bv (CE (iu (zg lK) mo) ag4)]) [bO,bL,bP,bQ,bq,jq,.ao,.ao,.ao,dt] [bO,bL,bP,bQ,bq,jq,.ao,.ao,.ao,.ao,dt] (gG 1 oQ qf)) jr jr (my Mq Mq t8) (my Mq Mq t8)))) Qm XQ Qm XQ) (oX 2 fF mw (.dK 49 49 3 (.da 0 XR [fF]) J mo ag3 (gG 2 xg zd)) (lQ t6 [bO,bL,bP,bQ,bq,jq,.ao,.ao,aA]) [aT,vn] Q4) XQ qe Q4) Qk Q4)) wV iR iL [jE,fO] (Ba jq)
def FL:T:=FA AY (.c 40) t8 IL sQ sQ (k8 gw sH (.aS (jD gw (.c 12)) sQ ag9) ag9)
def MO:T:=k8 gw nz (mQ gw lF Mr aha) aha
def Y9:T:=zB sI IL LG IL (tW (jD (w7 3) IL) iL) (tX iL) (tX iL)
def aiv:T:=Bn (oW 3 (fD yY [aA,aA]) Ih [aA] [aA,dt] LR) cP LQ
def R6:T:=xA 0 (vK zp bh XY (qh zp cN XY (.aS (Fy 1 1 zp bh ke) XY (uj 1 (kB Qo E3) [aA,sT] [bv zp,vi] sT (.ah ke))))) (wS [aA,sT]) LS A5 A5 Mt
def aiw:T:=lL 22 (I8 fF (gT (qh eu wW cP (vK eP bh cP (qh eP jR cP (dH (mP Q7 bh cP (qn eh bh eh lF cP cP (xC 3 (mz 3 (xC 96 (mz 96 (xC 3 (oW 3 (dH (nf (iu eu E5) (oh cd eP) (lQ (rq nH fO rm ud ja) [bO,bL,bP,bQ,bq,dD,dh,gr,fG,aA,aA,eQ,aA,.ao,aA,.ao,eQ,.ao,aA]) (gT (dH (zE eh Q7 (jG (dH (.new 93 (zw [um 0,um 1,um 2,um 3,um 4,um 5,um 6,um 7,um 8,um 9,um 10,um 11,um 12]) IS ahe (oW 96 (dH (.new 3 (.set IT eu 0 [aT]) ahf [bO,bL,bP,bQ,bq,dD,dh,gr,fG,aA,aA,eQ,aA,.ao,dt,.ao,.ao,.ao,.ao,bY,jd,dt] (lQ (rq nH fO rn vF ja) [bO,bL,bP,bQ,bq,dD,dh,gr,fG,aA,aA,eQ,aA,.ao,aA,.ao,.ao,.ao,.ao,bY,eQ,aA])) (fm eu Mh rp) (fm eu Mh rp)) (fm eu CQ rp) ahe ahf (.set QO eu 0 [ql]))) (fm eu CQ rp) jr) (fm eu qj rp) (fm eu qj rp) ahd ahd)) CP CP) Qv)) (fm eu wW rp) (fm eu wW rp)) (FI (zF 17)) Ra IS (.jW (pH 17) Fp)) Mw IR Ra) (.and Fs Mv) Q9 IR Bg IJ) Mu IQ Q9) (.and QL Fa) Q8 IQ QM Fb) X0 fP Q8))) CP CP)))) (cL eu bh))) ky fP FC
def R7:T:=uk 20 (Bl iR) (lJ (lJ (pD uh (qm 0 (qh Q7 bh (dH (zC Q7 (FB eP mo xl) uh LO) Iy Iy) uh) (qm 1 (Mz (mP (zg E5) bh ahh ahi) ahi (oS C0) Rc Rc) (Bl aT) (cL eh qj) vD vD) (cL eP jR) CP CP) (uv wW)) uh uh XS (uv qj)) uh uh (jD jR kf) (.cmp .geq iJ bh)) wX iR fP [lM]
def R8:T:=uk 33 (fD fO oU) (lJ (lJ (zC lD (.c 64) IX (qm 0 (zC (.len XU) lF IX (nD 0 IP)) (qm 1 (uk 36 (fD lG oU) (nD 1 LN) (fl eh) lG oU Xt) (k8 mw bh (pD MA (qm 2 (mP (.len (nJ eh jF aA)) gw (jc 37 MA (nD 2 oQ) mJ ja oU [.ah (nJ eh jF aA),bv kC]) MA) (qm 3 (sS 4 (oV (iq 38 (pD MA (nD 4 ID) (gR mL)) (gN lH lI nA nc) j9 oU [.agg [Da 0,Da 1,Da 2,Da 3,Da 4,Da 5,Da 6,Da 7],ky] qc) sP QT sP QT) (iq 31 (sS 5 (oV (mP (.len MB) gw (pD MC (sS 6 (FH (dH (lJ ahk (dH (pD MC ahk (gR (.len (nJ jP Rf ey)))) Rg Rg) MC (.beq X7 (xp X6 MB)) X7) ahj ahj) Bi X5 Bi X5 (fm jP jR Bi) (fm jP jR Bi)) (nD 5 Mo) X5) (uv (.len Rf))) MC) Re X4 Re X4) (nD 3 xg) X4) qf lH oU [jE,ky] [pE,aP]) QT) (xx 4 (oV (uj 1 (gG 4 ID vo) Rh [dq 0 gX sC,.bool (AV (CF 3 gX) cd)] sT Fb) sP X8 sP X8) (qm 5 (lJ (nD 5 Bh) (dH (pD (fD Mx Rh) (nD 5 Bh) (rA Xz (iu (vk dp) sD))) ahl ahl) (fD Mx Rh) (Fy 1 1 Xz bh ze) (gR dp)) (fD aT Rh) (cL dp t8) QP QP) X8 Mt) QC QD QD) Xu Iz Iz) (iS kf lD)) MA) Me CO CO) Q6 IN IN)) IX IX (jD kC Iq) (jD mw lF)) IX IX (jD oR lF) (jD gw (.c 12))) (fl iJ) fO oU [jE]
def aix:T:=ul 20 (xx 0 (oV (iq 21 (xz 93 (xz 96 (mz 96 (kB IP sO) (FI Fa) ahn [bO,bL,bP,bQ,bq,dD,dh,gr,fG,aA,.ao,bY,jd,jd] Fb Fp) ahm ahn [vo]) Ri ahm agc) QF sx [bO,bL,bP,bQ,bq,dD,dh,gr,fG,aA,.ao] [gN (Bf 0 eu kY) (zA 1 eu) (zA 2 eu) (zA 3 eu)] Fc) rp (qg eu) rp (qg eu)) (oW 3 (lQ (rq fZ aT qf vo pA) [bO,bL,bP,bQ,bq,dD,dh,gr,fG,aA,eQ,aA]) (.and (kw jR) Fa) Ri [bO,bL,bP,bQ,bq,dD,dh,gr,fG,aA,jd,dt] (.tq jR [aT])) (qg eu) (sJ jd)) (fl iJ) fO oU [lM]
def aiy:T:=kz 63 (gT (vu 64 (lQ iQ xt) iQ xt [lM,sU,sO]) zh) Rj fP C1 (Ba xq)
def aiz:T:=zD 40 (zD 40 (zD 40 (lQ (.agg [bv Xb,bv Xc,mK,aT,aT,aT,aT,aT,aT,aT,aT,aT,aT]) sF) yV oO sF [mK,aT,bv Cy]) oN iQ sF [mj,aT,LM]) mJ ja sF [og,aT,LM]
def aiA:T:=.aS Qj (lL 22 (ru (Bn (vL 3 (mz 3 (xC 96 (mz 96 (xC 3 (oW 3 (vL 3 (mz 3 (yX [bO,bL,bP,bQ,bq,dD,dh,gr,fG,aA,aA,eQ,aA,.ao,.ao,.ao,eQ,.ao,aA,aA,aA] [rq rn fO rm ud ja,fZ,aT]) (.and IB (zF 19)) aho [bO,bL,bP,bQ,bq,dD,dh,gr,fG,aA,aA,eQ,aA,.ao,.ao,.ao,jd,.ao,dt,dt,dt] zu (pH 19)) IS aho IY) (FI (zF 17)) Ra IS (.jW (pH 17) Fp)) Mw IR Ra) (.and Fs Mv) Q9 IR Bg IJ) Mu IQ Q9) (.and QL Fa) Q8 IQ QM Fb) fP Q8 wY) (xC 96 (mz 96 (xC 3 (mz 3 (vL 3 (mz 3 (yX [bO,bL,bP,bQ,bq,dD,dh,gr,fG,aA,aA,eQ,aA,.ao,eQ,.ao,aA,aA,aA] [rq ud fO nH rm ja,fZ,aT]) (zF 17) ahr [bO,bL,bP,bQ,bq,dD,dh,gr,fG,aA,aA,eQ,aA,.ao,jd,.ao,dt,dt,dt] wY (pH 17)) Ya ahr IY) (FI Fs) ahq Ya Bg Fp) Mw Rk ahq) (.and QL Mv) ahp Rk QM IJ) Mu fP ahp) X0) zh X9) iK fP FC) (kz 63 (ru (zD 64 (Bn (vL 3 (mz 3 (xC 96 (mz 96 (xC 3 (mz 3 (xz 3 (mz 3 (dH (mR 0 (dH (gT (vL 140 (mz 140 (jG (jG (Mz (.new 93 ahD Yf ahE (oW 96 (dH (.new 3 (.set (pH 24) eh 0 [vl cd jR]) ahF [bO,bL,bP,bQ,bq,dD,dh,gr,fG,aA,aA,eQ,aA,xq,.ao,.ao,.ao,.ao,.ao,.ao,dt,dt,.ao,.ao,.ao,ot,ot,bY,jd,dt] (xo [oQ,QS,sy 28,sy 29])) (ub (w7 24)) (ub (w7 24))) (ub IG) ahE ahF (.set (.ah Fu) eh 0 [sy 27]))) (xo [oQ,QS,Mj,C4]) ahC (ub IG) jr) C3 C3 Rq Rq) vD vD IU IU) (.and (zF 22) (zF 25)) ahA Yf (pH 22) (pH 25)) [bO,bL,bP,bQ,bq,dD,dh,gr,fG,aA,aA,eQ,aA,xq,.ao,.ao,.ao,.ao,.ao,.ao,dt,dt,ot,jd,dt] ahA ahx) (.not (xp eh Yd))) Ro Ro) (yX [bO,bL,bP,bQ,bq,dD,dh,gr,fG,aA,aA,eQ,aA,xq,.ao,.ao,.ao,.ao,.ao,.ao,aA,aA,Ru,eQ,aA] [rq vF fO Mj C4 ja,Bk,aT]) Ye [aT,fZ,sN,ql] ahw) C3 C3) (.and Fs XF) ahv [bO,bL,bP,bQ,bq,dD,dh,gr,fG,aA,aA,eQ,aA,xq,.ao,.ao,.ao,jd,.ao,dt,dt,dt] Bg (pH 20)) Yc ahv [iR]) (FI C2) ahu Yc IT Fp) Mw Rm ahu) (.and (mq CQ) Mv) aht Rm QO IJ) Mu Rl aht) (.and IB Fa) ahs Rl zu Fb) xt ahs wY) (xC 96 (mz 96 (xC 3 (mz 3 (xz 3 (mz 3 (dH (mR 0 (dH (gT (vL 140 (mz 140 (jG (jG (Mz (.new 93 ahD Yh ahM (oW 96 (dH (.new 3 (.set (pH 22) eh 0 [vl cd jR]) ahN [bO,bL,bP,bQ,bq,dD,dh,gr,fG,aA,aA,eQ,aA,xq,.ao,.ao,.ao,.ao,dt,dt,.ao,.ao,.ao,ot,ot,bY,jd,dt] (xo [oQ,C4,QS,sy 27])) (ub (w7 22)) (ub (w7 22))) (ub (.len CW)) ahM ahN (.set (.ah CW) eh 0 [sy 25]))) (xo [oQ,C4,vF,Bk]) ahC (ub (.len CW)) jr) C3 C3 Rq Rq) vD vD IU IU) (.and XF (mq IG)) ahK Yh (pH 20) (.ah Fu)) [bO,bL,bP,bQ,bq,dD,dh,gr,fG,aA,aA,eQ,aA,xq,.ao,.ao,.ao,.ao,dt,dt,ot,jd,dt] ahK ahx) (.not (xp eh Yd))) Ro Ro) (yX [bO,bL,bP,bQ,bq,dD,dh,gr,fG,aA,aA,eQ,aA,xq,.ao,.ao,.ao,.ao,aA,aA,Ru,eQ,aA] [rq ql fO vF Bk ja,rn,aT]) Ye [aT,fZ,qi,sN] ahw) C3 C3) C2 ahI [bO,bL,bP,bQ,bq,dD,dh,gr,fG,aA,aA,eQ,aA,xq,.ao,jd,.ao,dt,dt,dt] wY IT) Yg ahI [iR]) (FI (mq CQ)) ahH Yg QO Fp) Mw Rv ahH) (.and IB Mv) ahG Rv zu IJ) Mu xt ahG) X0) oN iQ xt [lM,sU,sO]) zh yT) Rj fP C1 (Ba xq))
def R9:T:=uk 16 (m9 fZ iK fP) (kz 17 (xA 0 (.aS (xp eh pC) (lN 3 Rx IB [bO,bL,bP,bQ,bq,dD,dh,gr,fG,aA,aA,eQ,aA,cS,dt] [bO,bL,bP,bQ,bq,dD,dh,gr,fG,aA,aA,eQ,aA,cS,.ao,dt] [lG] zu) (kB oQ nH)) (lQ nH [bO,bL,bP,bQ,bq,dD,dh,gr,fG,aA,aA,eQ,aA,cS,aA]) Rw IZ IZ Q4) sO fP C1 [.ah cS]) zh iK fP C1
def aiB:T:=dH (xx 0 (FH (lN 81 (kB IP vo) Fa [bO,bL,bP,bQ,bq,dD,dh,gr,fG,aA,.own 81] [bO,bL,bP,bQ,bq,dD,dh,gr,fG,aA,.ao,.own 81] [Bf 0 I0 rj,qy 1,qy 2,qy 3,qy 4,qy 5,qy 6,qy 7,qy 8,qy 9,qy 10,qy 11,qy 12,qy 13,qy 14,qy 15,qy 16] Fb) rp Yi rp Yi (my I0 I0 kC) (my I0 I0 kC)) (fD qf [bO,bL,bP,bQ,bq,dD,dh,gr,fG,aA,dh]) Yi (sJ (.own 81))) Q5 Q5
def aiC:T:=sS 0 (oV (kz 91 (iq 94 (MM (tW (.not (.cmp .geq eu bh)) ahO) (nD 0 IP) oN zh) iQ iK ahO [jE,WY,nH,.agg [dq 0 eu pC,zr 1 eu pC cS,zr 2 eu pC bY,zr 3 eu pC bY,zr 4 eu pC gh,zr 5 eu pC gj]] Ft) nH xt [lM,fO] [.ah dh]) rp Yj rp Yj) (wS xt) Yj
def Sa:T:=uk 22 (Bl iK) (Qr (Bl eF) (Bl eF) (dH (.aS (rA eu (.len FE)) (Bl eF) (Bl aT)) vJ vJ) X9 Xg) zh iK fP FC
def Za:T:=kz 31 (xA 0 (k8 C0 cd (dH (uj 1 Rx [bO,bL,bP,bQ,bq,dD,dh,gr,fG,aA,aA,eQ,aA,aA,ME] [vq 0 pC,gz (.look zt 1 (zg pC) bh bh 1)] ME zu) IZ IZ) (kB oQ nH)) (xx 1 (jG (jG (.aS (xp fF (nJ MF FE cS)) (lN 4 (gG 1 xg rm) Fs ahR ahS [.bool (gR (.look zt 1 Rz bh bh 1))] Bg) (lN 4 (gG 1 xg rm) Fs ahR ahS [pA] Bg)) I1 I1 ahP ahP) Ry Ry vJ vJ) (fD qi [bO,bL,bP,bQ,bq,dD,dh,gr,fG,aA,aA,eQ,aA,aA,ME,cS]) Yk (sJ A4)) Rw vD vD (sJ ME)) Rj fP [jE,Rp] [pE,aP]
def Sb:T:=jc 4 (tX fP) (jc 5 (wS fP) (wR 6 (iq 7 (nf eh fF (tX C5) (.aS (fl eh) (tW Qi C5) (xx 0 (oV (uj 1 (kB ID qi) I2 [dq 0 gX sD,vi] sT zu) sP Yl sP Yl) (pI 1 (oV (.aS (Fy 1 1 (iu dp sC) bh Mf) (uj 1 (gG 1 Bh rm) RA [dq 0 dp sC,vi] sT Bg) (uj 1 (gG 1 Bh rm) RA [dq 0 dp sC,.bool (oS (.cell sC dp 3))] sT Bg)) oT Ym oT Ym) (pI 2 (oV (vK MG bh MH (qh MG gw MH (Qr MH MH (dH (.aS (rA eu (.len FE)) MH (jG (dH (pI 3 (oV (lJ (gG 3 CV QU) (gG 3 CV j9) (gG 3 CV j9) (Fy 1 1 (iu jQ Yo) bh Mf) (.not (.cell Yo jQ 3))) CR Yq CR Yq) (gG 2 Mo j9) Yq nA qb) ahT ahT) vJ vJ I1 I1)) vJ vJ) X9 Xg))) Re Yn Re Yn) (tW (iS eP jP) RA) Yn aT qb) Ym nH Mt) Yl Mt))) sO ky fP C1 [pE,aP]) iK lG fP C1) yV oO fP FC) oN iQ fP []
def Zb:T:=jc 12 (tX fP) (jc 13 (tX fP) (lL 14 (mQ eu (.c 40) (wS fP) (lL 14 (tW (rA eP CB) fP) iK fP FC)) iR fP FC) yV oO fP [sU]) oN iQ fP [lM]
def Sc:T:=kz 7 (.aS zh (m9 aT iK C5) (xA 0 (iq 15 (.aS yU (uj 1 Rx I2 [LP,vi] sT zu) (uj 1 Rx I2 [LP,.bool (oS (CF 3 eh))] sT zu)) ky iQ I2 [zd,LP] [aP,.bool]) (jG (pI 1 (jG (pI 2 (oV (lJ (gG 2 Bh Mo) (gG 2 Bh lI) (gG 2 Bh lI) (Fy 1 1 (iu dp Yr) bh zt) (.not (.cell Yr dp 3))) oT Ys oT Ys) (gG 1 xg lI) Ys kZ qb) Ry Ry ahU ahU) (lQ kZ I2) Yk aT qb) vJ vJ I1 I1) Ql Ig Ig Mt)) Rj fP C1 [pE,aP]
def Zc:T:=FA gw (.c 100) sI (.c 40) RD RD (k8 LG (.c 40) RD (qm 0 (k8 (FB dN ke bY) EU RD Qp) (wS [aA,eQ,aA]) (cL dN sI) Il Il))
def Zd:T:=mR 0 (mQ eP CB (dH (kB IP (ug eP (oh cd (.len XU)))) IN IN) ahV) ahV Q6 [Rp,eF] qb
def Ze:T:=oX 0 dN iI (dH (nf Yt Yt (pD (kB (gz C6) mK) ahW WU) ahW) (my C6 C6 gw) (my C6 C6 gw)) (Mz (mP zp cN (m9 mj vi [aA]) (dH (nf zp zp (m9 mj (.bool WU) [aA]) (m9 mj pA [aA])) A5 A5)) (m9 mj pA [aA]) LS A5 A5) [aT,bv gw] qb
def aiD:T:=kz 8 (iq 9 (wR 6 (wR 6 (wR 6 (Cw 10 (Cw 10 (Cw 10 (Cw 10 (Cw 10 (ru (I8 gX (nf mM cd cP (ru (gT (nf (.v 25) cd cP (E8 (.v 28) bh eP cd cP (kh (vL 3 (jc 11 (zE jP cd (zE jQ wZ (vL 3 (jc 11 (zE oe bh (kh (vL 3 (jc 11 (zE AU cd (tW (oS EX) [bO,bL,bP,bQ,bq,dD,dh,gr,fG,aA,aA,eQ,aA,aA,aA,aA,aA,aA,aA,aA,aA])) cP (.v 3) rg [bO,bL,bP,bQ,bq,dD,dh,gr,fG,aA,aA,eQ,aA,aA,aA,aA,aA,aA,.ao,.ao,aA] [qi,rn]) ahZ [bO,bL,bP,bQ,bq,dD,dh,gr,fG,aA,aA,eQ,aA,aA,aA,aA,aA,aA,dt,dt,dt] ahY) (gR kb))) cP (.v 2) oO [bO,bL,bP,bQ,bq,dD,dh,gr,fG,aA,aA,eQ,aA,aA,aA,aA,aA,aA,.ao,aA] [nH,ql]) Yu ahZ (.lit [[aT],[aT]])))) cP yU iQ [bO,bL,bP,bQ,bq,dD,dh,gr,fG,aA,aA,eQ,aA,aA,aA,aA,aA,aA,aA] [sO,ud]) [bO,bL,bP,bQ,bq,dD,dh,gr,fG,aA,aA,eQ,aA,aA,aA,aA,aA,aA] Yu ahY) Im) cP)) (fl (.v 22))) (fl mL) (fl rh)))) wX (fl eh)) [bO,bL,bP,bQ,bq,dD,dh,gr,fG,aA,aA,eQ,aA,aA,aA,aA,aA] [.agg [aT,aT,aT,aT,aT,fZ,aT,fZ,fZ,fZ,fZ,fZ,fZ,fZ,fZ,fZ],sU,aT] [sN,zl,zm,xe] MI) [bO,bL,bP,bQ,bq,dD,dh,gr,fG,aA,aA,eQ,aA,aA,aA,aA] [lM,sU,E0] [rm,zj,zk,A9] MI) [bO,bL,bP,bQ,bq,dD,dh,gr,fG,aA,aA,eQ,aA,aA,aA] [lM,sU,eF] [qi,oP,sx,zi] MI) C5 RG [nH,m8,mN,mO] MI) fP [lM,sU,kA 9] [sO,nA,nc,j9] MI) lH lI fP RG) ky kZ fP [lM,sU,su]) iK lG fP [lM,sU,eF]) sU iR oU [lM] ahX) lM [] [] [aP,aP,aP,aP,aP,.ah bO,aP,.ah bL,.ah bP,.ah bQ,.ah bq,.ah dD,.ah dh,.ah gr,.ah fG,pE]
def aiE:T:=xz 84 (xz 86 (vL 56 (kz 19 (kz 19 (kz 19 (.new 81 (zw [.ah (.k (.string ⟨#[98]⟩)),bv IL,kA 60,eF,Ij,su,eF,eF,eF,kA 90,kA 90,kA 90,qa,qa,qa,kA 100,kA 30]) [bO,bL,bq,cS,gh,cS,gh,cS,gh] Yw (.new 3 IY Yw Yx (.new 39 (zw [qf]) Yx Yy (.new 62 (.lit [[Ie,E4],[wV,qe]]) Yy Yz (.new 62 (zw [vn,t6]) Yz YA (.new 57 (.lit [[E6],[sO]]) YA YB (.new 3 (zw [qa]) YB ah0 (fD (.agg [bv IM,bv EU,eF,aT,eF,CA,su,yY,fZ,fZ,E3,fZ,zd,vo,nH,qi]) ah0)))))))) (vj vn t6) [.ao,.ao,.ao,cS,gh,cS,gh] [gN Ij aT aT pA] Yv) (vj wV qe) [.ao,.ao,.ao,cS,gh] [gN qa aT aT vi] Yv) (vj Ie E4) [.ao,.ao,.ao] [gN qa aT aT pA] Yv) [MN,.own 86] [MN,.own 86,w6] (.lit [[qa,aT,aT,su,eF,eF,eF,aT,Ij,aT,aT,eF,eF,eF],[Ij,aT,eF,eF,eF,eF,eF,aT,Ij,aT,aT,eF,eF,eF]])) [MN] [MN,.own 86] [aT,LM,aT]) [] [MN] [.ah (.k (.string ⟨#[97]⟩)),bv wZ,bv wZ,aT]
def aiF:T:=xz 4 (xz 64 (xz 58 (fD (vj CA E3) [cS,ey,gh]) [A4,E7] [A4,ey,nG] [yY]) [A4] [A4,E7] [og,mj,mK,ja]) [] [A4] [vi]
def aiG:T:=gT (sS 0 (jG (nf Qt (iu cN ke) cP (nD 0 (gz cN))) vw vw ah1 ah1) (wS [aA,aA]) Qs) (AV gw sI)
def aiH:T:=Cw 45 (mR 0 (oV (sW 46 (xo [xg,rn,lH,vF,Bk,rg]) lI ah3 [lM,ah2,.agg [dq 1 fF zv,dq 2 fF zv,dq 3 fF zv]] [rn,lH,vF,Bk,rg] ahX) CH YC CH YC) (fD ah2 ah3) YC [aT,sO,iK,nH,qi,iQ] [aP,pE,aP,RF,pE,.bool]) fP C1 [rq sO iK nH qi iQ,rm,lG] [pE,aP,RF,pE,.bool,.ah Ru,aP]
def aiI:T:=uk 22 (yX fP [fZ,aT,aT,iK]) (yW eu CB (yX fP [fZ,aT,aT,eF]) cP (oW 57 (pI 0 (dH (k8 ah4 CB cP (kB oQ (bv ah4))) IZ IZ) (mP jR kf cP (Ms 1 (mQ gX (.len FE) (vK dp eu (kh (iq 44 (ru (wR 6 (Bo 26 (lN 3 (gT (Ms 2 (mQ kb (FB IC mo xl) (vK rh eu (kh (iq 44 (MM ah5 (wR 6 (Bo 26 (lN 3 (kh (k8 (oh (oh bh jQ) (.v 22)) AU cP ah5) I6) C2 FF I5 [mN] IT) (rq rn zk vF Bk wQ) xu YF) zi zj xu YF) Ct (fl EX)) rg sx xu YF Ft) yV) (Bo 26 (oW 3 (lJ ah7 cP cP I6 (rA YI AU)) C2 FF I5 RO) YG xu [lM,RJ,aT])) (Bo 26 (oW 3 (lJ ah7 (FG [ID,mO,ql,oP]) cP I6 (rA YI AU)) C2 FF I5 RO) YG xu [lM,RJ,aT])) I4 I4 [eF,Bh,nH,lI] RI) YE) jr MJ RN [kZ] wY) RJ I3 YD) nc j9 I3 YD) oN (fl jP)) iQ nA I3 YD Ft) mJ) (Bo 26 (mz 3 (gT (Ms 2 (kh (gT (Bo 26 (oW 3 (lJ (kz 42 (yX [bO,bL,bP,bQ,bq,dD,dh,gr,fG,aA,aA,eQ,aA,fG,aA,aA,eQ,aA,aA,aA,aA,eQ,aA,aA,aA] [C4,aT,j9,aT]) C4 ah6 [Mj] [pE]) aia cP I6 (rA bh oe)) C2 FF I5 RO) ah9 xu [lM,MK,aT]) (cL mL eu)) ah8) I4 I4 [eF,lH,nH,lI] RI) YE) jr MJ RN wY IY) MK I3 RG)) (Bo 26 (mz 3 (gT (Ms 2 (lJ (kh (iq 44 (ru (wR 6 (Bo 26 (lN 3 (kh (k8 (oh bh rh) oe cP (.back 2 [CV,QU,ql,m8])) I6) C2 FF I5 [nc] IT) YG xu YJ) mO oP xu YJ) yV (fl kb)) oO mN xu YJ Ft) oN) cP (Bo 26 (oW 3 (kh (gT aia (rA bh oe)) I6) C2 FF I5 RO) ah9 xu [lM,MK,aT]) ah8 (cL mL eu)) I4 I4 [eF,lH,nH,lI] RI) YE) jr MJ RN wY IY) MK I3 RG)) vJ vJ [eF,aT,fZ,E0] RI)) Rw eF qb) (.and (kw jR) (jD jR kf)) fP [bO,bL,bP,bQ,bq,dD,dh,gr,fG,aA,aA,eQ,aA,fG] (.sub (.ah mo) jR kf)) (cL eu bh)) zh iK fP FC
end
def FM:List RK:=[(.sl 84),(.sl 86),(.sl 218),(.sl 220),(.sl 56),(.sl 126),(.sl 81),(.sl 39),(.sl 57),(.sl 3),(.sl 3),(.sl 96),(.sl 3),(.sl 4),.ao,(.sl 58)]
def FN:Nat->List RK
 |0=>[]
 |d+1=>.ao::(.sl 58)::(.sl 96)::FN d
def vM(d:Nat):List RK:=FM++FN d++[(.own 182),(.sl 58),(.sl 96)]
def zG:Nat->List RK
 |0=>[]
 |m+1=>.ao::(.own 93)::zG m
def aiJ:Nat->List RK
 |0=>[]
 |m+1=>.ao::(.sl 93)::aiJ m
def MP:List RK:=[(.sl 81),(.sl 4),(.sl 93),(.sl 93),(.sl 58),(.sl 124)]
def Db:Nat->Nat
 |0=>11
 |d+1=>18+3*d
def Zf(j:Nat):List C:=(e8 13).map λq=>.int I (.cell (.cell (.v (Db j)) (.c 0) 0 (.sl 93)) (.v (12+j)) q)
def Zg:Nat->T->T
 |0,t=>t
 |n+1,t=>.aN (.c J) (Zg n t)
def Sd:List C:=[(.int I (.v 0)),(.int I (.v 1)),(.int I (.v 2)),(.int I (.v 3)),(.int I (.v 4)),(.ah (.v 0)),(.int I (.v 5)),(.ah (.v 1)),(.ah (.v 2)),(.ah (.v 3)),(.ah (.v 4))]
def acT(d:Nat):T:=
 .call 91 [(.agg (Sd++[(.ah (.v 5)),(.ah (.v 6)),(.ah (.v 7)),(.ah (.v 8)),(.ah (.v 9))])),(.int I (.v 6))] [] (FM++FN (d+1)++ew (2*d+2) .ao) [(.ah (.sl 81))] (.ah (.v (21+5*d)))
  (.call 90 [(.agg Sd),(.agg [(.ah (.v 5))]),(.ah (.v (21+5*d))),(.int I (.len (.v 10))),(.ah (.v 13)),(.ah (.v (20+5*d))),(.ah (.v (17+3*d)))] [] (FM++FN (d+1)++ew (2*d+1) .ao++[(.sl 93),(.sl 81)]) [(.int I),(.ah (.sl 4)),(.ah (.sl 93)),(.ah (.sl 93)),(.ah (.sl 58)),(.ah (.sl 124)),(.int I)] (.bA [(.agg [(.int I (.v (13+d))),(.ah (.v (22+5*d))),(.ah (.v (23+5*d))),(.ah (.v (24+5*d))),(.ah (.v (25+5*d))),(.ah (.v (26+5*d)))]),(.int I (.v (14+d)))])
  (.aS (.cmp .neq (.v (14+d)) (.c 0))
  (Zg (d+1) (.ret (.bA [(.ah (.k (.slice Z 0 0))),(.int I (.v (14+d)))]) [] (FM++FN d++[(.sl 182),(.sl 58),(.sl 96)]++aiJ (d+1)++MP)))
  (.aN (.c J)
   (.new 182 (.lit [[(.int I (.v (13+d))),(.ah (.v (22+5*d))),(.ah (.v (23+5*d))),(.ah (.v (24+5*d))),(.ah (.v (25+5*d))),(.ah (.v (26+5*d)))]]) (vM d++zG d++[.ao,(.sl 93)]++MP) (vM d++zG d++[.ao,(.sl 93)]++MP++[(.own 182)])
   (.aN (.and (.cmp .leq (.len (.v (16+3*d))) (.c 536870912)) (.cmp .leq (.len (.v (27+5*d))) (.c 536870912)))
   (.new 182 (.jW (.ah (.v (16+3*d))) (.ah (.v (27+5*d)))) (vM d++zG d++[.ao,(.sl 93)]++MP++[(.own 182)]) (FM++FN (d+1)++zG d++[.ao,(.sl 93)]++MP++[(.own 182),(.own 182)])
   (Zg (d+1) (.back (2+d) [(.int I (.bin .add I (.v (12+d)) (.c 1))),(.ah (.v (28+5*d))),(.ah (.v (17+3*d)))]))))))))
def acF(d:Nat):Nat->Nat->T
 |0,_=>acT d
 |j+1,m=>.aN (.c J)
  (.new 93 (.lit [Zf j]) (vM d++zG m) (vM d++zG m++[(.own 93)])
  (.aN (.and (.cmp .leq (.len (.v (19+3*d+2*m))) (.c 536870912)) (.cmp .leq (.len (.v (18+3*d+2*m))) (.c 536870912)))
  (.new 93 (.jW (.ah (.v (19+3*d+2*m))) (.ah (.v (18+3*d+2*m)))) (vM d++zG m++[(.own 93)]) (vM d++zG (m+1))
  (acF d j (m+1)))))
def acI:Nat->List C
 |0=>[(.int I (.c 0)),(.ah (.k (.slice Z 0 0))),(.ah (.v 15))]
 |d+1=>[(.int I (.c 0)),(.ah (.v (16+3*d))),(.ah (.v (17+3*d)))]
def acE:Nat->T
 |0=>.ret (.bA [(.ah (.v 16)),(.int I (.c 0))]) [] (FM++[(.sl 182),(.sl 58)])
 |d+1=>.back (2+d) [(.int I (.bin .add I (.v (12+d)) (.c 1))),(.ah (.v (19+3*d))),(.ah (.v (20+3*d)))]
def acL:Nat->Nat->T
 |0,d=>.loop (2+d) [(.int I),(.ah (.own 182)),(.ah (.sl 58))] (acI d) (.stuck "fuel")
 |n+1,d=>.loop (2+d) [(.int I),(.ah (.own 182)),(.ah (.sl 58))] (acI d)
  (.aS (.cmp .lss (.v (12+d)) (.len (.cell (.v (Db d)) (.c 0) 0 (.sl 93))))
   (.aN (.and (.cmp .leq (.c 0) (.v (12+d))) (.cmp .lss (.v (12+d)) (.len (.cell (.v (Db d)) (.c 0) 0 (.sl 93)))))
   (.aN (.and (.cmp .leq (.c 0) (.v (12+d))) (.cmp .lss (.v (12+d)) (.len (.cell (.v (Db d)) (.c 0) 0 (.sl 93)))))
   (.aN (.cmp .leq (.c 1) (.len (.v (Db d))))
   (.new 96 (.sub (.ah (.v (Db d))) (.c 1) (.len (.v (Db d)))) (FM++FN d++[(.own 182),(.sl 58)]) (vM d)
   (.aS (.cmp .eql (.len (.v (18+3*d))) (.c 0))
   (.aN (.c J)
   (.new 93 (.lit [Zf d]) (vM d) (vM d++[(.own 93)])
   (.aN (.cmp .leq (.len (.v (19+3*d))) (.c 536870912))
   (.new 93 (.jW (.ah (.v (19+3*d))) (.lit [])) (vM d++[(.own 93)]) (vM d++zG 1)
   (acF d d 1)))))
   (.aN (.cmp .lss (.c 0) (.len (.v (18+3*d))))
   (.aN (.cmp .lss (.c 0) (.len (.v (18+3*d))))
   (acL n (d+1)))))))))
   (acE d))
def aiN:T:=(.call 16 [(.agg [(.int I (.v 0)),(.int I (.v 1)),(.int I (.v 2)),(.int I (.v 3)),(.int I (.v 4)),(.ah (.v 0)),(.int I (.v 5)),(.ah (.v 1)),(.ah (.v 2)),(.ah (.v 3)),(.ah (.v 4)),(.ah (.v 5)),(.ah (.v 6)),(.ah (.v 7)),(.ah (.v 8)),(.ah (.v 9))]),(.agg [(.ah (.v 10)),(.int I (.v 6)),(.ah (.v 11)),(.ah (.v 12)),(.bool (.v 0))]),(.int I (.v 7))] [] [(.sl 84),(.sl 86),(.sl 218),(.sl 220),(.sl 56),(.sl 126),(.sl 81),(.sl 39),(.sl 57),(.sl 3),(.sl 3),(.sl 96),(.sl 3)] [.int I] (.int I (.v 8)) (.aS (.cmp .neq (.v 8) (.c 0)) (.ret (.bA [(.ah (.k (.slice Z 0 0))),(.int I (.v 8))]) [] [(.sl 84),(.sl 86),(.sl 218),(.sl 220),(.sl 56),(.sl 126),(.sl 81),(.sl 39),(.sl 57),(.sl 3),(.sl 3),(.sl 96),(.sl 3)]) (.loop 0 [.int I,.int I] [(.int I (.c 0)),(.int I (.c 1))] (.aS (.cmp .lss (.v 9) (.len (.v 11))) (.aN (.and (.cmp .leq (.c 0) (.v 9)) (.cmp .lss (.v 9) (.len (.v 11)))) (.aN (.and (.cmp .leq (.c 0) (.v 9)) (.cmp .lss (.v 9) (.len (.v 11)))) (.aS (.cmp .gtr (.bin .mul I (.v 10) (.len (.cell (.v 11) (.v 9) 0 (.sl 93)))) (.c 256)) (.ret (.bA [(.ah (.k (.slice Z 0 0))),(.int I (.c 2))]) [] [(.sl 84),(.sl 86),(.sl 218),(.sl 220),(.sl 56),(.sl 126),(.sl 81),(.sl 39),(.sl 57),(.sl 3),(.sl 3),(.sl 96),(.sl 3)]) (.back 0 [(.int I (.bin .add I (.v 9) (.c 1))),(.int I (.bin .mul I (.v 10) (.len (.cell (.v 11) (.v 9) 0 (.sl 93)))))])))) (.call 17 [(.agg [(.int I (.v 0)),(.int I (.v 1)),(.int I (.v 2)),(.int I (.v 3)),(.int I (.v 4)),(.ah (.v 0)),(.int I (.v 5)),(.ah (.v 1)),(.ah (.v 2)),(.ah (.v 3)),(.ah (.v 4)),(.ah (.v 5)),(.ah (.v 6)),(.ah (.v 7)),(.ah (.v 8)),(.ah (.v 9))]),(.agg [(.ah (.v 10)),(.int I (.v 6)),(.ah (.v 11)),(.ah (.v 12)),(.bool (.v 0))]),(.int I (.v 7))] [] [(.sl 84),(.sl 86),(.sl 218),(.sl 220),(.sl 56),(.sl 126),(.sl 81),(.sl 39),(.sl 57),(.sl 3),(.sl 3),(.sl 96),(.sl 3)] [.ah (.sl 4)] (.ah (.v 13)) (.aN (.and (.cmp .leq (.c 0) (.len (.v 13))) (.cmp .leq (.len (.v 13)) (.c 536870912))) (.new 58 (.tq (.len (.v 13)) [(.ah (.k (.slice Z 0 0)))]) [(.sl 84),(.sl 86),(.sl 218),(.sl 220),(.sl 56),(.sl 126),(.sl 81),(.sl 39),(.sl 57),(.sl 3),(.sl 3),(.sl 96),(.sl 3),(.sl 4)] [(.sl 84),(.sl 86),(.sl 218),(.sl 220),(.sl 56),(.sl 126),(.sl 81),(.sl 39),(.sl 57),(.sl 3),(.sl 3),(.sl 96),(.sl 3),(.sl 4),(.own 58)] (.loop 1 [.int I,.ah (.own 58)] [(.int I (.c 0)),(.ah (.v 14))] (.aS (.cmp .lss (.v 11) (.len (.v 13))) (.aN (.and (.cmp .leq (.c 0) (.v 11)) (.cmp .lss (.v 11) (.len (.v 13)))) (.aN (.and (.cmp .leq (.c 0) (.v 11)) (.cmp .lss (.v 11) (.len (.v 13)))) (.aS (.cell (.v 13) (.v 11) 0) (.aN (.and (.cmp .leq (.c 0) (.len (.v 10))) (.cmp .lss (.len (.v 10)) (.len (.v 8)))) (.aN (.and (.cmp .leq (.c 0) (.len (.v 10))) (.cmp .lss (.len (.v 10)) (.len (.v 8)))) (.aN (.and (.cmp .leq (.c 0) (.bin .sub I (.v 7) (.c 1))) (.cmp .lss (.bin .sub I (.v 7) (.c 1)) (.len (.cell (.v 8) (.len (.v 10)) 0 (.sl 62))))) (.aN (.and (.cmp .leq (.c 0) (.bin .sub I (.v 7) (.c 1))) (.cmp .lss (.bin .sub I (.v 7) (.c 1)) (.len (.cell (.v 8) (.len (.v 10)) 0 (.sl 62))))) (.aN (.and (.cmp .leq (.c 0) (.v 11)) (.cmp .lss (.v 11) (.len (.cell (.cell (.v 8) (.len (.v 10)) 0 (.sl 62)) (.bin .sub I (.v 7) (.c 1)) 1 (.sl 58))))) (.aN (.and (.cmp .leq (.c 0) (.v 11)) (.cmp .lss (.v 11) (.len (.cell (.cell (.v 8) (.len (.v 10)) 0 (.sl 62)) (.bin .sub I (.v 7) (.c 1)) 1 (.sl 58))))) (.aN (.and (.cmp .leq (.c 0) (.v 11)) (.cmp .lss (.v 11) (.len (.v 15)))) (.aN (.and (.cmp .leq (.c 0) (.v 11)) (.cmp .lss (.v 11) (.len (.v 15)))) (.new 58 (.set (.ah (.v 15)) (.v 11) 0 [(.ah (.cell (.cell (.cell (.v 8) (.len (.v 10)) 0 (.sl 62)) (.bin .sub I (.v 7) (.c 1)) 1 (.sl 58)) (.v 11) 0 (.sl 64)))]) [(.sl 84),(.sl 86),(.sl 218),(.sl 220),(.sl 56),(.sl 126),(.sl 81),(.sl 39),(.sl 57),(.sl 3),(.sl 3),(.sl 96),(.sl 3),(.sl 4),.ao,(.own 58)] [(.sl 84),(.sl 86),(.sl 218),(.sl 220),(.sl 56),(.sl 126),(.sl 81),(.sl 39),(.sl 57),(.sl 3),(.sl 3),(.sl 96),(.sl 3),(.sl 4),.ao,.ao,(.own 58)] (.back 1 [(.int I (.bin .add I (.v 11) (.c 1))),(.ah (.v 16))])))))))))) (.back 1 [(.int I (.bin .add I (.v 11) (.c 1))),(.ah (.v 15))])))) (.aS (.cmp .eql (.len (.v 11)) (.c 0)) (.call 91 [(.agg [(.int I (.v 0)),(.int I (.v 1)),(.int I (.v 2)),(.int I (.v 3)),(.int I (.v 4)),(.ah (.v 0)),(.int I (.v 5)),(.ah (.v 1)),(.ah (.v 2)),(.ah (.v 3)),(.ah (.v 4)),(.ah (.v 5)),(.ah (.v 6)),(.ah (.v 7)),(.ah (.v 8)),(.ah (.v 9))]),(.int I (.v 6))] [] [(.sl 84),(.sl 86),(.sl 218),(.sl 220),(.sl 56),(.sl 126),(.sl 81),(.sl 39),(.sl 57),(.sl 3),(.sl 3),(.sl 96),(.sl 3),(.sl 4),.ao,.ao] [.ah (.sl 81)] (.ah (.v 16)) (.call 90 [(.agg [(.int I (.v 0)),(.int I (.v 1)),(.int I (.v 2)),(.int I (.v 3)),(.int I (.v 4)),(.ah (.v 0)),(.int I (.v 5)),(.ah (.v 1)),(.ah (.v 2)),(.ah (.v 3)),(.ah (.v 4))]),(.agg [(.ah (.v 5))]),(.ah (.v 16)),(.int I (.len (.v 10))),(.ah (.v 13)),(.ah (.k (.slice Z 0 0))),(.ah (.v 15))] [] [(.sl 84),(.sl 86),(.sl 218),(.sl 220),(.sl 56),(.sl 126),(.sl 81),(.sl 39),(.sl 57),(.sl 3),(.sl 3),(.sl 96),(.sl 3),(.sl 4),.ao,(.sl 58),(.sl 81)] [.int I,.ah (.sl 4),.ah (.sl 93),.ah (.sl 93),.ah (.sl 58),.ah (.sl 124),.int I] (.bA [(.agg [(.int I (.v 12)),(.ah (.v 17)),(.ah (.v 18)),(.ah (.v 19)),(.ah (.v 20)),(.ah (.v 21))]),(.int I (.v 13))]) (.aS (.cmp .neq (.v 13) (.c 0)) (.ret (.bA [(.ah (.k (.slice Z 0 0))),(.int I (.v 13))]) [] [(.sl 84),(.sl 86),(.sl 218),(.sl 220),(.sl 56),(.sl 126),(.sl 81),(.sl 39),(.sl 57),(.sl 3),(.sl 3),(.sl 96),(.sl 3),(.sl 4),.ao,(.sl 58),(.sl 81),(.sl 4),(.sl 93),(.sl 93),(.sl 58),(.sl 124)]) (.aN (.c J) (.new 182 (.lit [[(.int I (.v 12)),(.ah (.v 17)),(.ah (.v 18)),(.ah (.v 19)),(.ah (.v 20)),(.ah (.v 21))]]) [(.sl 84),(.sl 86),(.sl 218),(.sl 220),(.sl 56),(.sl 126),(.sl 81),(.sl 39),(.sl 57),(.sl 3),(.sl 3),(.sl 96),(.sl 3),(.sl 4),.ao,(.sl 58),(.sl 81),(.sl 4),(.sl 93),(.sl 93),(.sl 58),(.sl 124)] [(.sl 84),(.sl 86),(.sl 218),(.sl 220),(.sl 56),(.sl 126),(.sl 81),(.sl 39),(.sl 57),(.sl 3),(.sl 3),(.sl 96),(.sl 3),(.sl 4),.ao,(.sl 58),(.sl 81),(.sl 4),(.sl 93),(.sl 93),(.sl 58),(.sl 124),(.own 182)] (.aN (.cmp .leq (.len (.v 22)) (.c 536870912)) (.new 182 (.jW (.lit []) (.ah (.v 22))) [(.sl 84),(.sl 86),(.sl 218),(.sl 220),(.sl 56),(.sl 126),(.sl 81),(.sl 39),(.sl 57),(.sl 3),(.sl 3),(.sl 96),(.sl 3),(.sl 4),.ao,(.sl 58),(.sl 81),(.sl 4),(.sl 93),(.sl 93),(.sl 58),(.sl 124),(.own 182)] [(.sl 84),(.sl 86),(.sl 218),(.sl 220),(.sl 56),(.sl 126),(.sl 81),(.sl 39),(.sl 57),(.sl 3),(.sl 3),(.sl 96),(.sl 3),(.sl 4),.ao,(.sl 58),(.sl 81),(.sl 4),(.sl 93),(.sl 93),(.sl 58),(.sl 124),(.own 182),(.own 182)] (.ret (.bA [(.ah (.v 23)),(.int I (.c 0))]) [] [(.sl 84),(.sl 86),(.sl 218),(.sl 220),(.sl 56),(.sl 126),(.sl 81),(.sl 39),(.sl 57),(.sl 3),(.sl 3),(.sl 96),(.sl 3),(.sl 4),.ao,(.sl 58),(.sl 81),(.sl 4),(.sl 93),(.sl 93),(.sl 58),(.sl 124),(.sl 182),(.sl 182)])))))))) (.aN (.cmp .lss (.c 0) (.len (.v 11))) (.aN (.cmp .lss (.c 0) (.len (.v 11))) (acL 12 0)))))))))))))
section
def dB(a b c d:Int):Bool:=decide (-1099511627776<=a)&&decide (a<=1099511627776)&&decide (-1099511627776<=b)&&decide (b<=1099511627776)&&decide (-1099511627776<=c)&&decide (c<=1099511627776)&&decide (-1099511627776<=d)&&decide (d<=1099511627776)&&decide (a<=b)&&decide (c<=d)
def FO(a b c d X W V Q:Int):Bool:= !(decide (a<=W)&&decide (X<=b)&&decide (c<=Q)&&decide (V<=d))
def Zh:aX->jC
 |[.i a,.i b,.i c,.i d,.i X,.i W,.i V,.i Q]=>U (.ret (if dB a b c d&&dB X W V Q then[.b (FO a b c d X W V Q),.i 0] else[.b E,.i 150]))
 |_=>Z
def Dc:Nat->List UInt8->UInt8->Int
 |_,[],_=>-1
 |k,x::l,b=>if x==b then k else Dc (k+1) l b
def Se:aX->jC
 |[.r s,.i b]=>match s.val with
  |.string t=>U (.ret [.i (Dc 0 t.toList (UInt8.ofNat b.toNat))])
  |_=>U (.ret [.i (-1)])
 |_=>Z
def Jc:md:=λf X=>if f=171 then Zh X else if f=101 then Se X else Z
def Dd:FuncId->Option Fn
 |51=>U ⟨YK,E,E⟩
 |53=>U ⟨YL,J,E⟩
 |40=>U ⟨YM,E,E⟩
 |158=>U ⟨aib,E,E⟩
 |270=>U ⟨aic,J,E⟩
 |71=>U ⟨RQ,E,E⟩
 |100=>U ⟨RT,E,E⟩
 |118=>U ⟨RU,E,E⟩
 |117=>U ⟨RW,E,E⟩
 |87=>U ⟨RX,E,E⟩
 |47=>U ⟨RY,E,E⟩
 |81=>U ⟨YN,E,E⟩
 |60=>U ⟨YO,E,E⟩
 |57=>U ⟨YP,E,E⟩
 |80=>U ⟨YQ,E,E⟩
 |141=>U ⟨T24,E,E⟩
 |70=>U ⟨YR,E,E⟩
 |98=>U ⟨YS,E,E⟩
 |58=>U ⟨YT,E,E⟩
 |66=>U ⟨YU,E,E⟩
 |94=>U ⟨T18,E,E⟩
 |33=>U ⟨YV,E,E⟩
 |133=>U ⟨T86,E,E⟩
 |134=>U ⟨T87,E,E⟩
 |135=>U ⟨T88,E,E⟩
 |166=>U ⟨aii,E,E⟩
 |183=>U ⟨aij,E,E⟩
 |54=>U ⟨YW,E,E⟩
 |61=>U ⟨YX,E,E⟩
 |88=>U ⟨YY,E,E⟩
 |106=>U ⟨YZ,E,E⟩
 |72=>U ⟨Y0,E,E⟩
 |38=>U ⟨Y1,E,E⟩
 |62=>U ⟨aik,E,E⟩
 |138=>U ⟨T27,E,E⟩
 |41=>U ⟨Y2,E,E⟩
 |69=>U ⟨Y3,E,E⟩
 |52=>U ⟨Y4,E,E⟩
 |36=>U ⟨Y5,E,E⟩
 |48=>U ⟨Y6,E,E⟩
 |39=>U ⟨RZ,E,E⟩
 |136=>U ⟨T89,E,E⟩
 |178=>U ⟨ain,E,E⟩
 |50=>U ⟨Y7,E,J⟩
 |90=>U ⟨T13,E,J⟩
 |114=>U ⟨T16,E,J⟩
 |170=>U ⟨aiq,E,E⟩
 |165=>U ⟨T78,E,E⟩
 |137=>U ⟨T90,J,E⟩
 |168=>U ⟨ait,E,E⟩
 |181=>U ⟨aiu,E,E⟩
 |31=>U ⟨Y8,E,E⟩
 |12=>U ⟨FL,E,E⟩
 |46=>U ⟨aiw,E,E⟩
 |22=>U ⟨R7,E,J⟩
 |9=>U ⟨aix,E,E⟩
 |45=>U ⟨aiA,E,E⟩
 |44=>U ⟨aiy,E,E⟩
 |7=>U ⟨R9,E,E⟩
 |63=>U ⟨aiN,E,E⟩
 |20=>U ⟨R8,E,J⟩
 |27=>U ⟨MO,E,E⟩
 |28=>U ⟨Y9,E,E⟩
 |21=>U ⟨aiz,E,E⟩
 |91=>U ⟨aiB,E,E⟩
 |64=>U ⟨aiC,E,E⟩
 |16=>U ⟨Sa,E,E⟩
 |17=>U ⟨Za,E,E⟩
 |37=>U ⟨R6,E,E⟩
 |42=>U ⟨aiv,E,E⟩
 |3=>U ⟨Sb,E,E⟩
 |4=>U ⟨aiD,E,E⟩
 |5=>U ⟨Zb,E,E⟩
 |6=>U ⟨Sc,E,E⟩
 |8=>U ⟨aiE,E,E⟩
 |10=>U ⟨aiI,E,E⟩
 |11=>U ⟨aiG,E,E⟩
 |13=>U ⟨Zc,E,E⟩
 |14=>U ⟨Zd,E,E⟩
 |15=>U ⟨Ze,E,E⟩
 |19=>U ⟨aiF,E,E⟩
 |26=>U ⟨aiH,E,E⟩
 |_=>Z
def TB:j8:=⟨Dd,Jc⟩
def kE(j:FuncId->aX->aU->Prop)(R:aU->Prop)(f:FuncId)(W:aX)(V:aI)(t:T)(O:ai)(L:cG):Prop:=∃o,j f W o/\(match o with
  |.ret X=>me V X=J/\t.wp j R (O.ext X) L
  |.aW v=>R (.aW v))
def kF(j:FuncId->aX->aU->Prop)(R:aU->Prop)(o:aU)(W:aI)(t:T)(O:ai)(L:cG):Prop:=match o with
  |.ret X=>me W X=J/\t.wp j R (O.ext X) L
  |.aW v=>R (.aW v)
def Sf(c:Option PC)(X:aX):Prop:=match c with
 |U c=>c.I X/\c.μ X<c.m
 |none=>False
section
variable{j:FuncId->aX->aU->Prop}{R:aU->Prop}{O:ai}{L:cG}
def aqc{X:aX}{Q:aI}{t:T}(h:V=X):kE j R W V Q t O L=kE j R W X Q t O L:=by rw[h]
def aqd{o X:aU}{W:aI}{t:T}(h:o=X):kF j R o W t O L=kF j R X W t O L:=by rw[h]
def aqe{t:T}{X:ai}(h:O=X):T.wp j R t O L=T.wp j R t X L:=by rw[h]
def aiO(b:BE)(t f:T):T.wp j R (.aS b t f) O L=(if b.ab O=J then t.wp j R O L else f.wp j R O L):=by
 simp only[T.wp,T.mh];cases b.ab O<;>simp
def aqf(b:BE)(t:T):T.wp j R (.aN b t) O L=(b.ab O=J/\t.wp j R O L):=by simp only[T.wp,T.mh]
def aiP(v:C)(X:bn)(W:aY):T.wp j R (.ret v X W) O L=R (.ret ((yO v).map (C.xv O))):=by simp only[T.wp,T.mh]
def aqg(f:FuncId)(X:am)(V:bn)(Q:aY)(W:aI)(iE:C)(t:T):T.wp j R (.call f X V Q W iE t) O L=kE j R f ((oK X).map (C.xv O)) W t O L:=by simp only[T.wp,T.mh,kE];rfl
def aqh(e:TypeId)(x:LE)(X W:aY)(t:T):T.wp j R (.new e x X W t) O L=t.wp j R (O.add (.r (gI x O))) L:=by simp only[T.wp,T.mh]
def aqi(k:RK)(x:LE)(X:aY)(t:T):T.wp j R (.ae k x X t) O L=t.wp j R (O.add (.r (gI x O))) L:=by simp only[T.wp,T.mh]
def aqj(X:aX)(W:aI)(t:T):kF j R (.ret X) W t O L=(me W X=J/\t.wp j R (O.ext X) L):=rfl
def aqk(v:Value)(X:aI)(t:T):kF j R (.aW v) X t O L=R (.aW v):=rfl
def aql(av:Nat)(x:am):T.wp j R (.back av x) O L=Sf (EQ av L) (x.map (C.xv O)):=by
 simp only[T.wp,T.mh,Sf];cases EQ av L<;>rfl
def FP(c:PC)(X:aX):Sf (U c) X=(c.I X/\c.μ X<c.m):=rfl
def aiQ(g h:BE)(t f:T):T.wp j R (.fU g h t f) O L=((g.ab O=J\/h.ab O=J)/\(g.ab O=J->t.wp j R O L)/\(h.ab O=J->f.wp j R O L)/\(g.ab O=J->h.ab O=J->P4 R)):=rfl
def aqm(f g:FuncId)(e:TypeId)(X:bB)(W:Bool)(r:RE)(Q:aY)(t:T):T.wp j R (.dK f g e X W r Q t) O L=(∃V,mH O X W (r.rv O).ae=U V/\t.wp j R (O.add (.r (.mk (r.rv O).val V))) L):=rfl
def MQ(f g:FuncId)(e:TypeId)(X:ap)(d:Bool)(W:Bool)(r:RE)(Q:aY)(t:T):T.wp j R (.dK f g e (.lex X d) W r Q t) O L=(∃V,io (.lex X d) W (r.rv O).ae=U V/\t.wp j R (O.add (.r (.mk (r.rv O).val V))) L):=rfl
def MS(f g:FuncId)(e:TypeId)(n d:Nat)(X:Bool)(r:RE)(V:aY)(t:T):T.wp j R (.dK f g e (.ratio n d) X r V t) O L=(∃W,io (.ratio n d) X (r.rv O).ae=U W/\t.wp j R (O.add (.r (.mk (r.rv O).val W))) L):=rfl
def De{N:aI}{P:am}{t:T}(X:aX->Prop)(W:aX->Nat)(M:X (P.map (C.xv O)))(h:∀V,X V->t.wp j R (O.ext V) (⟨Q,X,W,W V⟩::L)):T.wp j R (.loop Q N P t) O L:=by
 simp only[T.wp,T.mh];exact⟨R,L,.inl ⟨rfl,rfl⟩,X,W,M,h⟩
end
def dC{X:j8}{R:aU->Prop}{P:aI}{t:T}{O:ai}{L:cG}{o:aU}(h:X.Ev W V o):kE X.Ev R W V P t O L=kF X.Ev R o P t O L:=by
 refine propext ⟨λ⟨M,N,Q⟩=> ?_,λQ=>⟨o,h,Q⟩⟩;rw[WI h N];exact Q
attribute[congr] aqc aqd aqe
def has{X:Fn}(h:Dd W=U X)(V:W≠171)(Q:W≠101):HY TB W X:=⟨h,λP=>by simp[TB,Jc,V,Q]⟩
def single{o:aU}(h:AN o o=J):P4 (· =o):=λa b X W=>by subst X;exact⟨W.symm,h⟩
def Zi{X:Fn}{o:aU}(P:Dd W=U X)(Q:(W !=171&&W !=101)=J)(N:X.d=E\/∀v,o≠ .aW v)(h:X.t.wp TB.Ev (· =o) (fp (kV X.g) V) []):TB.Ev W V o:=by
 simp only[aw,bne_iff_ne,ne_eq] at Q;exact ER (has P Q.1 Q.2) N h
def Sg{X:Fn}{R:aU->Prop}(P:Dd W=U X)(Q:(W !=171&&W !=101)=J)(N:X.d=E\/∀v,¬R (.aW v))(h:X.t.wp TB.Ev R (fp (kV X.g) V) []):∃o,TB.Ev W V o/\R o:=by
 simp only[aw,bne_iff_ne,ne_eq] at Q;exact afq (has P Q.1 Q.2) N h
def qz{X:Fn}{o:aU}(h:X.t.wp TB.Ev (· =o) (fp (kV X.g) V) [])(Q:Dd W=U X:=by exact rfl)(P:(W !=171&&W !=101)=true:=by exact rfl)(N:X.d=false:=by exact rfl):TB.Ev W V o:=Zi Q P (.inl N) h
def jS{X:Fn}{R:aU->Prop}(h:X.t.wp TB.Ev R (fp (kV X.g) V) [])(Q:Dd W=U X:=by exact rfl)(P:(W !=171&&W !=101)=true:=by exact rfl)(N:X.d=false:=by exact rfl):∃o,TB.Ev W V o/\R o:=Sg Q P (.inl N) h
end
section
attribute[simp] K.ab BE.ab RE.rv RE.ab gm ai.rv fp ai.ext ai.add oK yO Lr C.xv kV EQ me We aiO aqf aiP aqg aqh aqi aqj aqk aql
def out(f:FuncId)(X:aX):aX:=by classical exact if h:∃W,TB.Ev f X (.ret W) then h.choose else[]
def xi(X:aX)(k:Nat):Int:=match X.getD k (.i 0) with
 |.i n=>n
 |_=>0
def xb(X:aX)(k:Nat):Bool:=match X.getD k (.i 0) with
 |.b x=>x
 |_=>E
def xr(X:aX)(k:Nat):RV:=match X.getD k (.i 0) with
 |.r x=>x
 |_=>default
def oi(f:FuncId)(X:aX)(k:Nat):Int:=xi (out f X) k
def ob(f:FuncId)(X:aX)(k:Nat):Bool:=xb (out f X) k
def Zj{X:aX}(h:TB.Ev W V (.ret X)):out W V=X:=by
 have Q:∃X,TB.Ev W V (.ret X):=⟨X,h⟩;have:out W V=Q.choose:=by unfold out;rw[dif_pos Q]
 rw[this];have:=WI Q.choose_spec h;injection this
def aqn{P:aX->Prop}(h:∃o,TB.Ev W V o/\∃X,o=.ret X/\P X):TB.Ev W V (.ret (out W V))/\P (out W V):=by
 obtain⟨o,Q,X,rfl,N⟩:=h;rw[Zj Q];exact⟨Q,N⟩
def Df(X:aX):aI->Nat->aX
 |[],_=>[]
 |.int _::G,n=>.i (xi X n)::Df X G (n+1)
 |.bool::G,n=>.b (xb X n)::Df X G (n+1)
 |.ah _::G,n=>.r (xr X n)::Df X G (n+1)
def aiR(W:aX):∀(G:aI)(X:aX),me G X=J->Df (W++X) G (Y W)=X
 |[],[],_=>rfl
 |[],_::_,h=>by simp at h
 |k::G,[],h=>by cases k<;>simp at h
 |k::G,y::X,h=>by
  have V:=aiR (W++[y]) G X;simp only[me,aw] at h;have V:=V h.2;simp only[BD,List.singleton_append,fQ,NE] at V;have Q:(W++y::X).getD (Y W) (.i 0)=y:=by simp[List.getD]
  cases k<;>cases y<;>simp at h<;>simp only[Df,V,xi,xb,xr,Q]
def shp(G:aI){P:aX->Prop}(h:∃o,TB.Ev W V o/\∃X,o=.ret X/\me G X=J/\P X):TB.Ev W V (.ret (Df (out W V) G 0))/\P (out W V):=by
 obtain⟨Q,N,M⟩:=aqn h;rw[show Df (out W V) G 0=out W V from aiR [] G _ N];exact⟨Q,M⟩
def k9(n X W:Int):Bool:=decide (X<=n)&&decide (n<=W)
@[simp] def axJ (n X W:Int):k9 n X W=J<->X<=n/\n<=W:=by simp[k9]
def zH(a b:Int):Int:=if a<b then-1 else if b<a then 1 else 0
def MT(a b c d:Int):Int:=if kM a b&&kM c d then zH (IntKind.i64.wrap (a*d)) (IntKind.i64.wrap (c*b)) else 0
def Bp:FuncId->Option Fn
 |71=>U ⟨RQ,E,E⟩
 |100=>U ⟨RT,E,E⟩
 |118=>U ⟨RU,E,E⟩
 |117=>U ⟨RW,E,E⟩
 |87=>U ⟨RX,E,E⟩
 |47=>U ⟨RY,E,E⟩
 |_=>Z
section
variable{p:j8}(H:∀f fn,Bp f=U fn->HY p f fn)
include H
def aqp(a b:Nat):p.Ev 117 [.i a,.i b] (.ret [.i (JO a b)]):=by
 refine ER (H _ _ rfl) (.inl rfl) ?_;simp[RW];split;rename_i W;simp[W];rename_i W;refine De (λX=>∃d x y:Nat,X=[.i d,.i x,.i y]/\y≠0/\JO x y=JO a b/\(x=0->d=JO a b)) (λX=>(xi X 2).toNat) ⟨b,a,b,au,W,rfl,λV=>by subst V;simp⟩ ?_;rintro X ⟨d,x,y,rfl,P,Q,V⟩;have N:max (y:Int) 1=y:=aa;have M:bH .rem .u64 (x:Int) (y:Int)=((x%y:Nat):Int):=by
  simp only[bH];rw[Int.tmod_eq_emod_of_nonneg aa];exact(Int.natCast_emod x y).symm
 simp[xi,N,M,FP];split;rename_i G;simp[V G];refine⟨aa, ?_⟩;split;rename_i D;rw[<-Q,alK,Nat.gcd_rec,show x%y=0 from aa];simp;refine⟨⟨x,y,x%y,⟨rfl,rfl,aa⟩,aa, ?_,λF=>bp F P⟩, ?_⟩;rw[<-Q,alK x y,Nat.gcd_rec y x,alK];have:=JN x (show 0<y from aa);omega
def aqq(n:Int)(W:-1073741824<=n)(V:n<=1073741824):p.Ev 118 [.i n] (.ret [.i n.natAbs]):=by
 refine ER (H _ _ rfl) (.inl rfl) ?_;simp[RU,bH];have X:∀x:Int,IntKind.u64.wrap x=x%18446744073709551616:=λx=>rfl
 rw[X,X];split<;>omega
def aiS(n:Int):p.Ev 47 [.i n] (.ret [.b E]):=by
 refine ER (H _ _ rfl) (.inl rfl) ?_;simp[RY]
def Zk(a b:Int):p.Ev 87 [.i a,.i b] (.ret [.i (zH a b)]):=by
 refine ER (H _ _ rfl) (.inl rfl) ?_;simp[RX,zH,dC (aiS H _)]
 grind
def aiT(n d:Int):p.Ev 100 [.i n,.i d] (.ret [.i (if kM n d then 0 else 120)]):=by
 refine ER (H _ _ rfl) (.inl rfl) ?_;simp[RT]
 repeat' split
 any_goals(simp[kM];omega)
 all_goals
  rw[dC (aqq H n aa aa)];have X:IntKind.u64.wrap d=(d.toNat:Int):=by
   have:IntKind.u64.wrap d=d%18446744073709551616:=rfl;omega
  have W:max d 0=(d.toNat:Int):=aa;simp[X];rw[W,dC (aqp H n.natAbs d.toNat)];simp[kM] at*;omega
def aiU(a b c d:Int):p.Ev 71 [.i a,.i b,.i c,.i d] (.ret [.i (MT a b c d),.i (if kM a b&&kM c d then 0 else 120)]):=by
 refine ER (H _ _ rfl) (.inl rfl) ?_;simp[RQ,MT,bH,dC (aiT H _ _),dC (Zk H _ _)]
 grind
end
def Si(f:FuncId)(fn:Fn)(h:Bp f=U fn):HY TB f fn:=by
 unfold Bp at h;split at h<;>cases h<;>exact has rfl eW eW
section
variable{R:aU->Prop}{G:aI}{t:T}{O:ai}{L:cG}
def e82(n X W:Int):TB.Ev 51 [.i n,.i X,.i W] (.ret [.b (k9 n X W)]):=by
 refine qz ?_;simp[YK,k9]
 grind
@[simp] def c82 (n X W:Int):kE TB.Ev R 51 [.i n,.i X,.i W] G t O L=kF TB.Ev R (.ret [.b (k9 n X W)]) G t O L:=dC (e82 n X W)
def aqs(n X W:Int):TB.Ev 40 [.i n,.i X,.i W] (.ret [.b (k9 n X W)]):=by
 refine qz ?_;simp[YM,k9]
 grind
@[simp] def axL (n X W:Int):kE TB.Ev R 40 [.i n,.i X,.i W] G t O L=kF TB.Ev R (.ret [.b (k9 n X W)]) G t O L:=dC (aqs n X W)
def e70(n X W:Int):TB.Ev 58 [.i n,.i X,.i W] (.ret [.b (k9 n X W)]):=by
 refine qz ?_;simp[YT,k9]
 grind
@[simp] def c70 (n X W:Int):kE TB.Ev R 58 [.i n,.i X,.i W] G t O L=kF TB.Ev R (.ret [.b (k9 n X W)]) G t O L:=dC (e70 n X W)
def aqu(n X W:Int):TB.Ev 106 [.i n,.i X,.i W] (.ret [.b (k9 n X W)]):=by
 refine qz ?_;simp[YZ,k9]
 grind
@[simp] def axN (n X W:Int):kE TB.Ev R 106 [.i n,.i X,.i W] G t O L=kF TB.Ev R (.ret [.b (k9 n X W)]) G t O L:=dC (aqu n X W)
def Bq(n:Int)(u:Bool)(X W:Int):Bool:=if u then k9 n X W else n==0
def aqv(n X W:Int)(u:Bool):TB.Ev 70 [.i n,.b u,.i X,.i W] (.ret [.b (Bq n u X W)]):=by
 refine qz ?_;simp[YR,Bq]
 grind
@[simp] def axO (n X W:Int) (u:Bool):kE TB.Ev R 70 [.i n,.b u,.i X,.i W] G t O L=kF TB.Ev R (.ret [.b (Bq n u X W)]) G t O L:=dC (aqv n X W u)
@[simp] def axP (n:Int):kE TB.Ev R 47 [.i n] G t O L=kF TB.Ev R (.ret [.b E]) G t O L:=dC (aiS Si n)
@[simp] def axQ (a b:Int):kE TB.Ev R 87 [.i a,.i b] G t O L=kF TB.Ev R (.ret [.i (zH a b)]) G t O L:=dC (Zk Si a b)
@[simp] def axR (n d:Int):kE TB.Ev R 100 [.i n,.i d] G t O L=kF TB.Ev R (.ret [.i (if kM n d then 0 else 120)]) G t O L:=dC (aiT Si n d)
@[simp] def axS (a b c d:Int):kE TB.Ev R 71 [.i a,.i b,.i c,.i d] G t O L=kF TB.Ev R (.ret [.i (MT a b c d),.i (if kM a b&&kM c d then 0 else 120)]) G t O L:=dC (aiU Si a b c d)
def e66(a b c d:Int):TB.Ev 81 [.i a,.i b,.i c,.i d] (.ret [.b (dB a b c d)]):=by
 refine qz ?_;simp[YN,dB]
 grind
@[simp] def c66 (a b c d:Int):kE TB.Ev R 81 [.i a,.i b,.i c,.i d] G t O L=kF TB.Ev R (.ret [.b (dB a b c d)]) G t O L:=dC (e66 a b c d)
def jn(X:Bool)(x:Int):Int:=if X then x else 0
def e72(a b c d X W V Q:Int):TB.Ev 60 [.i a,.i b,.i c,.i d,.i X,.i W,.i V,.i Q] (.ret [.i (jn (dB a b c d&&dB X W V Q) (min a X)),.i (jn (dB a b c d&&dB X W V Q) (max b W)),.i (jn (dB a b c d&&dB X W V Q) (min c V)),.i (jn (dB a b c d&&dB X W V Q) (max d Q)),.i (if dB a b c d&&dB X W V Q then 0 else 150)]):=by
 refine qz ?_;simp[YO,jn]
 grind
@[simp] def c72 (a b c d X W V Q:Int):kE TB.Ev R 60 [.i a,.i b,.i c,.i d,.i X,.i W,.i V,.i Q] G t O L=kF TB.Ev R (.ret [.i (jn (dB a b c d&&dB X W V Q) (min a X)),.i (jn (dB a b c d&&dB X W V Q) (max b W)),.i (jn (dB a b c d&&dB X W V Q) (min c V)),.i (jn (dB a b c d&&dB X W V Q) (max d Q)),.i (if dB a b c d&&dB X W V Q then 0 else 150)]) G t O L:=dC (e72 a b c d X W V Q)
def e69(a b c d:Int):TB.Ev 57 [.i a,.i b,.i c,.i d] (.ret [.b (dB a b c d)]):=by
 refine qz ?_;simp[YP]
 grind
@[simp] def c69 (a b c d:Int):kE TB.Ev R 57 [.i a,.i b,.i c,.i d] G t O L=kF TB.Ev R (.ret [.b (dB a b c d)]) G t O L:=dC (e69 a b c d)
def aiV(a b c d X W V Q:Int):Bool:=decide (X<=a)&&decide (b<=W)&&decide (V<=c)&&decide (d<=Q)
def xD(a b c d x y:Int):Int:=if !dB a b c d then 150 else if !(decide (-2199023255552<=x)&&decide (x<=2199023255552)&&decide (-2199023255552<=y)&&decide (y<=2199023255552)) then 2 else if dB (IntKind.i64.wrap (a+x)) (IntKind.i64.wrap (b+x)) (IntKind.i64.wrap (c+y)) (IntKind.i64.wrap (d+y)) then 0 else 2
def aqz(a b c d x y:Int):TB.Ev 80 [.i a,.i b,.i c,.i d,.i x,.i y] (.ret [.i (jn (xD a b c d x y==0) (IntKind.i64.wrap (a+x))),.i (jn (xD a b c d x y==0) (IntKind.i64.wrap (b+x))),.i (jn (xD a b c d x y==0) (IntKind.i64.wrap (c+y))),.i (jn (xD a b c d x y==0) (IntKind.i64.wrap (d+y))),.i (xD a b c d x y)]):=by
 refine qz ?_;simp[YQ,jn,bH]
 repeat' split
 all_goals(simp_all[xD])
 all_goals grind
@[simp] def axW (a b c d x y:Int):kE TB.Ev R 80 [.i a,.i b,.i c,.i d,.i x,.i y] G t O L=kF TB.Ev R (.ret [.i (jn (xD a b c d x y==0) (IntKind.i64.wrap (a+x))),.i (jn (xD a b c d x y==0) (IntKind.i64.wrap (b+x))),.i (jn (xD a b c d x y==0) (IntKind.i64.wrap (c+y))),.i (jn (xD a b c d x y==0) (IntKind.i64.wrap (d+y))),.i (xD a b c d x y)]) G t O L:=dC (aqz a b c d x y)
end
structure Sl(v:RV):Prop where
 sl:∃a n c,v.val=.slice a n c
 len:lenOf v.val=Y v.ae
 sm:Y v.ae<=140737488355328
def ci(v:RV)(i j:Nat):Int:=bF (bz v.ae i j).val
def cb(v:RV)(i j:Nat):Bool:=iF (bz v.ae i j).val
def Sj(n:Nat)(X:Nat->aX->Prop):aX->Prop
 |.i j::W=>∃i:Nat,j=i/\i<=n/\X i W
 |_=>False
def MU(n:Nat):aX->Nat
 |.i j::_=>n-j.toNat
 |_=>0
section
variable{e:FuncId->aX->aU->Prop}{R:aU->Prop}{O:ai}{L:cG}
def em{G:aI}{P:am}{t:T}(n:Nat)(X:Nat->aX->Prop)(N:Sj n X (P.map (C.xv O)))(h:∀(i:Nat) W,i<=n->X i W->t.wp e R (O.ext (.i i::W)) (⟨Q,Sj n X,MU n,n-i⟩::L)):T.wp e R (.loop Q G P t) O L:=by
 refine De (Sj n X) (MU n) N λM V=> ?_
 match M,V with
 |.i j::W,V=>
  obtain⟨i,rfl,F,D⟩:=V;have:=h i W F D;simpa[MU] using this
def nK{n:Int}(X:-9223372036854775808<=n)(W:n<9223372036854775808):IntKind.i64.wrap n=n:=by
 rw[IntKind.wrap_i64];omega
def Sk{i:Nat}(h:i<=140737488355328):bH .add I (i:Int) 1=((i+1:Nat):Int):=by
 simp only[bH];rw[nK aa aa];omega
def du{X:Nat->aX->Prop}{i:Nat}(W:i<M)(P:M<=140737488355328):Sf (U ⟨Q,Sj M X,MU M,M-i⟩) (.i (bH .add I (i:Int) 1)::V)=X (i+1) V:=by
 rw[Sk aa];refine propext ⟨λh=> ?_,λh=>⟨⟨i+1,rfl,aa,h⟩, ?_⟩⟩;obtain⟨⟨k,N,_,h⟩,_⟩:=h;have:k=i+1:=aa;exact this▸h;simp only[MU];omega
end
end
inductive KX where
 |i
 |b
 |r
 deriving DecidableEq
def LK.kx:LK->KX
 |.int _=>.i
 |.bool=>.b
 |.ah _=>.r
def XV.kx:XV->KX
 |.i _=>.i
 |.b _=>.b
 |.r _=>.r
def C.kx:C->KX
 |.bool _=>.b
 |.ah _=>.r
 |_=>.i
abbrev Tot:=FuncId->Option (List KX×List KX)
def Tot.ok(V:Tot):Prop:=∀f p r,V f=U (p,r)->∀X,X.map XV.kx=p->∃W,TB.Ev f X (.ret W)/\W.map XV.kx=r
def Jd{P:Int->Prop}(h:∃o,TB.Ev W V o/\∃e,o=.ret [.i e]/\P e):TB.Ev W V (.ret [.i (oi W V 0)])/\P (oi W V 0):=by
 obtain⟨o,X,e,rfl,Q⟩:=h;have:oi W V 0=e:=by simp only[oi,Zj X];rfl
 rw[this];exact⟨X,Q⟩
def mkb{P:Bool->Prop}(h:∃o,TB.Ev W V o/\∃e,o=.ret [.b e]/\P e):TB.Ev W V (.ret [.b (ob W V 0)])/\P (ob W V 0):=by
 obtain⟨o,X,e,rfl,Q⟩:=h;have:ob W V 0=e:=by simp only[ob,Zj X];rfl
 rw[this];exact⟨X,Q⟩
structure FQ(roles bars:Int)(c:Nat->Int):Prop where
 kind:1<=c 4/\c 4<=9
 bG:0<=c 1/\c 1<roles
 ar:0<=c 2/\c 2<bars
 mark:1<=c 3/\c 3<=3
 side:if c 4=1\/c 4=3\/c 4=4\/c 4=9 then 1<=c 5/\c 5<=2 else c 5=0
 dir:if c 4=1\/c 4=2 then 1<=c 6/\c 6<=8 else if c 4=3\/c 4=4\/c 4=5 then 0<=c 6/\c 6<=8 else c 6=0
 aqC:if c 4=3\/c 4=4\/c 4=5\/c 4=9 then 1<=c 7/\c 7<=3 else c 7=0
 size:if c 4=1\/c 4=2 then 1<=c 8/\c 8<=16 else if c 4=6 then 1<=c 8/\c 8<=7 else c 8=0
 wth:if c 4=7\/c 4=8 then 1<=c 9/\c 9<=roles else c 9=0
 from_:kM (c 10) (c 11)=J
 to:kM (c 12) (c 13)=J
section
variable{R:aU->Prop}{G:aI}{t:T}{O:ai}{L:cG}
def xE(c:Nat->Int):aX:=[.i (c 0),.i (c 1),.i (c 2),.i (c 3),.i (c 4),.i (c 5),.i (c 6),.i (c 7),.i (c 8),.i (c 9),.i (c 10),.i (c 11),.i (c 12),.i (c 13)]
def kT(k:Int)(j:Nat):RV:=bz (HX[0]?.getD default).ae k j
def aqD{c:Nat->Int}{X W:Int}(H:1<=c 4/\c 4<=9)(G:0<=c 1/\c 1<=X-1)(F:0<=c 2/\c 2<=W-1)(D:1<=c 3/\c 3<=3)(V:Bq (c 5) (iF (kT (c 4) 0).val) 1 2=J)(Q:Bq (c 6) (iF (kT (c 4) 1).val) (bF (kT (c 4) 3).val) 8=J)(P:Bq (c 7) (decide (0<bF (kT (c 4) 4).val)) 1 (bF (kT (c 4) 4).val)=J)(N:Bq (c 8) (decide (0<bF (kT (c 4) 5).val)) 1 (bF (kT (c 4) 5).val)=J)(M:Bq (c 9) (iF (kT (c 4) 2).val) 1 X=J)
  (B:kM (c 10) (c 11)=J)(A:kM (c 12) (c 13)=J):FQ X W c:=by
 have:c 4=1\/c 4=2\/c 4=3\/c 4=4\/c 4=5\/c 4=6\/c 4=7\/c 4=8\/c 4=9:=aa;rcases this with h|h|h|h|h|h|h|h|h
 all_goals
  simp[h,kT,HX,AS,bV,iV,bz,Bq,iF,bF] at V Q P N M;constructor<;>(first|omega|assumption|(simp[h];done)|(simp[h];omega))
def t84(c:Nat->Int)(X W:Int)(N:-1000<=X/\X<=1000000)(M:-1000<=W/\W<=1000000):∃o,TB.Ev 53 (xE c++[.i X,.i W]) o/\∃b,o=.ret [.b b]/\(b=J->FQ X W c):=by
 refine jS ?_;have V:bH .sub I X 1=X-1:=by simp only[bH];rw[nK aa aa]
 have Q:bH .sub I W 1=W-1:=by simp only[bH];rw[nK aa aa]
 have P:lenOf (HX[0]?.getD default).val=10:=rfl;simp[YL,xE,V,Q,P]
 repeat' split
 all_goals(try simp)
 all_goals(intros;refine⟨aa, ?_⟩;intros;apply aqD<;>(first|assumption|omega|grind))
def f84(c:Nat->Int)(X W:Int)(V:-1000<=X/\X<=1000000)(Q:-1000<=W/\W<=1000000):TB.Ev 53 (xE c++[.i X,.i W]) (.ret [.b (ob 53 (xE c++[.i X,.i W]) 0)])/\(ob 53 (xE c++[.i X,.i W]) 0=J->FQ X W c):=mkb (t84 c X W V Q)
def Zl{a b:Int}(h:b≠0):(a.tmod b).natAbs<b.natAbs:=by
 rw[aaG];exact JN _ aa
def aqG(a b c:Int)(N:1<=c)(M:c<=32768)(H:-c<=a/\a<=c)(G:-c<=b/\b<=c):∃o,TB.Ev 69 [.i a,.i b,.i c] o/\∃x y z,o=.ret [.i x,.i y,.i z]:=by
 refine jS ?_;simp[Y3];refine De (λX=>∃n d:Int,X=[.i n,.i d]∧-c<=n/\n<=c∧-c<=d/\d<=c) (λX=>(xi X 0).natAbs) ⟨a,0,rfl,aa,aa,aa,aa⟩ ?_;rintro _ ⟨n,d,rfl,W,V,Q,P⟩;simp[xi,FP,bH];split
 case isFalse h=>
  have:=Zl (a:=d) h;refine⟨h,⟨_,_,⟨rfl,rfl⟩, ?_⟩,by rw[<-aaG];exact this⟩;omega
 refine De (λX=>∃n d:Int,X=[.i n,.i d]∧-c<=n/\n<=c∧-c<=d/\d<=c) (λX=>(xi X 0).natAbs) ⟨b,d,rfl,aa,aa,aa,aa⟩ ?_;rintro _ ⟨n,d,rfl,W,V,Q,P⟩;simp[xi,FP,bH];split
 case isFalse h=>
  have:=Zl (a:=d) h;refine⟨h,⟨_,_,⟨rfl,rfl⟩, ?_⟩,by rw[<-aaG];exact this⟩;omega
 refine De (λX=>∃n d:Int,X=[.i n,.i d]∧-c<=n/\n<=c∧-c<=d/\d<=c/\(n≠0\/d≠0)) (λX=>(xi X 0).natAbs) ⟨c,d,rfl,aa,aa,aa,aa,aa⟩ ?_;rintro _ ⟨n,d,rfl,W,V,Q,P,F⟩;simp[xi,FP,bH];split
 case isFalse h=>
  have:=Zl (a:=d) h;refine⟨h,⟨_,_,⟨rfl,rfl⟩, ?_⟩,by rw[<-aaG];exact this⟩;omega
 have:IntKind.i64.wrap (-d)=-d:=nK aa aa;simp[this];omega
def t83(a b c:Int):∃o,TB.Ev 52 [.i a,.i b,.i c] o/\∃e,o=.ret [.i e]/\True:=by
 refine jS ?_;simp[Y4];intro V Q X P N;have W:bH .sub I 0 c=-c:=by simp only[bH];rw[nK aa aa];omega
 rw[W] at X;obtain⟨o,h,x,y,z,rfl⟩:=aqG a b c aa aa aa aa;rw[dC h];simp
@[simp] def c83 (a b c:Int):kE TB.Ev R 52 [.i a,.i b,.i c] G t O L=kF TB.Ev R (.ret [.i (oi 52 [.i a,.i b,.i c] 0)]) G t O L:=dC (Jd (t83 a b c)).1
structure Je(tp:RV):Prop where
 sl:Sl tp
 pos:0<Y tp.ae
 zero:ci tp 0 0=0
def aiY(h:M<=140737488355328)(W:Q<=M):IntKind.i64.wrap (bH .shr .u64 (IntKind.u64.wrap (bH .add I (Q:Int) (M:Int))) 1)=(((Q+M)/2:Nat):Int):=by
 simp only[bH];rw[nK (n:=(Q:Int)+M) aa aa];rw[show IntKind.u64.wrap ((Q:Int)+M)=(Q:Int)+M by rw[IntKind.wrap_u64];omega];have:((Q:Int)+M).fdiv (2^min (1:Int).toNat IntKind.u64.bits)=(((Q+M)/2:Nat):Int):=by
  have X:(2:Int)^min (1:Int).toNat IntKind.u64.bits=2:=rfl;rw[X,awY _ aa];omega
 rw[this,nK aa aa]
def aqI(P ar:Int)(X N M:RV)(h:Je X)(A:0<=ar):∃o,TB.Ev 98 [.i P,.r X,.r N,.r M,.i ar] o/\∃e,o=.ret [.i e]/\True:=by
 refine jS ?_;simp[YS];have z:=h.pos;have y:=h.sl.sm;refine De (λW=>∃i j:Nat,W=[.i i,.i j]/\i<=j/\j<=Y X.ae/\(j=Y X.ae\/ar<ci X j 0)) (λW=>(xi W 1-xi W 0).toNat) ⟨0,Y X.ae,by simp[h.sl.len],aa,aa,.inl rfl⟩ ?_;rintro _ ⟨i,j,rfl,H,x,V⟩;simp[xi,FP,h.sl.len,aiY (show j<=140737488355328 from aa) H];split;rename_i G;refine⟨aa, ?_⟩;have F:((i:Int)+j)/2=(((i+j)/2:Nat):Int):=aa;have D:=Sk (i:=(i+j)/2) aa;rw[F,D];split;refine⟨⟨(i+j)/2+1,j,⟨rfl,rfl⟩,aa,aa,V⟩,aa⟩;rename_i Q;refine⟨⟨i,(i+j)/2,⟨rfl,rfl⟩,aa,aa,.inr ?_⟩,aa⟩;simp only[ci];omega;rename_i G;have B:i=j:=aa;subst B;have:1<=i:=by
  rcases BB i with rfl|Q;have:=h.zero;rcases V with V|V<;>omega;exact Q
 rw[show bH .sub I (i:Int) 1=(i:Int)-1 by simp only[bH];rw[nK aa aa]];omega
def aqJ(W ar:Int)(X V Q:RV)(h:Je X)(P:0<=ar):kE TB.Ev R 98 [.i W,.r X,.r V,.r Q,.i ar] G t O L=kF TB.Ev R (.ret [.i (oi 98 [.i W,.r X,.r V,.r Q,.i ar] 0)]) G t O L:=dC (Jd (aqI W ar X V Q h P)).1
end
section
def eo(X:aq):RV:=.mk (.slice Z (Y X) (Y X)) X
@[simp] def axY (x:LE) (O:ai):gI x O=eo (x.ae O):=rfl
@[simp] def aqK (r:aq):(eo r).ae=r:=rfl
@[simp] def axZ (r:aq):lenOf (eo r).val=Y r:=rfl
@[simp] def ax0:RV.mk (.slice Z 0 0) []=eo []:=rfl
attribute[simp] LE.ae C.bN
def zI(c:Nat->Int):aC:=[.mk (.int I (c 0)) [],.mk (.int I (c 1)) [],.mk (.int I (c 2)) [],.mk (.int I (c 3)) [],.mk (.int I (c 4)) [],.mk (.int I (c 5)) [],.mk (.int I (c 6)) [],.mk (.int I (c 7)) [],.mk (.int I (c 8)) [],.mk (.int I (c 9)) [],.mk (.int I (c 10)) [],.mk (.int I (c 11)) [],.mk (.int I (c 12)) [],.mk (.int I (c 13)) []]
def aiZ{lt:aC->aC->Bool}{x:aC}:∀{l:aq},(eH lt x l).Perm (x::l)
 |[]=>alF _
 |y::r=>by
  simp only[eH];split;exact alF _;exact((aiZ (l:=r)).cons y).trans (axB x y r)
def ai0{lt:aC->aC->Bool}:∀(l acc:aq),(l.foldl (λacc x=>eH lt x acc) acc).Perm (acc++l)
 |[],acc=>au
 |x::l,acc=>by
  simp only[BF];refine(ai0 l _).trans ?_;refine(List.Perm.append_right l aiZ).trans ?_;rw[gA];exact List.perm_middle.symm
def Dg{lt:aC->aC->Bool}(l:aq):(bK lt l).Perm l:=by
 have:=ai0 (lt:=lt) l [];simpa[bK] using this
def zJ(X:aq):Prop:=X.Pairwise λx y=>aK 0 x≠aK 0 y
def zJ.perm(h:zJ X)(W:P.Perm X):zJ P:=(W.symm.pairwise_iff (λ{x y} h=>h.symm)).1 h
def ai1:∀{X:aq},zJ X->uW (bB.lex [0] E).lt X=J
 |[],_=>rfl
 |x::r,h=>by
  simp only[zJ,iv] at h;simp only[uW,aw,eO,iD];refine⟨λy V=> ?_,ai1 h.2⟩;have W:¬aK 0 x=aK 0 y:=h.1 y V;have Q:¬aK 0 y=aK 0 x:=λe=>W e.symm
  simp only[bB.lt,i7,aJ W,aJ Q,iC,fH,bZ];omega
def aqL{W:Bool}(V:Y X<=1099511627776)(h:zJ X):io (.lex [0] E) W X=U (bK (bB.lex [0] E).lt X):=by
 simp only[io];rw[aE (by simp[V,ai1 h,bB.ok])]
def aqM{rows:aq}(X:Y rows<=1099511627776)(h:∀x∈rows,kM (aK 10 x) (aK 11 x)=J):io (.ratio 10 11) J rows=U (bK (bB.ratio 10 11).lt rows):=by
 simp only[io];rw[aE (by simp only[aw,bZ,alH,and_true];exact⟨X,eO.2 h⟩)]
structure cm where
 cW:Int
 cD:Int
 cA:Int
 cB:Int
 cC:Int
 cO:Int
 cr0:RV
 ct0:RV
 cp0:RV
 jM:RV
 cg0:RV
section
variable[Inhabited cm]
def rB:Int:=(default:cm).cW
def rC:Int:=(default:cm).cD
def MV:Int:=(default:cm).cA
def MW:Int:=(default:cm).cB
def Sm:Int:=(default:cm).cC
def hJ:Int:=(default:cm).cO
def aM:RV:=(default:cm).cr0
def s4:RV:=(default:cm).ct0
def vN:RV:=(default:cm).cp0
def vO:RV:=(default:cm).jM
def bo:RV:=(default:cm).cg0
end
structure MX[Inhabited cm]:Prop where
 nr:1<=Y aM.ae/\Y aM.ae<=64
 ns:Y bo.ae<=4096
 br:1<=hJ/\hJ<=4096
 wd:1<=rB/\rB<=1000/\1<=rC/\rC<=1000
 tp:Je s4
 Sn:∀i<Y bo.ae,FQ (Y aM.ae) hJ (ci bo i)
 id:∀i<Y bo.ae,0<=ci bo i 0/\ci bo i 0<=1048576
 ids:∀i j,i<j->j<Y bo.ae->ci bo i 0<ci bo j 0
structure jT[Inhabited cm]:Prop where
 rl:Sl aM
 tp:Sl s4
 ps:Sl vN
 sp:Sl vO
 sg:Sl bo
section
variable{R:aU->Prop}{G:aI}{t:T}{O:ai}{L:cG}
variable[Inhabited cm]
def wk:aX:=[.i rB,.i rC,.i MV,.i MW,.i Sm,.r aM,.i hJ,.r s4,.r vN,.r vO,.r bo]
def Jf:Prop:=∀(hJ:Int)(s4 vN vO:RV),Sl s4->Sl vN->Sl vO->TB.Ev 50 [.i hJ,.r s4,.r vN,.r vO] (.ret [.i (oi 50 [.i hJ,.r s4,.r vN,.r vO] 0)])/\(oi 50 [.i hJ,.r s4,.r vN,.r vO] 0=0->Je s4/\1<=hJ/\hJ<=4096)
def t37(F:Jf)(h:jT):∃o,TB.Ev 33 wk o/\∃e,o=.ret [.i e]/\(e=0->MX):=by
 refine jS ?_;obtain⟨D,B⟩:=F hJ s4 vN vO h.tp h.ps h.sp;simp[YV,wk,h.rl.len,h.sg.len,dC D]
 repeat'(first|intro _|split)
 any_goals(exfalso;omega)
 obtain⟨A,q,p⟩:=B DG;refine em (Y aM.ae) (λ_ P=>P=[]) ⟨0,rfl,aa,rfl⟩ ?_;rintro i _ X rfl;simp[h.rl.len];split;rename_i X;simp[du X h.rl.sm,X];refine em (Y bo.ae) (λi P=>∃V:Int,P=[.i V]∧-1<=V/\(∀k<i,FQ (Y aM.ae) hJ (ci bo k)/\0<=ci bo k 0/\ci bo k 0<=V/\ci bo k 0<=1048576)/\∀j k,j<k->k<i->ci bo j 0<ci bo k 0) ⟨0,rfl,aa,-1,rfl,aa,aa,aa⟩ ?_;rintro j _ N ⟨V,rfl,n,W,M⟩;simp[h.rl.len,h.sg.len];split;rename_i N;refine⟨N,λm l=> ?_⟩;obtain⟨H,Q⟩:=f84 (ci bo j) (Y aM.ae) hJ aa aa;simp only[xE,ci,gA,gU] at H Q;rw[dC H];simp[du N h.sg.sm];intro z;have Q:=Q z;refine⟨aa,λk g=> ?_,λa b G f=> ?_⟩;by_cases y:k=j;subst y;refine⟨Q, ?_, ?_, ?_⟩<;>simp only[ci]<;>omega;obtain⟨x,w,v,u⟩:=W k aa;exact⟨x,w,by simp only[ci] at v⊢;omega,u⟩;by_cases s:b=j;subst s;have:=(W a G).2.2.1;simp only[ci] at this⊢;omega;exact M a b G aa;have r:j=Y bo.ae:=aa;subst r;have d:Y aM.ae≠0:=λe=>bp (Dx.1 e) DG
 exact⟨aa,aa,aa,aa,A,λi X=>(W i X).1,λi X=>⟨(W i X).2.1,(W i X).2.2.2⟩,M⟩
end
end
section
variable{R:aU->Prop}{G:aI}{t:T}{O:ai}{L:cG}
variable[Inhabited cm]
@[simp] def Sq (c:Nat->Int) (j:Nat) (h:j<14):aK j (zI c)=c j:=by
 match j,h with
 |0,_|1,_|2,_|3,_|4,_|5,_|6,_|7,_|8,_|9,_|10,_|11,_|12,_|13,_=>rfl
def s5(bG ar:Int):Nat->aq
 |0=>[]
 |i+1=>s5 bG ar i++(if ci bo i 1=bG/\ci bo i 2=ar then[zI (ci bo i)] else[])
def Sr{bG ar:Int}:∀i,(s5 bG ar i).length<=i
 |0=>by simp[s5]
 |i+1=>by
  have:=Sr (bG:=bG) (ar:=ar) i;simp only[s5,fQ];split<;>simp<;>omega
def Ss{bG ar:Int}{x:aC}:∀{i},x∈s5 bG ar i<->∃k<i,x=zI (ci bo k)/\ci bo k 1=bG/\ci bo k 2=ar
 |0=>by simp[s5]
 |i+1=>by
  simp only[s5,eC,Ss (i:=i)];constructor;rintro(⟨k,V,X⟩|h);exact⟨k,aa,X⟩;split at h;rename_i Q;simp at h;exact⟨i,aa,h,Q⟩;simp at h;rintro⟨k,V,X,W⟩;by_cases P:k=i;subst P;right;rw[aE W];simp[X];exact .inl ⟨k,aa,X,W⟩
def ai2{bG ar:Int}(h:∀i j,i<j->j<Y bo.ae->ci bo i 0<ci bo j 0):∀{i},i<=Y bo.ae->zJ (s5 bG ar i)
 |0,_=>uD
 |i+1,Q=>by
  simp only[s5,zJ,mB];refine⟨ai2 h aa,by split<;>simp,λx W y X=> ?_⟩;obtain⟨k,V,rfl,-⟩:=(Ss).1 W;split at X;simp at X;subst X;rw[Sq _ _ aa,Sq _ _ aa];have:=h k i V aa;omega;simp at X
def lR:Int:=oi 33 wk 0
def jf(bG ar:Int):Int:=if lR=0 then(if k9 bG 0 (Y aM.ae-1)&&k9 ar 0 (hJ-1) then 0 else 1) else lR
def fY(bG ar:Int):aq:=if jf bG ar=0 then bK (bB.ratio 10 11).lt (s5 bG ar (Y bo.ae)) else[]
def zK(X:Jf)(h:jT):TB.Ev 33 wk (.ret [.i lR])/\(lR=0->MX):=Jd (t37 X h)
def e77(G:Jf)(h:jT)(bG ar:Int):TB.Ev 61 (wk++[.i bG,.i ar]) (.ret [.r (eo (fY bG ar)),.i (jf bG ar)]):=by
 refine qz ?_;obtain⟨W,F⟩:=zK G h;simp only[wk] at W;simp[YX,wk,h.rl.len,dC W];split
 case isFalse X=>
  simp[fY,jf,X]
 rename_i X;have V:=F X;have w:=V.nr;have v:=V.br;rw[show bH .sub I (Y aM.ae:Int) 1=Y aM.ae-1 by simp only[bH];rw[nK aa aa],show bH .sub I hJ 1=hJ-1 by simp only[bH];rw[nK aa aa]];split
 case isFalse Q=>
  simp[fY,jf,X,Q]
 rename_i Q;split
 case isFalse N=>
  simp[fY,jf,X,Q,N]
 rename_i N;refine em (Y bo.ae) (λi D=>D=[.r (eo (s5 bG ar i))]) ⟨0,rfl,aa,rfl⟩ ?_;rintro i _ M rfl;have u:=Sr (bG:=bG) (ar:=ar) i;have s:=V.ns;simp[h.sg.len];split;rename_i M;simp[du M h.sg.sm,s5,ci,M];have q:(s5 bG ar i).length<=536870912:=aa;split;rename_i P;split;rename_i H;simp[P,H,zI,ci];omega;rename_i H;simp[P,H];rename_i P;simp[P];have B:i=Y bo.ae:=aa;subst B;have A:=aqM (rows:=s5 bG ar (Y bo.ae)) (by have:=Sr (bG:=bG) (ar:=ar) (Y bo.ae);have:=h.sg.sm;omega) (λx z=>by
  obtain⟨k,W,rfl,-⟩:=(Ss).1 z;rw[Sq _ _ aa,Sq _ _ aa];exact(V.Sn k W).from_)
 simp only[MQ,MS];refine⟨_,A, ?_⟩;have y:jf bG ar=0:=by simp[jf,X,Q,N]
 simp[fY,y,eo,oI]
def aqS{bG ar:Int}(Q:lR=0->MX)(X:N∈fY bG ar):∃k<Y bo.ae,N=zI (ci bo k)/\ci bo k 1=bG/\ci bo k 2=ar/\FQ (Y aM.ae) hJ (ci bo k):=by
 unfold fY at X;split at X;rename_i W;have P:lR=0:=by
  unfold jf at W;split at W;assumption;exact W
 obtain⟨k,V,M,H,G⟩:=(Ss).1 ((Dg _).mem_iff.1 X);exact⟨k,V,M,H,G,(Q P).Sn k V⟩;simp at X
def aqT{bG ar:Int}(W:lR=0->MX):zJ (fY bG ar):=by
 unfold fY;split;rename_i X;have V:lR=0:=by
  unfold jf at X;split at X;assumption;exact X
 exact(ai2 (W V).ids (bU _)).perm (Dg _);exact uD
def aqU{bG ar:Int}(W:lR=0->MX):(fY bG ar).length<=4096:=by
 unfold fY;split;rename_i X;have V:lR=0:=by
  unfold jf at X;split at X;assumption;exact X
 rw[oI];have:=Sr (bG:=bG) (ar:=ar) (Y bo.ae);have:=(W V).ns;omega;simp
end
section
variable{R:aU->Prop}{G:aI}{t:T}{O:ai}{L:cG}
def aq0(c:Nat->Int)(x y z:Int)(b:Bool):∃o,TB.Ev 88 (xE c++[.i x,.i y,.i z,.b b]) o/\∃e,o=.ret [.b e]/\(e=J->x=c 0):=by
 refine jS ?_;simp[YY,xE]
 repeat' split
 all_goals(intros;grind [k9])
def f225(c:Nat->Int)(x y z:Int)(b:Bool):TB.Ev 88 (xE c++[.i x,.i y,.i z,.b b]) (.ret [.b (ob 88 (xE c++[.i x,.i y,.i z,.b b]) 0)])/\(ob 88 (xE c++[.i x,.i y,.i z,.b b]) 0=J->x=c 0):=mkb (aq0 c x y z b)
def ai4(c:Nat->Int)(r:RV)(k:Nat):aC:=zI c++[.mk (.int I (ci r k 0)) [],.mk (.int I (ci r k 1)) [],.mk (.int I (ci r k 2)) [],.mk (.bool (cb r k 3)) []]
def gt(X:aq)(i j:Nat):Int:=bF (bz X i j).val
def MY(l:aq)(r:RV)(n:Nat)(out:aq):Prop:=Y out=n/\∀i<n,∃k<Y r.ae,out[i]?=U (ai4 (gt l i) r k)/\ci r k 0=gt l i 0
def MY.add{r:RV}(h:MY X r Q P)(W:M<Y r.ae)(hid:ci r M 0=gt X Q 0):MY X r (Q+1) (P++[ai4 (gt X Q) r M]):=by
 refine⟨by simp[h.1],λi D=> ?_⟩;by_cases V:i=Q;subst V;refine⟨M,W, ?_,hid⟩;rw[gK (by rw[h.1];omega),h.1];simp;obtain⟨N,H,G,F⟩:=h.2 i aa;exact⟨N,H,by rw[dF (by rw[h.1];omega)];exact G,F⟩
def MZ(G:aI)(h:∃o,TB.Ev W V o/\∃X,o=.ret X/\me G X=J):TB.Ev W V (.ret (Df (out W V) G 0)):=by
 obtain⟨o,Q,X,N,M⟩:=h;exact(shp G (P:=λ_=>True) ⟨o,Q,X,N,M,trivial⟩).1
def kI:Nat->aI
 |0=>[]
 |n+1=>.int I::kI n
@[simp] def kI0:kI 0=[]:=rfl
@[simp] def kIs (n:Nat):kI (n+1)=.int I::kI n:=rfl
def aqV(s:RV)(b:Int):∃o,TB.Ev 101 [.r s,.i b] o/\∃X,o=.ret X/\me (kI 1) X=true:=by
 cases W:s.val with
 |string u=>exact⟨_,afn (by simp only[TB,Jc,Se,W];rfl),_,rfl,rfl⟩
 |_=>exact⟨_,afn (by simp only[TB,Jc,Se,W];rfl),_,rfl,rfl⟩
@[simp] def ax3 (s:RV) (b:Int):kE TB.Ev R 101 [.r s,.i b] G t O L=kF TB.Ev R (.ret [.i (oi 101 [.r s,.i b] 0)]) G t O L:=dC (MZ _ (aqV s b))
def aqW(a:Int):∃o,TB.Ev 72 [.i a] o/\∃X,o=.ret X/\me (kI 1) X=true:=by
 refine jS ?_;simp[Y0]
@[simp] def ax4 (a:Int):kE TB.Ev R 72 [.i a] G t O L=kF TB.Ev R (.ret [.i (oi 72 [.i a] 0)]) G t O L:=dC (MZ _ (aqW a))
def Jg(v:RV):Prop:=∃s,v.val=.string s
def aqX(v:RV):Jg (dl .str v):=by
 simp only[dl];split<;>exact⟨_,rfl⟩
def aqY(s:RV)(Q:Jg s):∃o,TB.Ev 54 [.r s] o/\∃W,o=.ret W/\me [.bool] W=true:=by
 refine jS ?_;obtain⟨u,V⟩:=Q;simp[YW,V,tG,lenOf];intro P G;have N:0<u.size:=by
  rcases BB u.size with h|h;exfalso;apply P;have M:u=ByteArray.empty:=by simpa using h
  rw[M,ByteArray.toList,ByteArray.toList.loop];simp;exact h
 refine⟨N,λ_=> ?_⟩;refine em u.size (λ_ H=>H=[]) ⟨0,rfl,aa,rfl⟩ ?_;rintro i _ X rfl;simp[V,lenOf];intro X;simp[du X (show u.size<=140737488355328 from aa),X]
def aqZ(s:RV)(X:Jg s):kE TB.Ev R 54 [.r s] G t O L=kF TB.Ev R (.ret [.b (ob 54 [.r s] 0)]) G t O L:=dC (MZ [.bool] (aqY s X))
def t74(W V a2 Q P a5 a6 a7 a8 N M ki kj:Int):∃o,TB.Ev 41 [.i W,.i V,.i a2,.i Q,.i P,.i a5,.i a6,.i a7,.i a8,.i N,.i M,.i ki,.i kj] o/\∃X,o=.ret X/\me (kI 1) X=true:=by
 refine jS ?_;simp[Y2]
def St(X W a2 V Q a5 a6 a7 a8 P N ki kj:Int):Int:=oi 41 [.i X,.i W,.i a2,.i V,.i Q,.i a5,.i a6,.i a7,.i a8,.i P,.i N,.i ki,.i kj] 0
@[simp] def c74 (X W a2 V Q a5 a6 a7 a8 P N ki kj:Int):kE TB.Ev R 41 [.i X,.i W,.i a2,.i V,.i Q,.i a5,.i a6,.i a7,.i a8,.i P,.i N,.i ki,.i kj] G t O L=kF TB.Ev R (.ret [.i (St X W a2 V Q a5 a6 a7 a8 P N ki kj)]) G t O L:=dC (MZ _ (t74 X W a2 V Q a5 a6 a7 a8 P N ki kj))
def t75(s:RV)(X:Jg s)(W V a2 Q P a5 a6 a7 a8 N M ki kj ng H G:Int):∃o,TB.Ev 36 [.r s,.i W,.i V,.i a2,.i Q,.i P,.i a5,.i a6,.i a7,.i a8,.i N,.i M,.i ki,.i kj,.i ng,.i H,.i G] o/\∃e,o=.ret [.i e]/\(e=0->(1<=ki/\ki<=3)/\(1<=kj/\kj<=3)/\1<=ng/\ng<=3):=by
 refine jS ?_;simp[Y5,aqZ s X];intros;omega
def FR(s:RV)(X W a2 V Q a5 a6 a7 a8 P N ki kj ng M H:Int):Int:=oi 36 [.r s,.i X,.i W,.i a2,.i V,.i Q,.i a5,.i a6,.i a7,.i a8,.i P,.i N,.i ki,.i kj,.i ng,.i M,.i H] 0
def f75(s:RV)(G:Jg s)(X W a2 V Q a5 a6 a7 a8 P N ki kj ng M H:Int):TB.Ev 36 [.r s,.i X,.i W,.i a2,.i V,.i Q,.i a5,.i a6,.i a7,.i a8,.i P,.i N,.i ki,.i kj,.i ng,.i M,.i H] (.ret [.i (FR s X W a2 V Q a5 a6 a7 a8 P N ki kj ng M H)])/\(FR s X W a2 V Q a5 a6 a7 a8 P N ki kj ng M H=0->(1<=ki/\ki<=3)/\(1<=kj/\kj<=3)/\1<=ng/\ng<=3):=Jd (t75 s G X W a2 V Q a5 a6 a7 a8 P N ki kj ng M H)
def c75(s:RV)(F:Jg s)(X W a2 V Q a5 a6 a7 a8 P N ki kj ng M H:Int):kE TB.Ev R 36 [.r s,.i X,.i W,.i a2,.i V,.i Q,.i a5,.i a6,.i a7,.i a8,.i P,.i N,.i ki,.i kj,.i ng,.i M,.i H] G t O L=kF TB.Ev R (.ret [.i (FR s X W a2 V Q a5 a6 a7 a8 P N ki kj ng M H)]) G t O L:=dC (f75 s F X W a2 V Q a5 a6 a7 a8 P N ki kj ng M H).1

variable[Inhabited cm]
structure aq4:Prop where
 rl:lenOf aM.val<=100
 tp:lenOf s4.val<=64
 ps:lenOf vN.val<=64
 sp:lenOf vO.val<=64
 sg:lenOf bo.val<=5000
def cr(e:TypeId)(v:RV)(i:Nat):RV:=dl (.sl e) (bz v.ae i 0)
structure ax6(wg bd st re:RV):Prop where
 few:aq4
 wg:lenOf wg.val<=20
 bd:lenOf bd.val<=100
 st:lenOf st.val<=100
 rel:lenOf re.val<=100
 iE:∀i:Nat,i<lenOf re.val->lenOf (cr 64 re i).val<=100
def e65(V:Jf)(h:jT)(ar:Int):TB.Ev 66 (wk++[.i ar]) (.ret [.i (if lR=0 then(if k9 ar 0 (hJ-1) then 0 else 1) else lR)]):=by
 refine qz ?_;obtain⟨W,Q⟩:=zK V h;simp only[wk] at W;simp[YU,wk,dC W];split;rename_i X;have:=(Q X).br;rw[show bH .sub I hJ 1=hJ-1 by simp only[bH];rw[nK aa aa]];split<;>simp_all;rename_i X;simp[X]
def Jh(c:Nat->Int):aX:=[.i (c 0),.i (c 1),.i (c 2),.i (c 3),.i (c 4),.i (c 5),.i (c 6),.i (c 7)]
def t25(c:Nat->Int)(ar:Int):∃o,TB.Ev 38 (Jh c++[.i ar]) o/\∃X,o=.ret X/\me (kI 5) X=true:=by
 refine jS ?_;simp[Y1,Jh]
def mS(c:Nat->Int)(ar:Int)(k:Nat):Int:=oi 38 (Jh c++[.i ar]) k
def f25(c:Nat->Int)(ar:Int):TB.Ev 38 (Jh c++[.i ar]) (.ret [.i (mS c ar 0),.i (mS c ar 1),.i (mS c ar 2),.i (mS c ar 3),.i (mS c ar 4)]):=MZ _ (t25 c ar)

def aq6(N:Jf)(h:jT)(bG ar:Int)(r:RV)(M:Sl r)(H:fY bG ar=[]):TB.Ev 39 (wk++[.i bG,.i ar,.r r]) (.ret [.i (if jf bG ar≠0 then jf bG ar else if Y r.ae=0 then 0 else 270)]):=by
 refine qz ?_;have W:=e77 N h bG ar;rw[H] at W;simp only[wk,gA,gU] at W;generalize jf bG ar=e at*;simp[RZ,wk,dC W,M.len];split
 case isFalse X=>simp[X]
 rename_i X;split
 case isFalse h=>
  simp;intro e;simp[e] at h
 rename_i h;have Q:r.ae=[]:=Dx.1 aa;have P:io (bB.lex [0] E) E []=U []:=rfl;simp only[aiQ,MQ,MS];refine⟨.inl rfl,λ_=> ?_,λ_=> ?_,λ_ _=>single (apb _)⟩
 ·try simp
  try simp only[MQ,MS]
  refine⟨_,by simpa using P, ?_⟩;refine em 0 (λi V=>V=[.r (eo [])]) ⟨0,rfl,aa,rfl⟩ ?_;rintro i _ G rfl;have:i=0:=aa;simp[Q,X,this]
 ·try simp
  try simp only[MQ,MS]
  refine⟨_,by simpa using P, ?_⟩;refine em 0 (λi V=>V=[.r (eo [])]) ⟨0,rfl,aa,rfl⟩ ?_;rintro i _ G rfl;have:i=0:=aa;simp[Q,X,this]
end
def cY{c:Prop}[Decidable c]{A B:Prop}(X:c->A)(W:¬c->B):if c then A else B:=by
 by_cases h:c;rw[aE h];exact X h;rw[aJ h];exact W h
section
variable{R:aU->Prop}{G:aI}{t:T}{O:ai}{L:cG}
variable[Inhabited cm]
def Lm(d l:Int):Prop:=(d=0/\l=0)\/(0<=d/\d<=8/\1<=l/\l<=3)
structure P74(x y f d0 l0 d1 l1 d2 l2 d3 l3 d4 l4:Int):Prop where
 x:-1073741824<=x/\x<=1073741824
 y:-1073741824<=y/\y<=1073741824
 f:0<=f/\f<=7
 m0:Lm d0 l0
 m1:Lm d1 l1
 m2:Lm d2 l2
 m3:Lm d3 l3
 m4:Lm d4 l4
end
