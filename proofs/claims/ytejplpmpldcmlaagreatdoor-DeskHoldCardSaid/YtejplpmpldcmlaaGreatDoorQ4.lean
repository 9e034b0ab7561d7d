/- Part 4 of the proof; the last part says what is shown. -/
import Derived.Test.YtejplpmpldcmlaaGreatDoorQ3
set_option linter.all false
set_option maxRecDepth 100000
set_option maxHeartbeats 100000000
open Bool renaming and_eq_true->aw,not_eq_true'->ik,false_eq_true->jp,or_eq_true->jy,true_or->avo,true->J,false->E
open Nat renaming le_refl->b9,gcd->lq,eq_zero_or_pos->A5,mod_lt->Hj,gcd_comm->Oa,gcd_rec->ZA
open List renaming getElem?_eq_some_iff->ck,getD_eq_getElem?_getD->cz,getElem?_eq_getElem->cS,getElem?_append_left->dH,mem_cons->dP,cons_append->ez,replicate->eN,mem_append->eV,nil_append->eW,range->fw,all_eq_true->fO,length_append->gc,getElem?_append_right->iE,pairwise_cons->jq,getElem?_take->nj,pairwise_append->nU,getElem?_of_mem->tB,getElem?_drop->uC,append_assoc->A6,length_eq_zero_iff->CW,length_drop->C1,length_take->EY,foldl_cons->EZ,take_append_drop->J0,append_nil->J3,pairwise_iff_getElem->NZ,length_singleton->N0,drop_drop->N6,pairwise_singleton->aIi,length->Y
open Option renaming some->U,none->Z
open Int renaming natAbs_tmod->J4,tmod_eq_emod_of_nonneg->SE,mul_le_mul_of_nonneg_right->aiI,mul_lt_mul_of_pos_right->aIa,fdiv_eq_ediv_of_nonneg->aIc
open List.Pairwise renaming nil->xE
open List.Perm renaming refl->avm,swap->aIJ
open Go.IntKind renaming i64->I
namespace Go.Proofs.YtejplpmpldcmlaaGreatDoor.Y
open Go.RowKit
noncomputable section
variable{X:au}{W:FuncId}{V:bq}
section
variable{lt:aC->aC->Bool}{p:aC->Prop}
structure lM(lt:aC->aC->Bool)(p:aC->Prop):Prop where
 Vb:∀x,p x->lt x x=E
 tr:∀x y z,p x->p y->p z->lt x y=J->lt y z=J->lt x z=J
 nt:∀x y z,p x->p y->p z->lt x y=E->lt y z=E->lt x z=E
def lM.asym(h:lM lt p){x y:aC}(X:p x)(W:p y)(V:lt x y=J):lt y x=false:=by
 cases R:lt y x;rfl;have:=h.tr x y x X W X V R;rw[h.Vb x X] at this;cases this
def anD(h:lM lt p){x y:aC}(W:p x)(V:p y)(X:lt y x=J):∀{l:au},(∀z∈l,p z)->eC lt y (eC lt x l)=eC lt x (eC lt y l)
 |[],_=>by
  have R:=h.asym V W X;simp[eC,X,R]
 |z::r,O=>by
  have N:=O z av;have M:=anD h W V X (l:=r) (λw L=>O w (by simp[L]));have R:=h.asym V W X;cases Q:lt x z;cases P:lt y z;simp[eC,Q,P,M];simp[eC,Q,P,R];have P:lt y z=true:=h.tr y x z V W N X Q;simp[eC,Q,P,X,R]
inductive gw(lt:List RV->List RV->Bool)(l:List (List RV)):List (List RV)->Prop
 |refl:gw lt l l
 |step {P Q:List (List RV)} {x y:List RV}:lt y x=J->gw lt l (P++x::y::Q)->gw lt l (P++y::x::Q)
def gw.trans{b c:au}(W:gw lt X b)(V:gw lt b c):gw lt X c:=by
 induction V with
 |refl=>exact W
 |step h _ R=>exact .step h R
def gw.LO{b:au}(A B:au)(h:gw lt X b):gw lt (A++X++B) (A++b++B):=by
 induction h with
 |refl=>exact .refl
 | @step P Q x y h _ W=>
  have V:A++(P++x::y::Q)++B=(A++P)++x::y::(Q++B):=av;have R:A++(P++y::x::Q)++B=(A++P)++y::x::(Q++B):=av;rw[V] at W;rw[R];exact .step h W
def gw.perm{b:au}(h:gw lt X b):b.Perm X:=by
 induction h with
 |refl=>exact avm _
 |step _ _ W=>exact((aIJ _ _ _).append_left _).trans W
def gw.anE(P:au)(b:aC):∀(A Q:au),(∀a∈A,lt b a=J)->gw lt (P++A.reverse++b::Q) (P++b::(A.reverse++Q))
 |[],Q,_=>by simpa using gw.refl
 |a::A,Q,h=>by
  have X:gw lt (P++(a::A).reverse++b::Q) ((P++A.reverse)++b::a::Q):=by
   have:P++(a::A).reverse++b::Q=(P++A.reverse)++a::b::Q:=av;rw[this];exact .step (h a av) .refl
  have W:=gw.anE P b A (a::Q) (λx V=>h x (by simp[V]));have e:P++b::((a::A).reverse++Q)=P++b::(A.reverse++a::Q):=av;rw[e];exact X.trans W
def gw.one(P Q:au)(b:aC)(A:au)(h:∀a∈A,lt b a=J):gw lt (P++A++b::Q) (P++b::(A++Q)):=by
 have:=gw.anE (lt:=lt) P b A.reverse Q (λa X=>h a (by simpa using X));simpa using this
def gw.block(Q:au)(A:au):∀(B P:au),(∀a∈A,∀b∈B,lt b a=J)->gw lt (P++A++(B++Q)) (P++B++(A++Q))
 |[],P,_=>by simpa using gw.refl
 |b::B,P,h=>by
  have W:=gw.one P (B++Q) b A (λa X=>h a X b av);have V:=gw.block Q A B (P++[b]) (λa X R O=>h a X R (by simp[O]));have N:P++b::(A++(B++Q))=P++[b]++A++(B++Q):=av;have M:P++b::B++(A++Q)=P++[b]++B++(A++Q):=av;rw[N] at W;rw[M];exact W.trans V
def yk(lt:aC->aC->Bool)(acc l:au):au:=l.foldl (λacc x=>eC lt x acc) acc
def azu{acc:au}(R:∀z∈acc,p z)(Q:∀z∈X,p z):∀z∈yk lt acc X,p z:=by
 induction X generalizing acc with
 |nil=>exact R
 |cons x X W=>
  refine W (acc:=eC lt x acc) (λz V=> ?_) (λz V=>Q z (by simp[V]));have P:∀{X:au},z∈eC lt x X->z=x\/z∈X:=by
   intro X;induction X with
   |nil=>intro h;simpa[eC] using h
   |cons y r W=>
    intro h;simp only[eC] at h;split at h;simpa using h;rcases dP.1 h with h|h;exact .inr (by simp[h]);rcases W h with h|h;exact .inl h;exact .inr (by simp[h])
  rcases P V with rfl|h;exact Q _ av;exact R z h
def gw.fold(h:lM lt p){O:au}(W:gw lt X O){acc:au}(M:∀z∈X,p z)(L:∀z∈acc,p z):yk lt acc O=yk lt acc X:=by
 induction W with
 |refl=>rfl
 | @step P Q x y H W G=>
  rw[<-G];have V:=λz(R:z∈P++x::y::Q)=>M z (W.perm.mem_iff.1 R)
  have N:∀z∈yk lt acc P,p z:=azu L λz R=>V z (by simp[R])
  simp only[yk,List.foldl_append,EZ] at N⊢;rw[anD h (V x av) (V y av) H N]
def gK(lt:aC->aC->Bool)(l:au):Prop:=l.Pairwise λa b=>lt b a=E
def anF{x:aC}:∀{l:au},(∀y∈l,lt x y=E)->eC lt x l=l++[x]
 |[],_=>rfl
 |y::r,h=>by
  have X:=h y av;simp[eC,X,anF (l:=r) λz W=>h z (by simp[W])]
def azv:∀{acc:au},gK lt (acc++X)->yk lt acc X=acc++X:=by
 induction X with
 |nil=>intro acc _;simp[yk]
 |cons x X W=>
  intro acc h;have V:∀y∈acc,lt x y=false:=λy R=>(nU.1 h).2.2 y R x av
  have e:acc++x::X=(acc++[x])++X:=av;rw[e] at h⊢;rw[<-W h];simp only[yk,EZ];rw[anF V]
def Vc(h:gK lt X):bX lt X=X:=azv (acc:=[]) h
def P3{x z:aC}:∀{l:au},z∈eC lt x l->z=x\/z∈l
 |[],h=>by simpa[eC] using h
 |y::r,h=>by
  simp only[eC] at h;split at h;simpa using h;rcases dP.1 h with h|h;exact .inr (by simp[h]);rcases P3 h with h|h;exact .inl h;exact .inr (by simp[h])
def gK.ins(h:lM lt p){x:aC}(W:p x):∀{l:au},(∀z∈l,p z)->gK lt l->gK lt (eC lt x l)
 |[],_,_=>aIi _ _
 |y::r,V,Q=>by
  have P:=V y av;have R:=jq.1 Q;simp only[eC];cases O:lt x y;refine jq.2 ⟨λz X=> ?_,gK.ins h W (λz X=>V z (by simp[X])) R.2⟩;rcases P3 X with rfl|X;exact O;exact R.1 z X;refine jq.2 ⟨λz X=> ?_,Q⟩;have N:=h.asym W P O;rcases dP.1 X with rfl|X;exact N;exact h.nt z y x (V z (by simp[X])) P W (R.1 z X) N
def gK.fold(h:lM lt p):∀{acc:au},(∀z∈acc,p z)->(∀z∈X,p z)->gK lt acc->gK lt (yk lt acc X):=by
 induction X with
 |nil=>intro acc _ _ h;exact h
 |cons x X Q=>
  intro acc R V P;refine Q (acc:=eC lt x acc) (λz W=> ?_) (λz W=>V z (by simp[W])) (P.ins h (V x av) R);rcases P3 W with rfl|W;exact V _ av;exact R z W
def DR(h:lM lt p){l:au}(X:∀z∈l,p z):gK lt (bX lt l):=gK.fold h (acc:=[]) av X xE
def gw.ins(h:lM lt p){x:aC}(V:p x):∀{l:au},(∀z∈l,p z)->gK lt l->gw lt (l++[x]) (eC lt x l)
 |[],_,_=>.refl
 |y::r,W,P=>by
  have O:=W y av;have R:=jq.1 P;simp only[eC];cases Q:lt x y;have:=(gw.ins h V (l:=r) (λz X=>W z (by simp[X])) R.2).LO [y] [];simpa using this;have:=gw.one (lt:=lt) [] [] x (y::r) (λz X=>by
   rcases dP.1 X with rfl|X;exact Q;cases N:lt x z;have:=h.nt x z y V (W z (by simp[X])) O N (R.1 z X);rw[Q] at this;cases this;rfl)
  simpa using this
def gw.azw(h:lM lt p):∀{acc:au},(∀z∈acc,p z)->(∀z∈X,p z)->gK lt acc->gw lt (acc++X) (yk lt acc X):=by
 induction X with
 |nil=>intro acc _ _ _;simpa[yk] using gw.refl
 |cons x X P=>
  intro acc R V Q;have O:=(gw.ins h (V x av) R Q).LO [] X;have N:=P (acc:=eC lt x acc) (λz W=>by
   rcases P3 W with rfl|W;exact V _ av;exact R z W) (λz W=>V z (by simp[W])) (Q.ins h (V x av) R)
  have e:acc++x::X=[]++(acc++[x])++X:=av;rw[e];refine O.trans ?_;rw[eW];exact N
def gw.Vd(h:lM lt p)(W:∀z∈X,p z):gw lt X (bX lt X):=by
 exact gw.azw h (acc:=[]) av W xE
def acy(h:lM lt p){W:au}(V:∀z∈X,p z)(R:gw lt X W)(Q:gK lt W):bX lt X=W:=by
 rw[<-Vc Q];exact(R.fold h (acc:=[]) V av).symm
def Is{z:aC}(h:z∈bX lt X):z∈X:=by
 have:∀(X acc:au),z∈yk lt acc X->z∈acc\/z∈X:=by
  intro X;induction X with
  |nil=>intro acc h;exact .inl h
  |cons x X W=>
   intro acc h;rcases W (eC lt x acc) h with h|h;rcases P3 h with rfl|h;exact .inr av;exact .inl h;exact .inr (by simp[h])
 rcases this X [] h with h|h;cases h;exact h
def azx(h:lM lt p){x:aC}{W:au}(Q:∀z∈x::(X++W),p z)(N:gK lt (X++W))(O:∀y∈X,lt y x=J)(M:∀y∈W,lt y x=E):bX lt (x::(X++W))=X++x::W:=by
 refine acy h Q ?_ ?_;have:=gw.block (lt:=lt) W [x] X [] (λa V b R=>by simp at V;subst V;exact O b R);simpa using this;have P:=nU.1 N;refine nU.2 ⟨P.1,jq.2 ⟨M,P.2.1⟩,λa V b R=> ?_⟩;rcases dP.1 R with rfl|R;exact h.asym (Q a (by simp[V])) (Q b av) (O a V);exact P.2.2 a V b R
def azy(h:lM lt p){y:aC}{W:au}(R:∀z∈X++W++[y],p z)(N:gK lt (X++W))(M:∀x∈X,lt y x=E)(P:∀x∈W,lt y x=J):bX lt (X++W++[y])=X++y::W:=by
 refine acy h R ?_ ?_;have:=gw.one (lt:=lt) X [] y W P;simpa using this;have Q:=nU.1 N;refine nU.2 ⟨Q.1,jq.2 ⟨λb V=>h.asym (R y av) (R b (by simp[V])) (P b V),Q.2.1⟩,λa O b V=> ?_⟩;rcases dP.1 V with rfl|V;exact M a O;exact Q.2.2 a O b V
def azz(h:lM lt p){R Q P:au}(O:∀z∈X++R++(Q++P),p z)(D:gK lt (X++R))(B:gK lt (Q++P))(A:∀x∈X,∀y∈P,lt y x=E)(H:∀x∈R,∀y∈Q,lt y x=J):
  bX lt (X++R++(Q++P))=bX lt (X++Q)++bX lt (R++P):=by
 have w:=nU.1 D;have v:=nU.1 B;have N:∀z∈X++Q,p z:=λz M=>O z (by rcases eV.1 M with h|h<;>simp[h])
 have L:∀z∈R++P,p z:=λz M=>O z (by rcases eV.1 M with h|h<;>simp[h])
 refine acy h O ?_ ?_;have u:=gw.block (lt:=lt) P R Q X H;have G:=(gw.Vd h N).LO [] (R++P);have F:=(gw.Vd h L).LO (bX lt (X++Q)) [];simp only[eW,J3] at G F;exact(u.trans G).trans F;refine nU.2 ⟨DR h N,DR h L,λa V b W=> ?_⟩;have V:=Is V;have W:=Is W;have t:=N a V;have s:=L b W;rcases eV.1 V with V|V;rcases eV.1 W with W|W;exact w.2.2 a V b W;exact A a V b W;rcases eV.1 W with W|W;exact h.asym t s (H b W a V);exact v.2.2 a V b W
def anG(h:lM lt p){B:au}(W:∀z∈X,p z)(V:∀z∈B,p z):bX lt (bX lt X++bX lt B)=bX lt (X++B):=by
 have R:=(gw.Vd h W).LO [] B;have Q:=(gw.Vd h V).LO (bX lt X) [];simp only[eW,J3] at R Q;exact(R.trans Q).fold h (acc:=[]) (λz P=>by exact(eV.1 P).elim (W z) (V z)) av
end
section
def anH(d:Bool):∀(Q:ar)(x y z:aC),jK d Q x y=E->jK d Q y z=E->jK d Q x z=E
 |[],_,_,_,_,_=>rfl
 |c::Q,x,y,z,V,X=>by
  simp only[jK] at V X⊢;by_cases R:aI c x=aI c y;rw[aJ R] at V;by_cases W:aI c y=aI c z;rw[aJ W] at X;rw[aJ (R.trans W)];exact anH d Q x y z V X;rw[aQ W] at X;rw[aQ (by rw[R];exact W),R];exact X;rw[aQ R] at V;by_cases W:aI c y=aI c z;rw[aQ (by rw[<-W];exact R),<-W];exact V;rw[aQ W] at X;cases d;simp only[jp,gf,decide_eq_false_iff_not] at V X⊢;rw[aQ aa];simp only[decide_eq_false_iff_not];omega;simp only[cN,decide_eq_false_iff_not] at V X⊢;rw[aQ aa];simp only[decide_eq_false_iff_not];omega
def anI(d:Bool):∀(X:ar)(x:aC),jK d X x x=E
 |[],_=>rfl
 |c::X,x=>by simp[jK,anI d X x]
def anJ(d:Bool):∀(Q:ar)(x y z:aC),jK d Q x y=J->jK d Q y z=J->jK d Q x z=J
 |[],_,_,_,h,_=>by simp[jK] at h
 |c::Q,x,y,z,V,X=>by
  simp only[jK] at V X⊢;by_cases R:aI c x=aI c y;rw[aJ R] at V;by_cases W:aI c y=aI c z;rw[aJ W] at X;rw[aJ (R.trans W)];exact anJ d Q x y z V X;rw[aQ W] at X;rw[aQ (by rw[R];exact W),R];exact X;rw[aQ R] at V;by_cases W:aI c y=aI c z;rw[aQ (by rw[<-W];exact R),<-W];exact V;rw[aQ W] at X;cases d;simp only[jp,gf,cm] at V X⊢;rw[aQ aa];simp only[cm];omega;simp only[cN,cm] at V X⊢;rw[aQ aa];simp only[cm];omega
def LP(X:ar)(d:Bool):lM (bp.lex X d).lt (λx=>(bp.lex X d).ok x=J):=
 ⟨λx _=>anI d X x,λx y z _ _ _=>anJ d X x y z,λx y z _ _ _=>anH d X x y z⟩
def LQ{n d:Int}(h:gh n d=J):0<d:=by
 simp only[gh,aw,cm] at h;omega
def P4(n d:Nat):lM (bp.ratio n d).lt (λx=>(bp.ratio n d).ok x=J):=by
 refine⟨λx _=> ?_,λx y z V R Q X W=> ?_,λx y z V R Q X W=> ?_⟩;simp[bp.lt];have P:=LQ V;have N:=LQ R;have O:=LQ Q;simp only[bp.lt,cm] at X W⊢;have M:=aIa X O;have L:=aIa W P;refine Int.lt_of_mul_lt_mul_left (a:=aI d y) ?_ aa;have H:aI n x*aI d y*aI d z=aI d y*(aI n x*aI d z):=by ac_rfl
 have G:aI n y*aI d x*aI d z=aI n y*aI d z*aI d x:=by ac_rfl
 have F:aI n z*aI d y*aI d x=aI d y*(aI n z*aI d x):=by ac_rfl
 omega;have P:=LQ V;have N:=LQ R;have O:=LQ Q;simp only[bp.lt,decide_eq_false_iff_not,Int.not_lt] at X W⊢;have M:=aiI X (show 0<=aI d z from aa);have L:=aiI W (show 0<=aI d x from aa);refine Int.le_of_mul_le_mul_left (a:=aI d y) ?_ aa;have H:aI n x*aI d y*aI d z=aI d y*(aI n x*aI d z):=by ac_rfl
 have G:aI n y*aI d x*aI d z=aI n y*aI d z*aI d x:=by ac_rfl
 have F:aI n z*aI d y*aI d x=aI d y*(aI n z*aI d x):=by ac_rfl
 omega
end
section
variable{lt:aC->aC->Bool}{p:aC->Prop}
def pS(X:au){a m b:Nat}(W:a<=m)(V:m<=b):bm X a b=bm X a m++bm X m b:=by
 simp only[bm];have e:b-a=(m-a)+(b-m):=aa;rw[e,List.take_add,N6,show a+(m-a)=m from aa]
def LR(X:au){a b:Nat}(W:a<=b):X.take a++(bm X a b++X.drop b)=X:=by
 simp only[bm];have e:X.drop b=(X.drop a).drop (b-a):=by rw[N6];congr 1;omega
 rw[e,J0,J0]
def P5(X:au){a b i:Nat}(h:i<b-a):(bm X a b)[i]?=X[a+i]?:=by
 simp only[bm,nj,h,cN,uC]
def rz(X:au){a b:Nat}(h:b<=Y X):(bm X a b).length=b-a:=by simp[bm];omega
def FL{a b:Nat}{x:aC}(h:x∈bm X a b):∃i,a<=i/\i<b/\i<Y X/\X.getD i []=x:=by
 obtain⟨i,W⟩:=tB h;have V:=(ck.1 W).1;simp only[bm,EY,C1] at V;rw[P5 X aa] at W;exact⟨a+i,aa,aa,aa,by simp[cz,W]⟩
def LS{a b:Nat}(W:b<=Y X)(h:gK lt (bm X a b)){i j:Nat}(R:a<=i)(P:i<j)(Q:j<b):lt (X.getD j []) (X.getD i [])=false:=by
 have:=NZ.1 h (i-a) (j-a) (by rw[rz X W];omega) (by rw[rz X W];omega) aa;have e:∀k(V:k-a<(bm X a b).length),a<=k->k<b->(bm X a b)[k-a]=X.getD k []:=λk V O N=>by
  have q:=P5 X (a:=a) (b:=b) (i:=k-a) aa;rw[cS V,show a+(k-a)=k from aa] at q;simp[cz,<-q]
 rw[e i _ R aa,e j _ aa Q] at this;exact this
def anK:xY lt X=J<->gK lt X:=by
 induction X with
 |nil=>exact⟨λ_=>xE,λ_=>rfl⟩
 |cons x r W=>
  simp only[xY,aw,W,fO,ik,gK,jq]
def azA(h:lM lt p)(M:∀z∈X,p z){a s m e b:Nat}(L:a<=s)(H:s<=m)(G:m<=e)(F:e<=b)(v:b<=Y X)(D:gK lt (bm X a m))(B:gK lt (bm X m b))
  (A:∀i j,a<=i->i<s->e<=j->j<b->lt (X.getD j []) (X.getD i [])=E)(w:∀i j,s<=i->i<m->m<=j->j<e->lt (X.getD j []) (X.getD i [])=J):
  bX lt (bm X a b)=bX lt (bm X a s++bm X m e)++bX lt (bm X s m++bm X e b):=by
 rw[pS X (show a<=m from aa) (show m<=b from aa),pS X L H,pS X G F] at*;refine azz h (λz W=>M z ?_) D B (λx V y R=> ?_) (λx V y R=> ?_);simp only[eV] at W;rcases W with(W|W)|(W|W)<;>exact uU W;obtain⟨i,Q,P,_,rfl⟩:=FL V;obtain⟨j,O,N,_,rfl⟩:=FL R;exact A i j Q P O N;obtain⟨i,Q,P,_,rfl⟩:=FL V;obtain⟨j,O,N,_,rfl⟩:=FL R;exact w i j Q P O N
end
section
variable(a b c d:Nat)(e f g h i j k:K)(l m n:T)(o p q r s t:BE)(u v w x y:C)(z A:List RK)(B M:List C)(D P:RE)(F:List LK)(G H:LE)(N:RK)(O:BinOp)(Q:Int)(L:bp)
abbrev bC:=K.v 0
abbrev ce:=K.v 1
abbrev et:=K.v 2
abbrev fJ:=T.ret u [] z
abbrev DS:=fJ (.bool o) z
abbrev ym:=DS o []
abbrev gz:=BE.cmp .leq e f
abbrev It:=ym (gz bC et)
abbrev P6:=BE.c E
abbrev oc:=C.bool P6
abbrev jN:=fJ u []
abbrev jh:=jN oc
abbrev dp:=K.v 4
abbrev bh:=C.int I e
abbrev kW:=bh dp
abbrev cu:=K.c 1
abbrev fl:=bh cu
abbrev acz:=RK.sl 206
abbrev acA:=RK.sl 227
abbrev kw:=RK.sl 197
def mU:List RK:=[acz,acA,kw]
abbrev tX:=BE.v 0
abbrev jY:=C.bool tX
abbrev jZ:=BE.not tX
abbrev oG:=fJ oc z
abbrev qD:=oG mU
abbrev ji:=bh ce
abbrev aX:=K.c 0
abbrev aR:=bh aX
abbrev jB:=K.v 14
abbrev zX:=BE.v 1
abbrev lN:=C.bool zX
abbrev zY:=BE.not zX
abbrev gm:=bh et
abbrev lQ:=K.v 15
abbrev j5:=C.bool (.v a)
abbrev qE:=j5 2
abbrev oH:=BE.not (.v a)
abbrev BP:=oH 2
abbrev eI:=K.v 3
abbrev iT:=bh eI
abbrev od:=K.c 3
abbrev u4:=bh od
abbrev tY:=j5 3
abbrev zZ:=oH 3
abbrev iU:=gz aX e
abbrev Iu:=iU dp
abbrev FM:=K.c 10
abbrev kX:=RE.v 0
abbrev fP:=K.len kX
abbrev iH:=K.v 5
abbrev mV:=bh iH
abbrev oX:=K.c 2
abbrev yo:=bh oX
abbrev tZ:=j5 4
abbrev BQ:=oH 4
abbrev eD:=K.v 6
abbrev eJ:=bh eD
abbrev jC:=K.c 8
abbrev FN:=bh jC
abbrev Aa:=j5 5
abbrev Iv:=oH 5
abbrev cL:=K.v 7
abbrev fA:=bh cL
abbrev Ac:=j5 6
abbrev eu:=K.v 8
abbrev fD:=bh eu
abbrev FO:=j5 7
abbrev dJ:=K.v 9
abbrev j6:=bh dJ
abbrev pT:=bh jB
abbrev LU:=j5 8
abbrev gp:=K.v 10
abbrev iD:=bh gp
abbrev iA:=K.v 11
abbrev j7:=bh iA
abbrev P7:=C.agg [iD,j7]
abbrev aW:=LK.int I
abbrev oY:List LK:=[aW,aW]
abbrev oI:=K.v 16
abbrev oe:=bh oI
abbrev nL:=K.v 17
abbrev pU:=bh nL
abbrev dK:=K.v 12
abbrev iJ:=K.v 13
abbrev iK:=bh dK
abbrev pV:=bh iJ
abbrev Ve:=C.agg [iK,pV]
abbrev j8:=K.v 18
abbrev pW:=bh j8
abbrev pX:=K.v 19
abbrev oZ:=bh pX
abbrev pY:=K.v 20
abbrev sC:=bh pY
abbrev Iw:=K.v 21
abbrev u5:=bh Iw
abbrev mq:=BE.c J
abbrev DT:=C.bool mq
abbrev kY:=T.call a B [] z F u l
abbrev FP:=kY a l (.bM M) z B F
abbrev gL:=FP a l z B [u,v] F
abbrev LV:=T.aT (.cmp O e f) l m
abbrev mW:=LV e f l m .gtr
abbrev yp:=T.aT o l (mW e f m n)
abbrev DU:=BE.cmp .neq e f
abbrev gM:=DU e aX
abbrev jO:=LV e f l m .eql
abbrev wH:=jO e aX l m
abbrev jD:=T.aT o (.aT p l m) n
abbrev lR:=BE.cmp .eql e f
abbrev BR:=BE.and (lR e f) o
abbrev FQ:=BR e f (lR g h)
abbrev yq:=fJ DT z
abbrev acC:=gL 98 (yp pY aX qD qD (wH pY (jD qD (yq mU) (yq mU) (FQ dK gp iJ iA) (FQ cu dK cu iJ)) (yq mU)) (gM Iw)) sC u5 mU [Ve,.agg [fl,fl]] oY
abbrev acD:=gL 98 (yp j8 aX qD qD (wH j8 (jD qD acC acC (FQ gp gp iA iA) (FQ dK dK iJ iJ)) acC) (gM pX)) pW oZ mU [P7,Ve] oY
abbrev cT:=BE.cmp .lss e f
abbrev rB:=cT e aX
abbrev Vf:=rB bC
abbrev pZ:=bh (.c Q)
abbrev Vg:=pZ 150
abbrev mu:=fJ (.bM [u,v]) z
abbrev Vh:=mu aR Vg []
abbrev oJ:=BE.cmp .gtr e f
abbrev acG:=oJ bC jC
abbrev wI:=K.c 7
abbrev LW:=K.bin O I e f
abbrev qF:=LW e f .add
abbrev acH:=qF bC ce
abbrev qG:=C.agg [u,v,w]
abbrev Vi:=mu (qG aR aR aR) Vg mU
abbrev LX:=K.c 841
abbrev rC:=LW e f .sub
abbrev P8:=rC ce oX
abbrev ky:=rC e cu
abbrev BS:=ky bC
abbrev eX:=BE.and o (cT e f)
abbrev acJ:=eX BS jC (iU BS)
abbrev FR:=RE.v 2
abbrev FT:=K.len FR
abbrev acO:=eX BS FT (iU BS)
abbrev DV:=K.c 29
abbrev gA:=K.cell D e 0
abbrev P9:=gA BS FR
abbrev Ix:=bh (LW e f O)
abbrev mX:=Ix e f .mul
abbrev rD:=K.cell FR e a
abbrev anL:=mX DV (rD 1 BS)
abbrev Vj:=mX (.c 609) P8
abbrev BT:=K.c 20
abbrev anM:=mX BT (rD 1 BS)
abbrev Qa:=fJ (.bM [u,v,w]) z
abbrev anN:=Qa aR aR Vg mU
abbrev jk:=bh bC
abbrev yr:=mu aR (pZ 120) []
abbrev u6:=LW e f .mul
abbrev acQ:=u6 bC eI
abbrev acR:=u6 et ce
abbrev BU:=jN (pZ 120)
abbrev FU:=K.c 1073741824
abbrev LY:=K.c (-1073741824)
abbrev Qb:=LK.int .u64
abbrev qH:=jN aR
abbrev Vk:=gM eI
abbrev gV:=K.mm J e f
abbrev anO:=K.bin .rem .u64 eI (gV dp cu)
abbrev FV:=pZ (-1)
abbrev LZ:=jN fl
abbrev u7:=K.c (-1099511627776)
abbrev u9:=K.c 1099511627776
abbrev Vl:=gz bC ce
abbrev acU:=gz et eI
abbrev jx:=C.agg [u,v,w,x]
abbrev BV:=jx jk ji gm iT
abbrev Qc:=jx aR aR aR aR
abbrev BW:=mu Qc u z
abbrev oK:=BW Vg []
abbrev acY:=jx kW mV eJ fA
abbrev lT:=mu u aR z
abbrev L4:=jx u (bh e) v (bh f)
abbrev mw:=K.mm E e f
abbrev Iy:=bh (mw e f)
abbrev anP:=lT (L4 (gV ce iH) (gV eI cL) (Iy bC dp) (Iy et eD)) []
abbrev mY:List LK:=[aW,aW,aW,aW,aW]
abbrev gN:=lR e aX
abbrev Iz:=gN eu
abbrev acZ:=K.c (-2199023255552)
abbrev rE:=BW yo []
abbrev anQ:=oJ dp (.c 2199023255552)
abbrev ac0:=cT iH acZ
abbrev ac1:=oJ iH (.c 2199023255552)
abbrev ac2:=qF bC dp
abbrev Vm:=qF ce dp
abbrev Qd:=qF et iH
abbrev Vn:=qF eI iH
abbrev ac3:=L4 Vm Vn (bh ac2) (bh Qd)
abbrev cq:=T.stuck ""
abbrev Vo:=bh fP
abbrev Qe:=K.conv .u64 e
abbrev IA:=K.conv I (.bin .shr .u64 (Qe (qF et eI)) cu)
abbrev IB:=ky et
abbrev bK:=RK.sl 132
abbrev bP:=RK.sl 253
abbrev bQ:=RK.sl 255
def t6:List RK:=[bK,bP,bQ]
abbrev BX:=C.ah kX
abbrev jP:=RE.v 1
abbrev DW:=C.ah jP
abbrev Ad:=C.ah FR
abbrev Ae:=RE.v 3
abbrev DX:=C.ah Ae
abbrev wJ:=RE.v 4
abbrev IC:=C.ah wJ
abbrev nM:=C.agg [jk,ji,gm,iT,kW,BX,mV,DW,Ad,DX,IC]
abbrev Af:List C:=[nM]
abbrev bN:=RK.sl 130
abbrev aV:=RK.sl 128
def i8:List RK:=[bN,bK,bP,bQ,aV]
abbrev L5:=gN cL
abbrev Vp:=bh (ky iH)
abbrev my:=RE.v 5
abbrev og:=C.ah my
def ac4:=C.agg [og]
abbrev DY:=RE.v 6
abbrev oh:=C.ah DY
abbrev kZ:=RE.v 7
abbrev wK:=C.ah kZ
abbrev nN:=RE.v 8
abbrev Ag:=C.ah nN
abbrev oL:=RE.v 9
abbrev FW:=C.ah oL
abbrev yt:=RE.v 10
abbrev o7:=C.ah yt
abbrev p7:=RE.v 11
abbrev wL:=C.ah p7
abbrev cQ:=RK.sl 141
abbrev bB:=RK.sl 94
abbrev eU:=RK.sl 4
abbrev bL:=RK.sl 76
abbrev j9:=RK.sl 67
abbrev kb:=RK.sl 124
def tq3:=i8++[cQ]
def tq5:=tq3++[bB]
def tq6:=tq5++[eU,bL]
def DZ:=tq6++[bL,j9,kb]
abbrev ID:=RE.v 12
abbrev FX:=C.ah ID
abbrev Ah:=K.len ID
abbrev IF:=fJ u i8
abbrev Vq:=IF yo
abbrev rF:=K.len wJ
abbrev FY:=K.c 4096
abbrev anU:List C:=[jx mV DW Ad DX]
abbrev L6:=gM eD
abbrev IG:=pZ 1000
abbrev wM:=IF (pZ 190)
abbrev wN:=gM cL
abbrev vc:List C:=[aR]
abbrev o8:=cT e fP
abbrev Qf:=o8 eu
abbrev yu:=iU eu
abbrev ac5:=qF eu cu
abbrev yv:=bh ac5
abbrev jE:=T.back a [u]
abbrev L7:=jE 0 yv
abbrev Vr:=cT dJ rF
abbrev BY:=BE.and (iU dJ) o
abbrev L8:=BY Vr
abbrev FZ:=gA dJ D
abbrev Vs:=FZ wJ
abbrev qI:=K.c 1048576
abbrev vd:=K.cell wJ e a
abbrev gq:=bh (.cell D e a)
abbrev yw:=gq a dJ D
abbrev Ai:=yw a wJ
abbrev anV:List C:=[bh Vs,bh (vd 1 dJ),bh (vd 2 dJ),Ai 3,Ai 4,Ai 5,Ai 6,Ai 7,Ai 8,Ai 9,Ai 10,Ai 11,Ai 12,Ai 13]
abbrev II:=Ix e f .add
abbrev iP:=II e cu
abbrev t7:=iP dJ
abbrev Vt:=gz fP aX
abbrev mz:=gz e (.c 536870912)
abbrev Qg:=mz fP
abbrev BZ:=LE.lit []
abbrev Vu:=LE.kJ BZ (.ah kX)
abbrev F0:=RK.own 4
abbrev ac6:=RE.k (.slice Z 0 0)
abbrev dg:=C.ah ac6
abbrev mA:=RK.own 76
abbrev dS:=RK.sl 134
abbrev L9:=BE.and (iU eI) (o8 eI)
abbrev yz:=gA e kX
abbrev Qh:=yz eI
abbrev mB:=K.cell kX e a
abbrev IJ:=mB 1 eI
def mC:List RK:=[.str]
abbrev D0:=oG mC
abbrev Ma:=o8 aX
abbrev Qi:=K.nW kX aX
abbrev Mb:=o8 ce
abbrev IK:=BE.and (iU ce) o
abbrev D4:=IK Mb
abbrev vf:=K.c 5
abbrev D5:=iP ce
abbrev Mc:=jE 0 D5
abbrev vg:=gM eu
abbrev Me:=mu dg fl i8
abbrev jl:=RK.own 128
abbrev oj:=K.len my
abbrev Vv:=LE.ah my
def ac7:=i8++[jl]
def tq1:=i8++[.am]
def ac9:=tq1++[jl]
abbrev qJ:=C.bM [u,v]
abbrev ada:=qJ oh aR
def Vw:=tq1++[aV]
abbrev p8:=bh lQ
abbrev adb:List C:=[oe,fl,u4]
abbrev vj:=kY a l u z B [.bool]
abbrev ol:=vj a (.aT o l m) u z B
abbrev rG:=ol a l m o u [] B
abbrev Aj:=vj a l u [] B
abbrev anW:=rG 174 (Aj 174 (jN qE) qE adb) jh zX lN [p8,aR,FN]
abbrev Vx:=gN lQ
abbrev IL:=T.aT o l jh
abbrev anX:=IL (ym (gN oI)) Vx
abbrev adc:=jD (IL (Aj 174 (jN lN) lN adb) Vx) anX anX jZ (lR dp (.c 9))
abbrev dD:=T.aT o l (.aT p m n)
abbrev anY:=dD jh anW adc (DU jB bC) jZ
abbrev D6:=K.c 4
abbrev D7:=jO e f l (jO g h m n)
abbrev jm:=kY a l u z B [aW]
abbrev ke:=jm a (.aT o l m) u z B
abbrev sD:=BE.cmp .geq e f
abbrev anZ:=D7 bC (.c 95) bC (.c 32) (jN (bh vf)) LZ (D7 bC (.c 9) bC FM LZ LZ (jO bC (.c 13) LZ (ke 169 (jN (bh D6)) qH (sD ce aX) ji [] [.ah (.k (.string ⟨#[123,125,40,41,59,44,61,58,46,60,62,33,43,45,42,47]⟩)),.int .u8 bC])))
abbrev mZ:=LV e f l m .geq
abbrev jQ:=LV e f l m .leq
abbrev t8:=mZ e f (jQ g h l m) n
abbrev an1:=t8 bC (.c 48) bC (.c 57) (jN u4) anZ anZ
abbrev an2:=t8 bC (.c 65) bC (.c 90) (jN yo) an1 an1
abbrev Vy:=pZ 290
abbrev D8:=BW Vy []
abbrev Vz:=K.c (-1048576)
abbrev ade:=BW fl []
abbrev adf:=qF iH cu
abbrev an3:=gV aX (rC (mw eu adf) dp)
abbrev adg:List C:=[j6,iD,j7,iK]
abbrev VA:=qJ (.agg adg) pV
abbrev Mf:=gM iJ
abbrev nc:=RK.own 124
abbrev an4:=gV aX (rC (mw ac5 adf) dp)
abbrev VB:List C:=[pT,p8,oe,pU]
abbrev p9:=K.len jP
abbrev bW:=bh (.v a)
abbrev Ak:=bW 22
abbrev B3:=K.v 23
abbrev Al:=bh B3
abbrev VC:=qJ (jx oZ sC u5 Ak) Al
abbrev VD:=DU fP p9
abbrev adh:=qJ dg oc
def Qj:List RK:=[aV,dS]
def adi:List RK:=[aV,dS,jl]
abbrev VE:=bp.lex [0] E
abbrev Qk:=RK.own 226
abbrev sF:List LK:=[aW,.ah N]
abbrev F1:=sF Qk
abbrev F3:=o8 bC
abbrev oM:=BE.and (iU bC) F3
abbrev D9:=K.len Ae
abbrev adj:=cT ce D9
abbrev VF:=IK adj
abbrev Mg:=yz bC
abbrev B4:=IK (cT ce p9)
abbrev adk:=mB 10 bC
abbrev adl:=mB 11 bC
abbrev adm:=mB 12 bC
abbrev Ed:=gq a e kX
abbrev o9:=Ed a bC
abbrev an5:List C:=[bh Mg,o9 1,o9 2,o9 3,o9 4,o9 5,o9 6,o9 7,o9 8,o9 9,bh adk,bh adl,bh adm,o9 13]
abbrev ua:=K.cell jP e a
abbrev Mh:=ua 1 ce
abbrev Ql:=ua 2 ce
abbrev yA:=RK.sl 226
abbrev an6:=T.stuck ""
abbrev adn:=C.agg [jk,ji,gm,iT,kW,mV,eJ,fA,fD,j6,iD,j7,iK]
abbrev qK:=bW 29
abbrev Am:=bW 24
abbrev An:=bW 25
abbrev Ao:=bW 26
abbrev B5:=K.v 27
abbrev Ap:=bh B5
abbrev Mi:=K.v 28
abbrev qa:=bh Mi
abbrev Aq:=bW 30
abbrev IM:=gN eD
abbrev B6:=gN gp
abbrev Ar:=gN dK
abbrev pe:=u6 DV bC
abbrev VG:=u6 LX lQ
abbrev VH:=rC pe VG
abbrev VI:=qF pe VG
abbrev pf:=u6 DV ce
abbrev VJ:=rC pf VG
abbrev VK:=qF pf VG
abbrev Ee:List C:=[j7,gm]
abbrev ub:=bW 31
abbrev Mj:=bW 32
abbrev IN:=qJ ub Mj
abbrev ado:List LK:=[aW,aW,aW,aW]
abbrev F4:=K.v 33
abbrev IP:=bh F4
abbrev Ef:=K.v 34
abbrev IQ:=bh Ef
abbrev IR:=K.v 35
abbrev Ml:=bh IR
abbrev uc:=K.v 36
abbrev IS:=bh uc
abbrev Qm:=qJ (qG IP IQ Ml) IS
abbrev Mn:List C:=[j6,gm]
abbrev oo:=qF e (u6 f g)
abbrev VL:=mw VH (oo pe pX F4)
abbrev VM:=gV VI (oo pe pX F4)
abbrev VN:=mw VJ (oo pf pX Ef)
abbrev VO:=gV VK (oo pf pX Ef)
abbrev yB:=bW 37
abbrev As:=K.v 38
abbrev Qn:=bh As
abbrev Mo:=qJ yB Qn
abbrev Mp:=K.v 39
abbrev Qo:=bh Mp
abbrev sG:=K.v 40
abbrev vk:=K.v 41
abbrev Mq:=K.v 42
abbrev Qp:=bh Mq
abbrev Mr:=qJ (qG Qo (bh sG) (bh vk)) Qp
abbrev VP:=oo pe pY Mp
abbrev VQ:=oo pf pY sG
abbrev B7:=kY 114 (kY 115 l v mC M ado) u mC B oY
abbrev At:=T.aT o l (B7 m u v B M)
abbrev Eg:=lT (L4 f h (bh e) (bh g)) mC
abbrev Eh:=lT (L4 (gV g h) k (Iy e f) (Iy i j)) mC
abbrev an7:=At (Eg VL VM VN VO) (Eh VL VP VM VP VN VQ (gV VO VQ)) Ar Mo Mr Ee [yB,iK]
abbrev Ms:=oo pe pX Mp
abbrev Mt:=oo pf pX sG
abbrev Au:=bW 43
abbrev Qq:=bW 44
abbrev Mu:=qJ Au Qq
abbrev Qr:=bW 45
abbrev IT:=bW 46
abbrev Mv:=bW 47
abbrev Mw:=bW 48
abbrev Mx:=qJ (qG Qr IT Mv) Mw
abbrev vl:=oo e f (.v a)
abbrev My:=vl 45 pe pY
abbrev Mz:=vl 46 pf pY
abbrev VR:=mw VH (oo pe j8 F4)
abbrev VS:=gV VI (oo pe j8 F4)
abbrev VT:=mw VJ (oo pf j8 Ef)
abbrev VU:=gV VK (oo pf j8 Ef)
abbrev VV:=mw VR Ms
abbrev VW:=gV VS Ms
abbrev VX:=mw VT Mt
abbrev VY:=gV VU Mt
abbrev an8:=At (Eg VV VW VX VY) (Eh VV My VW My VX Mz (gV VY Mz)) Ar Mu Mx Ee [Au,iK]
abbrev MA:=vl 45 pe pX
abbrev MB:=vl 46 pf pX
abbrev Ei:=bW 49
abbrev Ej:=bW 50
abbrev adp:=qJ Ei Ej
abbrev F5:=bW 51
abbrev B8:=bW 52
abbrev B9:=bW 53
abbrev Ca:=bW 54
abbrev adq:=qJ (qG F5 B8 B9) Ca
abbrev VZ:=vl 51 pe pY
abbrev V4:=vl 52 pf pY
abbrev an9:=jD (At (Eg VR VS VT VU) (Eh VR VP VS VP VT VQ (gV VU VQ)) Ar Mo Mr Ee [yB,iK]) (B7 an8 Mo Mr Mn [yB,iD]) (B7 (At an8 (At (Eg (mw VV MA) (gV VW MA) (mw VX MB) (gV VY MB)) (Eh (mw VV MA) VZ (gV VW MA) VZ (mw VX MB) V4 (gV (gV VY MB) V4)) Ar adp adq Ee [Ei,iK]) B6 Mu Mx Mn [Au,iD]) Mo Mr [fA,gm] [yB,fD]) Iz B6
abbrev adr:=mw VR (oo pe j8 Mp)
abbrev ads:=gV VS (oo pe j8 Mp)
abbrev adt:=mw VT (oo pf j8 sG)
abbrev adu:=gV VU (oo pf j8 sG)
abbrev adv:=mw adr MA
abbrev adw:=gV ads MA
abbrev adx:=mw adt MB
abbrev ady:=gV adu MB
abbrev aoa:=At (Eg adv adw adx ady) (Eh adv VZ adw VZ adx V4 (gV ady V4)) Ar adp adq Ee [Ei,iK]
abbrev aob:=mw adv (vl 51 pe pX)
abbrev aoc:=gV adw (vl 51 pe pX)
abbrev aod:=mw adx (vl 52 pf pX)
abbrev aoe:=gV ady (vl 52 pf pX)
abbrev Cb:=bW 55
abbrev IU:=K.v 56
abbrev IW:=bh IU
abbrev IX:=bW 57
abbrev IY:=bW 58
abbrev IZ:=bW 59
abbrev I0:=bW 60
abbrev ph:=jN (pZ 260)
abbrev MC:=gN iH
abbrev Qs:=BE.not (.and o p)
abbrev adz:=Qs L5 Iz
abbrev adA:List C:=[fA,aR,FN]
abbrev adB:List C:=[fD,fl,u4]
abbrev MD:=gN dJ
abbrev V5:=Qs MD B6
abbrev V6:List C:=[j6,aR,FN]
abbrev V7:List C:=[iD,fl,u4]
abbrev Qt:=Qs (gN iA) Ar
abbrev Qu:List C:=[j7,aR,FN]
abbrev Qv:List C:=[iK,fl,u4]
abbrev yC:=Aj 71 l u B
abbrev lB:=T.aT (.not o) l m
abbrev I1:=lB l m (.v a)
abbrev ME:=rG 71 ph l o u B
abbrev aof:=T.aT Qt (yC (I1 9 ph (ME qH (oH 10) (j5 10) Qv)) (j5 9) Qu) qH
abbrev Cc:=ME (ME l p v M) o u B
abbrev aog:=T.aT Qt (Cc qH (oH 7) (oH 8) FO LU Qu Qv) qH
abbrev aoh:=T.aT V5 (Cc aof (oH 7) (oH 8) FO LU V6 V7) aog
abbrev aoi:=T.aT Qt (Cc qH Iv (oH 6) Aa Ac Qu Qv) qH
abbrev aoj:=T.aT V5 (Cc aog Iv (oH 6) Aa Ac V6 V7) aoi
abbrev aok:=T.aT adz (Cc aoh Iv (oH 6) Aa Ac adA adB) aoj
abbrev MF:=gV eu (rC aX eu)
abbrev adC:=cT et cu
abbrev vn:=jN (pZ 140)
abbrev aol:=oJ et (.c 32768)
abbrev adD:=rC aX et
abbrev aom:=DU (oo (u6 bC bC) ce ce) (u6 et et)
abbrev adF:List LK:=[aW,aW,aW]
abbrev gr:=fJ (pZ 250) mC
abbrev MG:=K.c 500
abbrev oq:=T.be mq l
abbrev pi:=oq gr
abbrev Av:=K.c 16
abbrev MH:List C:=[nM,eJ]
abbrev Ek:=RK.mr ⟨197,4,2,J,E⟩
abbrev Qw:=cT eu rF
abbrev vo:=BE.and yu Qw
abbrev V9:=vd 2 eu
abbrev adG:=ky (vd 9 eu)
abbrev MI:=vd 1 eu
abbrev jR:=T.back a [u,v]
abbrev mD:=jR 0 u v
abbrev adH:=mD yv oh
abbrev adI:=mD yv og
abbrev Qx:=RK.own 197
abbrev Wa:=sF Qx
abbrev kz:=K.len kZ
abbrev Wb:=LE.ah kZ
abbrev El:=iP gp
abbrev Qy:List C:=[nM,eJ,fA]
def Wc:=i8++[dS]
abbrev MJ:List LK:=[.ah aV,aW]
def vp:=Wc++[aV]
abbrev lC:=K.len DY
abbrev MK:=pZ 270
abbrev We:=mz lC
abbrev ML:=LE.ah DY
def aon:=vp++[jl]
abbrev sH:=cT e lC
abbrev Wf:=sH dJ
abbrev MM:=BY Wf
abbrev lW:=K.len nN
abbrev Wg:=cT gp lW
abbrev I2:=iU gp
abbrev Wh:=BE.and I2 Wg
abbrev Wi:=BE.and I2 (cT gp oj)
abbrev ld:=K.len yt
abbrev Em:=mz ld
abbrev En:=LE.ah yt
abbrev I3:=C.agg [aR,aR,aR,aR,aR,aR,aR,aR,aR,aR,aR,aR,aR]
abbrev aoo:List C:=[fD,j6,iD,j7,iK,pV,pT,p8,oe,pU,pW,oZ,sC]
abbrev Wj:=C.agg aoo
def Qz:=vp++[yA]
abbrev vq:=BE.and (iU e) o
abbrev aop:=vq B3 (cT B3 kz)
abbrev I4:List LK:=[aW,aW,aW,aW,aW,aW,aW,aW,aW,aW,aW,aW,aW,aW]
abbrev MN:=bW 61
abbrev MO:=bW 62
abbrev aoq:=C.agg [Ej,F5,B8,B9,Ca,Cb,IW,IX,IY,IZ,I0,MN,MO]
abbrev QA:=bW 63
abbrev vu:=lR e od
abbrev Cd:=vu nL
abbrev qL:=lR e D6
abbrev Ce:=qL nL
abbrev Cf:=lR nL vf
abbrev Eo:=lR nL (.c 6)
abbrev MP:=lR nL wI
abbrev MQ:=lR nL jC
abbrev MS:=lR nL (.c 9)
abbrev sI:=K.eo o e (.eo p f g)
abbrev aor:=sI aX aX (sI aX cu aX MQ MS) Eo MP
abbrev yD:=sI e f (.eo q g h) o p
abbrev Wk:=yD aX aX aX aX MP MQ MS
abbrev aos:=yD aX aX aX (.eo Eo aX Wk) Cd Ce Cf
abbrev aot:=yD jC jC jC (.eo Eo aX Wk) Cd Ce Cf
abbrev nO:=lR e cu
abbrev qM:=lR e oX
abbrev Cg:=bh (sI e f g (nO nL) (qM nL))
abbrev aou:=Cg aX aX (yD cu cu cu aor Cd Ce Cf)
abbrev aov:=Cg aX aX (sI od od (sI od aX (yD aX aX od aX MP MQ MS) Cf Eo) Cd Ce)
abbrev F6:=mu I3 fl []
abbrev Ep:=ky j8
abbrev Wl:=gN Ep
abbrev Wm:=nO Ep
abbrev Wn:=qM Ep
abbrev Wo:=vu Ep
abbrev aow:=II bC (u6 Iw F4)
abbrev aox:=II ce (u6 Iw Ef)
abbrev pj:=bh (.eo o aX e)
abbrev aoy:=C.agg [aow,aox,gm,pj eI Wl,pj dp Wl,pj iH Wm,pj eD Wm,pj cL Wn,pj eu Wn,pj dJ Wo,pj gp Wo,pj iA (qL Ep),pj dK (qL Ep)]
abbrev aoz:=C.agg [aow,aox,gm,aR,aR,aR,aR,fA,fD,j6,iD,j7,iK]
abbrev Wp:=C.agg [jk,ji,gm,qa,qK,mV,eJ,fA,fD,j6,iD,j7,iK]
abbrev Wq:=C.agg [jk,ji,gm,iT,kW,qa,qK,fA,fD,j6,iD,j7,iK]
abbrev Wr:=C.agg [jk,ji,gm,iT,kW,mV,eJ,qa,qK,j6,iD,j7,iK]
abbrev Ws:=C.agg [jk,ji,gm,iT,kW,mV,eJ,fA,fD,qa,qK,j7,iK]
abbrev Ch:=qF j8 cu
abbrev Wt:=gN Ch
abbrev Wu:=nO Ch
abbrev Wv:=qM Ch
abbrev Ww:=vu Ch
abbrev aoA:=C.agg [jk,ji,gm,iT,kW,mV,eJ,fA,fD,j6,iD,qa,qK]
abbrev MT:=Ix e f .rem
abbrev aoB:=C.agg [jk,ji,MT (qF et Iw) jC,iT,kW,mV,eJ,fA,fD,j6,iD,j7,iK]
abbrev aoC:=C.agg [jk,ji,gm,iT,kW,mV,eJ,aR,aR,aR,aR,j7,iK]
abbrev aoD:=C.agg [jk,ji,gm,aR,aR,aR,aR,fA,fD,j6,iD,j7,iK]
abbrev aoE:=C.agg [jk,ji,gm,pj eI Wt,pj dp Wt,pj iH Wu,pj eD Wu,pj cL Wv,pj eu Wv,pj dJ Ww,pj gp Ww,pj iA (qL Ch),pj dK (qL Ch)]
abbrev nP:=LV e f l m .neq
abbrev yE:=lT u []
abbrev oN:=kY a l w z [u,v] F
abbrev di:=T.be o (.be p l)
abbrev lD:=eX f g (iU e)
abbrev F7:=BE.eo o mq (.eo p mq q)
abbrev I5:=F7 o p (F7 q r (.eo s mq P6))
abbrev adJ:=ke a (mu I3 yo []) (yE v) o u [] B
abbrev wO:=gM (.v a)
abbrev wP:=adJ 35 (wO 31) ub v [u]
abbrev aoF:=T.aT (oH 7) F6 (nP B5 iJ F6 (dD (yE adn) (oN 114 (kY 317 (di (adJ 35 (gM uc) IS aoy [aoy]) (lD Ep Ep vf) (I5 Wl Wm Wn Wo (qL Ep))) (.bM [IP,IQ,Ml]) [] [ub] adF) oZ gm IN [] oY) (dD (oN 114 (kY 317 (adJ 35 (gM uc) IS aoz [aoz]) (.bM [IP,IQ,Ml]) [] [ub] adF) oZ gm IN [] oY) (dD (wP Wp Wp) (wP Wq Wq) (dD (wP Wr Wr) (wP Ws Ws) (.stuck "") Wn Wo) Wl Wm) (dD (dD (wP Wp Wp) (wP Wq Wq) (dD (wP Wr Wr) (wP Ws Ws) (.stuck "") Wv Ww) Wt Wu) (wP aoA aoA) (dD (wP aoB aoB) (wP aoC aoC) (dD (wP aoD aoD) (di (wP aoE aoE) (lD Ch Ch vf) (I5 Wt Wu Wv Ww (qL Ch))) (.stuck "") MQ MS) Eo MP) Ce Cf) (qM nL) Cd) tX (nO nL)))
abbrev QB:=T.aT tX F6 F6
abbrev QC:=fJ yo t6
abbrev io:=fJ (pZ 130) t6
abbrev Ci:=qF et cu
abbrev Cj:=yz ce
abbrev Wy:=K.c (-65536)
abbrev MU:=K.c 65536
abbrev aoG:=gz (mB 1 ce) MU
abbrev wQ:=BE.not (gz e f)
abbrev aoH:=wQ (mB 2 ce) MU
abbrev QD:=jx jk BX DW Ad
abbrev adK:=cT dp p9
abbrev adL:=gA dp jP
abbrev adM:=cT eD FT
abbrev MV:=iU eD
abbrev adN:=gA eD FR
def Ck:=tq6++[j9]
abbrev I6:=C.agg [aR,dg,dg,dg,dg,dg]
abbrev rH:=K.len oL
abbrev F8:=mu I6 (pZ 310) Ck
abbrev QE:=sH eu
abbrev F9:=BE.and yu QE
abbrev Wz:=eX eu kz yu
abbrev MW:=eX eu lW yu
abbrev sJ:List C:=[.agg B]
abbrev ud:=C.ah (.cell D e a N)
abbrev Ga:=ud a e DY .str
abbrev rI:=gq a e DY
abbrev pl:=rI a eu
abbrev adO:=sJ [Ga 0 eu,pl 1,pl 2,pl 3,pl 4,pl 5,pl 6,pl 7,pl 8,pl 9,pl 10,pl 11,pl 12,pl 13,pl 14,pl 15,pl 16]
abbrev wT:=gq a eu nN
abbrev aoI:=sJ [wT 0,wT 1,wT 2,wT 3,wT 4,wT 5,wT 6,wT 7,wT 8,wT 9,wT 10,wT 11,wT 12]
abbrev adP:=BE.not (gN iA)
abbrev ue:=RK.own 67
abbrev WA:=LK.ah nc
abbrev aoJ:List LK:=[aW,.ah mA,.ah ue,WA]
abbrev WB:List C:=[aR,dg,dg,dg]
abbrev adQ:=cT dJ kz
abbrev MX:=BY adQ
abbrev oO:=eX dJ e (iU dJ)
abbrev WC:=oO rH
abbrev adR:=ud 0 dJ oL dS
abbrev ja:=C.ah (.v a)
abbrev vw:=ja 15
abbrev sK:=RE.v 13
abbrev MY:=K.len sK
abbrev MZ:=mz MY
abbrev M0:=LE.ah sK
def tq8:=Ck++[eU,bL]
def adT:=tq8++[mA,.am,nc,dS,ue]
abbrev wU:=gq a dJ nN
abbrev WD:List C:=[wU 0,wU 1,wU 2,wU 3,wU 4,wU 5,wU 6,wU 7,wU 8,wU 9,wU 10,wU 11,wU 12]
def tq9:=tq8++[.am,.am]
def aoL:=tq9++[.am,dS]
def adU:=aoL++[.am]
abbrev aoM:List C:=[iD,j7,iK,pV,pT,p8,oe,pU,pW,oZ,sC,u5,Ak]
def adV:=tq8++[bL,.am,kb,dS,j9]
abbrev gW:=rI a dJ
abbrev aoN:=C.agg [Ga 0 dJ,gW 1,gW 2,gW 3,gW 4,gW 5,gW 6,gW 7,gW 8,gW 9,gW 10,gW 11,gW 12,gW 13,gW 14,gW 15,gW 16]
abbrev I7:=mz Ah
abbrev M1:=LE.ah ID
def WE:=tq9++[nc,dS,ue,mA]
abbrev Aw:=RE.v 14
abbrev yF:=mz (.len Aw)
abbrev wV:=LE.ah Aw
def aoO:=aoL++[ue,mA,nc]
abbrev rJ:=ja 17
abbrev I8:=RE.v 16
abbrev rK:=C.ah I8
abbrev Ax:=RE.v 18
abbrev qb:=C.ah Ax
abbrev aoP:=T.back 1 [t7,rJ,rK,qb]
abbrev aoQ:=qJ (.agg [iD,j7,iK,pV]) pT
abbrev Ay:=C.ah sK
abbrev vx:=C.ah Aw
abbrev adW:=oJ oj jC
abbrev QF:=sD eD aX
abbrev rL:=K.len p7
abbrev Gb:=BE.and yu (cT eu ld)
abbrev sL:=BY (cT dJ rL)
def aoR:=jx (yw 0 p7) (yw 1 p7) (yw 2 p7) (yw 3 p7)
abbrev WF:=jE 1 t7
abbrev yG:=iU iA
def adX:=ud 0 iA yt dS
abbrev lf:=K.len (.v a)
abbrev I9:=mz (lf a)
abbrev vy:=I9 15
abbrev qN:=LE.ah (.v a)
abbrev vz:=qN 15
def aoS:=DZ++[eU,bL]
def aoT:=aoS++[mA,.am,nc,dS,ue]
def wW:=gq a iA nN
def aoU:=C.agg [wW 0,wW 1,wW 2,wW 3,wW 4,wW 5,wW 6,wW 7,wW 8,wW 9,wW 10,wW 11,wW 12]
def aoV:=aoS++[.am,.am]
def aoW:=aoV++[.am]
def aoX:=aoW++[dS,.am]
def aoY:List C:=[iK,pV,pT,p8,oe,pU,pW,oZ,sC,u5,Ak,Al,Am]
def aoZ:=aoV++[nc,dS,ue,mA]
abbrev QG:=K.len I8
abbrev Gc:=mz QG
abbrev Es:=LE.ah I8
abbrev uf:=ja 19
abbrev sM:=ja 20
def qO:=RK.mr ⟨267,4,3,J,E⟩
def QH:=sF qO
abbrev vC:=iU dK
abbrev WG:=BE.and vC (cT dK rH)
def ao0:=eX dK (.len Aw) vC
abbrev adY:=gA dK oL
def WH:=aoW++[qO]
def QI:List LK:=[.bool,aW]
abbrev Cl:=K.len Ax
def adZ:=cT lQ Cl
def M2:=iU lQ
abbrev mE:=RE.cell D e 0 N
def Gd:=mE dK yt dS
abbrev yH:=cT e (.len D)
def WI:=vq oI (yH oI Gd)
def ao1:=WH++[aV,qO]
def WJ:=iP lQ
abbrev Az:=ja 21
def ad0:=cT jB lW
abbrev Et:=iU jB
abbrev QJ:=iP jB
def ad1:=cT lQ rH
abbrev ad2:=mz (lf 20)
def WK:=RK.sl 312
abbrev AA:=ja 22
def M3:=RK.mr ⟨3,1099511627778,1,E,E⟩
def QK:=tq3++[kb,kb,kw]
def ad3:=LK.ah (.own 312)
abbrev WL:=cT iA oj
def yI:List LK:=[aW,ad3]
abbrev QL:=iP iJ
def ao2:=eX j8 lC (iU j8)
def ao3:=jx aR (mX LX bC) aR (mX LX ce)
def ao4:=QK++[.am,Ek,.am,.am,.am,.am,.am,.am,.am,.am,.am]
def ao5:=eX j8 kz (iU j8)
def ad4:=i8++[.str]
def Ja:List RK:=[acz,acA,kw,bN,bK,bP,bQ,aV,.str,dS,aV]
def sN:=Ja++[yA]
abbrev ao6:=vq sG (cT sG rL)
abbrev Ge:=K.cell p7 sG 4
abbrev WM:=eX Ge FM (iU Ge)
abbrev WN:=eX Ge p9 (iU Ge)
abbrev WO:List LK:=[aW,.bool,.bool,.bool,.bool,.bool]
abbrev ao7:List C:=[aR,qE,tY,tZ,Aa,Ac]
abbrev ao:=RK.sl 3
abbrev WP:=yH vk (mE Ge jP ao)
abbrev WQ:=iU vk
abbrev yJ:=ky (qF (gA vk (mE Ge jP ao)) (.cell p7 sG 5))
abbrev WR:=iP vk
abbrev gO:=di (di l q r) o p
abbrev Gf:=gO l (.and o p) (.and q r) s t
abbrev Cm:=C.bool (.eo o mq (.v a))
abbrev ao8:=Gf (.back 1 [WR,Cm 7 (gN yJ),Cm 8 (nO yJ),Cm 9 (qM yJ),Cm 10 (vu yJ),Cm 11 (qL yJ)]) WQ WP WQ WP (lD yJ yJ vf) (I5 (gN yJ) (nO yJ) (qM yJ) (vu yJ) (qL yJ))
abbrev ao9:List C:=[aR,FO,LU,j5 9,j5 10,j5 11]
abbrev apa:=RE.cell jP Ge 1 ao
abbrev WS:=yH Mq apa
abbrev yK:=gA Mq apa
abbrev apb:=gO (.back 2 [iP Mq,Cm 12 (gN yK),Cm 13 (nO yK),Cm 14 (qM yK),Cm 15 (vu yK),Cm 16 (qL yK)]) (vq Mq WS) (vq Mq WS) (lD yK yK vf) (I5 (gN yK) (nO yK) (qM yK) (vu yK) (qL yK))
abbrev WT:=u6 LX B3
abbrev ad5:=cT vk vf
abbrev Gg:=LW vk oX .quo
abbrev WU:=gN vk
abbrev WV:=nO vk
abbrev WW:=qM vk
abbrev WX:=vu vk
abbrev WY:=qL vk
abbrev WZ:=jx Qp Au Qq Qr
abbrev QM:=yD (.v 26) B5 Mi aX (gN Gg) (nO Gg) (qM Gg)
abbrev W0:=u6 LX QM
abbrev W5:=jx IT Mv Mw Ei
abbrev Gh:=Ix e f .sub
abbrev apc:=gL 89 (.back 1 [WR,IT,Mv,Mw,Ei]) W5 Ej sN [WZ,L4 W0 W0 (Gh aX W0) (Gh aX W0)] mY
abbrev ad6:=sI dK jB (yD oI j8 pY aX WW WX WY) WU WV
abbrev yL:=gL a l (.agg M) u z B F
abbrev apd:=T.aT (gM ad6) (gL 114 (yL 115 (gL 89 (.back 1 [WR,B8,B9,Ca,Cb]) (jx B8 B9 Ca Cb) IW sN [WZ,jx (mX QM (.v 48)) (mX QM (.v 48)) (mX QM (.v 49)) (mX QM (.v 49))] mY) F5 sN [IT,bh ad6] [Mw,Ei,Ej] ado) IT Mv sN [bh (sI iA iJ (yD lQ nL pX aX WW WX WY) WU WV),iD] oY) (.back 1 [WR,Qp,Au,Qq,Qr])
abbrev ape:=vq IU (cT IU rL)
abbrev W6:=jx (bW 88) (bW 89) (bW 90) (bW 91)
abbrev ad7:=jx (bW 93) (bW 94) (bW 95) (bW 96)
abbrev apf:=T.aT (wO 87) (lT ad7 sN) (.back 2 [iP IU,bW 93,bW 94,bW 95,bW 96,bW 74,bW 75,bW 76,bW 77,bW 78,bW 79,bW 80,bW 81,bW 82,bW 83,bW 84,bW 85,bW 86,oc])
abbrev apg:=jx IX IY IZ I0
def ad8:=i8++[bB,dS]
def aph:=vq IR (cT IR oj)
def Jb:=RK.mr ⟨3,134,1,E,J⟩
def api:=ad8++[Jb]
abbrev W7:=BE.and MV (cT eD oj)
def W8:=RK.own 306
def apj:=vq As (cT As lW)
def QN:=gA As nN
def apk:=BE.look kZ 1 QN aX aX 4
abbrev Gi:=LE.ah p7
def M4:=gA (ky Ah) ID
def W9:=T.back 3 [bW 66,bW 67,bW 68,bW 69,bW 70,bW 71,bW 72,bW 73,bW 74,bW 75,bW 76,bW 77,bW 78,o7,FX]
def M5:=K.conv I (.bin .shr .u64 (Qe (qF eu dJ)) cu)
abbrev ug:=gq a eu wJ
abbrev apl:List C:=[ug 0,bh MI,bh V9,ug 3,ug 4,ug 5,ug 6,ug 7,ug 8,ug 9,ug 10,ug 11,ug 12,ug 13]
abbrev Xa:=C.agg apl
def Xb:=i8++[kw]
abbrev bw:=RK.own 3
abbrev Jc:=sF bw
def tq4:=Xb++[.am]
def apn:=tq4++[bw]
abbrev ad9:=cT dJ oj
abbrev aea:=bp.lex [] E
def apo:=tq4++[.am,bw]
abbrev Gj:=K.cell D dJ a
abbrev apq:=gA (Gj 1 my) oL
abbrev QO:=gV (gA (FZ my) nN) apq
abbrev Xc:=eX bC p9 (iU bC)
abbrev Jd:=jE 0 (iP bC)
abbrev Xd:=vq Ci (o8 Ci)
abbrev Gk:=T.back 0 B
abbrev aeb:=Gk [bh Ci]
abbrev Je:=iU et
abbrev M6:=BE.and Je (o8 et)
abbrev apr:=di (fJ (II (mB 1 et) (u6 (rC ce (yz et)) (mB 2 et))) t6) M6 M6
abbrev Jf:=ky ce
abbrev aps:=eX Jf fP (iU Jf)
abbrev apu:=T.aT (sD Cj bC) io (mZ (mB 1 ce) Wy (lB io (mZ (mB 2 ce) Wy (.aT aoH io Mc) io) aoG) io)
abbrev AB:=ol a l m zY lN z B
abbrev apv:=AB 140 io (.back 1 [bh Ci]) t6 [kW,fl,bh MU]
abbrev aec:=cT eI p9
abbrev apw:=lD (ky eI) (ky eI) p9
abbrev uh:=LV e f l m .lss
abbrev qc:=uh e f l (mW g h m n)
abbrev apx:=uh (ua 2 eI) aX io (qc (ua 3 eI) (ua 2 eI) (ua 3 eI) qI io io (jE 2 (iP eI)))
abbrev Co:=nP e cu l m
abbrev apy:=Co (ua 1 eI) (nP (ua 1 eI) oX io apx) apx
abbrev aed:=cT dp FT
abbrev aee:=gA dp FR
abbrev aef:=gz ce FU
abbrev aeg:=sD bC LY
abbrev aeh:=gz bC FU
abbrev sO:=sD e cu
abbrev Xe:=sO iH
abbrev aei:=gz iH oX
abbrev QP:=gz eD jC
abbrev Xf:=sO eu
abbrev aej:=BE.and L5 MD
abbrev Xg:=sO cL
abbrev aek:=gz cL od
abbrev ael:=BE.and Iz MD
abbrev yM:=jD l jh jh o p
abbrev apz:=yM (yM (yM (ym ael) Xg aek) QF QP) Xe aei
abbrev QQ:=ym (.and o p)
abbrev apA:=IL (jQ dJ jB (QQ MC (.and IM (.and L5 Iz))) jh) (sO dJ)
abbrev nf:=oG i8
abbrev QR:=o8 cL
abbrev wX:=iU cL
abbrev Gl:=BE.and wX o
abbrev Xh:=Gl QR
abbrev Gm:=iP cL
abbrev Jg:=jE 0 Gm
abbrev apB:=lD (ky eu) (ky eu) rF
abbrev sP:=ol a l m o u i8 B
abbrev apC:=sP 144 nf (sP 144 nf (sP 144 nf (sP 146 nf (sP 147 nf (jE 1 yv) Iv Aa [Xa]) BQ tZ [Xa,Vo]) zZ tY [ug 3,fl,u4]) BP qE [bh V9,aR,Vp]) zY lN [bh MI,aR,bh (ky fP)]
abbrev Jh:=K.nW kX bC
abbrev apD:=lB D0 Jd (lR Jh (.c 95))
abbrev apE:=t8 Jh (.c 48) Jh (.c 57) Jd apD apD
abbrev apF:=t8 Jh (.c 65) Jh (.c 90) Jd apE apE
abbrev lX:=T.loop a F B (.aT o l m)
abbrev Eu:=lX a l m o vc [aW]
abbrev Ji:=Eu a l (yq z) o
abbrev apG:=Ji 0 (.be oM (t8 Jh (.c 97) Jh (.c 122) Jd apF apF)) F3 mC
abbrev ui:=lB l m (gz e f)
abbrev wY:=mZ e f (ui g h l m) n
abbrev apH:=wY Qi (.c 65) Qi (.c 90) D0 apG D0
abbrev aem:=sI eI iH (yD cL dJ iA aX (qM iJ) (vu iJ) (qL iJ)) (gN iJ) (nO iJ)
abbrev aen:=sI dp eD (yD eu gp dK aX (qM iJ) (vu iJ) (qL iJ)) (gN iJ) (nO iJ)
abbrev apI:=t8 aem aX aem jC (wY aen cu aen od ph (jE 0 QL) ph) ph ph
abbrev M7:=ky dJ
def aeo:=tq1++[.am]
def apJ:=ac9++[jl]
def apK:=Vw++[jl,aV]
def tq7:=Vw++[.am,aV]
def aep:=tq7++[jl]
def apM:=aep++[jl]
def aeq:=tq7++[.am,jl,jl]
def apN:=aeq++[aV]
abbrev Jj:=mz rL
abbrev sQ:=T.be o (.new a G z A l)
abbrev rM:=sQ a l mq z A G
abbrev nQ:=sQ a l o z A (.kJ G H)
abbrev yN:=LE.lit [B]
abbrev qP:=rM a l z A (yN B)
abbrev apO:=rM 128 (sQ 128 (nQ 128 (qP 128 (nQ 128 (sQ 128 (nQ 128 (mD yv Ay) (.and Jj I7) apN [bN,bK,bP,bQ,aV,.am,aV,.am,aV,.am,jl,.am,aV,jl] Gi M1) (BY (gz dJ lC)) aeq apN (.sub ML dJ lC)) (.and (mz rH) Em) apM aeq (.ah oL) En) aep apM apl) (.and (mz kz) (mz lW)) apK aep Wb (.ah nN)) (BY (gz dJ lC)) apJ apK (.sub ML aX dJ)) ac9 apJ BZ
abbrev apP:=eX Jf D9 (iU Jf)
def apQ:List RK:=[aV,dS,.am,jl,jl]
def tq0:List RK:=[aV,dS,.am,aV]
def apS:=tq0++[jl,aV]
def tq2:=tq0++[.am,aV]
def aer:=tq2++[jl]
def apU:=aer++[jl]
def aes:=tq2++[.am,jl,jl]
def apV:=aes++[aV]
abbrev apW:=rM 128 (sQ 128 (nQ 128 (di (qP 128 (nQ 128 (sQ 128 (nQ 128 (mD (iP bC) o7) (.and (mz lW) (mz rH)) apV [aV,dS,.am,aV,.am,aV,.am,jl,.am,aV,jl] (.ah nN) (.ah oL)) (IK (gz ce D9)) aes apV (.sub (.ah Ae) ce D9)) (.and We (mz kz)) apU aes ML Wb) aer apU an5) oM oM) (.and (mz rF) (mz oj)) apS aer (.ah wJ) Vv) (IK (gz ce D9)) apQ apS (.sub (.ah Ae) aX ce)) [aV,dS,.am,jl] apQ BZ
abbrev aet:=oG [aV,dS,.am,aV]
abbrev M8:=oq aet
abbrev apX:=T.aT (gN Mh) (oq (lB aet (jE 1 D5) (gN Ql))) M8
abbrev Xi:=K.cell Ae ce 4
abbrev apY:=mZ Ql cu (oq (ui Ql od aet (jE 1 D5))) M8
abbrev aeu:=t8 Mh aX Mh jC apY M8 M8
abbrev aev:=sD bC u7
abbrev aew:=gz ce u9
abbrev Xj:=dD rE rE (jD (oq rE) (oq rE) (oq rE) (sD Qd u7) (gz Qd Vn)) ac0 ac1
abbrev Xk:=T.aT (wQ Vm u9) rE rE
abbrev Xl:=jE 0 t7
abbrev apZ:=mw (gV (rC eu dp) aX) (qF (rC iH dp) cu)
abbrev aex:=C.agg [jk,ji,gm,iT,kW,mV,eJ,fA]
abbrev nR:=nQ a l o z A G (yN B)
abbrev ap0:=nR 197 (jR 1 yv wK) We [bN,bK,bP,bQ,aV,.am,Qx] [bN,bK,bP,bQ,aV,.am,.am,Qx] [fA,fD] ML
abbrev Xm:=lD Qh Qh D9
abbrev ap1:=eX IJ D9 (iU IJ)
abbrev ap2:List C:=[Iy (gA Qh Ae) (gA IJ Ae)]
def ap3:List RK:=[kw,.am,.am,.am,bw]
abbrev ap4:=eX IJ rF (iU IJ)
abbrev dL:=RK.sl 39
abbrev dM:=RK.sl 66
def kf:=tq5++[dL,dM,ao]
abbrev pm:=oG kf
abbrev QS:=K.c 50
abbrev Xn:=cT eD kz
abbrev M9:=BE.and MV Xn
abbrev aey:=mE eD kZ ao
abbrev QT:=K.len aey
abbrev Jk:=Gk [iP eD]
abbrev aez:=cT cL lW
abbrev Na:=Gl aez
abbrev Gn:=RK.sl 69
abbrev aeA:=mE cL nN Gn
abbrev QU:=T.aT o pm l
abbrev ap5:=QU (jE 1 Gm) jZ
abbrev AC:=lX a (di l p q) m o vc [aW]
abbrev qQ:=AC 0 l m o p q
abbrev Jl:=fJ u kf
abbrev ap6:=mW oj FM pm (qQ (mW QT BT pm Jk) (AC 1 (vj 25 ap5 jY kf [.ah aeA]) (vj 26 (Jl jY) jY kf Af) aez Na Na) Xn M9 M9)
abbrev Jm:=mW e f l (mW g h m n)
abbrev ap7:=Jm kz FM oj oX pm (QU ap6 (gz oj jC)) ap6
abbrev ap8:=Jm lC BT kz od pm (QU ap7 (gz kz jC)) ap7
abbrev ap9:=Jm lW (.c 70) lC (.c 6) pm (QU ap8 (gz lC Av)) ap8
abbrev aqa:=Jm fP BT lW (.c 6) pm (jQ lW (.c 64) pm ap9) ap9
abbrev yO:=mE ce jP bL
abbrev Cp:=K.len yO
abbrev aM:=RK.sl 70
def QW:List RK:=[ao,aM,ao]
abbrev Cq:=oG QW
def QX:List RK:=[ao,aM,ao,ao,aM,ao]
abbrev Nb:=oG QX
abbrev aeB:=cT et p9
abbrev QY:=oG [Gn]
abbrev aeC:=RE.cell kX bC 1 j9
abbrev aeD:=yH ce aeC
abbrev QZ:=di (.aT q l m) o p
abbrev aqb:=T.aT (oJ fP (.c 12)) QY (qQ (mW (.len (mE bC kX eU)) BT QY (di (mW (.len aeC) BT QY (.loop 1 [aW] vc (QZ (gO (mW (.len (mE ce aeC dS)) QS QY (jE 1 D5)) oM oM (IK aeD) (IK aeD)) Jd oM oM aeD))) oM oM)) (yq [Gn]) F3 oM oM)
abbrev ot:=C.agg [jk,ji,gm,iT,kW,BX,mV,DW,Ad,DX,IC,og,oh,wK,Ag,FW]
abbrev yP:List C:=[ot]
abbrev Nc:=Gl (sH cL)
abbrev Ew:=bh MG
abbrev Xo:=Jl Ew
def Q0:=kf++[ao]
def gP:=Q0++[aM,ao]
abbrev Ex:=oG gP
abbrev Xp:=Gl (cT cL ld)
abbrev uj:=C.agg [u,v,w,x,y]
abbrev wZ:=uj o7 eJ wL FX jY
abbrev Xq:=yq gP
abbrev Ey:=yq kf
abbrev aeE:=cT eD lW
abbrev Nd:=BE.and MV aeE
abbrev Xr:=mE eD nN Gn
abbrev aeF:=cT cL QT
abbrev Gp:=Gl aeF
abbrev Ez:=gA cL aey
abbrev aeG:=yH cL Xr
abbrev Xs:=BE.and MV (cT eD rH)
abbrev aqc:=lD (ky eD) (ky eD) rH
abbrev Nf:=eX ce FT (iU ce)
abbrev aeH:=gA ce FR
abbrev aeI:=cT et Cp
abbrev Jn:=ky aeH
abbrev Cr:=AC a l m o (.and p q) r
abbrev w6:=gq a et yO
abbrev yQ:=T.aT o (di l p q) m
abbrev aqd:=Cr 0 (ke 107 Cq aeb Vk iT QW (sJ [w6 0,w6 1,w6 2,w6 3,w6 4,w6 5,w6 6,w6 7,w6 8,w6 9,w6 10,w6 11,w6 12])) (gO (wH aeH (yq QW) (mZ Jn aX (yQ (DS (gM (yz Jn)) QW) Cq (o8 Jn) (vq Jn (o8 Jn)) (vq Jn (o8 Jn))) Cq)) Nf Nf Nf Nf) aeI Je aeI (.and Je aeI)
def Xt:=i8++[eU,j9]
abbrev Cs:=LK.ah ao
abbrev Ng:=eX cL oj wX
abbrev Q1:=gA cL kZ
abbrev yR:=BE.cell D e 0
abbrev aeJ:=yR cL my
def Q2:=Xt++[ao]
abbrev aqe:=di (yQ (ke 155 (oG Q2) Jg vg fD Q2 [nM,fA,eJ,.ah (mE cL DY dS)]) Jg aeJ Nc Nc) Ng Ng
abbrev Q3:List C:=[ot,wZ]
abbrev Gq:=RK.mr ⟨3,4,1,E,E⟩
abbrev aeK:=oG [ao,Gq]
abbrev Q4:=uj dg aR dg dg oc
abbrev Xu:=gA eu yt
abbrev aeL:=gz ld aX
def Gr:=gP++[bw]
def aqf:=gP++[.am]
def AD:=aqf++[bw]
abbrev Q5:=gz rL aX
abbrev fu:=RK.own 70
def Xv:=AD++[fu]
def aeM:=AD++[.am]
def Jo:=aeM++[fu]
def Nh:=Jo++[bw]
abbrev Ni:=I9 17
abbrev Jp:=qN 17
def Jq:=Jo++[.am,bw]
def Xw:=eX cL rL wX
def Nj:=mE cL p7 bL
def aeN:=eX cL QG wX
def aeO:=Jq++[mA]
def aqg:=aeM++[.am,.am,bw,bL,fu]
abbrev Jr:=LE.ah Ax
abbrev EA:=di (.new a G z A l) o p
def aqh:=sQ 70 (EA 3 (lT (uj vx eJ sM Az jY) [bN,bK,bP,bQ,aV,cQ,bB,dL,dM,ao,ao,aM,ao,.am,ao,.am,.am,.am,.am,bL,aM,ao]) (eX cL Cl wX) (eX cL Cl wX) aqg [bN,bK,bP,bQ,aV,cQ,bB,dL,dM,ao,ao,aM,ao,.am,bw,.am,.am,.am,.am,bL,fu,bw] (.set Jr cL 0 vc)) aeN aeO aqg (.set Es cL 0 [uf])
abbrev Nk:=C.bM []
abbrev lY:=T.stuck ""
abbrev rN:=mE dJ p7 bL
abbrev Gs:=K.len rN
abbrev Xx:=oO Ah
abbrev aeP:=cT gp Gs
abbrev Q6:=ky (FZ ID)
abbrev aqi:=vq Q6 (cT Q6 ld)
abbrev w7:=gq a gp rN
abbrev aeQ:=Cr 2 (ke 35 lY (jE 2 El) adP j7 gP (sJ [w7 0,w7 1,w7 2,w7 3,w7 4,w7 5,w7 6,w7 7,w7 8,w7 9,w7 10,w7 11,w7 12])) (QZ WF (mZ Q6 aX (yQ (lB lY WF (gM (gA Q6 yt))) lY (cT Q6 ld) aqi aqi) lY) Xx Xx (nO Gs)) aeP I2 aeP (.and I2 aeP)
abbrev Ct:=cT aX Gs
abbrev aeR:=gA aX rN
abbrev AE:=BR e (.cell D f a) o
abbrev Nl:=AE a e cu (AE b f cu o P) D
abbrev Q7:=K.cell D aX a
abbrev jb:=Q7 a rN
abbrev aqj:=jO Gs oX (gO (oN 34 aeQ (.bool (.not (Nl 0 1 aeR (jb 1) (Nl 2 3 (jb 2) (jb 3) (Nl 4 5 (jb 4) (jb 5) (Nl 6 7 (jb 6) (jb 7) (Nl 8 9 (jb 8) (jb 9) (Nl 10 11 (jb 10) (jb 11) (lR (jb 12) (.cell rN cu 12)) rN rN) rN rN) rN rN) rN rN) rN rN) rN rN))) Ew Nk gP []) Ct Ct (cT cu Gs) (cT cu Gs)) (oN 34 aeQ oc Ew Nk gP [])
abbrev aeS:=mE gp nN Gn
abbrev aeT:=yH iJ aeS
abbrev Q8:=mE iJ aeS eU
abbrev Xy:=RE.cell aeS iJ 1 j9
abbrev aeU:=cT jB (.len Q8)
abbrev aeV:=gA jB yt
abbrev aqk:=lD aeV aeV (.len Q8)
abbrev aeW:=yR jB Q8
abbrev Xz:=eX jB (.len Xy) Et
abbrev aeX:=lB (jE 6 QJ) (di (jm 53 (oN 34 (jE 6 QJ) (.bool Vx) Ew Nk Q0 []) p8 Q0 [nM,pT,iD,.ah (mE jB Xy dS)]) Xz Xz) aeW
abbrev aeY:=cT iA rF
def aql:=kf++[Gq]
abbrev aqm:=lD (ky dK) (ky dK) rH
def Q9:=LK.ah bB
def XA:List LK:=[Cs,aW,.ah aM,Cs,.bool,aW]
abbrev XB:=qJ Ay fD
def XC:List C:=[ot,wZ,fl]
abbrev dY:=RK.sl 96
abbrev Js:List LK:=[Cs,aW,.ah aM,Cs,.bool,.ah dY,aW]
def Ra:=uj vw iD rK rJ lN
def aqn:=uj uf iK sM Az qE
abbrev Jt:=ja 23
abbrev Gt:=ja 24
def aqo:=uj AA pT Jt Gt tY
def Ju:=uj (ja a) u (ja b) (ja c) v
def aqp:=Ju 32 33 34 sC Ac
def aeZ:=gP++[bB,bB,ao,aM,ao,dY,ao,aM,ao,ao,aM,ao,ao,aM,ao,ao,aM,ao,dY,ao,aM,ao,dY,ao,aM,ao,dY]
abbrev jS:=RK.sl 79
abbrev ae0:List LK:=[.ah jS,aW]
abbrev aqq:=uj o7 eJ wL FX DT
def ae1:List C:=[Vy,Vy,aR,aR,aR,aR,aR,aR,aR,aR,aR,aR,aR]
def aqr:=aeZ++[ao,jS,ao,aM,ao,dY]
def aqs:=aqr++[mA]
def aqt:=aqr++[bL]
def ae2:=aqt++[fu]
def ae3:=ae2++[bw]
def Rc:=yN [fl]
def XD:=ae3++[bw]
def aqu:List C:=[Vy,pZ 348,aR,aR,aR,aR,aR,aR,aR,aR,aR,aR,aR]
def aqv:=XD++[mA]
def ae4:=XD++[bL,fu]
def ae5:=ae4++[bw]
def XF:=ae5++[bw]
def aqw:=XF++[mA]
def ae6:=XF++[bL,fu]
def ae7:=ae6++[bw]
def XG:=ae7++[bw]
def aqx:=XG++[mA]
def aqy:=XG++[bL,fu]
abbrev lZ:=cT aX MY
def aqz:=RE.k (.string ⟨#[113]⟩)
def XH:=aqt++[.am,.am,.am,bL,.am,.am,.am,bL,.am,.am,.am,bL,.am,.am]
def Cu:=RK.own 130
def Gu:=RK.own 132
def aqA:List RK:=[Cu,Gu,jl,F0,.own 134]
def aqB:List LK:=[.ah .str,aW,aW,aW,aW,aW,aW,aW,aW,aW,aW,aW,aW,aW,aW,aW,aW]
def aqC:List C:=[oh,jk,ji,gm,iT,kW,mV,eJ,fA,fD,j6,iD,j7,iK,pV,pT,p8]
def aqD:List C:=[wK,oe,pU,pW,oZ,sC,u5,Ak,Al,Am,An,Ao,Ap,qa,qK,Aq,ub]
def ae8:List RK:=[bN,bK,aV,eU,dS,j9,.str,.str,bB]
def ae9:=ae8++[ao]
def afa:=ae9++[ao]
def afb:=afa++[dL]
def afc:=afb++[Gn]
def aqE:=afc++[dM]
def XI:=kf++[fu]
def aqF:=XI++[mA]
def aqG:=XI++[bL,fu]
abbrev XJ:List C:=[ot,wZ,fA]
def vD:=gP++[jS]
def aqH:=kf++[bB]
abbrev afd:=sD ld lW
def aqI:=Jq++[bw]
def Nn:=AD++[bw]
def afe:=aeM++[bw]
def aqJ:=afe++[bw]
def aqK:=gP++[fu]
def Re:=aqf++[fu]
def XK:=Re++[bw]
def aff:=Re++[.am,bw]
def aqL:=aff++[bw]
abbrev aqM:=Qa Q4 dg Ew vD
def Jv:=vD++[bw]
def afg:=vD++[.am]
def EB:=afg++[bw]
def aqN:=EB++[fu]
def aqO:=EB++[.am]
def Rf:=aqO++[fu]
def XL:=Rf++[bw]
abbrev Rg:=mz Cl
def afh:=Rf++[.am,bw]
def aqP:=afh++[bw]
abbrev iW:=RK.own 96
abbrev Gv:List LK:=[aW,.ah iW,.ah fu,.ah bw]
abbrev aqQ:=RE.cell sK aX 1 eU
abbrev Rh:=yH dJ aqQ
abbrev Gw:=BY Rh
abbrev XM:=BE.not (yR dJ aqQ)
abbrev XN:=yN [bh ld,j6,bh ld,fA]
def aqR:=afg++[.am]
def aqS:=aqR++[.am,.am]
def aqT:=aqS++[.am,.am,bw,bw]
def aqU:=aqT++[iW,fu,bw,iW]
def aqV:=aqT++[.am]
def afi:=aqV++[fu,bw,iW,iW]
abbrev Cv:=RE.cell sK aX 3 bL
abbrev Gx:=oO (.len Cv)
abbrev Ri:=AE a e f (AE b g h o Cv) Cv
abbrev XO:=BE.not (Ri 0 1 aeR dJ (jb 1) dJ (Ri 2 3 (jb 2) dJ (jb 3) dJ (Ri 4 5 (jb 4) dJ (jb 5) dJ (Ri 6 7 (jb 6) dJ (jb 7) dJ (Ri 8 9 (jb 8) dJ (jb 9) dJ (BR (jb 10) (Gj 10 Cv) (FQ (jb 11) (Gj 11 Cv) (jb 12) (Gj 12 Cv))))))))
abbrev Cw:=yw a Cv
abbrev XP:=LE.lit [[bh aeR,bh (jb 1),bh (jb 2),bh (jb 3),bh (jb 4),bh (jb 5),bh (jb 6),bh (jb 7),bh (jb 8),bh (jb 9),bh (jb 10),bh (jb 11),bh (jb 12)],[Cw 0,Cw 1,Cw 2,Cw 3,Cw 4,Cw 5,Cw 6,Cw 7,Cw 8,Cw 9,bh (Gj 10 Cv),bh (Gj 11 Cv),bh (Gj 12 Cv)]]
def aqW:=afi++[mA]
def aqX:=aqV++[.am,bw,iW,iW,bL,fu]
abbrev XQ:List C:=[II cu ld]
def aqY:=aqS++[bw,bw]
def aqZ:=aqY++[iW,fu,bw,iW]
def aq0:=aqY++[.am]
def afj:=aq0++[fu,bw,iW,iW]
def aq1:=afj++[mA]
def aq2:=aq0++[.am,bw,iW,iW,bL,fu]
abbrev yS:=Gk [t7,u,v,w]
abbrev Gy:=LE.set G dJ 0 B
abbrev yT:=Qa (uj u eJ v w jY) x aR z
abbrev afk:=yQ (.aT XM (yS sM Az AA) (rM 96 (nQ 96 (gO (gO (yQ (.new 76 XP afj aq1 (sQ 70 (EA 3 (yS Gt (ja 26) (ja 27)) (oO (lf 22)) (oO (lf 22)) aq2 [bN,bK,bP,bQ,aV,cQ,bB,dL,dM,ao,ao,aM,ao,jS,.am,.am,.am,.am,bw,bw,.am,.am,.am,iW,iW,bL,fu,bw] (Gy XQ (qN 22))) (oO (lf 21)) aq1 aq2 (Gy [ja 25] (qN 21)))) (yS Gt Az AA) XO (oO (lf 21)) mq) lZ lZ Gx Gx) sL sL Ct Ct) (.and ad2 (mz (lf 23))) aqZ afj (qN 20) (qN 23)) [bN,bK,bP,bQ,aV,cQ,bB,dL,dM,ao,ao,aM,ao,jS,.am,.am,.am,.am,bw,bw,iW,fu,bw] aqZ XN)) (yT uf Az AA sM [bN,bK,bP,bQ,aV,cQ,bB,dL,dM,ao,ao,aM,ao,jS,.am,.am,.am,.am,ao,ao,dY,aM,ao]) Rh Gw Gw
def No:=EB++[bw]
def afl:=aqO++[bw]
def aq3:=afl++[bw]
def aq4:=aqR++[bw,bw]
def aq5:=aq4++[iW,fu,bw,iW]
def aq6:=aq4++[.am]
def afm:=aq6++[fu,bw,iW,iW]
def aq7:=afm++[mA]
def aq8:=aq6++[.am,bw,iW,iW,bL,fu]
abbrev afn:=yQ (.aT XM (yS qb uf sM) (rM 96 (nQ 96 (gO (gO (yQ (.new 76 XP afm aq7 (sQ 70 (EA 3 (yS AA Gt (ja 25)) (oO (lf 20)) (oO (lf 20)) aq8 [bN,bK,bP,bQ,aV,cQ,bB,dL,dM,ao,ao,aM,ao,jS,.am,.am,bw,bw,.am,.am,.am,iW,iW,bL,fu,bw] (Gy XQ (qN 20))) (oO (lf 19)) aq7 aq8 (Gy [Jt] (qN 19)))) (yS AA uf sM) XO (oO (lf 19)) mq) lZ lZ Gx Gx) sL sL Ct Ct) (.and Rg (mz (lf 21))) aq5 afm Jr (qN 21)) [bN,bK,bP,bQ,aV,cQ,bB,dL,dM,ao,ao,aM,ao,jS,.am,.am,bw,bw,iW,fu,bw] aq5 XN)) (yT rJ uf sM qb [bN,bK,bP,bQ,aV,cQ,bB,dL,dM,ao,ao,aM,ao,jS,.am,.am,ao,ao,dY,aM,ao]) Rh Gw Gw
def aq9:=vD++[fu]
def Rj:=afg++[fu]
def XR:=Rj++[bw]
def afo:=Rj++[.am,bw]
def ara:=afo++[bw]
def arb:=Jv++[bw]
def arc:=arb++[iW,fu,bw,iW]
def ard:=arb++[.am]
def afp:=ard++[fu,bw,iW,iW]
def are:=afp++[mA]
def arf:=ard++[.am,bw,iW,iW,bL,fu]
abbrev afq:=cT dJ MY
abbrev XS:=BY afq
def afr:=cT cL MY
abbrev afs:=fJ fl gP
abbrev XT:=eX ld lW (iU ld)
abbrev afu:=mE ld nN Gn
abbrev Rk:=RK.mr ⟨3,3,1,E,E⟩
abbrev afv:=cT gp MY
abbrev arh:=lD (ky cL) (ky cL) (.len afu)
abbrev ari:=mE (ky cL) afu eU
abbrev arj:=eX gp (.len ari) I2
def ark:=gP++[ao]
def arl:=ark++[Rk]
def arm:=arl++[F0]
def arn:=arl++[.am,F0]
abbrev afw:=uj Ay j6 vx vw tZ
def XU:=ark++[aM,ao,dY]
def afx:=XU++[bw]
def afy:=afx++[fu]
def aro:=afy++[bw]
def arp:=XU++[.am]
def arq:=arp++[aM,ao,ao]
abbrev XW:=oG arq
def ars:=arp++[.am,.am,.am]
abbrev uk:=AE b (.cell D e a) f o P
abbrev nS:=T.loop a F B (uh e f l m)
abbrev Np:=T.gF mq o l m
abbrev sS:=T.aT o cq l
abbrev AF:=C.bool (.cell D e a)
abbrev ul:=C.int .u64 e
abbrev EC:=lX a l m o [aR,dg] F
abbrev rO:=gq a B3 kZ
abbrev rP:=gq a IU p7
def sT:=rI a lQ
def sU:=gq a IR my
abbrev ED:=T.aT o (mu u v z) l
abbrev yU:=EC a (di l p q) m o F
def sW:=rI a jB
abbrev EE:=Np (rM a l z A BZ) m o
abbrev Jw:=jQ e f (jQ g h l io) io
abbrev AG:=nQ 3 l (.and o p) z A G H
def sZ:=rI a dK
def s4:=rI a iA
abbrev s5:=rI a cL
abbrev s6:=rI a Ez
abbrev vE:=rI a M7
abbrev um:=nP e aX l m
def w8:=gq a cu Nj
def xe:=gq a lQ oL
def xf:=yw a oL
def xg:=gq a aX Nj
abbrev vF:=fJ aR z
def xj:=gq a jB nN
def xk:=gq a dK nN
def xl:=gq a As nN
abbrev vG:=lX a l m o [aR,u] F
abbrev Jx:=di (.loop a F B l) o p
abbrev Nq:=T.ac N (.ins G a B) z l
abbrev AH:=rM 3 l z A (yN vc)
abbrev AI:=gq a e jP
def Cx:=dD cq cq l o p
abbrev Nr:=T.eE a b c L E D z l
def Ns:=T.aT o l cq
abbrev afz:=di (oq l) mq mq
def Rl:=uk a b dK e (uk c d dK f o oL Aw) oL Aw
abbrev AJ:=ol a l m o jY z B
abbrev Rm:=uk a b aX e (uk c d aX f o yO yO) yO yO
abbrev xo:=lR e fP
abbrev Gz:=gq a eD my
abbrev Cy:=nQ 3 l o z A BZ G
abbrev AK:=jm a l u [] B
abbrev GA:=gq a iA my
abbrev Jy:=qc e cu f g l m (afz n)
abbrev GB:=mW e aX l m
abbrev GC:=rM 3 l z A (yN [fA])
abbrev EF:=EE a l m (gz Ah aX) z A
abbrev EG:=nQ 3 l (.and o I7) z A G M1
def T82:T:=mZ bC ce It jh
def Ro:T:=AJ 55 qD (AB 55 qD (ol 55 qD (ol 55 qD (di (ol 97 qD (ol 97 qD (ol 97 qD (ol 97 qD (ol 97 qD (gL 98 (yp oI aX qD qD (jD (.aT (FQ gp dK iA iJ) qD acD) acD acD (gN oI) (FQ aX gp cu iA)) (gM nL)) oe pU mU [.agg [aR,fl],P7] oY) (oH 8) LU mU [j6,AF 2 dp kX,fl,pT]) (oH 7) FO mU [fD,.bool (oJ (mB 5 dp) aX),fl,Ed 5 dp]) (oH 6) Ac mU [fA,.bool (oJ (mB 4 dp) aX),fl,Ed 4 dp]) Iv Aa mU [eJ,AF 1 dp kX,Ed 3 dp,FN]) BQ tZ mU [mV,AF 0 dp kX,fl,yo]) (eX dp FM Iu) (eX dp fP Iu)) zZ tY mU [iT,fl,u4]) BP qE mU [gm,aR,Gh lQ cu]) mU [ji,aR,Gh jB cu]) jZ mU [kW,fl,bh (.c 9)]
def afB:T:=jQ ce bC It jh
def afC:T:=dD Vh Vh (yp ce wI Vh Vh (yp acH jC (yE aR) (yE (Gh acH jC)) (yE (bh acH)) (gN bC)) (rB ce)) Vf acG
def XX:T:=dD Vi Vi (yp ce od Vi Vi (.aT (gN bC) (lT (qG aR aR (mX LX P8)) mU) (di (dD (.aT (gN P8) (oq (lT (qG (mX DV P9) anL Vj) mU)) (oq (lT (qG (mX DV P9) anM Vj) mU))) (oq (lT (qG (mX BT P9) anL Vj) mU)) (oq (lT (qG (mX BT P9) anM Vj) mU)) (gN P8) (gN P8)) acJ acO)) (cT ce cu)) Vf acG
def afD:T:=dD anN anN (gO (Qa (bh P9) (bh (rD 1 BS)) aR mU) acJ acO acJ acO) (cT bC cu) acG
def XY:T:=AK 139 (um dp yr (ke 139 yr (AK 133 (yE eJ) eJ [bh acQ,bh acR]) (gM iH) mV [] (sJ [gm,iT]))) kW (sJ [jk,ji])
def XZ:T:=yp ce FU BU BU (qc bC LY bC FU BU BU (kY 178 (oN 177 (Co eI BU qH) (ul et) (ul (Qe ce)) (ul eI) [] [Qb]) (ul et) [] [jk] [Qb])) (cT ce cu)
def X0:T:=.aT Vf (jN (ul (.bin .sub .u64 aX (Qe bC)))) (jN (ul (Qe bC)))
def X1:T:=wH ce (jN (ul bC)) (lX 0 (.be (gM (gV dp cu)) (wH anO (jN (ul dp)) (Gk [ul eI,ul dp,ul anO]))) (jN (ul et)) Vk [ul ce,ul bC,ul ce] [Qb,Qb,Qb])
def X2:T:=Aj 173 (Aj 173 (dD (.aT zX qH (jN FV)) LZ (qc bC ce bC ce (jN FV) LZ qH) tX zX) lN [ji]) jY [jk]
def X3:T:=ym (DU bC bC)
def T66:T:=qc bC u7 bC u9 jh jh (qc ce u7 ce u9 jh jh (qc et u7 et u9 jh jh (qc eI u7 eI u9 jh jh (IL (ym acU) Vl))))
def T72:T:=rG 126 oK (rG 126 oK anP zY lN [acY]) jZ jY [BV]
def T69:T:=gL 89 (ym Iz) acY fD [] [BV,BV] mY
def afH:T:=Aj 126 (dD oK rE (dD rE rE (.aT ac1 rE (rG 126 rE (yE ac3) zY lN [ac3])) anQ ac0) jZ (cT dp acZ)) jY [BV]
def T24:T:=rG 126 cq (rG 126 cq (t8 bC dp ce iH (mZ et eD (yE (.bool (gz eI cL))) cq) cq cq) zY lN [acY]) jZ jY [BV]
def afI:T:=.aT jZ (ym (gN bC)) (Aj 55 (jN lN) lN [jk,ji,gm])
def X4:T:=nS 0 et eI (di (lB (mD (iP IA) iT) (mD gm (bh IA)) (oJ (yz IA) ce)) (lD IA IA fP) (lD IA IA fP)) (di (.be (lD IB IB fP) (fJ (II (mB 1 IB) (u6 (rC ce (yz IB)) (mB 2 IB))) t6)) mq (lD IB IB fP)) [aR,Vo] oY
def T70:T:=jQ ce bC It jh
def T65:T:=ke 24 (sP 87 (IF fl) (IF fA) jZ jY [eJ,aR,Vp]) (IF fA) L5 fA i8 Af
def T18:T:=gL 109 (ED cq L5 (.bool (gN Ah)) fA [bN,bK,bP,bQ,aV,cQ,bB,eU,bL,bL,j9,kb,.sl 275]) FX fA DZ [nM,ac4,oh,.agg [eJ,wK,Ag,FW,o7,wL]] [.ah (.sl 275),aW]
def X5:T:=dD Vq Vq (ke 54 (IF eJ) (sP 55 wM (sP 55 wM (jm 56 (dD wM wM (dD wM wM (Cr 0 (sP 55 wM (sP 55 wM (sP 55 wM L7 BQ tZ [Ed 3 eu,aR,bh wI]) zZ tY [Ed 2 eu,aR,ji]) BP qE [Ed 1 eu,aR,jk]) (vG 1 (di (jQ Vs gp wM (mW Vs qI wM (sP 57 wM (jR 1 t7 (bh Vs)) BP qE [.agg anV,Vo,mV]))) L8 L8) (vF i8) Vr FV oY) Qf yu Qf (.and yu Qf)) (rB eI) (gN fP)) wN (rB et)) fA i8 [qG gm iT kW]) zY lN [ji,fl,IG]) jZ jY [jk,fl,IG]) L6 eJ i8 anU) (oJ fP (.c 64)) (oJ rF FY)
def T86:T:=Np (sQ 4 (fJ DW [eU,eU]) Qg [eU] [eU,F0] Vu) (fJ dg [eU]) Vt
def T87:T:=Np (sQ 76 (fJ DW [bL,bL]) Qg [bL] [bL,mA] Vu) (fJ dg [bL]) Vt
def T88:T:=Np (sQ 134 (fJ DW [dS,dS]) Qg [dS] [dS,.own 134] Vu) (fJ dg [dS]) Vt
def ary:T:=jm 231 (DS (sD eI aX) [dS]) iT [dS] [BX,jx jk ji gm jY]
def arz:T:=qQ (Ns (fJ iT [dS]) (BR bC Qh (BR ce IJ (AE 2 et eI (.beq tX (.cell kX eI 3)) kX)))) cq (o8 eI) L9 L9
def X6:T:=dD D0 D0 (.be Ma (jm 118 (nP bC oX D0 (Ji 0 (.be D4 (jm 118 (nP et oX (nP et od (nP et vf D0 Mc) Mc) Mc) gm mC [.int .u8 (.nW kX ce)])) Mb mC)) jk mC [.int .u8 Qi])) (.seq kX (.k (.string ⟨#[]⟩))) (oJ fP (.c 32))
def T77:T:=ke 24 (mu dg fD i8) (sP 55 Me (sP 55 Me (yU 0 (jO (vd 1 dJ) eD (jO (vd 2 dJ) cL (nR 128 (mD t7 oh) (mz oj) ac7 ac9 anV Vv) (mD t7 og)) (mD t7 og)) (.eE 128 129 128 (.ratio 10 11) J my ac7 (fJ ada Vw)) Vr L8 L8 (sF jl)) zY lN [fA,aR,Vp]) jZ jY [eJ,aR,bh (ky fP)]) vg fD i8 Af
def X7:T:=dD anY anY (dD jh (.aT (lR dp vf) anW adc) adc (DU jB bC) jZ) (vu dp) (qL dp)
def afM:T:=mZ bC ce It jh
def X8:T:=t8 bC (.c 97) bC (.c 122) (jN yo) an2 an2
def Nt:T:=Aj 86 (dD D8 (lB D8 (mZ iH FY D8 (jQ Vz eD (ui eD qI D8 (jQ Vz cL (dD D8 (ui eu (.c 4095) ade (kY 116 (.aT Mf rE (nR 124 (kY 116 (ED (nR 124 (gO (oN 89 (fJ VC [.am,kb]) (jx (AI 0 aX) (AI 1 aX) (AI 2 aX) (AI 3 aX)) (jx (AI 0 cu) (AI 1 cu) (AI 2 cu) (AI 3 cu)) VC [.am,.am] mY) (cT aX p9) (cT aX p9) (cT cu p9) (cT cu p9)) Qg [nc] [.am,nc] VB (.ah kX)) (gM j8) Qc yo [kb]) (qJ (.agg VB) pW) [.am] [BV,mX an4 eD,mX an4 cL] mY) mq [] [nc] adg BZ)) VA [] [BV,mX an3 eD,mX an3 cL] mY)) ade (wQ cL qI) yu) D8)) D8)) (gz dp iH)) D8 jZ Iu) jY [BV]
def X9:T:=.aT VD (fJ adh Qj) (Np (sQ 128 (Nr 131 132 128 (yU 0 (vG 1 (di (jO (gA ce Ae) Mg (di (AJ 134 (di (nR 226 (mD (iP bC) oh) (mz oj) [aV,dS,.am,jl,.am,Qk] [aV,dS,.am,jl,.am,.am,Qk] [bh Mg,o9 1,o9 2,o9 3,o9 4,o9 5,o9 6,o9 7,o9 8,o9 9,bh adk,bh adl,bh adm,o9 13,AI 0 ce,bh Mh,bh Ql,AF 3 ce jP] Vv) B4 B4) (jR 1 D5 og) tX [aV,dS,.am,.am,.am,.am] [.agg an5,jx (AI 0 ce) (bh Mh) (bh Ql) (AF 3 ce jP)]) B4 B4) (jR 1 D5 og)) VF VF) (fJ adh [aV,dS,.am,aV,.am,yA]) adj IC F1) (mu IC DT [aV,dS,.am,aV,yA]) F3 oM oM F1) adi FR VE) Qg Qj adi Vu) (Nr 131 132 128 (yU 0 (vG 1 an6 (fJ adh [aV,dS,aV,.am,yA]) (rB ce) DX F1) (mu DX DT [aV,dS,aV,yA]) F3 oM oM F1) Qj ac6 VE) Vt)
def T27:T:=jm 35 (um (.v 29) (BW qK mC) (jm 49 (dD (BW Aq mC) (jD (jD (Eg VH VI VJ VK) (B7 (Eh VH (oo pe pY F4) VI (oo pe pY F4) VJ (oo pf pY Ef) (gV VK (oo pf pY Ef))) IN Qm Ee [ub,iK]) (B7 an7 IN Qm Mn [ub,iD]) B6 Ar) (B7 (At an7 (At (Eg (mw VL Ms) (gV VM Ms) (mw VN Mt) (gV VO Mt)) (Eh (mw VL Ms) My (gV VM Ms) My (mw VN Mt) Mz (gV (gV VO Mt) Mz)) Ar Mu Mx Ee [Au,iK]) B6 Mo Mr Mn [yB,iD]) IN Qm [fA,gm] [ub,fD]) (B7 an9 IN Qm [mV,gm] [ub,eJ]) IM Iz) (B7 (At an9 (jD (At (Eg adr ads adt adu) (Eh adr My ads My adt Mz (gV adu Mz)) Ar Mu Mx Ee [Au,iK]) (B7 aoa Mu Mx Mn [Au,iD]) (B7 (At aoa (.aT Ar (Eg aob aoc aod aoe) (gL 114 (yL 115 (Eh aob (vl 57 pe pY) aoc (vl 57 pe pY) aod (vl 58 pf pY) (gV aoe (vl 58 pf pY))) I0 mC [Cb,iK] [IX,IY,IZ] ado) Cb IW mC Ee oY)) B6 adp adq Mn [Ei,iD]) Mu Mx [fA,gm] [Au,fD]) Iz B6) IM Mo Mr [mV,gm] [yB,eJ]) IN Qm [iT,gm] [ub,kW]) (wO 30) (gN dp)) Aq mC (sJ [BX,pV,pT,p8,oe,pU,pW,oZ,sC,u5,Ak,Al,Am,An,Ao,Ap,qa]))) qK mC [adn]
def Rp:T:=Cc (yC (dD ph (ME (yC (dD ph (ME (yC (dD ph (ME (yC (dD ph (yC (I1 9 ph (yC (dD ph (yC (I1 11 ph (yC (I1 12 ph qH) (j5 12) Qv)) (j5 11) Qu) qH (oH 10) Qt) (j5 10) V7)) (j5 9) V6) aof (oH 8) V5) LU adB) (oH 7) FO adA) aoh (oH 6) adz) Ac [eJ,fl,u4]) Iv Aa [mV,aR,FN]) aok BQ (Qs MC IM)) tZ [kW,fl,u4]) zZ tY [iT,aR,FN]) (dD (Cc aok zZ BQ tY tZ [mV,aR,FN] [eJ,fl,u4]) (Cc aoj zZ BQ tY tZ adA adB) (dD (Cc aoi zZ BQ tY tZ V6 V7) (Cc qH zZ BQ tY tZ Qu Qv) qH V5 Qt) (Qs MC IM) adz) BP (.not (BR eI aX (gN dp)))) qE [gm,aR,bh wI]) jZ zY jY lN [jk,bh LY,bh FU] [ji,bh LY,bh FU]
def Ya:T:=lX 0 (.be Vk (mD (MT dp eI) iT)) (lX 1 (.be (gM iH) (jR 1 (MT eD iH) mV)) (lX 2 (.be wN (jR 2 (MT eu cL) fA)) (di (.be (gM MF) (jN (qG (Ix bC MF .quo) (Ix ce MF .quo) (Ix et MF .quo)))) (gM MF) (gM MF)) wN [gm,eJ] oY) (gM iH) [ji,kW] oY) Vk [jk,aR] oY
def Yb:T:=dD vn vn (qc (mw bC ce) adD (gV bC ce) et vn vn (.aT aom vn (kY 96 (lB vn qH (BR eI bC (FQ dp ce iH et))) (qG iT kW mV) [] [qG jk ji gm] adF))) adC aol
def Rq:T:=vj 83 (dD gr gr (mW bC MG gr (yp et D6 gr gr (qc iH cu iH jC gr gr (qc eD cu eD jC gr gr (yp cL jC gr gr (qc lQ aX lQ qI gr gr (di (Jy iA iA od pi pi (Jy dK dK od pi pi (Jy iJ iJ od pi pi (Jy eu eu qI pi pi (Jy dJ dJ qI pi pi (Jy gp gp qI pi pi (Jy eI eI Av pi pi (yp dp Av pi pi (afz (yp ce MG pi pi (afz (qc jB aX jB qI pi pi (oq (vF mC)))) (rB ce))) (rB dp))))))))) mq mq)) (cT cL cu)))) adC)) jZ (cT bC cu)) jY mC [BX]
def T23:T:=ke 127 (mu dg fA i8) (yU 0 (jO V9 eD (jO (vd 4 eu) wI (nP adG MI (Nq 2 adH [bN,bK,bP,bQ,aV,Ek] [Iy MI adG,bh (gV MI adG),DT] Vv Ek) adI) adI) adI) (EC 1 (nS 2 gp fP (.aT (.look my 2 dJ gp aX 2) (nR 197 (jR 2 El Ag) (mz kz) [bN,bK,bP,bQ,aV,Ek,.am,Qx] [bN,bK,bP,bQ,aV,Ek,.am,.am,Qx] [j6,iD] Wb) (jR 2 El wK)) (jR 1 t7 wK) [aR,oh] Wa) (fJ ada [bN,bK,bP,bQ,aV,Ek,kw]) (o8 dJ) Wa) Qw vo vo (sF Ek)) wN fA i8 MH
def Ru:T:=gL 92 (.aT vg (fJ fD vp) (nP lC oj (fJ MK vp) (Np (nQ 128 (Nr 131 132 128 (yU 0 (vG 1 (di (jO (gA gp nN) (FZ DY) (di (AJ 134 (di (nR 226 (mD t7 wL) Em [bN,bK,bP,bQ,aV,dS,aV,.am,jl,.am,Qk] [bN,bK,bP,bQ,aV,dS,aV,.am,jl,.am,.am,Qk] [gW 0,gW 1,gW 2,gW 3,gW 4,gW 5,gW 6,gW 7,gW 8,gW 9,gW 10,gW 11,gW 12,gW 13,gq 0 gp my,gq 1 gp my,gq 2 gp my,AF 3 gp my] En) Wi Wi) (jR 1 El o7) tX [bN,bK,bP,bQ,aV,dS,aV,.am,.am,.am,.am] [.agg [gW 0,gW 1,gW 2,gW 3,gW 4,gW 5,gW 6,gW 7,gW 8,gW 9,gW 10,gW 11,gW 12,gW 13],jx (gq 0 gp my) (gq 1 gp my) (gq 2 gp my) (AF 3 gp my)]) Wi Wi) (jR 1 El o7)) Wh Wh) (fJ MK [bN,bK,bP,bQ,aV,dS,aV,.am,aV,.am,yA]) Wg FW F1) (vF [bN,bK,bP,bQ,aV,dS,aV,.am,aV,yA]) Wf MM MM F1) aon kZ VE) We vp aon BZ ML) (Nr 131 132 128 (yU 0 (vG 1 an6 (fJ MK [bN,bK,bP,bQ,aV,dS,aV,aV,.am,yA]) (rB gp) Ag F1) (vF [bN,bK,bP,bQ,aV,dS,aV,aV,yA]) Wf MM MM F1) vp ac6 VE) (gz lC aX)))) oh fD Wc Qy MJ
def T89:T:=gL 92 (ED (jm 35 (um (.v 22) (mu I3 Ak vp) (gL 93 (ED (lX 0 (di (gL 165 (dD (mu I3 QA Qz) (lT aoq Qz) (Gk [iP B3,Ej,F5,B8,B9,Ca,Cb,IW,IX,IY,IZ,I0,MN,MO,Ej,F5,B8,B9,Ca,Cb,IW,IX,IY,IZ,I0,MN,MO]) (wO 63) (wO 63)) aoq QA Qz [.agg [yB,Qn,Qo,bh sG,bh vk,Qp,Au,Qq,Qr,IT,Mv,Mw,Ei],.agg [rO 0,rO 1,rO 2,rO 3,rO 4,rO 5,rO 6,rO 7,rO 8,rO 9,rO 10,rO 11,rO 12,rO 13],jx (rO 14) (rO 15) (rO 16) (AF 17 B3 kZ)] I4) aop aop) (lT (.agg [Am,An,Ao,Ap,qa,qK,Aq,ub,Mj,IP,IQ,Ml,IS]) Qz) (cT B3 kz) [aR,fD,j6,iD,j7,iK,pV,pT,p8,oe,pU,pW,oZ,sC,fD,j6,iD,j7,iK,pV,pT,p8,oe,pU,pW,oZ,sC] [aW,aW,aW,aW,aW,aW,aW,aW,aW,aW,aW,aW,aW,aW,aW,aW,aW,aW,aW,aW,aW,aW,aW,aW,aW,aW,aW]) jZ I3 MK Qz) wK jY vp [oh,og] [.ah yA,.bool])) Ak vp [Wj]) (gM Iw) I3 u5 vp) oh u5 Wc Qy MJ
def Yc:T:=AK 35 (dD (mu I3 Aq []) (rG 71 (rG 71 (rG 71 (rG 71 (yC (dD (.aT (.v 5) (rG 71 (yC aoF FO [qK,aR,aR]) F6 (.v 6) Ac [qa,aR,aR]) F6) (rG 71 (yC aoF FO [qK,aou,aov]) F6 (.v 6) Ac [qa,Cg aX aX aos,Cg aX aX aot]) F6 tX (.v 5)) Aa [u5,Cg cu cu (sI aX aX (sI aX cu Wk Cf Eo) Cd Ce),Cg Av Av (sI aX aX (sI aX wI Wk Cf Eo) Cd Ce)]) QB (.v 4) tZ [sC,aou,aov]) QB (.v 3) tY [oZ,Cg cu cu aos,Cg jC jC aot]) QB (.v 2) qE [pW,Cg cu aX (yD cu cu aX aor Cd Ce Cf),Cg oX aX (sI oX oX (sI aX aX (yD aX aX oX aX MP MQ MS) Cf Eo) Cd Ce)]) QB zX lN adb) QB (wO 30) (F7 (nO nL) (qM nL) (F7 Cd Ce (I5 Cf Eo MP MQ MS)))) Aq [adn]
def Yd:T:=jQ (gV fP p9) FY (ui FT (.c 256) QC (jQ cu bC (.aT (gz bC FY) (GB fP (di (lB io (vG 0 (di (Jw Ci Cj Cj BS (jQ Wy (mB 1 ce) (.aT aoG (jQ Wy (mB 2 ce) (.aT aoH io (mD D5 (bh Cj))) io) io) io)) D4 D4) (nS 1 eI bC (jm 137 (jQ cu dp (ui dp MU io (jE 1 (iP eI))) io) kW t6 [QD,iT]) (vG 2 (di (Jw adf adL adL (rC bC oX) (Jw cu (ua 1 dp) (ua 1 dp) oX (Jw aX (ua 2 dp) (ua 2 dp) (ua 3 dp) (ui (ua 3 dp) qI io (jR 2 (iP dp) (bh adL)))))) (.and Iu adK) (.and Iu adK)) (Cr 3 (Jw aX adN adN bC (Jw aX (rD 1 eD) (rD 1 eD) bC (nP adN (rD 1 eD) (Jw u7 (rD 2 eD) (rD 2 eD) (rD 3 eD) (ui (rD 3 eD) u9 io (.back 3 [iP eD]))) io))) (vF t6) adM MV adM (.and MV adM)) adK FV oY) vc [aW]) Mb FV oY) (gN (yz aX))) Ma Ma) io) io) io)) QC
def T13:T:=jm 24 (dD (mu I6 fA Ck) (mu I6 fl Ck) (mZ eD iH (mu I6 fl Ck) (jD (jD F8 (Eu 0 (gO (gO (ke 49 (jm 35 (dD F8 (ke 53 F8 L7 adP j7 Ck [nM,fD,eJ,.ah (mE eu oL dS)]) (lB F8 L7 (gN (.len (mE eu oL dS)))) (.not B6) (yR eu kZ)) iD Ck aoI) F8 MD j6 Ck adO) MW MW (eX eu rH yu) (eX eu rH yu)) F9 F9 Wz Wz) (kY 76 (kY 77 (lX 1 (gO (gO (kY 78 (nR 67 (.aT (yR dJ kZ) (yL 79 (um B3 (mu I6 Al adV) (yL 80 (um Mi (mu I6 qa adV) (nR 76 (nR 124 aoP yF WE aoO [Am,An,Ao,Ap] wV) I7 adT WE aoM M1)) qa adU [nM,j6,eJ,.agg WD,aoN,adR] [Am,An,Ao,Ap] mY)) Al adU [nM,j6,eJ,.agg WD,adR] aoM I4) (oN 81 (ED (nR 76 (nR 124 aoP yF WE aoO [iD,j7,iK,pV] wV) I7 adT WE WD M1) (gM jB) I6 pT adV) (.agg WD) aoN aoQ adU mY)) MZ [bN,bK,bP,bQ,aV,cQ,bB,eU,bL,j9,eU,bL,mA,ue,nc,dS] adT [vw] M0) vw [bN,bK,bP,bQ,aV,cQ,bB,eU,bL,j9,eU,bL,.am,.am,.am] [adR] [.ah dS]) (oO lW) (oO lW) WC WC) MM MM MX MX) (lT (.agg [eJ,o7,wL,FX,Ay,vx]) [bN,bK,bP,bQ,aV,cQ,bB,eU,bL,j9,eU,bL,bL,j9,kb]) Wf WB aoJ) wL [bN,bK,bP,bQ,aV,cQ,bB,eU,bL,j9,eU] [Ag] [.ah bL]) o7 Ck [wK] [.ah eU]) QE) F8 (xo lW) (.not (xo rH))) F8 F8 (xo lC) (xo kz))) wN (rB eD)) fA Ck Af
def T16:T:=jm 24 (Cx (Ns (uh eD iH (Ns (dD cq (jD (lB cq (Eu 0 (gO (gO (ke 49 (jm 35 (dD cq (ke 53 cq L7 adP j7 DZ [nM,fD,eJ,ud 0 eu yt dS]) cq (.not B6) (yR eu kZ)) iD DZ aoI) cq MD j6 DZ adO) MW MW Gb Gb) F9 F9 Wz Wz) (Eu 1 (gO (oN 89 (wH jB (di (jm 35 (lB cq WF Vx) p8 DZ (sJ [xf 0,xf 1,xf 2,xf 3,xf 4,xf 5,xf 6,xf 7,xf 8,xf 9,xf 10,xf 11,xf 12])) WC WC) cq) aoR aoR aoQ DZ mY) sL sL sL sL) (Eu 2 cq (kY 76 (kY 77 (lX 3 (Gf (gO (kY 78 (nR 67 (Ns (yL 79 (sS (yL 80 (sS (nR 76 (nR 124 (.back 3 [iP iA,uf,qb,sM]) Gc aoZ [bN,bK,bP,bQ,aV,cQ,bB,eU,bL,bL,j9,kb,eU,bL,.am,.am,.am,dS,ue,mA,nc] [Ao,Ap,qa,qK] Es) yF aoT aoZ aoY wV) (wO 30)) Aq aoX [nM,j7,eJ,aoU,.agg [Ga 0 iA,s4 1,s4 2,s4 3,s4 4,s4 5,s4 6,s4 7,s4 8,s4 9,s4 10,s4 11,s4 12,s4 13,s4 14,s4 15,s4 16],adX] [Ao,Ap,qa,qK] mY) (wO 25)) An aoX [nM,j7,eJ,aoU,adX] aoY I4) (yR iA kZ)) vy [bN,bK,bP,bQ,aV,cQ,bB,eU,bL,bL,j9,kb,eU,bL,mA,ue,nc,dS] aoT [rJ] vz) rJ [bN,bK,bP,bQ,aV,cQ,bB,eU,bL,bL,j9,kb,eU,bL,.am,.am,.am] [adX] [.ah dS]) (eX iA lW yG) (eX iA lW yG) (eX iA ld yG) (eX iA ld yG)) yG (sH iA) yG (sH iA) (eX iA kz yG) (eX iA kz yG)) (EC 4 (Gf (gO (gO (lB cq (gO (gL 159 (Cx (Ns (gL 92 (sS (vG 5 (di (AC 6 (jO (gA oI Gd) (gA lQ Ax) (gL 196 (sS (di (AB 197 cq (D7 (.cell Ax lQ 4) wI (.cell Ax lQ 4) jC cq cq (jR 5 WJ uf)) [bN,bK,bP,bQ,aV,cQ,bB,eU,bL,bL,j9,kb,eU,bL,.am,.am,.am,qO,aV,qO,dS] [sM,jx (gq 0 oI Gd) (gq 1 oI Gd) (gq 2 oI Gd) (AF 3 oI Gd)]) WI WI) (gM nL)) sM pU ao1 [nM,gq 0 lQ Ax,.agg [Ga 0 dK,sZ 1,sZ 2,sZ 3,sZ 4,sZ 5,sZ 6,sZ 7,sZ 8,sZ 9,sZ 10,sZ 11,sZ 12,sZ 13,sZ 14,sZ 15,sZ 16]] [.ah dS,aW]) cq) cq (yH oI Gd) WI WI) (.and M2 adZ) (.and M2 adZ)) (gL 199 (sS (nS 6 nL (lf 20) cq (jR 4 (iP dK) Az) [aR,uf] QH) (gM oI)) sM oe ao1 [nM,iK,eJ,.agg [xk 0,xk 1,xk 2,xk 3,xk 4,xk 5,xk 6,xk 7,xk 8,xk 9,xk 10,xk 11,xk 12],oh,.ah Gd] [.ah (.sl 306),aW]) adZ rJ QH) (gM jB)) qb pT WH [nM,iK,eJ] MJ) (yR dK kZ)) Mf jZ) jY pV WH [jx (gq 0 dK I8) (gq 1 dK I8) (gq 2 dK I8) (gq 3 dK I8),jx (gq 0 dK p7) (gq 1 dK p7) (gq 2 dK p7) (gq 3 dK p7)] QI) (eX dK QG vC) (eX dK QG vC) (eX dK rL vC) (eX dK rL vC)) (AE 0 adY dK (Rl 1 1 2 2 dK dK (Rl 3 3 4 4 dK dK (Rl 5 5 6 6 dK dK (Rl 7 7 8 8 dK dK (Rl 9 9 10 10 dK dK (uk 11 11 dK dK (lR (.cell oL dK 12) (.cell Aw dK 12)) oL Aw)))))) Aw)) WG WG ao0 ao0) (eX dK lW vC) (eX dK lW vC) (eX dK ld vC) (eX dK ld vC)) vC (sH dK) vC (sH dK) (eX dK kz vC) (eX dK kz vC)) (gL 90 (sS (EC 5 (Gf (yL 81 (sS (nR 124 (jR 5 QJ sM) (I9 19) [bN,bK,bP,bQ,aV,cQ,bB,eU,bL,bL,j9,kb,eU,bL,mA,ue,nc,qO,kw,nc] [bN,bK,bP,bQ,aV,cQ,bB,eU,bL,bL,j9,kb,eU,bL,mA,ue,nc,qO,kw,.am,nc] [p8,oe,pU,pW] (qN 19)) (gM pX)) oZ [bN,bK,bP,bQ,aV,cQ,bB,eU,bL,bL,j9,kb,eU,bL,.am,.am,.am,qO,kw,.am] [.agg [xj 0,xj 1,xj 2,xj 3,xj 4,xj 5,xj 6,xj 7,xj 8,xj 9,xj 10,xj 11,xj 12],.agg [Ga 0 jB,sW 1,sW 2,sW 3,sW 4,sW 5,sW 6,sW 7,sW 8,sW 9,sW 10,sW 11,sW 12,sW 13,sW 14,sW 15,sW 16]] [p8,oe,pU,pW] mY) Et ad0 Et ad0 (.and Et (sH jB)) (.and Et (sH jB))) (EC 6 (Gf (yL 81 (um pY cq (nR 124 (jR 6 WJ Az) ad2 [bN,bK,bP,bQ,aV,cQ,bB,eU,bL,bL,j9,kb,eU,bL,mA,ue,nc,qO,kw,nc,nc] [bN,bK,bP,bQ,aV,cQ,bB,eU,bL,bL,j9,kb,eU,bL,mA,ue,nc,qO,kw,nc,.am,nc] [oe,pU,pW,oZ] (qN 20))) sC [bN,bK,bP,bQ,aV,cQ,bB,eU,bL,bL,j9,kb,eU,bL,.am,.am,.am,qO,kw,.am,.am] [.agg [xe 0,xe 1,xe 2,xe 3,xe 4,xe 5,xe 6,xe 7,xe 8,xe 9,xe 10,xe 11,xe 12],.agg [Ga 0 lQ,sT 1,sT 2,sT 3,sT 4,sT 5,sT 6,sT 7,sT 8,sT 9,sT 10,sT 11,sT 12,sT 13,sT 14,sT 15,sT 16]] [oe,pU,pW,oZ] mY) M2 ad1 M2 ad1 (eX lQ lC M2) (eX lQ lC M2)) (di (gL 201 (sS (nS 7 nL (lf 21) cq (nS 8 j8 Cl cq (.loop 9 [.ah (.own 267),.ah M3] [dg,dg] (.pick (lf 23) (.not (.has (.v 25) 1 pX aX aX)) (gz (lf 23) (lf 25)) cq (Nr 162 163 267 (nS 10 pX (lf 26) cq (lT (ja 27) [bN,bK,bP,bQ,aV,cQ,bB,eU,bL,bL,j9,kb,eU,bL,bL,j9,kb,qO,kw,kb,kb,WK,qO,qO,.am,M3,.sl 267,.sl 275]) [aR,dg] (sF (.own 275))) [bN,bK,bP,bQ,aV,cQ,bB,eU,bL,bL,j9,kb,eU,bL,mA,ue,nc,qO,kw,kb,nc,WK,qO,qO,.own 267,M3] (.v 24) (.lex [0,1,2] E)))) [aR,AA] QH) [aR,rJ] QH) (gM oI)) Az oe [bN,bK,bP,bQ,aV,cQ,bB,eU,bL,bL,j9,kb,eU,bL,.am,.am,.am,qO,kw,kb,.am] [nM,ac4,eJ,wL,uf,qb] [.ah WK,aW]) mq mq) ad1 [aW,WA]) ad0 [aW,WA]) Mf) qb pV WH MH [.ah kw,aW]) (sH dK) QH) (sH iA) WB aoJ) Ay [bN,bK,bP,bQ,aV,cQ,bB,eU,bL,bL,j9,kb,eU] [Ag] [.ah bL]) FX DZ [wK] [.ah eU]) (cT gp oj)) (o8 dJ)) QE) (xo ld)) cq cq (xo kz) (xo lW)) cq (.not (xo rL)) (xo lC)) (xo rH)) cq) QF) wN adW) fA DZ Af
def arB:T:=jm 24 (Cx (vj 87 (Cx (nP kz fP cq (qQ (AB 86 cq L7 QK [jx (pl 0) (pl 1) (pl 2) (pl 3)]) (AC 1 (AB 86 cq WF QK [jx (yw 0 kZ) (yw 1 kZ) (yw 2 kZ) (yw 3 kZ)]) (lX 2 cq (lX 3 cq (nS 4 dK aX cq (nS 5 iJ lC (nS 6 jB fP cq (jR 5 QL vw) [QL,vx] yI) (vG 6 (nS 7 lQ fP cq (jR 6 QJ rK) [QJ,vw] yI) (nS 7 lQ kz (nS 8 oI fP cq (jR 7 WJ rJ) [WJ,rK] yI) (nS 8 oI kz (lX 9 cq (jR 8 (iP oI) qb) (o8 nL) [iP oI,rJ] yI) (vG 9 (nS 10 j8 rL cq (jR 9 (iP nL) uf) [aR,qb] yI) (nS 10 j8 fP (di (gL 159 (di (gL 159 (Cx (jR 10 (bh Ch) uf) zY BP) qE sC ao4 [jx (gq 0 j8 kZ) (gq 1 j8 kZ) (gq 2 j8 kZ) (gq 3 j8 kZ),ao3] QI) ao5 ao5) lN oZ ao4 [jx (rI 0 j8) (rI 1 j8) (rI 2 j8) (rI 3 j8),ao3] QI) ao2 ao2) (lT uf [bN,bK,bP,bQ,aV,cQ,kb,kb,kw,.am,Ek,kb,.am,.am,.am,.am,.am,.am,.am,WK]) [aR,qb] yI) (o8 nL) rJ yI) [aR,rK] yI) [aR,vw] yI) (sH jB) vx yI) [aR,Ay] yI) [aR,FX] yI) WL [aR,dg,FW] [aW,WA,ad3]) Wg [aR,dg,dg] [aW,ad3,.ah Ek]) adQ MX MX) QE F9 F9)) jZ (DU lC fP)) jY QK [eJ,aR,Vp]) wN adW) fA QK Af
def T78:T:=yL 229 (sS (jm 49 (Cx (jD (oq (mW (.v 31) gp cq (qP 134 (Co (.v 26) cq (fJ ada [bN,bK,bP,bQ,aV,.str,dS])) ad4 [bN,bK,bP,bQ,aV,.str,.own 134] [Al,aR,aR,oc]))) cq cq (F7 (nO B5) (qM B5) (F7 (vu B5) (qL B5) (F7 (lR B5 vf) (lR B5 (.c 9)) P6))) (nO B5)) (gM As) (wO 37)) Qn ad4 (sJ [og,fA,fD,j6,iD,j7,iK,pV,pT,p8,oe,pU,pW,oZ,sC,u5,Ak])) (wO 37)) yB ad4 MH [Al,Am,An,Ao,Ap,qa,qK,Aq,ub,Mj,IP,IQ,Ml,IS] [aW,aW,aW,aW,aW,aW,aW,aW,aW,aW,aW,aW,aW,aW,aW]
def T90:T:=gL 92 (ED (ke 35 (BW Qn Ja) (jm 49 (um Mp (BW Qo Ja) (gL 93 (ED (lX 0 (di (dD (Gk [iP sG,lN,qE,tY,tZ,Aa,Ac]) (di (lX 1 ao8 (di (lX 2 apb (Gk [iP sG,DT,j5 12,j5 13,j5 14,j5 15,j5 16]) WS ao9 WO) WM WN) WP ao7 WO) WM WN) (di (lX 1 ao8 (di (lX 2 apb (Gk [iP sG,.bool (lR Ge (.c 6)),j5 12,j5 13,j5 14,j5 15,j5 16]) WS ao9 WO) WM WN) WP ao7 WO) WM WN) (.cell p7 sG 17) zX) ao6 ao6) (lX 1 (gO (.be (I5 WU WV WW WX WY) (dD apc (.aT (gM ad6) apc apd) apd (.eo WU (.v 2) (.eo WV (.v 3) (.eo WW (.v 4) (.eo WX (.v 5) (.eo WY (.v 6) P6))))) zX)) (.and WQ ad5) (lD Gg Gg od) (F7 (gN Gg) (nO Gg) (.eo (qM Gg) mq P6)) (.and WQ ad5)) (gL 116 (um (.v 50) (BW Ej sN) (gL 89 (lX 2 (di (yL 165 (ED (gL 116 (um (.v 92) (BW (bW 92) sN) (.aT (.v 7) (oN 89 apf W6 W6 (qJ ad7 (bW 97)) sN mY) (oN 89 apf apg W6 (qJ ad7 (bW 97)) sN mY))) W6 (bW 92) sN [WZ,mX DV (.v 74),mX DV (.v 75)] mY) (wO 87) Qc (bW 87) sN) (bW 87) sN [.agg [MN,MO,QA,bW 64,bW 65,bW 66,bW 67,bW 68,bW 69,bW 70,bW 71,bW 72,bW 73],.agg [rP 0,rP 1,rP 2,rP 3,rP 4,rP 5,rP 6,rP 7,rP 8,rP 9,rP 10,rP 11,rP 12,rP 13],jx (rP 14) (rP 15) (rP 16) (AF 17 IU p7)] [bW 74,bW 75,bW 76,bW 77,bW 78,bW 79,bW 80,bW 81,bW 82,bW 83,bW 84,bW 85,bW 86] I4) ape ape) (lT apg sN) (cT IU rL) [aR,F5,B8,B9,Ca,fD,j6,iD,j7,iK,pV,pT,p8,oe,pU,pW,oZ,sC,oc] [aW,aW,aW,aW,aW,aW,aW,aW,aW,aW,aW,aW,aW,aW,aW,aW,aW,aW,.bool]) (jx F5 B8 B9 Ca) Cb sN [W5,W5] mY)) W5 Ej sN [WZ,mX DV eu,mX DV dJ] mY) ad5 [aR,Gh aX WT,bh WT,Gh aX WT,bh WT] mY) (cT sG rL) [aR,oc,oc,oc,oc,oc,oc] [aW,.bool,.bool,.bool,.bool,.bool,.bool]) jZ Qc MK sN) wL jY Ja [o7,FW] [.ah yA,.bool])) Qo Ja (sJ [Ag,u5,Ak,Al,Am,An,Ao,Ap,qa,qK,Aq,ub,Mj,IP,IQ,Ml,IS])) (gM As) Qn Ja [Wj]) (wO 37) Qc yB Ja) o7 yB [acz,acA,kw,bN,bK,bP,bQ,aV,.str,dS] [.agg [jk,ji,gm,iT,kW,DX,mV,IC,og,oh,wK],eJ,fA] MJ
def arD:T:=yL 79 (um Ef cq (jO oj fP (qQ (ke 49 cq (jE 0 (iP IR)) (gM uc) IS ad8 (sJ [ud 0 IR my .str,sU 1,sU 2,sU 3,sU 4,sU 5,sU 6,sU 7,sU 8,sU 9,sU 10,sU 11,sU 12,sU 13,sU 14,sU 15,sU 16])) (yU 1 (Nq 1 (jR 1 (iP uc) Ag) api [rI 0 uc,rI 0 uc,rI 1 uc,rI 2 uc,AF 3 uc DY] Wb Jb) (gL 92 (di (lX 2 (di (yL 165 (sS (jO (.cell nN As 4) cu (.loop 3 [aW,aW,aW,aW,aW,aW,aW,aW,aW,aW,aW,aW,aW,.ah W8,.ah M3] [B8,B9,Ca,Cb,IW,IX,IY,IZ,I0,MN,MO,QA,bW 64,FW,dg] (.pick D6 (.not (.has p7 1 (.v 79) aX aX)) (gz D6 rL) (Nq 1 (.be (.and (.and (gz cu Ah) I7) (lD M4 M4 D6)) (D7 M4 aX M4 cu W9 W9 (D7 M4 oX M4 od (mW (.cell nN As 8) (.cell my eD 4) cq W9) W9 cq))) [bN,bK,bP,bQ,aV,bB,dS,Jb,aV,.am,W8,M3] [bW 79] Gi M3) (.back 2 [iP As,bW 66,bW 67,bW 68,bW 69,bW 70,bW 71,bW 72,bW 73,bW 74,bW 75,bW 76,bW 77,bW 78,o7]))) cq) apk) (bW 65) [bN,bK,bP,bQ,aV,bB,dS,Jb,aV,.am] [.agg [Qo,bh sG,bh vk,Qp,Au,Qq,Qr,IT,Mv,Mw,Ei,Ej,F5],.agg [bh QN,xl 1,xl 2,xl 3,xl 4,xl 5,xl 6,xl 7,xl 8,xl 9,xl 10,xl 11,xl 12,xl 13],jx (bh (.look kZ 1 QN aX aX 1)) (bh (.look kZ 1 QN aX aX 2)) (bh (.look kZ 1 QN aX aX 3)) (.bool apk)] [B8,B9,Ca,Cb,IW,IX,IY,IZ,I0,MN,MO,QA,bW 64] I4) apj apj) (Nr 280 236 306 (oq (lT o7 [bN,bK,bP,bQ,aV,bB,dS,Jb,aV,.am,.sl 306])) [bN,bK,bP,bQ,aV,bB,dS,Jb,aV,W8] oL (.lex [1,0] E)) (cT As lW) [aR,fD,j6,iD,j7,iK,pV,pT,p8,oe,pU,pW,oZ,sC,dg] [aW,aW,aW,aW,aW,aW,aW,aW,aW,aW,aW,aW,aW,aW,.ah W8]) W7 W7) Ag yB api Qy MJ) (sH uc) (vq uc (sH uc)) (vq uc (sH uc)) (sF Jb)) (cT IR oj) aph aph) cq)) IQ ad8 [nM,eJ,fA,Wj,oh] [u5,Ak,Al,Am,An,Ao,Ap,qa,qK,Aq,ub,Mj,IP] I4
def arE:T:=ke 24 cq (nS 0 eu dJ (di (ke 133 cq (mD fD (bh M5)) (rB gp) iD i8 [gq 0 M5 wJ,eJ]) (lD M5 M5 rF) (lD M5 M5 rF)) (yQ (ke 133 cq (di (lT Xa i8) vo vo) (.not B6) iD i8 [ug 0,eJ]) cq Qw vo vo) [aR,bh rF] oY) wN fA i8 Af
def T63:T:=gL 90 (ED (EC 0 (nR 3 (mD yv wK) We [bN,bK,bP,bQ,aV,kw,bw] apn [fD] ML) (vG 1 (di (.eE 91 91 3 (.dw 0 aea [FZ my]) J kZ apn (.eE 91 91 3 (.dw 0 aea [Gj 1 my]) J nN apo (gO (.new 3 (.set (.ah oL) QO 0 [Iy (gA (FZ my) nN) apq]) [bN,bK,bP,bQ,aV,kw,.am,.am,.am,bw] [bN,bK,bP,bQ,aV,kw,.am,.am,.am,.am,bw] (jR 1 t7 o7)) mq mq (lD QO QO rH) (lD QO QO rH)))) (BY ad9) (BY ad9)) (nS 2 gp kz (.eE 91 91 3 (.dw 0 aea [gp]) J nN apo (jR 2 El FW)) (lT Ag [bN,bK,bP,bQ,aV,kw,.am,.am,ao]) [aR,wK] Jc) ad9 oh Jc) Qf Jc) wN dg fA Xb) og fA i8 MH [.ah kw,aW]
def T44:T:=.aT VD (oG [bL,bL]) (Ji 0 (gO (lB (oG [bL,bL]) Jd (AE 0 Mg bC (uk 1 1 bC bC (uk 2 2 bC bC (uk 3 3 bC bC (uk 4 4 bC bC (uk 5 5 bC bC (uk 6 6 bC bC (uk 7 7 bC bC (uk 8 8 bC bC (uk 9 9 bC bC (AE 10 adk bC (AE 11 adl bC (lR adm (ua 12 bC)) jP) jP) kX jP) kX jP) kX jP) kX jP) kX jP) kX jP) kX jP) kX jP) kX jP) jP)) oM oM Xc Xc) F3 [bL,bL])
def afU:T:=mZ bC ce It jh
def afV:T:=mZ bC ce It jh
def afW:T:=qQ (jQ (yz Ci) ce aeb apr) apr (o8 Ci) Xd Xd
def T91:T:=Jm fP FY p9 FY QC QC (mW FT (.c 256) QC (.aT (sO bC) (dD io io (di (um (yz aX) io (qQ (yQ (jQ Cj (yz Jf) io apu) apu (oJ ce aX) aps aps) (Eu 1 (.aT (o8 Ci) (gO (jm 179 (AJ 140 io (jm 179 apv kW t6 [QD,Gh (yz Ci) cu]) jZ t6 [iT,fl,bh MU]) iT t6 [QD,Ed 0 et]) Xd Xd M6 M6) (di (jm 179 (AJ 140 io (jm 179 apv kW t6 [QD,bh BS]) jZ t6 [iT,fl,bh MU]) iT t6 [QD,Ed 0 et]) M6 M6)) (Cr 2 (AJ 140 io (GB eI (di (jQ (gA eI jP) (gA (ky eI) jP) io apy) apw apw) apy) jZ t6 [AI 0 eI,aR,bh (rC bC oX)]) (Cr 3 (wY aee aX aee bC io (wY (rD 1 dp) aX (rD 1 dp) bC io (jO aee (rD 1 dp) io (uh (rD 2 dp) u7 io (qc (rD 3 dp) (rD 2 dp) (rD 3 dp) u9 io io (jE 3 (iP dp))))) io) io) (vF t6) aed Iu aed (.and Iu aed)) aec (iU eI) aec (.and (iU eI) aec)) (o8 et)) Mb D4 D4)) Ma Ma) (.not (gz bC FY)) (gN fP)) io))
def afY:T:=.loop 0 oY [ji,jk] (GB et (.be (gM et) (mD (MT eI et) gm)) (jN iT))
def afZ:T:=dD vn vn (qc bC adD bC et vn vn (qc ce adD ce et vn vn (.aT aom vn (AK 180 (AK 180 (Co dp vn qH) kW [iT,gm]) iT [bh (gV bC (rC aX bC)),bh (gV ce (rC aX ce))])))) adC aol
def af0:T:=.loop 0 oY [ji,jk] (GB et (.be (gM et) (mD (MT eI et) gm)) (jN iT))
def af3:T:=.aT Vf (jN (bh (rC aX bC))) (jN jk)
def Ye:T:=jD (jD (AK 267 (AK 266 (lB BU qH (nO eI)) iT [gm,ji]) gm [jk]) BU BU aeg aeh) BU BU (sO ce) aef
def Rv:T:=jD (jD (AK 267 (AK 266 (jO iH cu (.aT (sO eI) (jQ eI FU (t8 et LY et FU (AK 267 (AK 266 (lB yr (uh acQ acR (yE FV) (uh acR acQ (yE fl) (yE aR))) (nO cL)) fA [eJ,iT]) eJ [gm]) yr yr) yr) yr) yr) mV [kW,ji]) kW [jk]) yr yr aeg aeh) yr yr (sO ce) aef
def Yf:T:=D7 dp cu dp oX (yM (yM (yM (ym aej) Xf (gz eu Av)) (sO eD) QP) Xe aei) (yM (yM (QQ MC aej) Xf (gz eu Av)) (sO eD) QP) (dD apz apz (jD (yM (IL (QQ MC ael) aek) QP Xg) jh (D7 dp (.c 6) dp wI (IL (jQ eu wI (QQ MC (.and IM aej)) jh) Xf) apA (jO dp jC apA (yM (yM (IL (QQ IM ael) aek) aei Xg) (lR dp (.c 9)) Xe))) (lR dp vf) QF) (vu dp) (qL dp))
def af4:T:=ke 182 jh (ke 182 jh (gL 183 (mZ gp aX (uh oI aX (ym (gz dK iJ)) jh) jh) oe pU [] [P7,Ve] oY) (gM lQ) p8 [] [Ve]) (gM jB) pT [] [P7]
def T92:T:=.aT (sO bC) (dD nf (ui ce (.c 1000) nf (jm 145 (dD nf nf (dD nf nf (qQ (wY (mB 1 cL) aX (mB 1 cL) bC nf (wY (mB 2 cL) aX (mB 2 cL) ce nf (wY (mB 3 cL) aX (mB 3 cL) wI nf Jg nf) nf) nf) (AC 1 (sP 144 nf (GB eu (di (jQ (gA eu wJ) (gA (ky eu) wJ) nf apC) apB apB) apC) jZ jY [ug 0,aR,bh qI]) (yq i8) Qw vo vo) QR Xh Xh) (rB eI) (gN fP)) L6 (rB et)) eJ i8 [qG gm iT kW])) nf (wQ bC (.c 1000)) (sO ce)) nf
def T40:T:=dD Vq Vq (ke 99 (IF eJ) (sP 100 wM (vF i8) jZ jY Af) L6 eJ i8 anU) (oJ fP (.c 64)) (oJ rF FY)
def af7:T:=gL 183 (uh Mi aX (jN DT) (wH Mi (ym (cT bC jB)) jh)) qa qK [] [P7,.agg [Am,An]] oY
def af8:T:=uh fP cu D0 (.aT (oJ fP (.c 32)) D0 (.be Ma (t8 Qi (.c 97) Qi (.c 122) apG apH apH)))
def af9:T:=vj 101 (dD gr (dD gr (ui ce MG gr (mZ et cu (dD gr (ui eI Av gr (mZ dp aX (dD gr (jQ iH jC (jD (.aT Xg (dD gr (jQ eu qI (.aT (sO dJ) (jQ dJ qI (wY gp cu gp qI gr (t8 iA cu iA od (t8 dK cu dK od (wY iJ cu iJ od gr (wY jB aX jB qI gr (wY lQ aX lQ qI gr (vF mC) gr) gr) gr) gr gr) gr gr) gr) gr) gr) gr) gr (wQ cL jC) Xf) gr) gr gr (sO eD) QP) gr) gr (wQ dp Av) Xe) gr)) gr (wQ et D6) (sO eI)) gr)) gr (wQ bC MG) (sD ce aX)) gr jZ (sO bC)) jY mC [BX]
def T94:T:=jD ph (mZ ce LY (lB ph (wY et aX et wI ph (Cr 0 (wH aem (wH aen (jE 0 QL) apI) apI) qH (cT iJ vf) (iU iJ) (cT iJ vf) (I5 (gN iJ) (nO iJ) (qM iJ) (vu iJ) (qL iJ))) ph) aef) ph) ph aeg (.not aeh)
def agb:T:=rM 128 (vG 0 (di (jO MI eD (di (jO V9 cL (Jx 1 (GB dJ (di (AJ 298 (jE 1 (bh M7)) apO tX aeo [Xa,.agg [vE 0,vE 1,vE 2,vE 3,vE 4,vE 5,vE 6,vE 7,vE 8,vE 9,vE 10,vE 11,vE 12,vE 13]]) (lD M7 M7 lC) (lD M7 M7 lC)) apO) vo vo [bh lC] [aW]) adH) vo vo) adH) vo vo) (fJ oh Vw) Qw og (sF jl)) i8 ac7 BZ
def agc:T:=jm 58 (dD (mu dg fD i8) (ui eD (ky fP) Me (wY cL aX cL (ky iH) Me (kY 226 (lT og [bN,bK,bP,bQ,aV,aV]) og i8 Qy [.ah aV]) Me)) Me vg QF) fD i8 Af
def agd:T:=.aT VD (oG Qj) (rM 128 (vG 0 (lX 1 (gO (uh Mg (gA Jf Ae) (jE 1 (bh Jf)) apW) oM oM apP apP) apW (oJ ce aX) [bh D9] [aW]) (Ji 1 (gO (nP (gA ce jP) (gA ce Ae) M8 (.aT (.cell jP ce 3) apX (D7 Xi od Xi D6 aeu aeu (D7 Xi vf Xi (.c 9) aeu (.aT (gN Mh) apY M8) apX)))) VF VF B4 B4) adj [aV,dS,.am,aV]) F3 Ad (sF jl)) Qj adi BZ)
def T95:T:=gL 190 (.aT vg (fJ fD vp) (AJ 191 (fJ MK vp) (vF vp) jZ vp [oh,og])) oh fD Wc Qy MJ
def agf:T:=jD (jD (jD oK (mZ dp u7 (.aT (gz dp iH) (jQ iH u9 (t8 eD u7 eD cL (ui cL u9 oK (oq anP)) oK oK) oK) oK) oK) oK acU (wQ eI u9)) oK oK aew (sD et u7)) oK oK aev Vl
def Nu:T:=jD (jD (.aT acU (dD oK Xj (.aT anQ Xj (t8 ac2 u7 ac2 Vm (oq (dD Xk Xk (jD (oq (dD rE rE (yE ac3) (wQ Vm u9) (wQ Vn u9))) (oq Xk) (oq Xk) (sD Qd u7) (gz Qd Vn)) ac0 ac1)) (oq Xj) (oq Xj))) (wQ eI u9) (cT dp acZ)) oK) oK oK aew (sD et u7)) oK oK aev Vl
def agh:T:=rG 223 (Aj 223 (jN lN) lN (sJ [gm,iT])) jh tX jY (sJ [jk,ji])
def agi:T:=yM (ym aew) aev Vl
def agj:T:=qQ (jO (vd 2 dJ) eD (jO (vd 4 dJ) wI (jO (vd 1 dJ) cL (jO (vd 9 dJ) ac5 (yq i8) Xl) Xl) Xl) Xl) nf Vr L8 L8
def agk:T:=mZ bC ce It jh
def agl:T:=Aj 185 (dD jh jh (qc iH dp iH (.c 4095) jh jh (rG 151 (Aj 151 (jN qE) qE [fA,bh Vz,bh qI]) jh zX lN [eJ,bh Vz,bh qI])) jZ (rB dp)) jY [BV]
def agm:T:=kY 186 (jN VA) VA [] [BV,mX apZ eD,mX apZ cL] mY
def Rw:T:=rG 150 D8 (rG 151 ade (oN 152 (oN 152 (dD rE rE (oN 153 (jN VC) (.agg adg) (.agg VB) VC [] mY) Mf (gM j8)) aex yv (qJ (.agg VB) pW) [] mY) aex fD VA [] mY) zY lN [fD,aR,pZ 4095]) jZ jY [aex]
def T56:T:=EC 0 (lX 1 (vj 225 (vj 225 (dD ap0 ap0 (jR 1 yv oh) tX zX) lN aeo [nM,eJ,fD,fA]) jY aeo [nM,eJ,fA,fD]) (mD Gm oh) Qf [Gm,og] Wa) (fJ og Xb) QR Wa
def T64:T:=nS 0 ce bC (nR 3 (mD D5 Ad) (mz p9) [kw,bw] [kw,.am,bw] [ji] (.ah jP)) (nS 1 et bC (vG 2 (gO (gO (EA 3 (EA 3 (jR 2 (iP eI) og) ap4 ap4 ap3 [kw,.am,.am,.am,.am,bw] (.set (.ah wJ) IJ 0 ap2)) Xm Xm [kw,.am,.am,bw] ap3 (.set (.ah Ae) Qh 0 ap2)) Xm Xm ap1 ap1) L9 L9 L9 L9) (jR 1 (bh Ci) DX) (o8 eI) Ad Jc) (fJ Ad [kw,.am,ao]) [aR,DW] Jc) [aR,dg] Jc
def GD:T:=Jm rF (.c 40) rH QS pm pm (mW fP D6 (QU aqa (gz fP (.c 12))) aqa)
def agp:T:=qQ (mW Cp FM Cq Mc) (jQ fP (.c 100) (jQ p9 (.c 30) (DS (gz FT (.c 30)) QW) Cq) Cq) (cT ce p9) B4 B4
def agq:T:=nP bC ce Nb (lB Nb (ol 31 Nb (ol 31 Nb (nP p9 rF Nb (Ji 0 (Gf (ol 32 Nb aeb BQ tZ QX [ud 0 et jP bL,ud 0 et wJ bL]) Je aeB Je aeB (eX et rF Je) (eX et rF Je)) aeB QX)) zZ tY QX [Ad,og]) BP qE QX [BX,DX]) (.beq tX zX))
def Rx:T:=mW fP od (jQ fP jC QY aqb) aqb
def agr:T:=jQ p9 QS (jQ FT QS (DS (gz D9 QS) i8) nf) nf
def ags:T:=ke 58 (Jl eJ) (AJ 59 (Jl yo) (qQ (ke 60 (Jl fD) Jg vg fD kf (sJ [Ga 0 cL,s5 1,s5 2,s5 3,s5 4,s5 5,s5 6,s5 7,s5 8,s5 9,s5 10,s5 11,s5 12,s5 13,s5 14,s5 15,s5 16])) (AB 61 Xo (ol 62 Xo (ol 63 Xo (ol 64 Xo (vF kf) BQ tZ kf yP) zZ tY kf yP) BP qE kf yP) kf yP) (sH cL) Nc Nc) tX kf yP) L6 eJ kf Af
def agt:T:=mW ld lW Ex (dD Ex Ex (nP rL fP Ex (nP Ah fP Ex (qQ (uh (gA cL yt) aX Ex (gO (mW (gA cL yt) (.len aeA) Ex Jg) Xp Xp Na Na)) (nS 1 eu rL (AB 65 Ex (jE 1 yv) gP [wZ,fD]) Xq vc [aW]) (cT cL ld) Xp Xp))) (rB eD) (sD eD kz))
def agu:T:=.aT VD (oG [ao,ao]) (Ji 0 (gO (nP Mg (gA bC jP) (oG [ao,ao]) Jd) oM oM Xc Xc) F3 [ao,ao])
def agv:T:=dD Ey Ey (Jm lC Av kz jC Ey Ey (mW iH (.c 64) Ey (qQ (mW (.len Xr) jC Ey Jk) pm aeE Nd Nd))) adW (oJ fP (.c 12))
def agw:T:=Eu 0 (nS 1 cL iH (di (gL 104 (um dK pm (jE 1 Gm)) (jx fD j6 iD j7) iK kf [.agg [Gz 0,Gz 1,Gz 2,Gz 3,Gz 4,Gz 5,Gz 6,Gz 7],fA] mY) W7 W7) Jk vc [aW]) Ey (cT eD oj)
def agx:T:=qQ (nP QT fP pm (AC 1 (uh Ez aX pm (di (mZ Ez lC pm (nS 2 eu cL (gO (jO (gA eu aey) Ez pm (jE 2 yv)) (eX eu QT yu) (eX eu QT yu) Gp Gp) (jE 1 Gm) vc [aW])) Gp Gp)) Jk aeF Gp Gp)) (DS (oJ kz aX) kf) Xn M9 M9
def agy:T:=nP lW iH pm (Eu 0 (.loop 1 [aW] vc (QZ (gO (vj 105 ap5 jY kf [nM,eJ,.agg [ud 0 cL Xr eU,ud 1 cL Xr j9]]) Nd Nd (Gl aeG) (Gl aeG)) Jk Nd Nd aeG)) Ey aeE)
def agz:T:=qQ (ke 106 pm (di (jO (vd 3 cL) cu pm (GB eD (gO (jQ (gA eD oL) (gA (ky eD) oL) pm Jk) Xs Xs aqc aqc) Jk)) (eX cL rF wX) (eX cL rF wX)) (rB cL) fA kf [IC,gq 0 eD oL]) Ey (cT eD rH) Xs Xs
def Nv:T:=di (qc Cp cu Cp oX Cq Cq (di (dD Cq (gO (.aT (AE 0 (gA aX yO) cu (Rm 1 1 2 2 cu cu (Rm 3 3 4 4 cu cu (Rm 5 5 6 6 cu cu (Rm 7 7 8 8 cu cu (Rm 9 9 10 10 cu cu (uk 11 11 aX cu (lR (Q7 12 yO) (.cell yO cu 12)) yO yO)))))) yO) Cq aqd) (cT aX Cp) (cT aX Cp) (cT cu Cp) (cT cu Cp)) aqd (.not (.beq (qM Cp) (gM aeH))) (qM Cp)) Nf Nf)) B4 B4
def agA:T:=nP oj fP (oG Xt) (.aT (DU lC fP) (oG Xt) (kY 154 (Ji 0 (gO (di (lB (oG Q2) (di (lB (di (GB (.len (mE cL DY dS)) (oG Q2) aqe) Nc Nc) aqe aeJ) Ng Ng) (.beq aeJ (yR Q1 my))) (lD Q1 Q1 oj) (lD Q1 Q1 oj)) Ng Ng (eX cL kz wX) (eX cL kz wX)) QR Q2) wK Xt MH [Cs]))
def agB:T:=qQ (jO Cj bC (fJ ji [aV]) Mc) (fJ FV [aV]) Mb D4 D4
def agC:T:=kY 189 (oN 188 (fJ oh [bN,bK,bP,bQ,aV,kw,ao]) Vo og oh Xb [Cs]) og i8 MH [.ah kw]
def agD:T:=ke 27 (fJ fA gP) (AB 28 (fJ Ew gP) (vF gP) gP Q3) wN fA gP yP
def agE:T:=yU 0 (uh Cj aX aeK (dD aeK aeK (Nq 1 (mD D5 Ad) [ao,Gq] [bh Cj,DT] (.ah jP) Gq) (sD Cj bC) (.look jP 1 Cj aX aX 1))) (yq [ao,Gq]) Mb D4 D4 (sF Gq)
def arF:T:=jm 12 (Cx (mZ cL Ah cq (uh eu aX cq (mZ eu ld (mu Q4 fl gP) (di (wH Xu cq (qc dJ aX dJ jC cq cq (EE 3 (AG (EE 70 (nQ 70 (EF 3 (EG (di (nP (gA cL ID) (qF cu eu) cq (.aT MD (gO (EA 76 aqh aeN mq Jq aeO (yN [xg 0,xg 1,xg 2,xg 3,xg 4,xg 5,xg 6,xg 7,xg 8,xg 9,xg 10,xg 11,xg 12])) Xw Xw (yH aX Nj) (yH aX Nj)) (di (jO dJ Xu (gO (EA 76 aqh aeN mq Jq aeO (yN [w8 0,w8 1,w8 2,w8 3,w8 4,w8 5,w8 6,w8 7,w8 8,w8 9,w8 10,w8 11,w8 12])) Xw Xw (yH cu Nj) (yH cu Nj)) cq) Gb Gb))) (eX cL Ah wX) (eX cL Ah wX)) Ni Nh Jq Jp) cq Jo Nh) (.and vy Jj) Xv Jo vz Gi) cq Q5 AD Xv) MZ Em Gr AD M0 En) cq aeL gP Gr))) Gb Gb)))) (gM gp) (rB cL)) iD gP Q3
def agF:T:=sS (jN Nk) jZ
def agG:T:=ke 23 (fJ fA gP) (jQ ld lW (jD (jD lY (qQ (mZ Xu aX (di (ui Xu (.len (mE eu nN Gn)) lY L7) MW MW) lY) (AC 1 (yQ (wH (FZ ID) aeQ aqj) aqj (nO Gs) Xx Xx) (vF gP) (cT dJ rL) sL sL) (cT eu ld) Gb Gb) lY (xo rL) (.not (xo Ah))) lY lY QF Xn) lY) wN fA gP yP
def agH:T:=jm 24 (dD (Jl eJ) (jD (jD lY (qQ (ui (.len aeA) jC lY Jg) (.loop 1 [aW] vc (dD (di (jm 49 (um dJ (Jl j6) (jE 1 yv)) j6 kf adO) F9 F9) (lB lY (AC 2 (jO (.len (mE dJ kZ ao)) fP (AJ 50 lY (jE 2 t7) jZ kf [.ah (mE dJ kZ ao),bh lC]) lY) (AC 3 (Cr 4 (gL 51 (lB lY (jE 4 (iP iA)) (gN oI)) (jx iK pV pT p8) oe kf [.agg [GA 0,GA 1,GA 2,GA 3,GA 4,GA 5,GA 6,GA 7],iD] mY) (gL 52 (Cr 5 (jO (.len Q8) fP (lB lY (Eu 6 (Gf (di (jD aeX (di (oN 34 aeX (.bool (gN (.len (mE jB Xy dS)))) Ew Nk Q0 []) Xz Xz) (oN 34 aeX oc Ew Nk Q0 []) (.beq aeW (yR aeV Q8)) aeW) aqk aqk) Et aeU Et aeU (eX jB ld Et) (eX jB ld Et)) (jE 5 QL) aeU) (xo (.len Xy))) lY) (jE 3 El) aeT (iU iJ) aeT (.and (iU iJ) aeT)) o7 iK kf [nM,iD] [Cs,aW]) WL yG WL (.and yG WL)) (yU 4 (Nq 1 (jR 4 (iP iA) wL) aql [gq 0 iA wJ,.bool (DU (vd 3 iA) cu)] En Gq) (AC 5 (jD (jE 5 (iP dK)) (di (lB lY (jE 5 (iP dK)) (oJ adY (gA (ky dK) oL))) aqm aqm) lY (.look yt 1 adY aX aX 1) Ar) (vF aql) (cT dK rH) WG WG) aeY (.and yG aeY) (.and yG aeY) (sF Gq)) Wg Wh Wh) adQ MX MX) (lR lW iH)) lY QE (oJ kz aX))) aez Na Na) lY (gz kz jC) (wQ iH (.c 64))) lY lY (gz fP (.c 12)) (gz lC Av)) lY L6 (gz oj jC)) eJ kf Af
def arG:T:=kY 19 (gL 20 (oN 15 (gL 15 (FP 9 (gL 21 (gL 21 (gL 21 (FP 9 (FP 9 (FP 9 (gL 22 (gL 14 (gL 13 (FP 9 (Cx (Co dJ cq (Cx (sS (Co nL cq (Co pX cq (sS (Co B3 cq (um (.v 24) cq (sS (um (.v 26) cq (nP Mi MG cq (qP 76 (qP 70 (AH (rM 3 (rM 76 (qP 70 (rM 3 (rM 3 (qP 76 (qP 70 (AH (rM 3 (qP 76 (qP 70 (AH (ol 11 cq (vj 11 (I1 11 cq (vj 11 (I1 12 cq (vj 11 (I1 13 cq (Co MY cq (di (lB cq (Co Cl cq (di (dD cq (jO (lf 40) cu (di (wH (gA aX (.v 40)) (jO (lf 41) cu (jm 23 (jm 24 (jO (.v 29) (.v 30) (jm 23 (wH (.v 31) (jm 12 (DS (gN (.v 32)) [bN,bK,bP,bQ,aV,cQ,bB,dL,dM,ao,ao,aM,ao,bB,bB,ao,aM,ao,dY,ao,aM,ao,ao,aM,ao,ao,aM,ao,ao,aM,ao,dY,ao,aM,ao,dY,ao,aM,ao,dY,ao,jS,ao,aM,ao,dY,bL,aM,ao,ao,bL,aM,ao,ao,bL,aM,ao,ao,bL,aM,ao]) Mj XH [ot,Ra]) cq) ub XH yP) cq) Aq XH (sJ [aR,aR,aR,aR,aR,dg,aR,dg,dg,dg,dg])) qK XH (sJ [aR,aR,aR,aR,aR,dg,aR,dg,dg,dg,dg,dg,dg,dg,dg,dg])) cq) cq) (cT aX (lf 40)) (cT aX (lf 40))) cq) cq (.not (BR (gA aX Ax) aX (BR (Q7 1 Ax) aX (BR (Q7 2 Ax) aX (nO (Q7 3 Ax)))))) (.v 8)) (cT aX Cl) (cT aX Cl))) (.seq (mE aX sK .str) aqz)) lZ lZ))) (j5 13) [bN,bK,bP,bQ,aV,cQ,bB,dL,dM,ao,ao,aM,ao,bB,bB,ao,aM,ao,dY,ao,aM,ao,ao,aM,ao,ao,aM,ao,ao,aM,ao,dY,ao,aM,ao,dY,ao,aM,ao,dY,ao,jS,ao,aM,ao,dY,bL,.am,.am,.am,bL,.am,.am,.am,bL,.am,.am,ao,bL,aM,ao] [aqo,Ju 57 59 60 aR oc])) (j5 12) [bN,bK,bP,bQ,aV,cQ,bB,dL,dM,ao,ao,aM,ao,bB,bB,ao,aM,ao,dY,ao,aM,ao,ao,aM,ao,ao,aM,ao,ao,aM,ao,dY,ao,aM,ao,dY,ao,aM,ao,dY,ao,jS,ao,aM,ao,dY,bL,.am,.am,.am,bL,.am,.am,ao,bL,aM,ao,.am,bL,.am,.am] [aqn,Ju 53 55 56 aR oc])) (j5 11) [bN,bK,bP,bQ,aV,cQ,bB,dL,dM,ao,ao,aM,ao,bB,bB,ao,aM,ao,dY,ao,aM,ao,ao,aM,ao,ao,aM,ao,ao,aM,ao,dY,ao,aM,ao,dY,ao,aM,ao,dY,ao,jS,ao,aM,ao,dY,bL,.am,.am,ao,bL,aM,ao,.am,bL,.am,.am,.am,bL,.am,.am] [Ra,Ju 49 51 52 aR oc]) (oH 10) (j5 10) [bN,bK,bP,bQ,aV,cQ,bB,dL,dM,ao,ao,aM,ao,bB,bB,ao,aM,ao,dY,ao,aM,ao,ao,aM,ao,ao,aM,ao,ao,aM,ao,dY,ao,aM,ao,dY,ao,aM,ao,dY,ao,jS,ao,aM,ao,dY,bL,aM,ao,.am,bL,.am,.am,.am,bL,.am,.am,.am,bL,.am,.am] [wZ,uj dg aR (ja 47) (ja 48) oc]) aqy [bN,bK,bP,bQ,aV,cQ,bB,dL,dM,ao,ao,aM,ao,bB,bB,ao,aM,ao,dY,ao,aM,ao,ao,aM,ao,ao,aM,ao,ao,aM,ao,dY,ao,aM,ao,dY,ao,aM,ao,dY,ao,jS,ao,aM,ao,dY,bL,fu,bw,bw,bL,fu,bw,bw,bL,fu,bw,bw,bL,fu,bw]) aqx aqy [ja 58]) XG aqx aqu) ae7 XG Rc) ae6 ae7) aqw ae6 [ja 54]) XF aqw ae1) ae5 XF Rc) ae4 ae5 Rc) aqv ae4 [ja 50]) XD aqv (.lit [ae1,aqu])) ae3 XD Rc) ae2 ae3) aqs ae2 [ja 46]) [bN,bK,bP,bQ,aV,cQ,bB,dL,dM,ao,ao,aM,ao,bB,bB,ao,aM,ao,dY,ao,aM,ao,ao,aM,ao,ao,aM,ao,ao,aM,ao,dY,ao,aM,ao,dY,ao,aM,ao,dY,ao,jS,ao,aM,ao,dY] aqs ae1))) (wO 25)))) (gM Iw)))) (gM lQ)) (gM iA) Mf)) wN vg) [bN,bK,bP,bQ,aV,cQ,bB,dL,dM,ao,ao,aM,ao,bB,bB,ao,aM,ao,dY,ao,aM,ao,ao,aM,ao,ao,aM,ao,ao,aM,ao,dY,ao,aM,ao,dY,ao,aM,ao,dY,ao,jS] [ot,aqq,fl] [Ju 42 43 44 Ap (j5 9),ja 45,qa] Js) (ja 41) Ao [bN,bK,bP,bQ,aV,cQ,bB,dL,dM,ao,ao,aM,ao,bB,bB,ao,aM,ao,dY,ao,aM,ao,ao,aM,ao,ao,aM,ao,ao,aM,ao,dY,ao,aM,ao,dY,ao,aM,ao,dY,ao] XC ae0) (ja 40) An aeZ XC [Cs,aW]) LU Am aeZ XC QI) [bN,bK,bP,bQ,aV,cQ,bB,dL,dM,ao,ao,aM,ao,bB,bB,ao,aM,ao,dY,ao,aM,ao,ao,aM,ao,ao,aM,ao,ao,aM,ao,dY,ao,aM,ao,dY] [ot,aqp,aR] [Ju 36 37 38 Ak FO,ja 39,Al] Js) [bN,bK,bP,bQ,aV,cQ,bB,dL,dM,ao,ao,aM,ao,bB,bB,ao,aM,ao,dY,ao,aM,ao,ao,aM,ao,ao,aM,ao,ao,aM,ao,dY] [ot,wZ,aR] [aqp,ja 35,u5] Js) [bN,bK,bP,bQ,aV,cQ,bB,dL,dM,ao,ao,aM,ao,bB,bB,ao,aM,ao,dY,ao,aM,ao,ao,aM,ao,ao,aM,ao] [ot,wZ,yo] [Ju 28 29 30 pW Aa,ja 31,oZ] Js) (uj (ja 25) oe (ja 26) (ja 27) tZ) pU [bN,bK,bP,bQ,aV,cQ,bB,dL,dM,ao,ao,aM,ao,bB,bB,ao,aM,ao,dY,ao,aM,ao,ao,aM,ao] [ot,wZ,qG aR aR fl] XA) aqo p8 [bN,bK,bP,bQ,aV,cQ,bB,dL,dM,ao,ao,aM,ao,bB,bB,ao,aM,ao,dY,ao,aM,ao] [ot,Ra,qG aR aR fl] XA) aqn pV [bN,bK,bP,bQ,aV,cQ,bB,dL,dM,ao,ao,aM,ao,bB,bB,ao,aM,ao,dY] [ot,Ra,qG aR aR aR] XA) [bN,bK,bP,bQ,aV,cQ,bB,dL,dM,ao,ao,aM,ao,bB,bB] XC [Ra,qb,j7] Js) vx j6 [bN,bK,bP,bQ,aV,cQ,bB,dL,dM,ao,ao,aM,ao,bB] [ot,FV] [Q9,aW]) ot fl XB gP [Q9,aW]) wZ fA kf yP XA) ot [] [] [aW,aW,aW,aW,aW,.ah bN,aW,.ah bK,.ah bP,.ah bQ,.ah aV,.ah cQ,Q9,.ah dL,.ah dM,Cs]
def arH:T:=qP 130 (qP 132 (qP 128 (qP 4 (qP 134 (qP 67 (kY 47 (kY 47 (.new 94 (.lit [aqC,aqD]) [bN,bK,aV,eU,dS,j9,.str,.str] ae8 (.new 3 (yN vc) ae8 ae9 (.new 3 Rc ae9 afa (.new 39 (.lit [[FW],[o7]]) afa afb (.new 69 (yN [DX,og]) afb afc (.new 66 (yN [FX]) afc aqE (fJ (.agg [bh BT,bh BT,fl,aR,fl,BX,fl,DW,dg,dg,Ad,dg,Ag,wL,Ay,dg]) aqE))))))) (.agg aqD) [.am,.am,.am,.am,dS,.am,.str] [.ah aqz] aqB) (.agg aqC) [.am,.am,.am,.am,dS,.am] [.ah (.k (.string ⟨#[112]⟩))] aqB) aqA [Cu,Gu,jl,F0,dS,ue] [IC]) [Cu,Gu,jl,F0] aqA [fl,aR,aR,oc]) [Cu,Gu,jl] [Cu,Gu,jl,F0] [DT]) [Cu,Gu] [Cu,Gu,jl] [fl,aR,aR,fl,fl,fl,fl,aR,yo,aR,aR,fl,fl,fl]) [Cu] [Cu,Gu] [aR,pZ 100,aR]) [] [Cu] [.ah (.k (.string ⟨#[97]⟩)),bh FM,bh FM,aR]
def arI:T:=ke 23 cq (yU 0 (gL 48 (qP 76 (qP 70 (nQ 70 (mD Gm Ay) (.and Em I7) aqG [bN,bK,bP,bQ,aV,cQ,bB,dL,dM,ao,.am,bL,fu,fu] En M1) aqF aqG [wL]) XI aqF aoo) Wj u5 [bN,bK,bP,bQ,aV,cQ,bB,dL,dM,ao,.am] [L4 (mB 1 cL) (mB 3 cL) (ud 0 cL kX .str) (bh (mB 2 cL))] I4) (sQ 3 (lT (uj dg aR o7 wL oc) [bN,bK,bP,bQ,aV,cQ,bB,dL,dM,ao,aM,ao]) (.and (iU ld) Em) XI [bN,bK,bP,bQ,aV,cQ,bB,dL,dM,ao,fu,bw] (.wb ld vc)) QR Xh Xh (sF fu)) L6 eJ kf yP
def arJ:T:=kY 13 (sS (vj 30 (lT lN vD) lN vD [ot,wZ,Ay]) vg) XB gP XJ ae0
def arK:T:=fJ (.agg [BX,pZ 60,pZ 40,fl,u4,yo,fl,fl,fl,IG,IG,IG,u4,u4,u4,Ew,pZ 100]) mC
def arL:T:=AJ 71 cq (AB 71 cq (ol 71 cq (lT (.agg [bh pe,bh pf,gm,aR,aR,aR,aR,aR,aR,aR,aR,aR,aR]) mC) BP qE mC [gm,aR,bh wI]) mC [ji,aR,IG]) jZ mC [jk,aR,IG]
def arM:T:=jm 23 (dD cq (mu dg fl kf) (sS (oN 39 (lT o7 aqH) ot eJ o7 kf [Q9]) (sD eD kz)) wN (rB eD)) fA kf yP
def Ry:T:=.aT L5 (jm 12 (dD (fJ (.bM [Q4,dg,fD]) gP) (Qa Q4 dg fl gP) (EE 3 (AG (EE 70 (nQ 70 (EF 3 (EG (AH (AG (yT sM rK qb dg [bN,bK,bP,bQ,aV,cQ,bB,dL,dM,ao,ao,aM,ao,.am,.am,.am,aM,.am,ao,ao,ao]) yF (I9 19) aqI [bN,bK,bP,bQ,aV,cQ,bB,dL,dM,ao,ao,aM,ao,.am,.am,.am,fu,.am,bw,bw,bw] wV (qN 19)) Jq aqI) Ni Nh Jq Jp) (AH (AG (yT qb rK dg dg [bN,bK,bP,bQ,aV,cQ,bB,dL,dM,ao,ao,aM,ao,.am,.am,.am,aM,ao,ao]) yF Ni Nh [bN,bK,bP,bQ,aV,cQ,bB,dL,dM,ao,ao,aM,ao,.am,.am,.am,fu,bw,bw] wV Jp) Jo Nh) Jo Nh) (.and vy Jj) Xv Jo vz Gi) (EF 3 (EG (AH (AG (yT qb dg rK dg [bN,bK,bP,bQ,aV,cQ,bB,dL,dM,ao,ao,aM,ao,.am,.am,.am,ao,ao,ao]) yF Ni aqJ [bN,bK,bP,bQ,aV,cQ,bB,dL,dM,ao,ao,aM,ao,.am,.am,.am,bw,bw,bw] wV Jp) afe aqJ) vy Nn afe vz) (AH (AG (yT rK dg dg dg [bN,bK,bP,bQ,aV,cQ,bB,dL,dM,ao,ao,aM,ao,.am,.am,ao,ao]) yF vy Nn [bN,bK,bP,bQ,aV,cQ,bB,dL,dM,ao,ao,aM,ao,.am,.am,bw,bw] wV vz) AD Nn) AD Nn) Q5 AD Xv) MZ Em Gr AD M0 En) (EE 70 (nQ 70 (EF 3 (EG (AH (Cy (yT qb vx rK dg [bN,bK,bP,bQ,aV,cQ,bB,dL,dM,ao,ao,aM,ao,.am,aM,.am,ao,ao,ao]) Ni aqL [bN,bK,bP,bQ,aV,cQ,bB,dL,dM,ao,ao,aM,ao,.am,fu,.am,bw,bw,bw] Jp) aff aqL) vy XK aff vz) (AH (Cy (yT rK vx dg dg [bN,bK,bP,bQ,aV,cQ,bB,dL,dM,ao,ao,aM,ao,.am,aM,ao,ao]) vy XK [bN,bK,bP,bQ,aV,cQ,bB,dL,dM,ao,ao,aM,ao,.am,fu,bw,bw] vz) Re XK) Re XK) (.and MZ Jj) aqK Re M0 Gi) (EF 3 (EG (AH (Cy (yT rK dg vx dg [bN,bK,bP,bQ,aV,cQ,bB,dL,dM,ao,ao,aM,ao,.am,ao,ao,ao]) vy Nn [bN,bK,bP,bQ,aV,cQ,bB,dL,dM,ao,ao,aM,ao,.am,bw,bw,bw] vz) AD Nn) MZ Gr AD M0) (AH (Cy (yT vx dg dg dg [bN,bK,bP,bQ,aV,cQ,bB,dL,dM,ao,ao,aM,ao,ao,ao]) MZ Gr [bN,bK,bP,bQ,aV,cQ,bB,dL,dM,ao,ao,aM,ao,bw,bw] M0) gP Gr) gP Gr) Q5 gP aqK) aeL gP Gr) vg afd) fD gP Q3) (kY 13 (dD (fJ (.bM [Q4,dg,fD]) vD) aqM (AB 30 aqM (EE 3 (AG (EE 70 (nQ 70 (EF 3 (EG (GC (AG (di (lX 0 (QZ (yS AA Jt Gt) (rM 96 (nQ 96 (gO (gO (yQ (.new 76 XP afi aqW (sQ 70 (EA 3 (yS (ja 26) (ja 28) (ja 29)) (oO (lf 24)) (oO (lf 24)) aqX [bN,bK,bP,bQ,aV,cQ,bB,dL,dM,ao,ao,aM,ao,jS,.am,.am,.am,.am,.am,.am,bw,bw,.am,.am,.am,iW,iW,bL,fu,bw] (Gy XQ (qN 24))) (oO (lf 23)) aqW aqX (Gy [ja 27] (qN 23)))) (yS (ja 26) Jt Gt) XO (oO (lf 23)) mq) lZ lZ Gx Gx) sL sL Ct Ct) (.and (I9 22) (I9 25)) aqU afi (qN 22) (qN 25)) [bN,bK,bP,bQ,aV,cQ,bB,dL,dM,ao,ao,aM,ao,jS,.am,.am,.am,.am,.am,.am,bw,bw,iW,fu,bw] aqU XN) Gw Gw XM) (yT Az Jt Gt AA [bN,bK,bP,bQ,aV,cQ,bB,dL,dM,ao,ao,aM,ao,jS,.am,.am,.am,.am,.am,.am,ao,ao,dY,aM,ao]) Rh [aR,dg,rJ,uf] Gv) lZ lZ) vy ad2 aqP [bN,bK,bP,bQ,aV,cQ,bB,dL,dM,ao,ao,aM,ao,jS,.am,.am,.am,fu,.am,bw,bw,bw] vz (qN 20)) afh aqP) Rg XL afh Jr) (GC (AG (Jx 0 afk lZ lZ [aR,dg,rJ,dg] Gv) vy Rg XL [bN,bK,bP,bQ,aV,cQ,bB,dL,dM,ao,ao,aM,ao,jS,.am,.am,.am,fu,bw,bw] vz Jr) Rf XL) Rf XL) (.and Gc Jj) aqN Rf Es Gi) (EF 3 (EG (GC (AG (Jx 0 afk lZ lZ [aR,dg,dg,rJ] Gv) vy Rg aq3 [bN,bK,bP,bQ,aV,cQ,bB,dL,dM,ao,ao,aM,ao,jS,.am,.am,.am,bw,bw,bw] vz Jr) afl aq3) Gc No afl Es) (GC (AG (Jx 0 afn lZ lZ WB Gv) vy Gc No [bN,bK,bP,bQ,aV,cQ,bB,dL,dM,ao,ao,aM,ao,jS,.am,.am,bw,bw] vz Es) EB No) EB No) Q5 EB aqN) yF Em Jv EB wV En) (EE 70 (nQ 70 (EF 3 (EG (GC (Cy (Jx 0 afk lZ lZ [aR,dg,vw,rJ] Gv) Rg ara [bN,bK,bP,bQ,aV,cQ,bB,dL,dM,ao,ao,aM,ao,jS,.am,fu,.am,bw,bw,bw] Jr) afo ara) Gc XR afo Es) (GC (Cy (Jx 0 afn lZ lZ [aR,dg,vw,dg] Gv) Gc XR [bN,bK,bP,bQ,aV,cQ,bB,dL,dM,ao,ao,aM,ao,jS,.am,fu,bw,bw] Es) Rj XR) Rj XR) (.and yF Jj) aq9 Rj wV Gi) (EF 3 (EG (GC (Cy (Jx 0 afn lZ lZ [aR,dg,dg,vw] Gv) Gc No [bN,bK,bP,bQ,aV,cQ,bB,dL,dM,ao,ao,aM,ao,jS,.am,bw,bw,bw] Es) EB No) yF Jv EB wV) (GC (Cy (di (lX 0 (QZ (yS rK rJ qb) (rM 96 (nQ 96 (gO (gO (yQ (.new 76 XP afp are (sQ 70 (EA 3 (yS sM AA Jt) (oO Cl) (oO Cl) arf [bN,bK,bP,bQ,aV,cQ,bB,dL,dM,ao,ao,aM,ao,jS,bw,bw,.am,.am,.am,iW,iW,bL,fu,bw] (Gy XQ Jr)) (oO (lf 17)) are arf (Gy [Az] Jp))) (yS sM rJ qb) XO (oO (lf 17)) mq) lZ lZ Gx Gx) sL sL Ct Ct) (.and Gc (I9 19)) arc afp Es (qN 19)) [bN,bK,bP,bQ,aV,cQ,bB,dL,dM,ao,ao,aM,ao,jS,bw,bw,iW,fu,bw] arc XN) Gw Gw XM) (yT vw rJ qb rK [bN,bK,bP,bQ,aV,cQ,bB,dL,dM,ao,ao,aM,ao,jS,ao,ao,dY,aM,ao]) Rh WB Gv) lZ lZ) yF Jv [bN,bK,bP,bQ,aV,cQ,bB,dL,dM,ao,ao,aM,ao,jS,bw,bw] wV) vD Jv) vD Jv) Q5 vD aq9) aeL vD Jv) vD [ot,wZ,Ay]) vg tX) XB gP XJ ae0)
def arN:T:=ke 36 cq (kY 37 (yU 0 (Ns (nR 3 (mD t7 vw) yF [bN,bK,bP,bQ,aV,cQ,bB,dL,dM,ao,ao,aM,ao,eU,bw] [bN,bK,bP,bQ,aV,cQ,bB,dL,dM,ao,ao,aM,ao,eU,.am,bw] [j6] wV) (yR dJ sK)) (lT vx [bN,bK,bP,bQ,aV,cQ,bB,dL,dM,ao,ao,aM,ao,eU,ao]) afq XS XS Jc) Ay gP XJ [.ah eU]) vg fD gP XJ
def agI:T:=di (EC 0 (gO (nR 94 (mD Gm wL) Em [bN,bK,bP,bQ,aV,cQ,bB,dL,dM,ao,.own 94] [bN,bK,bP,bQ,aV,cQ,bB,dL,dM,ao,.am,.own 94] [Ga 0 Ez,s6 1,s6 2,s6 3,s6 4,s6 5,s6 6,s6 7,s6 8,s6 9,s6 10,s6 11,s6 12,s6 13,s6 14,s6 15,s6 16] En) Gp Gp (lD Ez Ez lC) (lD Ez Ez lC)) (fJ o7 aqH) aeF (sF (.own 94))) M9 M9
def arO:T:=Cr 0 (oN 39 (gL 70 (Cx Jg zY vg) lN fD [bN,bK,bP,bQ,aV,cQ,bB,dL,dM,ao,ao,aM,ao,jS,bB] [nM,ac4,vx,.agg [gq 0 cL sK,ud 1 cL sK eU,ud 2 cL sK bL,ud 3 cL sK bL,ud 4 cL sK j9,ud 5 cL sK kb]] QI) ot eJ vx vD [Q9]) (yq vD) afr wX afr (Gl afr)
def agJ:T:=jm 12 (dD (fJ fD gP) afs (.aT (cT cL cu) afs (di (mW cL (.len afu) afs (vF gP)) XT XT)) vg afd) fD gP Q3
def agK:T:=oN 52 (yU 0 (mW Gs cu (di (Nq 1 (mD t7 vw) [bN,bK,bP,bQ,aV,cQ,bB,dL,dM,ao,ao,aM,ao,ao,Rk] [yw 0 sK,iP (.look Aw 1 (FZ sK) aX aX 1)] wV Rk) XS XS) (mD t7 vx)) (EC 1 (Gf (gO (.aT (yR gp ari) (nR 4 (jR 1 El rK) vy arm arn [.bool (gN (.look Aw 1 (gA gp sK) aX aX 1))] vz) (nR 4 (jR 1 El rK) vy arm arn [oc] vz)) arh arh arj arj) I2 afv I2 afv XT XT) (fJ vw [bN,bK,bP,bQ,aV,cQ,bB,dL,dM,ao,ao,aM,ao,ao,Rk,eU]) afv (sF F0)) afq sL sL (sF Rk)) nM (bh ld) XB gP [Cs,aW]
def agL:T:=AB 5 Ex (ol 6 Xq (ol 7 Xq (ke 8 Xq (FP 9 (.aT afd (DS (nO gp) XU) (Cy (nQ 70 (Cy (nQ 3 (yp QG aX XW XW (ol 11 XW (ke 12 XW (FP 9 (DS Mf [bN,bK,bP,bQ,aV,cQ,bB,dL,dM,ao,ao,aM,ao,ao,aM,ao,dY,.am,aM,ao,ao,ao,aM,ao,dY]) ars [ot,aqq,II cu (LW (.conv I cL) jC .rem)] [uj Az iK AA Jt Ac,Gt,pV] Js) (gM iA) j7 ars [ot,afw]) Iv Aa arq [afw,uj sM eJ qb uf jY]) (gM gp)) Ni aro [bN,bK,bP,bQ,aV,cQ,bB,dL,dM,ao,ao,aM,ao,ao,aM,ao,dY,.am,fu,bw,bw] Jp (yN vc)) I7 afy aro M1) Jj afx afy BZ Gi) Em XU afx En)) gP [ot,wZ,aR] [afw,rK,iD] Js) vg fD gP Q3) zZ tY gP [wZ]) BP qE gP yP) gP []
end
def Jz:List RK:=[(.sl 130),(.sl 132),(.sl 253),(.sl 255),(.sl 128),(.sl 141),(.sl 94),(.sl 39),(.sl 66),(.sl 3),(.sl 3),(.sl 70),(.sl 3),(.sl 4),.am,(.sl 67)]
def JA:Nat->List RK
 |0=>[]
 |d+1=>.am::(.sl 67)::(.sl 70)::JA d
def yV(d:Nat):List RK:=Jz++JA d++[(.own 79),(.sl 67),(.sl 70)]
def Cz:Nat->List RK
 |0=>[]
 |m+1=>.am::(.own 76)::Cz m
def arP:Nat->List RK
 |0=>[]
 |m+1=>.am::(.sl 76)::arP m
def Rz:List RK:=[(.sl 94),(.sl 4),(.sl 76),(.sl 76),(.sl 67),(.sl 124)]
def uo:Nat->Nat
 |0=>11
 |d+1=>18+3*d
def GF(j:Nat):List C:=(fw 13).map λq=>.int I (.cell (.cell (.v (uo j)) (.c 0) 0 (.sl 76)) (.v (12+j)) q)
def RA:Nat->T->T
 |0,t=>t
 |n+1,t=>.be (.c J) (RA n t)
def Nw:List C:=[(.int I (.v 0)),(.int I (.v 1)),(.int I (.v 2)),(.int I (.v 3)),(.int I (.v 4)),(.ah (.v 0)),(.int I (.v 5)),(.ah (.v 1)),(.ah (.v 2)),(.ah (.v 3)),(.ah (.v 4))]
def acT(d:Nat):T:=
 .call 39 [(.agg (Nw++[(.ah (.v 5)),(.ah (.v 6)),(.ah (.v 7)),(.ah (.v 8)),(.ah (.v 9))])),(.int I (.v 6))] [] (Jz++JA (d+1)++eN (2*d+2) .am) [(.ah (.sl 94))] (.ah (.v (21+5*d)))
  (.call 17 [(.agg Nw),(.agg [(.ah (.v 5))]),(.ah (.v (21+5*d))),(.int I (.len (.v 10))),(.ah (.v 13)),(.ah (.v (20+5*d))),(.ah (.v (17+3*d)))] [] (Jz++JA (d+1)++eN (2*d+1) .am++[(.sl 76),(.sl 94)]) [(.int I),(.ah (.sl 4)),(.ah (.sl 76)),(.ah (.sl 76)),(.ah (.sl 67)),(.ah (.sl 124)),(.int I)] (.bM [(.agg [(.int I (.v (13+d))),(.ah (.v (22+5*d))),(.ah (.v (23+5*d))),(.ah (.v (24+5*d))),(.ah (.v (25+5*d))),(.ah (.v (26+5*d)))]),(.int I (.v (14+d)))])
  (.aT (.cmp .neq (.v (14+d)) (.c 0))
  (RA (d+1) (.ret (.bM [(.ah (.k (.slice Z 0 0))),(.int I (.v (14+d)))]) [] (Jz++JA d++[(.sl 79),(.sl 67),(.sl 70)]++arP (d+1)++Rz)))
  (.be (.c J)
   (.new 79 (.lit [[(.int I (.v (13+d))),(.ah (.v (22+5*d))),(.ah (.v (23+5*d))),(.ah (.v (24+5*d))),(.ah (.v (25+5*d))),(.ah (.v (26+5*d)))]]) (yV d++Cz d++[.am,(.sl 76)]++Rz) (yV d++Cz d++[.am,(.sl 76)]++Rz++[(.own 79)])
   (.be (.and (.cmp .leq (.len (.v (16+3*d))) (.c 536870912)) (.cmp .leq (.len (.v (27+5*d))) (.c 536870912)))
   (.new 79 (.kJ (.ah (.v (16+3*d))) (.ah (.v (27+5*d)))) (yV d++Cz d++[.am,(.sl 76)]++Rz++[(.own 79)]) (Jz++JA (d+1)++Cz d++[.am,(.sl 76)]++Rz++[(.own 79),(.own 79)])
   (RA (d+1) (.back (2+d) [(.int I (.bin .add I (.v (12+d)) (.c 1))),(.ah (.v (28+5*d))),(.ah (.v (17+3*d)))]))))))))
def RC(d:Nat):Nat->Nat->T
 |0,_=>acT d
 |j+1,m=>.be (.c J)
  (.new 76 (.lit [GF j]) (yV d++Cz m) (yV d++Cz m++[(.own 76)])
  (.be (.and (.cmp .leq (.len (.v (19+3*d+2*m))) (.c 536870912)) (.cmp .leq (.len (.v (18+3*d+2*m))) (.c 536870912)))
  (.new 76 (.kJ (.ah (.v (19+3*d+2*m))) (.ah (.v (18+3*d+2*m)))) (yV d++Cz m++[(.own 76)]) (yV d++Cz (m+1))
  (RC d j (m+1)))))
def Yg:Nat->List C
 |0=>[(.int I (.c 0)),(.ah (.k (.slice Z 0 0))),(.ah (.v 15))]
 |d+1=>[(.int I (.c 0)),(.ah (.v (16+3*d))),(.ah (.v (17+3*d)))]
def Yh:Nat->T
 |0=>.ret (.bM [(.ah (.v 16)),(.int I (.c 0))]) [] (Jz++[(.sl 79),(.sl 67)])
 |d+1=>.back (2+d) [(.int I (.bin .add I (.v (12+d)) (.c 1))),(.ah (.v (19+3*d))),(.ah (.v (20+3*d)))]
def Yi:Nat->Nat->T
 |0,d=>.loop (2+d) [(.int I),(.ah (.own 79)),(.ah (.sl 67))] (Yg d) (.stuck "fuel")
 |n+1,d=>.loop (2+d) [(.int I),(.ah (.own 79)),(.ah (.sl 67))] (Yg d)
  (.aT (.cmp .lss (.v (12+d)) (.len (.cell (.v (uo d)) (.c 0) 0 (.sl 76))))
   (.be (.and (.cmp .leq (.c 0) (.v (12+d))) (.cmp .lss (.v (12+d)) (.len (.cell (.v (uo d)) (.c 0) 0 (.sl 76)))))
   (.be (.and (.cmp .leq (.c 0) (.v (12+d))) (.cmp .lss (.v (12+d)) (.len (.cell (.v (uo d)) (.c 0) 0 (.sl 76)))))
   (.be (.cmp .leq (.c 1) (.len (.v (uo d))))
   (.new 70 (.sub (.ah (.v (uo d))) (.c 1) (.len (.v (uo d)))) (Jz++JA d++[(.own 79),(.sl 67)]) (yV d)
   (.aT (.cmp .eql (.len (.v (18+3*d))) (.c 0))
   (.be (.c J)
   (.new 76 (.lit [GF d]) (yV d) (yV d++[(.own 76)])
   (.be (.cmp .leq (.len (.v (19+3*d))) (.c 536870912))
   (.new 76 (.kJ (.ah (.v (19+3*d))) (.lit [])) (yV d++[(.own 76)]) (yV d++Cz 1)
   (RC d d 1)))))
   (.be (.cmp .lss (.c 0) (.len (.v (18+3*d))))
   (.be (.cmp .lss (.c 0) (.len (.v (18+3*d))))
   (Yi n (d+1)))))))))
   (Yh d))
def agN:T:=(.call 36 [(.agg [(.int I (.v 0)),(.int I (.v 1)),(.int I (.v 2)),(.int I (.v 3)),(.int I (.v 4)),(.ah (.v 0)),(.int I (.v 5)),(.ah (.v 1)),(.ah (.v 2)),(.ah (.v 3)),(.ah (.v 4)),(.ah (.v 5)),(.ah (.v 6)),(.ah (.v 7)),(.ah (.v 8)),(.ah (.v 9))]),(.agg [(.ah (.v 10)),(.int I (.v 6)),(.ah (.v 11)),(.ah (.v 12)),(.bool (.v 0))]),(.int I (.v 7))] [] [(.sl 130),(.sl 132),(.sl 253),(.sl 255),(.sl 128),(.sl 141),(.sl 94),(.sl 39),(.sl 66),(.sl 3),(.sl 3),(.sl 70),(.sl 3)] [.int I] (.int I (.v 8)) (.aT (.cmp .neq (.v 8) (.c 0)) (.ret (.bM [(.ah (.k (.slice Z 0 0))),(.int I (.v 8))]) [] [(.sl 130),(.sl 132),(.sl 253),(.sl 255),(.sl 128),(.sl 141),(.sl 94),(.sl 39),(.sl 66),(.sl 3),(.sl 3),(.sl 70),(.sl 3)]) (.loop 0 [.int I,.int I] [(.int I (.c 0)),(.int I (.c 1))] (.aT (.cmp .lss (.v 9) (.len (.v 11))) (.be (.and (.cmp .leq (.c 0) (.v 9)) (.cmp .lss (.v 9) (.len (.v 11)))) (.be (.and (.cmp .leq (.c 0) (.v 9)) (.cmp .lss (.v 9) (.len (.v 11)))) (.aT (.cmp .gtr (.bin .mul I (.v 10) (.len (.cell (.v 11) (.v 9) 0 (.sl 76)))) (.c 256)) (.ret (.bM [(.ah (.k (.slice Z 0 0))),(.int I (.c 2))]) [] [(.sl 130),(.sl 132),(.sl 253),(.sl 255),(.sl 128),(.sl 141),(.sl 94),(.sl 39),(.sl 66),(.sl 3),(.sl 3),(.sl 70),(.sl 3)]) (.back 0 [(.int I (.bin .add I (.v 9) (.c 1))),(.int I (.bin .mul I (.v 10) (.len (.cell (.v 11) (.v 9) 0 (.sl 76)))))])))) (.call 37 [(.agg [(.int I (.v 0)),(.int I (.v 1)),(.int I (.v 2)),(.int I (.v 3)),(.int I (.v 4)),(.ah (.v 0)),(.int I (.v 5)),(.ah (.v 1)),(.ah (.v 2)),(.ah (.v 3)),(.ah (.v 4)),(.ah (.v 5)),(.ah (.v 6)),(.ah (.v 7)),(.ah (.v 8)),(.ah (.v 9))]),(.agg [(.ah (.v 10)),(.int I (.v 6)),(.ah (.v 11)),(.ah (.v 12)),(.bool (.v 0))]),(.int I (.v 7))] [] [(.sl 130),(.sl 132),(.sl 253),(.sl 255),(.sl 128),(.sl 141),(.sl 94),(.sl 39),(.sl 66),(.sl 3),(.sl 3),(.sl 70),(.sl 3)] [.ah (.sl 4)] (.ah (.v 13)) (.be (.and (.cmp .leq (.c 0) (.len (.v 13))) (.cmp .leq (.len (.v 13)) (.c 536870912))) (.new 67 (.wb (.len (.v 13)) [(.ah (.k (.slice Z 0 0)))]) [(.sl 130),(.sl 132),(.sl 253),(.sl 255),(.sl 128),(.sl 141),(.sl 94),(.sl 39),(.sl 66),(.sl 3),(.sl 3),(.sl 70),(.sl 3),(.sl 4)] [(.sl 130),(.sl 132),(.sl 253),(.sl 255),(.sl 128),(.sl 141),(.sl 94),(.sl 39),(.sl 66),(.sl 3),(.sl 3),(.sl 70),(.sl 3),(.sl 4),(.own 67)] (.loop 1 [.int I,.ah (.own 67)] [(.int I (.c 0)),(.ah (.v 14))] (.aT (.cmp .lss (.v 11) (.len (.v 13))) (.be (.and (.cmp .leq (.c 0) (.v 11)) (.cmp .lss (.v 11) (.len (.v 13)))) (.be (.and (.cmp .leq (.c 0) (.v 11)) (.cmp .lss (.v 11) (.len (.v 13)))) (.aT (.cell (.v 13) (.v 11) 0) (.be (.and (.cmp .leq (.c 0) (.len (.v 10))) (.cmp .lss (.len (.v 10)) (.len (.v 8)))) (.be (.and (.cmp .leq (.c 0) (.len (.v 10))) (.cmp .lss (.len (.v 10)) (.len (.v 8)))) (.be (.and (.cmp .leq (.c 0) (.bin .sub I (.v 7) (.c 1))) (.cmp .lss (.bin .sub I (.v 7) (.c 1)) (.len (.cell (.v 8) (.len (.v 10)) 0 (.sl 69))))) (.be (.and (.cmp .leq (.c 0) (.bin .sub I (.v 7) (.c 1))) (.cmp .lss (.bin .sub I (.v 7) (.c 1)) (.len (.cell (.v 8) (.len (.v 10)) 0 (.sl 69))))) (.be (.and (.cmp .leq (.c 0) (.v 11)) (.cmp .lss (.v 11) (.len (.cell (.cell (.v 8) (.len (.v 10)) 0 (.sl 69)) (.bin .sub I (.v 7) (.c 1)) 1 (.sl 67))))) (.be (.and (.cmp .leq (.c 0) (.v 11)) (.cmp .lss (.v 11) (.len (.cell (.cell (.v 8) (.len (.v 10)) 0 (.sl 69)) (.bin .sub I (.v 7) (.c 1)) 1 (.sl 67))))) (.be (.and (.cmp .leq (.c 0) (.v 11)) (.cmp .lss (.v 11) (.len (.v 15)))) (.be (.and (.cmp .leq (.c 0) (.v 11)) (.cmp .lss (.v 11) (.len (.v 15)))) (.new 67 (.set (.ah (.v 15)) (.v 11) 0 [(.ah (.cell (.cell (.cell (.v 8) (.len (.v 10)) 0 (.sl 69)) (.bin .sub I (.v 7) (.c 1)) 1 (.sl 67)) (.v 11) 0 (.sl 134)))]) [(.sl 130),(.sl 132),(.sl 253),(.sl 255),(.sl 128),(.sl 141),(.sl 94),(.sl 39),(.sl 66),(.sl 3),(.sl 3),(.sl 70),(.sl 3),(.sl 4),.am,(.own 67)] [(.sl 130),(.sl 132),(.sl 253),(.sl 255),(.sl 128),(.sl 141),(.sl 94),(.sl 39),(.sl 66),(.sl 3),(.sl 3),(.sl 70),(.sl 3),(.sl 4),.am,.am,(.own 67)] (.back 1 [(.int I (.bin .add I (.v 11) (.c 1))),(.ah (.v 16))])))))))))) (.back 1 [(.int I (.bin .add I (.v 11) (.c 1))),(.ah (.v 15))])))) (.aT (.cmp .eql (.len (.v 11)) (.c 0)) (.call 39 [(.agg [(.int I (.v 0)),(.int I (.v 1)),(.int I (.v 2)),(.int I (.v 3)),(.int I (.v 4)),(.ah (.v 0)),(.int I (.v 5)),(.ah (.v 1)),(.ah (.v 2)),(.ah (.v 3)),(.ah (.v 4)),(.ah (.v 5)),(.ah (.v 6)),(.ah (.v 7)),(.ah (.v 8)),(.ah (.v 9))]),(.int I (.v 6))] [] [(.sl 130),(.sl 132),(.sl 253),(.sl 255),(.sl 128),(.sl 141),(.sl 94),(.sl 39),(.sl 66),(.sl 3),(.sl 3),(.sl 70),(.sl 3),(.sl 4),.am,.am] [.ah (.sl 94)] (.ah (.v 16)) (.call 17 [(.agg [(.int I (.v 0)),(.int I (.v 1)),(.int I (.v 2)),(.int I (.v 3)),(.int I (.v 4)),(.ah (.v 0)),(.int I (.v 5)),(.ah (.v 1)),(.ah (.v 2)),(.ah (.v 3)),(.ah (.v 4))]),(.agg [(.ah (.v 5))]),(.ah (.v 16)),(.int I (.len (.v 10))),(.ah (.v 13)),(.ah (.k (.slice Z 0 0))),(.ah (.v 15))] [] [(.sl 130),(.sl 132),(.sl 253),(.sl 255),(.sl 128),(.sl 141),(.sl 94),(.sl 39),(.sl 66),(.sl 3),(.sl 3),(.sl 70),(.sl 3),(.sl 4),.am,(.sl 67),(.sl 94)] [.int I,.ah (.sl 4),.ah (.sl 76),.ah (.sl 76),.ah (.sl 67),.ah (.sl 124),.int I] (.bM [(.agg [(.int I (.v 12)),(.ah (.v 17)),(.ah (.v 18)),(.ah (.v 19)),(.ah (.v 20)),(.ah (.v 21))]),(.int I (.v 13))]) (.aT (.cmp .neq (.v 13) (.c 0)) (.ret (.bM [(.ah (.k (.slice Z 0 0))),(.int I (.v 13))]) [] [(.sl 130),(.sl 132),(.sl 253),(.sl 255),(.sl 128),(.sl 141),(.sl 94),(.sl 39),(.sl 66),(.sl 3),(.sl 3),(.sl 70),(.sl 3),(.sl 4),.am,(.sl 67),(.sl 94),(.sl 4),(.sl 76),(.sl 76),(.sl 67),(.sl 124)]) (.be (.c J) (.new 79 (.lit [[(.int I (.v 12)),(.ah (.v 17)),(.ah (.v 18)),(.ah (.v 19)),(.ah (.v 20)),(.ah (.v 21))]]) [(.sl 130),(.sl 132),(.sl 253),(.sl 255),(.sl 128),(.sl 141),(.sl 94),(.sl 39),(.sl 66),(.sl 3),(.sl 3),(.sl 70),(.sl 3),(.sl 4),.am,(.sl 67),(.sl 94),(.sl 4),(.sl 76),(.sl 76),(.sl 67),(.sl 124)] [(.sl 130),(.sl 132),(.sl 253),(.sl 255),(.sl 128),(.sl 141),(.sl 94),(.sl 39),(.sl 66),(.sl 3),(.sl 3),(.sl 70),(.sl 3),(.sl 4),.am,(.sl 67),(.sl 94),(.sl 4),(.sl 76),(.sl 76),(.sl 67),(.sl 124),(.own 79)] (.be (.cmp .leq (.len (.v 22)) (.c 536870912)) (.new 79 (.kJ (.lit []) (.ah (.v 22))) [(.sl 130),(.sl 132),(.sl 253),(.sl 255),(.sl 128),(.sl 141),(.sl 94),(.sl 39),(.sl 66),(.sl 3),(.sl 3),(.sl 70),(.sl 3),(.sl 4),.am,(.sl 67),(.sl 94),(.sl 4),(.sl 76),(.sl 76),(.sl 67),(.sl 124),(.own 79)] [(.sl 130),(.sl 132),(.sl 253),(.sl 255),(.sl 128),(.sl 141),(.sl 94),(.sl 39),(.sl 66),(.sl 3),(.sl 3),(.sl 70),(.sl 3),(.sl 4),.am,(.sl 67),(.sl 94),(.sl 4),(.sl 76),(.sl 76),(.sl 67),(.sl 124),(.own 79),(.own 79)] (.ret (.bM [(.ah (.v 23)),(.int I (.c 0))]) [] [(.sl 130),(.sl 132),(.sl 253),(.sl 255),(.sl 128),(.sl 141),(.sl 94),(.sl 39),(.sl 66),(.sl 3),(.sl 3),(.sl 70),(.sl 3),(.sl 4),.am,(.sl 67),(.sl 94),(.sl 4),(.sl 76),(.sl 76),(.sl 67),(.sl 124),(.sl 79),(.sl 79)])))))))) (.be (.cmp .lss (.c 0) (.len (.v 11))) (.be (.cmp .lss (.c 0) (.len (.v 11))) (Yi 12 0)))))))))))))
section
def bT(a b c d:Int):Bool:=decide (-1099511627776<=a)&&decide (a<=1099511627776)&&decide (-1099511627776<=b)&&decide (b<=1099511627776)&&decide (-1099511627776<=c)&&decide (c<=1099511627776)&&decide (-1099511627776<=d)&&decide (d<=1099511627776)&&decide (a<=b)&&decide (c<=d)
def JB(a b c d X W V Q:Int):Bool:= !(decide (a<=W)&&decide (X<=b)&&decide (c<=Q)&&decide (V<=d))
def agO:bq->kE
 |[.i a,.i b,.i c,.i d,.i X,.i W,.i V,.i Q]=>U (.ret (if bT a b c d&&bT X W V Q then[.b (JB a b c d X W V Q),.i 0] else[.b E,.i 150]))
 |_=>Z
def GG:Nat->List UInt8->UInt8->Int
 |_,[],_=>-1
 |k,x::l,b=>if x==b then k else GG (k+1) l b
def Yj:bq->kE
 |[.r s,.i b]=>match s.val with
  |.string t=>U (.ret [.i (GG 0 t.toList (UInt8.ofNat b.toNat))])
  |_=>U (.ret [.i (-1)])
 |_=>Z
def Nx:nG:=λf X=>if f=202 then agO X else if f=169 then Yj X else Z
def GH:FuncId->Option Fn
 |55=>U ⟨T82,E,E⟩
 |57=>U ⟨Ro,J,E⟩
 |71=>U ⟨afB,E,E⟩
 |114=>U ⟨afC,E,E⟩
 |115=>U ⟨XX,J,E⟩
 |317=>U ⟨afD,J,E⟩
 |98=>U ⟨XY,E,E⟩
 |139=>U ⟨XZ,E,E⟩
 |178=>U ⟨X0,E,E⟩
 |177=>U ⟨X1,E,E⟩
 |133=>U ⟨X2,E,E⟩
 |173=>U ⟨X3,E,E⟩
 |126=>U ⟨T66,E,E⟩
 |89=>U ⟨T72,E,E⟩
 |86=>U ⟨T69,E,E⟩
 |116=>U ⟨afH,E,E⟩
 |159=>U ⟨T24,E,E⟩
 |97=>U ⟨afI,E,E⟩
 |137=>U ⟨X4,E,E⟩
 |87=>U ⟨T70,E,E⟩
 |127=>U ⟨T65,E,E⟩
 |70=>U ⟨T18,E,E⟩
 |24=>U ⟨X5,E,E⟩
 |76=>U ⟨T86,E,E⟩
 |77=>U ⟨T87,E,E⟩
 |78=>U ⟨T88,E,E⟩
 |197=>U ⟨ary,E,E⟩
 |231=>U ⟨arz,E,E⟩
 |83=>U ⟨X6,E,E⟩
 |92=>U ⟨T77,E,E⟩
 |134=>U ⟨X7,E,E⟩
 |174=>U ⟨afM,E,E⟩
 |118=>U ⟨X8,E,E⟩
 |51=>U ⟨Nt,E,E⟩
 |93=>U ⟨X9,E,E⟩
 |81=>U ⟨T27,E,E⟩
 |35=>U ⟨Rp,E,E⟩
 |96=>U ⟨Ya,E,E⟩
 |56=>U ⟨Yb,E,E⟩
 |49=>U ⟨Rq,E,E⟩
 |90=>U ⟨T23,E,E⟩
 |53=>U ⟨Ru,E,E⟩
 |79=>U ⟨T89,E,E⟩
 |165=>U ⟨Yc,E,E⟩
 |54=>U ⟨Yd,E,J⟩
 |17=>U ⟨T13,E,J⟩
 |109=>U ⟨T16,E,J⟩
 |201=>U ⟨arB,E,E⟩
 |196=>U ⟨T78,E,E⟩
 |80=>U ⟨T90,J,E⟩
 |199=>U ⟨arD,E,E⟩
 |229=>U ⟨arE,E,E⟩
 |52=>U ⟨T63,E,E⟩
 |32=>U ⟨T44,E,E⟩
 |140=>U ⟨afU,E,E⟩
 |144=>U ⟨afV,E,E⟩
 |179=>U ⟨afW,E,E⟩
 |99=>U ⟨T91,E,E⟩
 |180=>U ⟨afY,E,E⟩
 |145=>U ⟨afZ,E,E⟩
 |266=>U ⟨af0,E,E⟩
 |267=>U ⟨af3,E,E⟩
 |182=>U ⟨Ye,E,E⟩
 |183=>U ⟨Rv,E,E⟩
 |146=>U ⟨Yf,E,E⟩
 |147=>U ⟨af4,E,E⟩
 |100=>U ⟨T92,E,E⟩
 |58=>U ⟨T40,E,E⟩
 |298=>U ⟨af7,E,E⟩
 |101=>U ⟨af8,E,E⟩
 |60=>U ⟨af9,E,E⟩
 |107=>U ⟨T94,E,E⟩
 |226=>U ⟨agb,E,E⟩
 |190=>U ⟨agc,E,E⟩
 |191=>U ⟨agd,E,E⟩
 |155=>U ⟨T95,E,E⟩
 |153=>U ⟨agf,E,E⟩
 |186=>U ⟨Nu,E,E⟩
 |185=>U ⟨agh,E,E⟩
 |223=>U ⟨agi,E,E⟩
 |225=>U ⟨agj,E,E⟩
 |151=>U ⟨agk,E,E⟩
 |150=>U ⟨agl,E,E⟩
 |152=>U ⟨agm,E,E⟩
 |104=>U ⟨Rw,E,E⟩
 |189=>U ⟨T56,E,E⟩
 |188=>U ⟨T64,E,E⟩
 |5=>U ⟨arG,E,E⟩
 |6=>U ⟨GD,E,E⟩
 |7=>U ⟨agp,E,E⟩
 |8=>U ⟨agD,E,E⟩
 |21=>U ⟨arF,E,E⟩
 |11=>U ⟨agq,E,E⟩
 |12=>U ⟨agG,E,J⟩
 |19=>U ⟨arH,E,E⟩
 |20=>U ⟨arI,E,E⟩
 |15=>U ⟨arM,E,E⟩
 |9=>U ⟨Ry,E,E⟩
 |22=>U ⟨arJ,E,E⟩
 |14=>U ⟨arN,E,E⟩
 |13=>U ⟨agN,E,E⟩
 |23=>U ⟨agH,E,J⟩
 |25=>U ⟨Rx,E,E⟩
 |26=>U ⟨agr,E,E⟩
 |27=>U ⟨ags,E,E⟩
 |28=>U ⟨agt,E,E⟩
 |31=>U ⟨agu,E,E⟩
 |34=>U ⟨agF,E,E⟩
 |47=>U ⟨arK,E,E⟩
 |48=>U ⟨arL,E,E⟩
 |39=>U ⟨agI,E,E⟩
 |30=>U ⟨arO,E,E⟩
 |36=>U ⟨agJ,E,E⟩
 |37=>U ⟨agK,E,E⟩
 |50=>U ⟨agE,E,E⟩
 |59=>U ⟨agv,E,E⟩
 |61=>U ⟨agw,E,E⟩
 |62=>U ⟨agx,E,E⟩
 |63=>U ⟨agy,E,E⟩
 |64=>U ⟨agz,E,E⟩
 |65=>U ⟨Nv,E,E⟩
 |105=>U ⟨agA,E,E⟩
 |106=>U ⟨agB,E,E⟩
 |154=>U ⟨agC,E,E⟩
 |3=>U ⟨agL,E,E⟩
 |_=>Z
def TB:lA:=⟨GH,Nx⟩
def iL(j:FuncId->bq->bo->Prop)(R:bo->Prop)(f:FuncId)(W:bq)(V:aS)(t:T)(O:ai)(L:de):Prop:=∃o,j f W o/\(match o with
  |.ret X=>ko V X=J/\t.wp j R (O.ext X) L
  |.bI v=>R (.bI v))
def iM(j:FuncId->bq->bo->Prop)(R:bo->Prop)(o:bo)(W:aS)(t:T)(O:ai)(L:de):Prop:=match o with
  |.ret X=>ko W X=J/\t.wp j R (O.ext X) L
  |.bI v=>R (.bI v)
def JC(c:Option PC)(X:bq):Prop:=match c with
 |U c=>c.I X/\c.μ X<c.m
 |none=>False
section
variable{j:FuncId->bq->bo->Prop}{R:bo->Prop}{O:ai}{L:de}
def azB{X:bq}{Q:aS}{t:T}(h:V=X):iL j R W V Q t O L=iL j R W X Q t O L:=by rw[h]
def azC{o X:bo}{W:aS}{t:T}(h:o=X):iM j R o W t O L=iM j R X W t O L:=by rw[h]
def azD{t:T}{X:ai}(h:O=X):T.wp j R t O L=T.wp j R t X L:=by rw[h]
def Ny(b:BE)(t f:T):T.wp j R (.aT b t f) O L=(if b.ab O=J then t.wp j R O L else f.wp j R O L):=by
 simp only[T.wp,T.nK];cases b.ab O<;>simp
def xp(b:BE)(t:T):T.wp j R (.be b t) O L=(b.ab O=J/\t.wp j R O L):=by simp only[T.wp,T.nK]
def RD(v:C)(X:bG)(W:bv):T.wp j R (.ret v X W) O L=R (.ret ((yi v).map (C.xv O))):=by simp only[T.wp,T.nK]
def agP(f:FuncId)(X:aq)(V:bG)(Q:bv)(W:aS)(jz:C)(t:T):T.wp j R (.call f X V Q W jz t) O L=iL j R f ((oV X).map (C.xv O)) W t O L:=by simp only[T.wp,T.nK,iL];rfl
def GI(e:TypeId)(x:LE)(X W:bv)(t:T):T.wp j R (.new e x X W t) O L=t.wp j R (O.add (.r (gv x O))) L:=by simp only[T.wp,T.nK]
def azE(k:RK)(x:LE)(X:bv)(t:T):T.wp j R (.ac k x X t) O L=t.wp j R (O.add (.r (gv x O))) L:=by simp only[T.wp,T.nK]
def agQ(X:bq)(W:aS)(t:T):iM j R (.ret X) W t O L=(ko W X=J/\t.wp j R (O.ext X) L):=rfl
def azF(v:Value)(X:aS)(t:T):iM j R (.bI v) X t O L=R (.bI v):=rfl
def agR(ax:Nat)(x:aq):T.wp j R (.back ax x) O L=JC (zW ax L) (x.map (C.xv O)):=by
 simp only[T.wp,T.nK,JC];cases zW ax L<;>rfl
def vH(c:PC)(X:bq):JC (U c) X=(c.I X/\c.μ X<c.m):=rfl
def JD(g h:BE)(t f:T):T.wp j R (.gF g h t f) O L=((g.ab O=J\/h.ab O=J)/\(g.ab O=J->t.wp j R O L)/\(h.ab O=J->f.wp j R O L)/\(g.ab O=J->h.ab O=J->P1 R)):=rfl
def azG(f g:FuncId)(e:TypeId)(X:bp)(W:Bool)(r:RE)(Q:bv)(t:T):T.wp j R (.eE f g e X W r Q t) O L=(∃V,n8 O X W (r.rv O).ac=U V/\t.wp j R (O.add (.r (.mk (r.rv O).val V))) L):=rfl
def CA(f g:FuncId)(e:TypeId)(X:ar)(d:Bool)(W:Bool)(r:RE)(Q:bv)(t:T):T.wp j R (.eE f g e (.lex X d) W r Q t) O L=(∃V,iZ (.lex X d) W (r.rv O).ac=U V/\t.wp j R (O.add (.r (.mk (r.rv O).val V))) L):=rfl
def CB(f g:FuncId)(e:TypeId)(n d:Nat)(X:Bool)(r:RE)(V:bv)(t:T):T.wp j R (.eE f g e (.ratio n d) X r V t) O L=(∃W,iZ (.ratio n d) X (r.rv O).ac=U W/\t.wp j R (O.add (.r (.mk (r.rv O).val W))) L):=rfl
def vJ{ax:Nat}{P:aS}{Q:aq}{t:T}(X:bq->Prop)(W:bq->Nat)(N:X (Q.map (C.xv O)))(h:∀V,X V->t.wp j R (O.ext V) (⟨ax,X,W,W V⟩::L)):T.wp j R (.loop ax P Q t) O L:=by
 simp only[T.wp,T.nK];exact⟨R,L,.inl ⟨rfl,rfl⟩,X,W,N,h⟩
end
def bi{X:lA}{R:bo->Prop}{P:aS}{t:T}{O:ai}{L:de}{o:bo}(h:X.Ev W V o):iL X.Ev R W V P t O L=iM X.Ev R o P t O L:=by
 refine propext ⟨λ⟨M,N,Q⟩=> ?_,λQ=>⟨o,h,Q⟩⟩;rw[P2 h N];exact Q
attribute[congr] azB azC azD
def has{X:Fn}(h:GH W=U X)(V:W≠202)(Q:W≠169):LN TB W X:=⟨h,λP=>by simp[TB,Nx,V,Q]⟩
def single{o:bo}(h:DL o o=J):P1 (· =o):=λa b X W=>by subst X;exact⟨W.symm,h⟩
def evo{X:Fn}{o:bo}(P:GH W=U X)(Q:(W !=202&&W !=169)=J)(N:X.d=E\/∀v,o≠ .bI v)(h:X.t.wp TB.Ev (· =o) (fU (mo X.g) V) []):TB.Ev W V o:=by
 simp only[aw,bne_iff_ne,ne_eq] at Q;exact Ir (has P Q.1 Q.2) N h
def Yk{X:Fn}{R:bo->Prop}(P:GH W=U X)(Q:(W !=202&&W !=169)=J)(N:X.d=E\/∀v,¬R (.bI v))(h:X.t.wp TB.Ev R (fU (mo X.g) V) []):∃o,TB.Ev W V o/\R o:=by
 simp only[aw,bne_iff_ne,ne_eq] at Q;exact anu (has P Q.1 Q.2) N h
def fF{X:Fn}{o:bo}(h:X.t.wp TB.Ev (· =o) (fU (mo X.g) V) [])(Q:GH W=U X:=by exact rfl)(P:(W !=202&&W !=169)=true:=by exact rfl)(N:X.d=false:=by exact rfl):TB.Ev W V o:=evo Q P (.inl N) h
def dV{X:Fn}{R:bo->Prop}(h:X.t.wp TB.Ev R (fU (mo X.g) V) [])(Q:GH W=U X:=by exact rfl)(P:(W !=202&&W !=169)=true:=by exact rfl)(N:X.d=false:=by exact rfl):∃o,TB.Ev W V o/\R o:=Yk Q P (.inl N) h
end
section
attribute[simp] K.ab BE.ab RE.rv RE.ab fy ai.rv fU ai.ext ai.add oV yi Io C.xv mo zW ko abW Ny xp RD agP GI azE agQ azF agR
def out(f:FuncId)(X:bq):bq:=by classical exact if h:∃W,TB.Ev f X (.ret W) then h.choose else[]
def xi(X:bq)(k:Nat):Int:=match X.getD k (.i 0) with
 |.i n=>n
 |_=>0
def xb(X:bq)(k:Nat):Bool:=match X.getD k (.i 0) with
 |.b x=>x
 |_=>E
def xr(X:bq)(k:Nat):RV:=match X.getD k (.i 0) with
 |.r x=>x
 |_=>default
def oi(f:FuncId)(X:bq)(k:Nat):Int:=xi (out f X) k
def ob(f:FuncId)(X:bq)(k:Nat):Bool:=xb (out f X) k
def RF{X:bq}(h:TB.Ev W V (.ret X)):out W V=X:=by
 have Q:∃X,TB.Ev W V (.ret X):=⟨X,h⟩;have:out W V=Q.choose:=by unfold out;rw[dif_pos Q]
 rw[this];have:=P2 Q.choose_spec h;injection this
def azH{P:bq->Prop}(h:∃o,TB.Ev W V o/\∃X,o=.ret X/\P X):TB.Ev W V (.ret (out W V))/\P (out W V):=by
 obtain⟨o,Q,X,rfl,N⟩:=h;rw[RF Q];exact⟨Q,N⟩
def AL(X:bq):aS->Nat->bq
 |[],_=>[]
 |.int _::G,n=>.i (xi X n)::AL X G (n+1)
 |.bool::G,n=>.b (xb X n)::AL X G (n+1)
 |.ah _::G,n=>.r (xr X n)::AL X G (n+1)
def arQ(W:bq):∀(G:aS)(X:bq),ko G X=J->AL (W++X) G (Y W)=X
 |[],[],_=>rfl
 |[],_::_,h=>by simp at h
 |k::G,[],h=>by cases k<;>simp at h
 |k::G,y::X,h=>by
  have V:=arQ (W++[y]) G X;simp only[ko,aw] at h;have V:=V h.2;simp only[A6,List.singleton_append,gc,N0] at V;have Q:(W++y::X).getD (Y W) (.i 0)=y:=by simp[List.getD]
  cases k<;>cases y<;>simp at h<;>simp only[AL,V,xi,xb,xr,Q]
def shp(G:aS){P:bq->Prop}(h:∃o,TB.Ev W V o/\∃X,o=.ret X/\ko G X=J/\P X):TB.Ev W V (.ret (AL (out W V) G 0))/\P (out W V):=by
 obtain⟨Q,N,M⟩:=azH h;rw[show AL (out W V) G 0=out W V from arQ [] G _ N];exact⟨Q,M⟩
def jc(n X W:Int):Bool:=decide (X<=n)&&decide (n<=W)
@[simp] def RG (n X W:Int):jc n X W=J<->X<=n/\n<=W:=by simp[jc]
def s7(a b:Int):Int:=if a<b then-1 else if b<a then 1 else 0
def ou(a b c d:Int):Int:=if gh a b&&gh c d then s7 (IntKind.i64.wrap (a*d)) (IntKind.i64.wrap (c*b)) else 0
def EH:FuncId->Option Fn
 |98=>U ⟨XY,E,E⟩
 |139=>U ⟨XZ,E,E⟩
 |178=>U ⟨X0,E,E⟩
 |177=>U ⟨X1,E,E⟩
 |133=>U ⟨X2,E,E⟩
 |173=>U ⟨X3,E,E⟩
 |_=>Z
section
variable{p:lA}(H:∀f fn,EH f=U fn->LN p f fn)
include H
def azJ(a b:Nat):p.Ev 177 [.i a,.i b] (.ret [.i (lq a b)]):=by
 refine Ir (H _ _ rfl) (.inl rfl) ?_;simp[X1];split;rename_i W;simp[W];rename_i W;refine vJ (λX=>∃d x y:Nat,X=[.i d,.i x,.i y]/\y≠0/\lq x y=lq a b/\(x=0->d=lq a b)) (λX=>(xi X 2).toNat) ⟨b,a,b,av,W,rfl,λV=>by subst V;simp⟩ ?_;rintro X ⟨d,x,y,rfl,P,Q,V⟩;have N:max (y:Int) 1=y:=aa;have M:aF .rem .u64 (x:Int) (y:Int)=((x%y:Nat):Int):=by
  simp only[aF];rw[SE aa];exact(Int.natCast_emod x y).symm
 simp[xi,N,M,vH];split;rename_i G;simp[V G];refine⟨aa, ?_⟩;split;rename_i D;rw[<-Q,Oa,ZA,show x%y=0 from aa];simp;refine⟨⟨x,y,x%y,⟨rfl,rfl,aa⟩,aa, ?_,λF=>aZ F P⟩, ?_⟩;rw[<-Q,Oa x y,ZA y x,Oa];have:=Hj x (show 0<y from aa);omega
def azK(n:Int)(W:-1073741824<=n)(V:n<=1073741824):p.Ev 178 [.i n] (.ret [.i n.natAbs]):=by
 refine Ir (H _ _ rfl) (.inl rfl) ?_;simp[X0,aF];have X:∀x:Int,IntKind.u64.wrap x=x%18446744073709551616:=λx=>rfl
 rw[X,X];split<;>omega
def arR(n:Int):p.Ev 173 [.i n] (.ret [.b E]):=by
 refine Ir (H _ _ rfl) (.inl rfl) ?_;simp[X3]
def agT(a b:Int):p.Ev 133 [.i a,.i b] (.ret [.i (s7 a b)]):=by
 refine Ir (H _ _ rfl) (.inl rfl) ?_;simp[X2,s7,bi (arR H _)]
 grind
def arS(n d:Int):p.Ev 139 [.i n,.i d] (.ret [.i (if gh n d then 0 else 120)]):=by
 refine Ir (H _ _ rfl) (.inl rfl) ?_;simp[XZ]
 repeat' split
 any_goals(simp[gh];omega)
 all_goals
  rw[bi (azK H n aa aa)];have X:IntKind.u64.wrap d=(d.toNat:Int):=by
   have:IntKind.u64.wrap d=d%18446744073709551616:=rfl;omega
  have W:max d 0=(d.toNat:Int):=aa;simp[X];rw[W,bi (azJ H n.natAbs d.toNat)];simp[gh] at*;omega
def arT(a b c d:Int):p.Ev 98 [.i a,.i b,.i c,.i d] (.ret [.i (ou a b c d),.i (if gh a b&&gh c d then 0 else 120)]):=by
 refine Ir (H _ _ rfl) (.inl rfl) ?_;simp[XY,ou,aF,bi (arS H _ _),bi (agT H _ _)]
 grind
end
def Yl(f:FuncId)(fn:Fn)(h:EH f=U fn):LN TB f fn:=by
 unfold EH at h;split at h<;>cases h<;>exact has rfl dQ dQ
section
variable{R:bo->Prop}{G:aS}{t:T}{O:ai}{L:de}
def e82(n X W:Int):TB.Ev 55 [.i n,.i X,.i W] (.ret [.b (jc n X W)]):=by
 refine fF ?_;simp[T82,jc]
 grind
@[simp] def c82 (n X W:Int):iL TB.Ev R 55 [.i n,.i X,.i W] G t O L=iM TB.Ev R (.ret [.b (jc n X W)]) G t O L:=bi (e82 n X W)
def azM(n X W:Int):TB.Ev 71 [.i n,.i X,.i W] (.ret [.b (jc n X W)]):=by
 refine fF ?_;simp[afB,jc]
 grind
@[simp] def aIR (n X W:Int):iL TB.Ev R 71 [.i n,.i X,.i W] G t O L=iM TB.Ev R (.ret [.b (jc n X W)]) G t O L:=bi (azM n X W)
def e70(n X W:Int):TB.Ev 87 [.i n,.i X,.i W] (.ret [.b (jc n X W)]):=by
 refine fF ?_;simp[T70,jc]
 grind
@[simp] def c70 (n X W:Int):iL TB.Ev R 87 [.i n,.i X,.i W] G t O L=iM TB.Ev R (.ret [.b (jc n X W)]) G t O L:=bi (e70 n X W)
def azO(n X W:Int):TB.Ev 174 [.i n,.i X,.i W] (.ret [.b (jc n X W)]):=by
 refine fF ?_;simp[afM,jc]
 grind
@[simp] def aIT (n X W:Int):iL TB.Ev R 174 [.i n,.i X,.i W] G t O L=iM TB.Ev R (.ret [.b (jc n X W)]) G t O L:=bi (azO n X W)
def rQ(n:Int)(u:Bool)(X W:Int):Bool:=if u then jc n X W else n==0
def azP(n X W:Int)(u:Bool):TB.Ev 97 [.i n,.b u,.i X,.i W] (.ret [.b (rQ n u X W)]):=by
 refine fF ?_;simp[afI,rQ]
 grind
@[simp] def aIU (n X W:Int) (u:Bool):iL TB.Ev R 97 [.i n,.b u,.i X,.i W] G t O L=iM TB.Ev R (.ret [.b (rQ n u X W)]) G t O L:=bi (azP n X W u)
@[simp] def aIV (n:Int):iL TB.Ev R 173 [.i n] G t O L=iM TB.Ev R (.ret [.b E]) G t O L:=bi (arR Yl n)
@[simp] def aIW (a b:Int):iL TB.Ev R 133 [.i a,.i b] G t O L=iM TB.Ev R (.ret [.i (s7 a b)]) G t O L:=bi (agT Yl a b)
@[simp] def aIX (n d:Int):iL TB.Ev R 139 [.i n,.i d] G t O L=iM TB.Ev R (.ret [.i (if gh n d then 0 else 120)]) G t O L:=bi (arS Yl n d)
@[simp] def aIY (a b c d:Int):iL TB.Ev R 98 [.i a,.i b,.i c,.i d] G t O L=iM TB.Ev R (.ret [.i (ou a b c d),.i (if gh a b&&gh c d then 0 else 120)]) G t O L:=bi (arT Yl a b c d)
def e66(a b c d:Int):TB.Ev 126 [.i a,.i b,.i c,.i d] (.ret [.b (bT a b c d)]):=by
 refine fF ?_;simp[T66,bT]
 grind
@[simp] def c66 (a b c d:Int):iL TB.Ev R 126 [.i a,.i b,.i c,.i d] G t O L=iM TB.Ev R (.ret [.b (bT a b c d)]) G t O L:=bi (e66 a b c d)
def jn(X:Bool)(x:Int):Int:=if X then x else 0
def e72(a b c d X W V Q:Int):TB.Ev 89 [.i a,.i b,.i c,.i d,.i X,.i W,.i V,.i Q] (.ret [.i (jn (bT a b c d&&bT X W V Q) (min a X)),.i (jn (bT a b c d&&bT X W V Q) (max b W)),.i (jn (bT a b c d&&bT X W V Q) (min c V)),.i (jn (bT a b c d&&bT X W V Q) (max d Q)),.i (if bT a b c d&&bT X W V Q then 0 else 150)]):=by
 refine fF ?_;simp[T72,jn]
 grind
@[simp] def c72 (a b c d X W V Q:Int):iL TB.Ev R 89 [.i a,.i b,.i c,.i d,.i X,.i W,.i V,.i Q] G t O L=iM TB.Ev R (.ret [.i (jn (bT a b c d&&bT X W V Q) (min a X)),.i (jn (bT a b c d&&bT X W V Q) (max b W)),.i (jn (bT a b c d&&bT X W V Q) (min c V)),.i (jn (bT a b c d&&bT X W V Q) (max d Q)),.i (if bT a b c d&&bT X W V Q then 0 else 150)]) G t O L:=bi (e72 a b c d X W V Q)
def e69(a b c d:Int):TB.Ev 86 [.i a,.i b,.i c,.i d] (.ret [.b (bT a b c d)]):=by
 refine fF ?_;simp[T69]
 grind
@[simp] def c69 (a b c d:Int):iL TB.Ev R 86 [.i a,.i b,.i c,.i d] G t O L=iM TB.Ev R (.ret [.b (bT a b c d)]) G t O L:=bi (e69 a b c d)
def arU(a b c d X W V Q:Int):Bool:=decide (X<=a)&&decide (b<=W)&&decide (V<=c)&&decide (d<=Q)
def gD(a b c d x y:Int):Int:=if !bT a b c d then 150 else if !(decide (-2199023255552<=x)&&decide (x<=2199023255552)&&decide (-2199023255552<=y)&&decide (y<=2199023255552)) then 2 else if bT (IntKind.i64.wrap (a+x)) (IntKind.i64.wrap (b+x)) (IntKind.i64.wrap (c+y)) (IntKind.i64.wrap (d+y)) then 0 else 2
def azT(a b c d x y:Int):TB.Ev 116 [.i a,.i b,.i c,.i d,.i x,.i y] (.ret [.i (jn (gD a b c d x y==0) (IntKind.i64.wrap (a+x))),.i (jn (gD a b c d x y==0) (IntKind.i64.wrap (b+x))),.i (jn (gD a b c d x y==0) (IntKind.i64.wrap (c+y))),.i (jn (gD a b c d x y==0) (IntKind.i64.wrap (d+y))),.i (gD a b c d x y)]):=by
 refine fF ?_;simp[afH,jn,aF]
 repeat' split
 all_goals(simp_all[gD])
 all_goals grind
@[simp] def aI2 (a b c d x y:Int):iL TB.Ev R 116 [.i a,.i b,.i c,.i d,.i x,.i y] G t O L=iM TB.Ev R (.ret [.i (jn (gD a b c d x y==0) (IntKind.i64.wrap (a+x))),.i (jn (gD a b c d x y==0) (IntKind.i64.wrap (b+x))),.i (jn (gD a b c d x y==0) (IntKind.i64.wrap (c+y))),.i (jn (gD a b c d x y==0) (IntKind.i64.wrap (d+y))),.i (gD a b c d x y)]) G t O L:=bi (azT a b c d x y)
end
structure Sl(v:RV):Prop where
 sl:∃a n c,v.val=.slice a n c
 len:lenOf v.val=Y v.ac
 sm:Y v.ac<=140737488355328
def ci(v:RV)(i j:Nat):Int:=bn (aU v.ac i j).val
def cb(v:RV)(i j:Nat):Bool:=gH (aU v.ac i j).val
def RI(n:Nat)(X:Nat->bq->Prop):bq->Prop
 |.i j::W=>∃i:Nat,j=i/\i<=n/\X i W
 |_=>False
def Nz(n:Nat):bq->Nat
 |.i j::_=>n-j.toNat
 |_=>0
section
variable{e:FuncId->bq->bo->Prop}{R:bo->Prop}{O:ai}{L:de}
def cj{ax:Nat}{G:aS}{Q:aq}{t:T}(n:Nat)(X:Nat->bq->Prop)(P:RI n X (Q.map (C.xv O)))(h:∀(i:Nat) W,i<=n->X i W->t.wp e R (O.ext (.i i::W)) (⟨ax,RI n X,Nz n,n-i⟩::L)):T.wp e R (.loop ax G Q t) O L:=by
 refine vJ (RI n X) (Nz n) P λN V=> ?_
 match N,V with
 |.i j::W,V=>
  obtain⟨i,rfl,M,F⟩:=V;have:=h i W M F;simpa[Nz] using this
def cJ{n:Int}(X:-9223372036854775808<=n)(W:n<9223372036854775808):IntKind.i64.wrap n=n:=by
 rw[IntKind.wrap_i64];omega
def JE{i:Nat}(h:i<=140737488355328):aF .add I (i:Int) 1=((i+1:Nat):Int):=by
 simp only[aF];rw[cJ aa aa];omega
def bU{ax n:Nat}{J:Nat->bq->Prop}{i:Nat}{rest:bq}(X:i<n)(W:n<=140737488355328):JC (U ⟨ax,RI n J,Nz n,n-i⟩) (.i (aF .add I (i:Int) 1)::rest)=J (i+1) rest:=by
 rw[JE aa];refine propext ⟨λh=> ?_,λh=>⟨⟨i+1,rfl,aa,h⟩, ?_⟩⟩;obtain⟨⟨k,V,_,h⟩,_⟩:=h;have:k=i+1:=aa;exact this▸h;simp only[Nz];omega
end
end
inductive KX where
 |i
 |b
 |r
 deriving DecidableEq
def LK.kx:LK->KX
 |.int _=>.i
 |.bool=>.b
 |.ah _=>.r
def XV.kx:XV->KX
 |.i _=>.i
 |.b _=>.b
 |.r _=>.r
def C.kx:C->KX
 |.bool _=>.b
 |.ah _=>.r
 |_=>.i
abbrev Tot:=FuncId->Option (List KX×List KX)
def Tot.ok(V:Tot):Prop:=∀f p r,V f=U (p,r)->∀X,X.map XV.kx=p->∃W,TB.Ev f X (.ret W)/\W.map XV.kx=r
def uq{P:Int->Prop}(h:∃o,TB.Ev W V o/\∃e,o=.ret [.i e]/\P e):TB.Ev W V (.ret [.i (oi W V 0)])/\P (oi W V 0):=by
 obtain⟨o,X,e,rfl,Q⟩:=h;have:oi W V 0=e:=by simp only[oi,RF X];rfl
 rw[this];exact⟨X,Q⟩
def mkb{P:Bool->Prop}(h:∃o,TB.Ev W V o/\∃e,o=.ret [.b e]/\P e):TB.Ev W V (.ret [.b (ob W V 0)])/\P (ob W V 0):=by
 obtain⟨o,X,e,rfl,Q⟩:=h;have:ob W V 0=e:=by simp only[ob,RF X];rfl
 rw[this];exact⟨X,Q⟩
structure CC(roles bars:Int)(c:Nat->Int):Prop where
 kind:1<=c 4/\c 4<=9
 aH:0<=c 1/\c 1<roles
 ak:0<=c 2/\c 2<bars
 mark:1<=c 3/\c 3<=3
 side:if c 4=1\/c 4=3\/c 4=4\/c 4=9 then 1<=c 5/\c 5<=2 else c 5=0
 dir:if c 4=1\/c 4=2 then 1<=c 6/\c 6<=8 else if c 4=3\/c 4=4\/c 4=5 then 0<=c 6/\c 6<=8 else c 6=0
 azV:if c 4=3\/c 4=4\/c 4=5\/c 4=9 then 1<=c 7/\c 7<=3 else c 7=0
 size:if c 4=1\/c 4=2 then 1<=c 8/\c 8<=16 else if c 4=6 then 1<=c 8/\c 8<=7 else c 8=0
 wth:if c 4=7\/c 4=8 then 1<=c 9/\c 9<=roles else c 9=0
 from_:gh (c 10) (c 11)=J
 to:gh (c 12) (c 13)=J
section
variable{R:bo->Prop}{G:aS}{t:T}{O:ai}{L:de}
def iN(c:Nat->Int):bq:=[.i (c 0),.i (c 1),.i (c 2),.i (c 3),.i (c 4),.i (c 5),.i (c 6),.i (c 7),.i (c 8),.i (c 9),.i (c 10),.i (c 11),.i (c 12),.i (c 13)]
def kT(k:Int)(j:Nat):RV:=aU (kV[0]?.getD default).ac k j
def arX{c:Nat->Int}{X W:Int}(H:1<=c 4/\c 4<=9)(G:0<=c 1/\c 1<=X-1)(F:0<=c 2/\c 2<=W-1)(D:1<=c 3/\c 3<=3)(V:rQ (c 5) (gH (kT (c 4) 0).val) 1 2=J)(Q:rQ (c 6) (gH (kT (c 4) 1).val) (bn (kT (c 4) 3).val) 8=J)(P:rQ (c 7) (decide (0<bn (kT (c 4) 4).val)) 1 (bn (kT (c 4) 4).val)=J)(N:rQ (c 8) (decide (0<bn (kT (c 4) 5).val)) 1 (bn (kT (c 4) 5).val)=J)(M:rQ (c 9) (gH (kT (c 4) 2).val) 1 X=J)
  (B:gh (c 10) (c 11)=J)(A:gh (c 12) (c 13)=J):CC X W c:=by
 have:c 4=1\/c 4=2\/c 4=3\/c 4=4\/c 4=5\/c 4=6\/c 4=7\/c 4=8\/c 4=9:=aa;rcases this with h|h|h|h|h|h|h|h|h
 all_goals
  simp[h,kT,kV,nH,bV,iV,aU,rQ,gH,bn] at V Q P N M;constructor<;>(first|omega|assumption|(simp[h];done)|(simp[h];omega))
def t84(c:Nat->Int)(X W:Int)(N:-1000<=X/\X<=1000000)(M:-1000<=W/\W<=1000000):∃o,TB.Ev 57 (iN c++[.i X,.i W]) o/\∃b,o=.ret [.b b]/\(b=J->CC X W c):=by
 refine dV ?_;have V:aF .sub I X 1=X-1:=by simp only[aF];rw[cJ aa aa]
 have Q:aF .sub I W 1=W-1:=by simp only[aF];rw[cJ aa aa]
 have P:lenOf (kV[0]?.getD default).val=10:=rfl;simp[Ro,iN,V,Q,P]
 repeat' split
 all_goals(try simp)
 all_goals(intros;refine⟨aa, ?_⟩;intros;apply arX<;>(first|assumption|omega|grind))
def f84(c:Nat->Int)(X W:Int)(V:-1000<=X/\X<=1000000)(Q:-1000<=W/\W<=1000000):TB.Ev 57 (iN c++[.i X,.i W]) (.ret [.b (ob 57 (iN c++[.i X,.i W]) 0)])/\(ob 57 (iN c++[.i X,.i W]) 0=J->CC X W c):=mkb (t84 c X W V Q)
def NA{a b:Int}(h:b≠0):(a.tmod b).natAbs<b.natAbs:=by
 rw[J4];exact Hj _ aa
def azY(a b c:Int)(N:1<=c)(M:c<=32768)(H:-c<=a/\a<=c)(G:-c<=b/\b<=c):∃o,TB.Ev 96 [.i a,.i b,.i c] o/\∃x y z,o=.ret [.i x,.i y,.i z]:=by
 refine dV ?_;simp[Ya];refine vJ (λX=>∃n d:Int,X=[.i n,.i d]∧-c<=n/\n<=c∧-c<=d/\d<=c) (λX=>(xi X 0).natAbs) ⟨a,0,rfl,aa,aa,aa,aa⟩ ?_;rintro _ ⟨n,d,rfl,W,V,Q,P⟩;simp[xi,vH,aF];split
 case isFalse h=>
  have:=NA (a:=d) h;refine⟨h,⟨_,_,⟨rfl,rfl⟩, ?_⟩,by rw[<-J4];exact this⟩;omega
 refine vJ (λX=>∃n d:Int,X=[.i n,.i d]∧-c<=n/\n<=c∧-c<=d/\d<=c) (λX=>(xi X 0).natAbs) ⟨b,d,rfl,aa,aa,aa,aa⟩ ?_;rintro _ ⟨n,d,rfl,W,V,Q,P⟩;simp[xi,vH,aF];split
 case isFalse h=>
  have:=NA (a:=d) h;refine⟨h,⟨_,_,⟨rfl,rfl⟩, ?_⟩,by rw[<-J4];exact this⟩;omega
 refine vJ (λX=>∃n d:Int,X=[.i n,.i d]∧-c<=n/\n<=c∧-c<=d/\d<=c/\(n≠0\/d≠0)) (λX=>(xi X 0).natAbs) ⟨c,d,rfl,aa,aa,aa,aa,aa⟩ ?_;rintro _ ⟨n,d,rfl,W,V,Q,P,F⟩;simp[xi,vH,aF];split
 case isFalse h=>
  have:=NA (a:=d) h;refine⟨h,⟨_,_,⟨rfl,rfl⟩, ?_⟩,by rw[<-J4];exact this⟩;omega
 have:IntKind.i64.wrap (-d)=-d:=cJ aa aa;simp[this];omega
def t83(a b c:Int):∃o,TB.Ev 56 [.i a,.i b,.i c] o/\∃e,o=.ret [.i e]/\True:=by
 refine dV ?_;simp[Yb];intro V Q X P N;have W:aF .sub I 0 c=-c:=by simp only[aF];rw[cJ aa aa];omega
 rw[W] at X;obtain⟨o,h,x,y,z,rfl⟩:=azY a b c aa aa aa aa;rw[bi h];simp
@[simp] def c83 (a b c:Int):iL TB.Ev R 56 [.i a,.i b,.i c] G t O L=iM TB.Ev R (.ret [.i (oi 56 [.i a,.i b,.i c] 0)]) G t O L:=bi (uq (t83 a b c)).1
structure NB(tp:RV):Prop where
 sl:Sl tp
 pos:0<Y tp.ac
 zero:ci tp 0 0=0
def arY{i j:Nat}(h:j<=140737488355328)(W:i<=j):IntKind.i64.wrap (aF .shr .u64 (IntKind.u64.wrap (aF .add I (i:Int) (j:Int))) 1)=(((i+j)/2:Nat):Int):=by
 simp only[aF];rw[cJ (n:=(i:Int)+j) aa aa];rw[show IntKind.u64.wrap ((i:Int)+j)=(i:Int)+j by rw[IntKind.wrap_u64];omega];have:((i:Int)+j).fdiv (2^min (1:Int).toNat IntKind.u64.bits)=(((i+j)/2:Nat):Int):=by
  have X:(2:Int)^min (1:Int).toNat IntKind.u64.bits=2:=rfl;rw[X,aIc _ aa];omega
 rw[this,cJ aa aa]
def az0(P ak:Int)(X N M:RV)(h:NB X)(A:0<=ak):∃o,TB.Ev 137 [.i P,.r X,.r N,.r M,.i ak] o/\∃e,o=.ret [.i e]/\True:=by
 refine dV ?_;simp[X4];have z:=h.pos;have y:=h.sl.sm;refine vJ (λW=>∃i j:Nat,W=[.i i,.i j]/\i<=j/\j<=Y X.ac/\(j=Y X.ac\/ak<ci X j 0)) (λW=>(xi W 1-xi W 0).toNat) ⟨0,Y X.ac,by simp[h.sl.len],aa,aa,.inl rfl⟩ ?_;rintro _ ⟨i,j,rfl,H,x,V⟩;simp[xi,vH,h.sl.len,arY (show j<=140737488355328 from aa) H];split;rename_i G;refine⟨aa, ?_⟩;have F:((i:Int)+j)/2=(((i+j)/2:Nat):Int):=aa;have D:=JE (i:=(i+j)/2) aa;rw[F,D];split;refine⟨⟨(i+j)/2+1,j,⟨rfl,rfl⟩,aa,aa,V⟩,aa⟩;rename_i Q;refine⟨⟨i,(i+j)/2,⟨rfl,rfl⟩,aa,aa,.inr ?_⟩,aa⟩;simp only[ci];omega;rename_i G;have B:i=j:=aa;subst B;have:1<=i:=by
  rcases A5 i with rfl|Q;have:=h.zero;rcases V with V|V<;>omega;exact Q
 rw[show aF .sub I (i:Int) 1=(i:Int)-1 by simp only[aF];rw[cJ aa aa]];omega
def az1(W ak:Int)(X V Q:RV)(h:NB X)(P:0<=ak):iL TB.Ev R 137 [.i W,.r X,.r V,.r Q,.i ak] G t O L=iM TB.Ev R (.ret [.i (oi 137 [.i W,.r X,.r V,.r Q,.i ak] 0)]) G t O L:=bi (uq (az0 W ak X V Q h P)).1
end
section
def aG(X:au):RV:=.mk (.slice Z (Y X) (Y X)) X
@[simp] def JF (x:LE) (O:ai):gv x O=aG (x.ac O):=rfl
@[simp] def AM (r:au):(aG r).ac=r:=rfl
@[simp] def NC (r:au):lenOf (aG r).val=Y r:=rfl
@[simp] def xq:RV.mk (.slice Z 0 0) []=aG []:=rfl
def EI(h:Y X<=140737488355328):Sl (aG X):=⟨⟨_,_,_,rfl⟩,rfl,h⟩
attribute[simp] LE.ac C.cd
def qe(c:Nat->Int):aC:=[.mk (.int I (c 0)) [],.mk (.int I (c 1)) [],.mk (.int I (c 2)) [],.mk (.int I (c 3)) [],.mk (.int I (c 4)) [],.mk (.int I (c 5)) [],.mk (.int I (c 6)) [],.mk (.int I (c 7)) [],.mk (.int I (c 8)) [],.mk (.int I (c 9)) [],.mk (.int I (c 10)) [],.mk (.int I (c 11)) [],.mk (.int I (c 12)) [],.mk (.int I (c 13)) []]
def arZ{lt:aC->aC->Bool}{x:aC}:∀{l:au},(eC lt x l).Perm (x::l)
 |[]=>avm _
 |y::r=>by
  simp only[eC];split;exact avm _;exact((arZ (l:=r)).cons y).trans (aIJ x y r)
def ar0{lt:aC->aC->Bool}:∀(l acc:au),(l.foldl (λacc x=>eC lt x acc) acc).Perm (acc++l)
 |[],acc=>av
 |x::l,acc=>by
  simp only[EZ];refine(ar0 l _).trans ?_;refine(List.Perm.append_right l arZ).trans ?_;rw[ez];exact List.perm_middle.symm
def CD{lt:aC->aC->Bool}(l:au):(bX lt l).Perm l:=by
 have:=ar0 (lt:=lt) l [];simpa[bX] using this
def yW(X:au):Prop:=X.Pairwise λx y=>aI 0 x≠aI 0 y
def yW.perm{W:au}(h:yW X)(V:W.Perm X):yW W:=(V.symm.pairwise_iff (λ{x y} h=>h.symm)).1 h
def ar1:∀{X:au},yW X->xX (bp.lex [0] E).lt X=J
 |[],_=>rfl
 |x::r,h=>by
  simp only[yW,jq] at h;simp only[xX,aw,fO,jy];refine⟨λy V=> ?_,ar1 h.2⟩;have W:¬aI 0 x=aI 0 y:=h.1 y V;have Q:¬aI 0 y=aI 0 x:=λe=>W e.symm
  simp only[bp.lt,jK,aQ W,aQ Q,jp,gf,cm];omega
def agV{W:Bool}(V:Y X<=1099511627776)(h:yW X):iZ (.lex [0] E) W X=U (bX (bp.lex [0] E).lt X):=by
 simp only[iZ];rw[aJ (by simp[V,ar1 h,bp.ok])]
def az2{rows:au}(X:Y rows<=1099511627776)(h:∀x∈rows,gh (aI 10 x) (aI 11 x)=J):iZ (.ratio 10 11) J rows=U (bX (bp.ratio 10 11).lt rows):=by
 simp only[iZ];rw[aJ (by simp only[aw,cm,avo,and_true];exact⟨X,fO.2 h⟩)]
structure db where
 cW:Int
 cD:Int
 cA:Int
 cB:Int
 cC:Int
 cO:Int
 cr0:RV
 ct0:RV
 cp0:RV
 kP:RV
 cg0:RV
section
variable[Inhabited db]
def ur:Int:=(default:db).cW
def ut:Int:=(default:db).cD
def RJ:Int:=(default:db).cA
def RN:Int:=(default:db).cB
def Ym:Int:=(default:db).cC
def fo:Int:=(default:db).cO
def aL:RV:=(default:db).cr0
def qf:RV:=(default:db).ct0
def rT:RV:=(default:db).cp0
def rU:RV:=(default:db).kP
def bu:RV:=(default:db).cg0
end
structure JG[Inhabited db]:Prop where
 nr:1<=Y aL.ac/\Y aL.ac<=64
 ns:Y bu.ac<=4096
 br:1<=fo/\fo<=4096
 wd:1<=ur/\ur<=1000/\1<=ut/\ut<=1000
 tp:NB qf
 GJ:∀i<Y bu.ac,CC (Y aL.ac) fo (ci bu i)
 id:∀i<Y bu.ac,0<=ci bu i 0/\ci bu i 0<=1048576
 ids:∀i j,i<j->j<Y bu.ac->ci bu i 0<ci bu j 0
structure fp[Inhabited db]:Prop where
 rl:Sl aL
 tp:Sl qf
 ps:Sl rT
 sp:Sl rU
 sg:Sl bu
section
variable{R:bo->Prop}{G:aS}{t:T}{O:ai}{L:de}
variable[Inhabited db]
def wk:bq:=[.i ur,.i ut,.i RJ,.i RN,.i Ym,.r aL,.i fo,.r qf,.r rT,.r rU,.r bu]
def GK:Prop:=∀(fo:Int)(qf rT rU:RV),Sl qf->Sl rT->Sl rU->TB.Ev 54 [.i fo,.r qf,.r rT,.r rU] (.ret [.i (oi 54 [.i fo,.r qf,.r rT,.r rU] 0)])/\(oi 54 [.i fo,.r qf,.r rT,.r rU] 0=0->NB qf/\1<=fo/\fo<=4096)
def t37(F:GK)(h:fp):∃o,TB.Ev 24 wk o/\∃e,o=.ret [.i e]/\(e=0->JG):=by
 refine dV ?_;obtain⟨D,B⟩:=F fo qf rT rU h.tp h.ps h.sp;simp[X5,wk,h.rl.len,h.sg.len,bi D]
 repeat'(first|intro _|split)
 any_goals(exfalso;omega)
 obtain⟨A,q,p⟩:=B pA;refine cj (Y aL.ac) (λ_ P=>P=[]) ⟨0,rfl,aa,rfl⟩ ?_;rintro i _ X rfl;simp[h.rl.len];split;rename_i X;simp[bU X h.rl.sm,X];refine cj (Y bu.ac) (λi P=>∃V:Int,P=[.i V]∧-1<=V/\(∀k<i,CC (Y aL.ac) fo (ci bu k)/\0<=ci bu k 0/\ci bu k 0<=V/\ci bu k 0<=1048576)/\∀j k,j<k->k<i->ci bu j 0<ci bu k 0) ⟨0,rfl,aa,-1,rfl,aa,aa,aa⟩ ?_;rintro j _ N ⟨V,rfl,n,W,M⟩;simp[h.rl.len,h.sg.len];split;rename_i N;refine⟨N,λm l=> ?_⟩;obtain⟨H,Q⟩:=f84 (ci bu j) (Y aL.ac) fo aa aa;simp only[iN,ci,ez,eW] at H Q;rw[bi H];simp[bU N h.sg.sm];intro z;have Q:=Q z;refine⟨aa,λk g=> ?_,λa b G f=> ?_⟩;by_cases y:k=j;subst y;refine⟨Q, ?_, ?_, ?_⟩<;>simp only[ci]<;>omega;obtain⟨x,w,v,u⟩:=W k aa;exact⟨x,w,by simp only[ci] at v⊢;omega,u⟩;by_cases s:b=j;subst s;have:=(W a G).2.2.1;simp only[ci] at this⊢;omega;exact M a b G aa;have r:j=Y bu.ac:=aa;subst r;have d:Y aL.ac≠0:=λe=>aZ (CW.1 e) pA
 exact⟨aa,aa,aa,aa,A,λi X=>(W i X).1,λi X=>⟨(W i X).2.1,(W i X).2.2.2⟩,M⟩
end
end
section
variable{R:bo->Prop}{G:aS}{t:T}{O:ai}{L:de}
variable[Inhabited db]
@[simp] def vK (c:Nat->Int) (j:Nat) (h:j<14):aI j (qe c)=c j:=by
 match j,h with
 |0,_|1,_|2,_|3,_|4,_|5,_|6,_|7,_|8,_|9,_|10,_|11,_|12,_|13,_=>rfl
def kF(aH ak:Int):Nat->au
 |0=>[]
 |i+1=>kF aH ak i++(if ci bu i 1=aH/\ci bu i 2=ak then[qe (ci bu i)] else[])
def ND{aH ak:Int}:∀i,(kF aH ak i).length<=i
 |0=>by simp[kF]
 |i+1=>by
  have:=ND (aH:=aH) (ak:=ak) i;simp only[kF,gc];split<;>simp<;>omega
def RO{aH ak:Int}{x:aC}:∀{i},x∈kF aH ak i<->∃k<i,x=qe (ci bu k)/\ci bu k 1=aH/\ci bu k 2=ak
 |0=>by simp[kF]
 |i+1=>by
  simp only[kF,eV,RO (i:=i)];constructor;rintro(⟨k,V,X⟩|h);exact⟨k,aa,X⟩;split at h;rename_i Q;simp at h;exact⟨i,aa,h,Q⟩;simp at h;rintro⟨k,V,X,W⟩;by_cases P:k=i;subst P;right;rw[aJ W];simp[X];exact .inl ⟨k,aa,X,W⟩
def ar2{aH ak:Int}(h:∀i j,i<j->j<Y bu.ac->ci bu i 0<ci bu j 0):∀{i},i<=Y bu.ac->yW (kF aH ak i)
 |0,_=>xE
 |i+1,Q=>by
  simp only[kF,yW,nU];refine⟨ar2 h aa,by split<;>simp,λx W y X=> ?_⟩;obtain⟨k,V,rfl,-⟩:=(RO).1 W;split at X;simp at X;subst X;rw[vK _ _ aa,vK _ _ aa];have:=h k i V aa;omega;simp at X
def lg:Int:=oi 24 wk 0
def fW(aH ak:Int):Int:=if lg=0 then(if jc aH 0 (Y aL.ac-1)&&jc ak 0 (fo-1) then 0 else 1) else lg
def dR(aH ak:Int):au:=if fW aH ak=0 then bX (bp.ratio 10 11).lt (kF aH ak (Y bu.ac)) else[]
def xt(X:GK)(h:fp):TB.Ev 24 wk (.ret [.i lg])/\(lg=0->JG):=uq (t37 X h)
def RP(G:GK)(h:fp)(aH ak:Int):TB.Ev 92 (wk++[.i aH,.i ak]) (.ret [.r (aG (dR aH ak)),.i (fW aH ak)]):=by
 refine fF ?_;obtain⟨W,F⟩:=xt G h;simp only[wk] at W;simp[T77,wk,h.rl.len,bi W];split
 case isFalse X=>
  simp[dR,fW,X]
 rename_i X;have V:=F X;have w:=V.nr;have v:=V.br;rw[show aF .sub I (Y aL.ac:Int) 1=Y aL.ac-1 by simp only[aF];rw[cJ aa aa],show aF .sub I fo 1=fo-1 by simp only[aF];rw[cJ aa aa]];split
 case isFalse Q=>
  simp[dR,fW,X,Q]
 rename_i Q;split
 case isFalse N=>
  simp[dR,fW,X,Q,N]
 rename_i N;refine cj (Y bu.ac) (λi D=>D=[.r (aG (kF aH ak i))]) ⟨0,rfl,aa,rfl⟩ ?_;rintro i _ M rfl;have u:=ND (aH:=aH) (ak:=ak) i;have s:=V.ns;simp[h.sg.len];split;rename_i M;simp[bU M h.sg.sm,kF,ci,M];have q:(kF aH ak i).length<=536870912:=aa;split;rename_i P;split;rename_i H;simp[P,H,qe,ci];omega;rename_i H;simp[P,H];rename_i P;simp[P];have B:i=Y bu.ac:=aa;subst B;have A:=az2 (rows:=kF aH ak (Y bu.ac)) (by have:=ND (aH:=aH) (ak:=ak) (Y bu.ac);have:=h.sg.sm;omega) (λx z=>by
  obtain⟨k,W,rfl,-⟩:=(RO).1 z;rw[vK _ _ aa,vK _ _ aa];exact(V.GJ k W).from_)
 simp only[CA,CB];refine⟨_,A, ?_⟩;have y:fW aH ak=0:=by simp[fW,X,Q,N]
 simp[dR,y,aG,mQ]
def ar3{aH ak:Int}(Q:lg=0->JG){x:aC}(X:x∈dR aH ak):∃k<Y bu.ac,x=qe (ci bu k)/\ci bu k 1=aH/\ci bu k 2=ak/\CC (Y aL.ac) fo (ci bu k):=by
 unfold dR at X;split at X;rename_i W;have P:lg=0:=by
  unfold fW at W;split at W;assumption;exact W
 obtain⟨k,V,N,M,H⟩:=(RO).1 ((CD _).mem_iff.1 X);exact⟨k,V,N,M,H,(Q P).GJ k V⟩;simp at X
def Yn{aH ak:Int}(W:lg=0->JG):yW (dR aH ak):=by
 unfold dR;split;rename_i X;have V:lg=0:=by
  unfold fW at X;split at X;assumption;exact X
 exact(ar2 (W V).ids (b9 _)).perm (CD _);exact xE
def Yo{aH ak:Int}(W:lg=0->JG):(dR aH ak).length<=4096:=by
 unfold dR;split;rename_i X;have V:lg=0:=by
  unfold fW at X;split at X;assumption;exact X
 rw[mQ];have:=ND (aH:=aH) (ak:=ak) (Y bu.ac);have:=(W V).ns;omega;simp
end
section
variable{R:bo->Prop}{G:aS}{t:T}{O:ai}{L:de}
def az8(c:Nat->Int)(x y z:Int)(b:Bool):∃o,TB.Ev 134 (iN c++[.i x,.i y,.i z,.b b]) o/\∃e,o=.ret [.b e]/\(e=J->x=c 0):=by
 refine dV ?_;simp[X7,iN]
 repeat' split
 all_goals(intros;grind [jc])
def ar4(c:Nat->Int)(x y z:Int)(b:Bool):TB.Ev 134 (iN c++[.i x,.i y,.i z,.b b]) (.ret [.b (ob 134 (iN c++[.i x,.i y,.i z,.b b]) 0)])/\(ob 134 (iN c++[.i x,.i y,.i z,.b b]) 0=J->x=c 0):=mkb (az8 c x y z b)
def agW(c:Nat->Int)(r:RV)(k:Nat):aC:=qe c++[.mk (.int I (ci r k 0)) [],.mk (.int I (ci r k 1)) [],.mk (.int I (ci r k 2)) [],.mk (.bool (cb r k 3)) []]
def dj(X:au)(i j:Nat):Int:=bn (aU X i j).val
def vL(l:au)(r:RV)(n:Nat)(out:au):Prop:=Y out=n/\∀i<n,∃k<Y r.ac,out[i]?=U (agW (dj l i) r k)/\ci r k 0=dj l i 0
def vL.add{r:RV}{n:Nat}{out:au}(h:vL X r n out){k:Nat}(W:k<Y r.ac)(hid:ci r k 0=dj X n 0):vL X r (n+1) (out++[agW (dj X n) r k]):=by
 refine⟨by simp[h.1],λi H=> ?_⟩;by_cases V:i=n;subst V;refine⟨k,W, ?_,hid⟩;rw[iE (by rw[h.1];omega),h.1];simp;obtain⟨Q,P,N,M⟩:=h.2 i aa;exact⟨Q,P,by rw[dH (by rw[h.1];omega)];exact N,M⟩
def az9(l:au)(r:RV)(W:Sl r)(B:Y l<=4096)(G:yW l)(N:0<Y l):∃o,TB.Ev 93 [.r (aG l),.r r] o/\∃v b,o=.ret [.r (aG v),.b b]/\(b=E->v=[])/\(b=J->vL l r (Y l) v):=by
 refine dV ?_;simp[X9,W.len];intro F;simp only[JD];refine⟨.inl rfl,λ_=> ?_,λh=> ?_,λ_ h=> ?_⟩;simp;refine⟨aa, ?_⟩;simp only[CA,CB];refine⟨_,agV dh (by simpa using G), ?_⟩;simp;have A:(bX (bp.lex [0] E).lt l).length=Y l:=mQ;refine cj (Y l) (λi V=>∃v,V=[.r (aG v)]/\vL l r i v) ⟨0,rfl,aa,[],rfl,rfl,aa⟩ ?_;rintro i _ Q ⟨v,rfl,P⟩;simp;split;rename_i Q;refine⟨Q, ?_⟩;refine cj (Y l) (λj V=>V=[.r (aG v)]) ⟨0,rfl,aa,rfl⟩ ?_;rintro j _ X rfl;simp[W.len];intro X;have z:=P.1;simp[bU X (show Y l<=140737488355328 from aa)];refine⟨X,λy=>⟨aa, ?_⟩⟩;obtain⟨M,H⟩:=ar4 (dj l i) (ci r j 0) (ci r j 1) (ci r j 2) (cb r j 3);simp only[iN,dj,ci,cb,ez,eW] at M H;rw[bi M];simp[bU X (show Y l<=140737488355328 from aa),bU Q (show Y l<=140737488355328 from aa),<-F,W.len];intro D;refine⟨X,aa, ?_⟩;have:=P.add (k:=j) aa (H D);exact⟨_,rfl,this⟩;have:i=Y l:=aa;subst this;exact⟨_,rfl,P⟩;simp at h;simp[h] at N;simp at h;simp[h] at N
def aAa(r:RV)(Q:Sl r):TB.Ev 93 [.r (aG []),.r r] (.ret [.r (aG []),.b (Y r.ac==0)]):=by
 refine fF ?_;simp[X9,Q.len];split
 case isFalse h=>
  intro e;simp[e] at h
 rename_i h;have W:Y r.ac=0:=aa;have V:iZ (bp.lex [0] E) E []=U []:=rfl;simp only[JD,CA,CB];refine⟨.inl rfl,λ_=> ?_,λ_=> ?_,λ_ _=>single (UL _)⟩
 ·try simp
  try simp only[CA,CB]
  refine⟨_,by simpa using V, ?_⟩;refine cj 0 (λi X=>X=[.r (aG [])]) ⟨0,rfl,aa,rfl⟩ ?_;rintro i _ P rfl;have:i=0:=aa;simp[W,this]
 ·try simp
  try simp only[CA,CB]
  refine⟨_,by simpa using V, ?_⟩;refine cj 0 (λi X=>X=[.r (aG [])]) ⟨0,rfl,aa,rfl⟩ ?_;rintro i _ P rfl;have:i=0:=aa;simp[W,this]
def ar5(l:au)(r:RV)(X:Sl r)(W:Y l<=4096)(V:yW l):∃o,TB.Ev 93 [.r (aG l),.r r] o/\∃v b,o=.ret [.r (aG v),.b b]/\(b=E->v=[])/\(b=J->vL l r (Y l) v):=by
 cases l with
 |nil=>exact⟨_,aAa r X,[],Y r.ac==0,rfl,λ_=>rfl,λ_=>⟨rfl,av⟩⟩
 |cons x l=>exact az9 (x::l) r X W V av
def yX(G:aS)(h:∃o,TB.Ev W V o/\∃X,o=.ret X/\ko G X=J):TB.Ev W V (.ret (AL (out W V) G 0)):=by
 obtain⟨o,Q,X,N,M⟩:=h;exact(shp G (P:=λ_=>True) ⟨o,Q,X,N,M,trivial⟩).1
def kI:Nat->aS
 |0=>[]
 |n+1=>.int I::kI n
@[simp] def kI0:kI 0=[]:=rfl
@[simp] def kIs (n:Nat):kI (n+1)=.int I::kI n:=rfl
def aAb(a b:Int):∃o,TB.Ev 114 [.i a,.i b] o/\∃X,o=.ret X/\ko (kI 2) X=true:=by
 refine dV ?_;simp[afC]
@[simp] def aI4 (a b:Int):iL TB.Ev R 114 [.i a,.i b] G t O L=iM TB.Ev R (.ret [.i (oi 114 [.i a,.i b] 0),.i (oi 114 [.i a,.i b] 1)]) G t O L:=bi (yX _ (aAb a b))
def aAc(a b:Int):∃o,TB.Ev 115 [.i a,.i b] o/\∃X,o=.ret X/\ko (kI 4) X=true:=by
 refine dV ?_;simp[XX]
 repeat'(first|intro _|split)
 have W:lenOf (kV[2]?.getD default).val=8:=rfl;rw[show aF .sub I a 1=a-1 by simp only[aF];exact cJ aa aa,W];omega
@[simp] def aI5 (a b:Int):iL TB.Ev R 115 [.i a,.i b] G t O L=iM TB.Ev R (.ret [.i (oi 115 [.i a,.i b] 0),.i (oi 115 [.i a,.i b] 1),.i (oi 115 [.i a,.i b] 2),.i (oi 115 [.i a,.i b] 3)]) G t O L:=bi (yX _ (aAc a b))
def aAd(a:Int):∃o,TB.Ev 317 [.i a] o/\∃X,o=.ret X/\ko (kI 3) X=true:=by
 refine dV ?_;simp[afD]
 repeat'(first|intro _|split)
 have W:lenOf (kV[2]?.getD default).val=8:=rfl;rw[show aF .sub I a 1=a-1 by simp only[aF];exact cJ aa aa,W];omega
@[simp] def aI6 (a:Int):iL TB.Ev R 317 [.i a] G t O L=iM TB.Ev R (.ret [.i (oi 317 [.i a] 0),.i (oi 317 [.i a] 1),.i (oi 317 [.i a] 2)]) G t O L:=bi (yX _ (aAd a))
def aAe(s:RV)(b:Int):∃o,TB.Ev 169 [.r s,.i b] o/\∃X,o=.ret X/\ko (kI 1) X=true:=by
 cases W:s.val with
 |string u=>exact⟨_,anq (by simp only[TB,Nx,Yj,W];rfl),_,rfl,rfl⟩
 |_=>exact⟨_,anq (by simp only[TB,Nx,Yj,W];rfl),_,rfl,rfl⟩
@[simp] def aI7 (s:RV) (b:Int):iL TB.Ev R 169 [.r s,.i b] G t O L=iM TB.Ev R (.ret [.i (oi 169 [.r s,.i b] 0)]) G t O L:=bi (yX _ (aAe s b))
def aAf(a:Int):∃o,TB.Ev 118 [.i a] o/\∃X,o=.ret X/\ko (kI 1) X=true:=by
 refine dV ?_;simp[X8]
@[simp] def aI8 (a:Int):iL TB.Ev R 118 [.i a] G t O L=iM TB.Ev R (.ret [.i (oi 118 [.i a] 0)]) G t O L:=bi (yX _ (aAf a))
def qg(v:RV):Prop:=∃s,v.val=.string s
def Yq(v:RV):qg (cG .str v):=by
 simp only[cG];split<;>exact⟨_,rfl⟩
def aAg(s:RV)(Q:qg s):∃o,TB.Ev 83 [.r s] o/\∃W,o=.ret W/\ko [.bool] W=true:=by
 refine dV ?_;obtain⟨u,V⟩:=Q;simp[X6,V,tM,lenOf];intro P G;have N:0<u.size:=by
  rcases A5 u.size with h|h;exfalso;apply P;have M:u=ByteArray.empty:=by simpa using h
  rw[M,ByteArray.toList,ByteArray.toList.loop];simp;exact h
 refine⟨N,λ_=> ?_⟩;refine cj u.size (λ_ H=>H=[]) ⟨0,rfl,aa,rfl⟩ ?_;rintro i _ X rfl;simp[V,lenOf];intro X;simp[bU X (show u.size<=140737488355328 from aa),X]
def agZ(s:RV)(X:qg s):iL TB.Ev R 83 [.r s] G t O L=iM TB.Ev R (.ret [.b (ob 83 [.r s] 0)]) G t O L:=bi (yX [.bool] (aAg s X))
def t74(W V a2 Q P a5 a6 a7 a8 N M fK fM:Int):∃o,TB.Ev 35 [.i W,.i V,.i a2,.i Q,.i P,.i a5,.i a6,.i a7,.i a8,.i N,.i M,.i fK,.i fM] o/\∃X,o=.ret X/\ko (kI 1) X=true:=by
 refine dV ?_;simp[Rp]
def CE(X W a2 V Q a5 a6 a7 a8 P N fK fM:Int):Int:=oi 35 [.i X,.i W,.i a2,.i V,.i Q,.i a5,.i a6,.i a7,.i a8,.i P,.i N,.i fK,.i fM] 0
@[simp] def c74 (X W a2 V Q a5 a6 a7 a8 P N fK fM:Int):iL TB.Ev R 35 [.i X,.i W,.i a2,.i V,.i Q,.i a5,.i a6,.i a7,.i a8,.i P,.i N,.i fK,.i fM] G t O L=iM TB.Ev R (.ret [.i (CE X W a2 V Q a5 a6 a7 a8 P N fK fM)]) G t O L:=bi (yX _ (t74 X W a2 V Q a5 a6 a7 a8 P N fK fM))
def t75(s:RV)(X:qg s)(W V a2 Q P a5 a6 a7 a8 N M fK fM gE H G:Int):∃o,TB.Ev 49 [.r s,.i W,.i V,.i a2,.i Q,.i P,.i a5,.i a6,.i a7,.i a8,.i N,.i M,.i fK,.i fM,.i gE,.i H,.i G] o/\∃e,o=.ret [.i e]/\(e=0->(1<=fK/\fK<=3)/\(1<=fM/\fM<=3)/\1<=gE/\gE<=3):=by
 refine dV ?_;simp[Rq,agZ s X];intros;omega
def CF(s:RV)(X W a2 V Q a5 a6 a7 a8 P N fK fM gE M H:Int):Int:=oi 49 [.r s,.i X,.i W,.i a2,.i V,.i Q,.i a5,.i a6,.i a7,.i a8,.i P,.i N,.i fK,.i fM,.i gE,.i M,.i H] 0
def f75(s:RV)(G:qg s)(X W a2 V Q a5 a6 a7 a8 P N fK fM gE M H:Int):TB.Ev 49 [.r s,.i X,.i W,.i a2,.i V,.i Q,.i a5,.i a6,.i a7,.i a8,.i P,.i N,.i fK,.i fM,.i gE,.i M,.i H] (.ret [.i (CF s X W a2 V Q a5 a6 a7 a8 P N fK fM gE M H)])/\(CF s X W a2 V Q a5 a6 a7 a8 P N fK fM gE M H=0->(1<=fK/\fK<=3)/\(1<=fM/\fM<=3)/\1<=gE/\gE<=3):=uq (t75 s G X W a2 V Q a5 a6 a7 a8 P N fK fM gE M H)
def c75(s:RV)(F:qg s)(X W a2 V Q a5 a6 a7 a8 P N fK fM gE M H:Int):iL TB.Ev R 49 [.r s,.i X,.i W,.i a2,.i V,.i Q,.i a5,.i a6,.i a7,.i a8,.i P,.i N,.i fK,.i fM,.i gE,.i M,.i H] G t O L=iM TB.Ev R (.ret [.i (CF s X W a2 V Q a5 a6 a7 a8 P N fK fM gE M H)]) G t O L:=bi (f75 s F X W a2 V Q a5 a6 a7 a8 P N fK fM gE M H).1
def t27(W V Q P N M H G F D B A z:Int)(s:RV)(y:qg s)(x w a2 v u a5 a6 a7 a8 q p fK fM gE n m:Int):∃o,TB.Ev 81 [.i W,.i V,.i Q,.i P,.i N,.i M,.i H,.i G,.i F,.i D,.i B,.i A,.i z,.r s,.i x,.i w,.i a2,.i v,.i u,.i a5,.i a6,.i a7,.i a8,.i q,.i p,.i fK,.i fM,.i gE,.i n,.i m] o/\∃X,o=.ret X/\ko (kI 5) X=true:=by
 refine dV ?_;simp(maxSteps:=9999999) [T27,c75 s y]

variable[Inhabited db]
structure aAl:Prop where
 rl:lenOf aL.val<=100
 tp:lenOf qf.val<=64
 ps:lenOf rT.val<=64
 sp:lenOf rU.val<=64
 sg:lenOf bu.val<=5000
def cr(e:TypeId)(v:RV)(i:Nat):RV:=cG (.sl e) (aU v.ac i 0)
structure aJa(wg bd st re:RV):Prop where
 few:aAl
 wg:lenOf wg.val<=20
 bd:lenOf bd.val<=100
 st:lenOf st.val<=100
 rel:lenOf re.val<=100
 jz:∀i:Nat,i<lenOf re.val->lenOf (cr 134 re i).val<=100
def e65(V:GK)(h:fp)(ak:Int):TB.Ev 127 (wk++[.i ak]) (.ret [.i (if lg=0 then(if jc ak 0 (fo-1) then 0 else 1) else lg)]):=by
 refine fF ?_;obtain⟨W,Q⟩:=xt V h;simp only[wk] at W;simp[T65,wk,bi W];split;rename_i X;have:=(Q X).br;rw[show aF .sub I fo 1=fo-1 by simp only[aF];rw[cJ aa aa]];split<;>simp_all;rename_i X;simp[X]
def pn(c:Nat->Int):bq:=[.i (c 0),.i (c 1),.i (c 2),.i (c 3),.i (c 4),.i (c 5),.i (c 6),.i (c 7)]
def t25(c:Nat->Int)(ak:Int):∃o,TB.Ev 51 (pn c++[.i ak]) o/\∃X,o=.ret X/\ko (kI 5) X=true:=by
 refine dV ?_;simp[Nt,pn]
def qR(c:Nat->Int)(ak:Int)(k:Nat):Int:=oi 51 (pn c++[.i ak]) k
def f25(c:Nat->Int)(ak:Int):TB.Ev 51 (pn c++[.i ak]) (.ret [.i (qR c ak 0),.i (qR c ak 1),.i (qR c ak 2),.i (qR c ak 3),.i (qR c ak 4)]):=yX _ (t25 c ak)
end
