/- Part 4. -/
import Derived.Test.YtjnmghiggfgjlaaGreatDoorW3
set_option linter.all false
set_option maxRecDepth 100000
set_option maxHeartbeats 100000000
open Bool renaming and_eq_true->aC,false_eq_true->iW,not_eq_true'->jP,or_eq_true->lu,true->J,false->E
open Nat renaming le_refl->cd,zero_le->rO,eq_zero_or_pos->Jt,mod_lt->QY,gcd->acd,gcd_comm->awj
open List renaming cons_append->cU,range->dj,getElem?_eq_some_iff->dq,nil_append->du,getD_eq_getElem?_getD->dA,getElem?_eq_getElem->dB,map_cons->dG,getElem?_map->eo,mem_cons->eu,mem_append->fg,mem_map->fw,getElem?_append_left->fT,length_append->ga,all_eq_true->gC,getElem?_append_right->jl,mem_of_getElem?->jA,pairwise_cons->jO,length_cons->nX,pairwise_append->oC,map_nil->oD,length_map->oX,getElem?_take->pI,mem_range->rN,getElem?_of_mem->sJ,getElem_mem->sK,getElem?_drop->xj,nodup_append->xl,length_eq_zero_iff->AC,append_assoc->Ce,length_drop->Cf,map->Ck,nodup_cons->Eo,map_append->GF,take_of_length_le->Jp,take_append_drop->Jr,append_nil->Jw,length_take->Mf,drop_drop->QU,pairwise_iff_getElem->abY,length_singleton->ab1,foldl_cons->ab7,ne_nil_of_mem->akM,pairwise_map->akO,range_succ_eq_map->avK,mem_erase_of_ne->avO,length_pos_iff->avR,take_add_one->avZ,find?_cons->av3,length_erase_of_mem->aIH,pairwise_singleton->aII,length_filter_le->aIP,length_range->aI6,length->Y
open Option renaming some->U,none->Z
open Int renaming toNat_natCast->rM,natAbs_tmod->akT,mul_le_mul_of_nonneg_right->aIA,mul_lt_mul_of_pos_right->aIB
open List.Pairwise renaming nil->xk
open List.Perm renaming refl->akV,swap->aI9
open Go.IntKind renaming i64->I
namespace Go.Proofs.YtjnmghiggfgjlaaGreatDoor.Y
open Go.RowKit
noncomputable section
variable{X:av}{W:Nat}{V:FuncId}
section
variable{lt:aE->aE->Bool}{p:aE->Prop}
structure mV(lt:aE->aE->Bool)(p:aE->Prop):Prop where
 XT:∀x,p x->lt x x=E
 tr:∀x y z,p x->p y->p z->lt x y=J->lt y z=J->lt x z=J
 nt:∀x y z,p x->p y->p z->lt x y=E->lt y z=E->lt x z=E
def mV.asym(h:mV lt p){x y:aE}(X:p x)(W:p y)(V:lt x y=J):lt y x=false:=by
 cases R:lt y x;rfl;have:=h.tr x y x X W X V R;rw[h.XT x X] at this;cases this
def apT(h:mV lt p){x y:aE}(W:p x)(V:p y)(X:lt y x=J):∀{l:av},(∀z∈l,p z)->fh lt y (fh lt x l)=fh lt x (fh lt y l)
 |[],_=>by
  have R:=h.asym V W X;simp[fh,X,R]
 |z::r,O=>by
  have N:=O z aw;have M:=apT h W V X (l:=r) (λw L=>O w (by simp[L]));have R:=h.asym V W X;cases Q:lt x z;cases P:lt y z;simp[fh,Q,P,M];simp[fh,Q,P,R];have P:lt y z=true:=h.tr y x z V W N X Q;simp[fh,Q,P,X,R]
inductive gz(lt:List RV->List RV->Bool)(l:List (List RV)):List (List RV)->Prop
 |refl:gz lt l l
 |step {P Q:List (List RV)} {x y:List RV}:lt y x=J->gz lt l (P++x::y::Q)->gz lt l (P++y::x::Q)
def gz.trans{b c:av}(W:gz lt X b)(V:gz lt b c):gz lt X c:=by
 induction V with|refl=>exact W|step h _ R=>exact .step h R
def gz.N4{b:av}(A B:av)(h:gz lt X b):gz lt (A++X++B) (A++b++B):=by
 induction h with
 |refl=>exact .refl
 | @step P Q x y h _ W=>
  have V:A++(P++x::y::Q)++B=(A++P)++x::y::(Q++B):=aw;have R:A++(P++y::x::Q)++B=(A++P)++y::x::(Q++B):=aw;rw[V] at W;rw[R];exact .step h W
def gz.perm{b:av}(h:gz lt X b):b.Perm X:=by
 induction h with|refl=>exact akV _|step _ _ W=>exact((aI9 _ _ _).append_left _).trans W
def gz.apU(P:av)(b:aE):∀(A Q:av),(∀a∈A,lt b a=J)->gz lt (P++A.reverse++b::Q) (P++b::(A.reverse++Q))
 |[],Q,_=>by simpa using gz.refl
 |a::A,Q,h=>by
  have X:gz lt (P++(a::A).reverse++b::Q) ((P++A.reverse)++b::a::Q):=by
   have:P++(a::A).reverse++b::Q=(P++A.reverse)++a::b::Q:=aw;rw[this];exact .step (h a aw) .refl
  have W:=gz.apU P b A (a::Q) (λx V=>h x (by simp[V]));have e:P++b::((a::A).reverse++Q)=P++b::(A.reverse++a::Q):=aw;rw[e];exact X.trans W
def gz.one(P Q:av)(b:aE)(A:av)(h:∀a∈A,lt b a=J):gz lt (P++A++b::Q) (P++b::(A++Q)):=by
 have:=gz.apU (lt:=lt) P b A.reverse Q (λa X=>h a (by simpa using X));simpa using this
def gz.block(Q:av)(A:av):∀(B P:av),(∀a∈A,∀b∈B,lt b a=J)->gz lt (P++A++(B++Q)) (P++B++(A++Q))
 |[],P,_=>by simpa using gz.refl
 |b::B,P,h=>by
  have W:=gz.one P (B++Q) b A (λa X=>h a X b aw);have V:=gz.block Q A B (P++[b]) (λa X R O=>h a X R (by simp[O]));have N:P++b::(A++(B++Q))=P++[b]++A++(B++Q):=aw;have M:P++b::B++(A++Q)=P++[b]++B++(A++Q):=aw;rw[N] at W;rw[M];exact W.trans V
def zA(lt:aE->aE->Bool)(acc l:av):av:=l.foldl (λacc x=>fh lt x acc) acc
def aAM{acc:av}(R:∀z∈acc,p z)(Q:∀z∈X,p z):∀z∈zA lt acc X,p z:=by
 induction X generalizing acc with
 |nil=>exact R
 |cons x X W=>
  refine W (acc:=fh lt x acc) (λz V=> ?_) (λz V=>Q z (by simp[V]));have fj:∀{X:av},z∈fh lt x X->z=x\/z∈X:=by
   intro X;induction X with
   |nil=>intro h;simpa[fh] using h
   |cons y r W=>
    intro h;simp only[fh] at h;split at h;simpa using h;rcases eu.1 h with h|h;exact .inr (by simp[h]);rcases W h with h|h;exact .inl h;exact .inr (by simp[h])
  rcases fj V with rfl|h;exact Q _ aw;exact R z h
def gz.fold(h:mV lt p){O:av}(W:gz lt X O){acc:av}(M:∀z∈X,p z)(L:∀z∈acc,p z):zA lt acc O=zA lt acc X:=by
 induction W with
 |refl=>rfl
 | @step P Q x y H W G=>
  rw[<-G];have V:=λz(R:z∈P++x::y::Q)=>M z (W.perm.mem_iff.1 R)
  have N:∀z∈zA lt acc P,p z:=aAM L λz R=>V z (by simp[R])
  simp only[zA,List.foldl_append,ab7] at N⊢;rw[apT h (V x aw) (V y aw) H N]
def gV(lt:aE->aE->Bool)(l:av):Prop:=l.Pairwise λa b=>lt b a=E
def apV{x:aE}:∀{l:av},(∀y∈l,lt x y=E)->fh lt x l=l++[x]
 |[],_=>rfl
 |y::r,h=>by
  have X:=h y aw;simp[fh,X,apV (l:=r) λz W=>h z (by simp[W])]
def aAN:∀{acc:av},gV lt (acc++X)->zA lt acc X=acc++X:=by
 induction X with
 |nil=>intro acc _;simp[zA]
 |cons x X W=>
  intro acc h;have V:∀y∈acc,lt x y=false:=λy R=>(oC.1 h).2.2 y R x aw
  have e:acc++x::X=(acc++[x])++X:=aw;rw[e] at h⊢;rw[<-W h];simp only[zA,ab7];rw[apV V]
def XU(h:gV lt X):bN lt X=X:=aAN (acc:=[]) h
def Ta{x z:aE}:∀{l:av},z∈fh lt x l->z=x\/z∈l
 |[],h=>by simpa[fh] using h
 |y::r,h=>by
  simp only[fh] at h;split at h;simpa using h;rcases eu.1 h with h|h;exact .inr (by simp[h]);rcases Ta h with h|h;exact .inl h;exact .inr (by simp[h])
def gV.ins(h:mV lt p){x:aE}(W:p x):∀{l:av},(∀z∈l,p z)->gV lt l->gV lt (fh lt x l)
 |[],_,_=>aII _ _
 |y::r,V,Q=>by
  have P:=V y aw;have R:=jO.1 Q;simp only[fh];cases O:lt x y;refine jO.2 ⟨λz X=> ?_,gV.ins h W (λz X=>V z (by simp[X])) R.2⟩;rcases Ta X with rfl|X;exact O;exact R.1 z X;refine jO.2 ⟨λz X=> ?_,Q⟩;have N:=h.asym W P O;rcases eu.1 X with rfl|X;exact N;exact h.nt z y x (V z (by simp[X])) P W (R.1 z X) N
def gV.fold(h:mV lt p):∀{acc:av},(∀z∈acc,p z)->(∀z∈X,p z)->gV lt acc->gV lt (zA lt acc X):=by
 induction X with
 |nil=>intro acc _ _ h;exact h
 |cons x X Q=>
  intro acc R V P;refine Q (acc:=fh lt x acc) (λz W=> ?_) (λz W=>V z (by simp[W])) (P.ins h (V x aw) R);rcases Ta W with rfl|W;exact V _ aw;exact R z W
def KF(h:mV lt p)(W:∀z∈X,p z):gV lt (bN lt X):=gV.fold h (acc:=[]) aw W xk
def gz.ins(h:mV lt p){x:aE}(V:p x):∀{l:av},(∀z∈l,p z)->gV lt l->gz lt (l++[x]) (fh lt x l)
 |[],_,_=>.refl
 |y::r,W,P=>by
  have O:=W y aw;have R:=jO.1 P;simp only[fh];cases Q:lt x y;have:=(gz.ins h V (l:=r) (λz X=>W z (by simp[X])) R.2).N4 [y] [];simpa using this;have:=gz.one (lt:=lt) [] [] x (y::r) (λz X=>by
   rcases eu.1 X with rfl|X;exact Q;cases N:lt x z;have:=h.nt x z y V (W z (by simp[X])) O N (R.1 z X);rw[Q] at this;cases this;rfl)
  simpa using this
def gz.aAO(h:mV lt p):∀{acc:av},(∀z∈acc,p z)->(∀z∈X,p z)->gV lt acc->gz lt (acc++X) (zA lt acc X):=by
 induction X with
 |nil=>intro acc _ _ _;simpa[zA] using gz.refl
 |cons x X P=>
  intro acc R V Q;have O:=(gz.ins h (V x aw) R Q).N4 [] X;have N:=P (acc:=fh lt x acc) (λz W=>by
   rcases Ta W with rfl|W;exact V _ aw;exact R z W) (λz W=>V z (by simp[W])) (Q.ins h (V x aw) R)
  have e:acc++x::X=[]++(acc++[x])++X:=aw;rw[e];refine O.trans ?_;rw[du];exact N
def gz.XW(h:mV lt p)(W:∀z∈X,p z):gz lt X (bN lt X):=by
 exact gz.aAO h (acc:=[]) aw W xk
def afw(h:mV lt p){W:av}(V:∀z∈X,p z)(R:gz lt X W)(Q:gV lt W):bN lt X=W:=by
 rw[<-XU Q];exact(R.fold h (acc:=[]) V aw).symm
def KG{z:aE}(h:z∈bN lt X):z∈X:=by
 have:∀(X acc:av),z∈zA lt acc X->z∈acc\/z∈X:=by
  intro X;induction X with
  |nil=>intro acc h;exact .inl h
  |cons x X W=>
   intro acc h;rcases W (fh lt x acc) h with h|h;rcases Ta h with rfl|h;exact .inr aw;exact .inl h;exact .inr (by simp[h])
 rcases this X [] h with h|h;cases h;exact h
def aAP(h:mV lt p){x:aE}{W:av}(Q:∀z∈x::(X++W),p z)(N:gV lt (X++W))(O:∀y∈X,lt y x=J)(M:∀y∈W,lt y x=E):bN lt (x::(X++W))=X++x::W:=by
 refine afw h Q ?_ ?_;have:=gz.block (lt:=lt) W [x] X [] (λa V b R=>by simp at V;subst V;exact O b R);simpa using this;have P:=oC.1 N;refine oC.2 ⟨P.1,jO.2 ⟨M,P.2.1⟩,λa V b R=> ?_⟩;rcases eu.1 R with rfl|R;exact h.asym (Q a (by simp[V])) (Q b aw) (O a V);exact P.2.2 a V b R
def aAQ(h:mV lt p){y:aE}{W:av}(R:∀z∈X++W++[y],p z)(N:gV lt (X++W))(M:∀x∈X,lt y x=E)(P:∀x∈W,lt y x=J):bN lt (X++W++[y])=X++y::W:=by
 refine afw h R ?_ ?_;have:=gz.one (lt:=lt) X [] y W P;simpa using this;have Q:=oC.1 N;refine oC.2 ⟨Q.1,jO.2 ⟨λb V=>h.asym (R y aw) (R b (by simp[V])) (P b V),Q.2.1⟩,λa O b V=> ?_⟩;rcases eu.1 V with rfl|V;exact M a O;exact Q.2.2 a O b V
def aAR(h:mV lt p){R Q P:av}(O:∀z∈X++R++(Q++P),p z)(D:gV lt (X++R))(B:gV lt (Q++P))(A:∀x∈X,∀y∈P,lt y x=E)(H:∀x∈R,∀y∈Q,lt y x=J):
  bN lt (X++R++(Q++P))=bN lt (X++Q)++bN lt (R++P):=by
 have w:=oC.1 D;have v:=oC.1 B;have N:∀z∈X++Q,p z:=λz M=>O z (by rcases fg.1 M with h|h<;>simp[h])
 have L:∀z∈R++P,p z:=λz M=>O z (by rcases fg.1 M with h|h<;>simp[h])
 refine afw h O ?_ ?_;have u:=gz.block (lt:=lt) P R Q X H;have G:=(gz.XW h N).N4 [] (R++P);have F:=(gz.XW h L).N4 (bN lt (X++Q)) [];simp only[du,Jw] at G F;exact(u.trans G).trans F;refine oC.2 ⟨KF h N,KF h L,λa V b W=> ?_⟩;have V:=KG V;have W:=KG W;have t:=N a V;have s:=L b W;rcases fg.1 V with V|V;rcases fg.1 W with W|W;exact w.2.2 a V b W;exact A a V b W;rcases fg.1 W with W|W;exact h.asym t s (H b W a V);exact v.2.2 a V b W
def apW(h:mV lt p){B:av}(W:∀z∈X,p z)(V:∀z∈B,p z):bN lt (bN lt X++bN lt B)=bN lt (X++B):=by
 have R:=(gz.XW h W).N4 [] B;have Q:=(gz.XW h V).N4 (bN lt X) [];simp only[du,Jw] at R Q;exact(R.trans Q).fold h (acc:=[]) (λz P=>by exact(fg.1 P).elim (W z) (V z)) aw
end
section
def apX(d:Bool):∀(Q:ar)(x y z:aE),jF d Q x y=E->jF d Q y z=E->jF d Q x z=E
 |[],_,_,_,_,_=>rfl
 |c::Q,x,y,z,V,X=>by
  simp only[jF] at V X⊢;by_cases R:aI c x=aI c y;rw[aH R] at V;by_cases W:aI c y=aI c z;rw[aH W] at X;rw[aH (R.trans W)];exact apX d Q x y z V X;rw[aP W] at X;rw[aP (by rw[R];exact W),R];exact X;rw[aP R] at V;by_cases W:aI c y=aI c z;rw[aP (by rw[<-W];exact R),<-W];exact V;rw[aP W] at X;cases d;simp only[iW,jB,decide_eq_false_iff_not] at V X⊢;rw[aP ae];simp only[decide_eq_false_iff_not];omega;simp only[dN,decide_eq_false_iff_not] at V X⊢;rw[aP ae];simp only[decide_eq_false_iff_not];omega
def apY(d:Bool):∀(X:ar)(x:aE),jF d X x x=E
 |[],_=>rfl|c::X,x=>by simp[jF,apY d X x]
def apZ(d:Bool):∀(Q:ar)(x y z:aE),jF d Q x y=J->jF d Q y z=J->jF d Q x z=J
 |[],_,_,_,h,_=>by simp[jF] at h
 |c::Q,x,y,z,V,X=>by
  simp only[jF] at V X⊢;by_cases R:aI c x=aI c y;rw[aH R] at V;by_cases W:aI c y=aI c z;rw[aH W] at X;rw[aH (R.trans W)];exact apZ d Q x y z V X;rw[aP W] at X;rw[aP (by rw[R];exact W),R];exact X;rw[aP R] at V;by_cases W:aI c y=aI c z;rw[aP (by rw[<-W];exact R),<-W];exact V;rw[aP W] at X;cases d;simp only[iW,jB,dl] at V X⊢;rw[aP ae];simp only[dl];omega;simp only[dN,dl] at V X⊢;rw[aP ae];simp only[dl];omega
def XX(X:ar)(d:Bool):mV (bu.lex X d).lt (λx=>(bu.lex X d).ok x=J):=
 ⟨λx _=>apY d X x,λx y z _ _ _=>apZ d X x y z,λx y z _ _ _=>apX d X x y z⟩
def N5{n d:Int}(h:mq n d=J):0<d:=by
 simp only[mq,aC,dl] at h;omega
def afx(n d:Nat):mV (bu.ratio n d).lt (λx=>(bu.ratio n d).ok x=J):=by
 refine⟨λx _=> ?_,λx y z V R Q X W=> ?_,λx y z V R Q X W=> ?_⟩;simp[bu.lt];have P:=N5 V;have N:=N5 R;have O:=N5 Q;simp only[bu.lt,dl] at X W⊢;have M:=aIB X O;have L:=aIB W P;refine Int.lt_of_mul_lt_mul_left (a:=aI d y) ?_ ae;have H:aI n x*aI d y*aI d z=aI d y*(aI n x*aI d z):=by ac_rfl
 have G:aI n y*aI d x*aI d z=aI n y*aI d z*aI d x:=by ac_rfl
 have F:aI n z*aI d y*aI d x=aI d y*(aI n z*aI d x):=by ac_rfl
 omega;have P:=N5 V;have N:=N5 R;have O:=N5 Q;simp only[bu.lt,decide_eq_false_iff_not,Int.not_lt] at X W⊢;have M:=aIA X (show 0<=aI d z from ae);have L:=aIA W (show 0<=aI d x from ae);refine Int.le_of_mul_le_mul_left (a:=aI d y) ?_ ae;have H:aI n x*aI d y*aI d z=aI d y*(aI n x*aI d z):=by ac_rfl
 have G:aI n y*aI d x*aI d z=aI n y*aI d z*aI d x:=by ac_rfl
 have F:aI n z*aI d y*aI d x=aI d y*(aI n z*aI d x):=by ac_rfl
 omega
end
section
variable{lt:aE->aE->Bool}{p:aE->Prop}
def qH(X:av){m b:Nat}(V:W<=m)(R:m<=b):bi X W b=bi X W m++bi X m b:=by
 simp only[bi];have e:b-W=(m-W)+(b-m):=ae;rw[e,List.take_add,QU,show W+(m-W)=m from ae]
def N6(X:av){b:Nat}(V:W<=b):X.take W++(bi X W b++X.drop b)=X:=by
 simp only[bi];have e:X.drop b=(X.drop W).drop (b-W):=by rw[QU];congr 1;omega
 rw[e,Jr,Jr]
def Tb(X:av){a b i:Nat}(h:i<b-a):(bi X a b)[i]?=X[a+i]?:=by
 simp only[bi,pI,h,dN,xj]
def sd(X:av){b:Nat}(h:b<=Y X):(bi X W b).length=b-W:=by simp[bi];omega
def HC{b:Nat}{x:aE}(h:x∈bi X W b):∃i,W<=i/\i<b/\i<Y X/\X.getD i []=x:=by
 obtain⟨i,V⟩:=sJ h;have R:=(dq.1 V).1;simp only[bi,Mf,Cf] at R;rw[Tb X ae] at V;exact⟨W+i,ae,ae,ae,by simp[dA,V]⟩
def N7{b:Nat}(V:b<=Y X)(h:gV lt (bi X W b)){i j:Nat}(Q:W<=i)(O:i<j)(P:j<b):lt (X.getD j []) (X.getD i [])=false:=by
 have:=abY.1 h (i-W) (j-W) (by rw[sd X V];omega) (by rw[sd X V];omega) ae;have e:∀k(R:k-W<(bi X W b).length),W<=k->k<b->(bi X W b)[k-W]=X.getD k []:=λk R N M=>by
  have q:=Tb X (a:=W) (b:=b) (i:=k-W) ae;rw[dB R,show W+(k-W)=k from ae] at q;simp[dA,<-q]
 rw[e i _ Q ae,e j _ ae P] at this;exact this
def ap0:zl lt X=J<->gV lt X:=by
 induction X with
 |nil=>exact⟨λ_=>xk,λ_=>rfl⟩
 |cons x r W=>
  simp only[zl,aC,W,gC,jP,gV,jO]
def aAS(h:mV lt p)(L:∀z∈X,p z){s m e b:Nat}(H:W<=s)(G:s<=m)(F:m<=e)(D:e<=b)(u:b<=Y X)(B:gV lt (bi X W m))(A:gV lt (bi X m b))
  (w:∀i j,W<=i->i<s->e<=j->j<b->lt (X.getD j []) (X.getD i [])=E)(v:∀i j,s<=i->i<m->m<=j->j<e->lt (X.getD j []) (X.getD i [])=J):
  bN lt (bi X W b)=bN lt (bi X W s++bi X m e)++bN lt (bi X s m++bi X e b):=by
 rw[qH X (show W<=m from ae) (show m<=b from ae),qH X H G,qH X F D] at*;refine aAR h (λz V=>L z ?_) B A (λx R y Q=> ?_) (λx R y Q=> ?_);simp only[fg] at V;rcases V with(V|V)|(V|V)<;>exact vW V;obtain⟨i,P,O,_,rfl⟩:=HC R;obtain⟨j,N,M,_,rfl⟩:=HC Q;exact w i j P O N M;obtain⟨i,P,O,_,rfl⟩:=HC R;obtain⟨j,N,M,_,rfl⟩:=HC Q;exact v i j P O N M
end
section
variable(a b c:Nat)(d e f g h i:K)(j k l m:T)(n o p q r s:BE)(t u:List C)(v w x y z:C)(A:RE)(B N D:LE)(M F:List LK)(G:Int)(H:RK)(O:List RK)(P:BinOp)(Q:bu)(L:Bool)
abbrev cK:=K.v 0
abbrev cY:=K.v 1
abbrev gK:=K.v 2
abbrev fZ:=T.ret v [] []
abbrev wm:=fZ (.bool n)
abbrev eN:=BE.cmp .leq d e
abbrev Td:=wm (eN cK gK)
abbrev gA:=BE.c E
abbrev kz:=C.bool gA
abbrev fo:=fZ kz
abbrev f8:=K.v 4
abbrev aV:=C.int I d
abbrev pN:=aV f8
abbrev cJ:=K.c 1
abbrev dY:=aV cJ
abbrev Bi:=K.c 9
abbrev C2:List LK:=[.bool]
abbrev Bj:=BE.v 0
abbrev pO:=BE.not Bj
abbrev iG:=aV cY
abbrev bJ:=K.c 0
abbrev aM:=aV bJ
abbrev kL:=K.v 14
abbrev tj:=BE.v 1
abbrev oM:=BE.not tj
abbrev gL:=aV gK
abbrev jw:=K.v 15
abbrev Bk:=BE.v 2
abbrev HD:=BE.not Bk
abbrev iR:=K.v 3
abbrev kX:=aV iR
abbrev qI:=K.c 3
abbrev pw:=aV qI
abbrev Bl:=BE.v 3
abbrev C3:=BE.not Bl
abbrev gM:=eN bJ d
abbrev Te:=gM f8
abbrev KH:=K.c 10
abbrev j7:=RE.v 0
abbrev iH:=K.len j7
abbrev lT:=K.v 5
abbrev oN:=aV lT
abbrev rm:=K.c 2
abbrev tq:=aV rm
abbrev mB:=BE.not (.v a)
abbrev HE:=mB 4
abbrev jI:=K.v 6
abbrev eH:=aV jI
abbrev lC:=K.c 8
abbrev HF:=aV lC
abbrev ez:=K.v 7
abbrev jx:=aV ez
abbrev fp:=K.v 8
abbrev iJ:=aV fp
abbrev dw:=K.v 9
abbrev kY:=aV dw
abbrev nQ:=aV kL
abbrev gF:=K.v 10
abbrev jf:=aV gF
abbrev iK:=K.v 11
abbrev j8:=aV iK
abbrev dp:=LK.int I
abbrev zB:List LK:=[dp,dp]
abbrev iw:=K.v 17
abbrev lW:=BE.cmp .neq d e
abbrev fJ:=lW d bJ
abbrev HG:=fJ iw
abbrev jg:=K.v 16
abbrev dP:=K.v 12
abbrev kZ:=K.v 13
abbrev gN:=aV dP
abbrev oh:=aV kZ
abbrev kM:=K.v 19
abbrev XY:=fJ kM
abbrev ij:=K.v 18
abbrev pP:=K.v 21
abbrev ol:=K.v 20
abbrev ld:=BE.c J
abbrev kN:=C.bool ld
abbrev wn:=fZ kN
abbrev jS:=T.call a t [] [] M .any j
abbrev mW:=jS a j [v,w] M
abbrev Fj:=mW a j v w zB
abbrev lD:=C.agg [v,w]
abbrev dt:=T.aJ n j (.aJ o k l)
abbrev gO:=BE.cmp .gtr d e
abbrev zC:=dt j k l n (gO d e)
abbrev Bm:=zC d e fo j k n
abbrev ik:=T.aJ n (.aJ o j k) l
abbrev eP:=BE.cmp .eql d e
abbrev dQ:=eP d bJ
abbrev Fk:=BE.and (eP d e) n
abbrev C4:=Fk d e (eP f g)
abbrev C5:=T.aJ n fo j
abbrev afy:=Fj 89 (Bm ol bJ fo (ik (C5 wn (C4 cJ dP cJ kZ)) wn wn (dQ ol) (C4 dP gF kZ iK)) (fJ pP)) (lD gN oh) (lD dY dY)
abbrev afz:=Fj 89 (Bm ij bJ fo (ik (C5 afy (C4 dP dP kZ kZ)) afy afy (dQ ij) (C4 gF gF iK iK)) XY) (lD jf j8) (lD gN oh)
abbrev nR:=aV (.c G)
abbrev Fl:=nR 150
abbrev pQ:=T.ret (.bI t) [] []
abbrev iL:=pQ [v,w]
abbrev XZ:=iL aM Fl
abbrev afA:=gO cK lC
abbrev zD:=K.c 7
abbrev Bn:=K.bin P I d e
abbrev oO:=Bn d e .add
abbrev afB:=oO cK cY
abbrev X0:=iL (.agg [aM,aM,aM]) Fl
abbrev tu:=K.c 841
abbrev tw:=Bn d e .sub
abbrev Tf:=tw cY rm
abbrev se:=tw d cJ
abbrev HH:=se cK
abbrev cL:=BE.cmp .lss d e
abbrev fD:=BE.and n (cL d e)
abbrev afC:=fD HH lC (gM HH)
abbrev xT:=RE.v 2
abbrev Tg:=K.len xT
abbrev afD:=fD HH Tg (gM HH)
abbrev C6:=K.c 29
abbrev iE:=K.cell A d 0
abbrev Th:=iE HH xT
abbrev uO:=K.cell A d 1
abbrev Ti:=uO HH xT
abbrev Bo:=aV (Bn d e P)
abbrev lF:=Bo d e .mul
abbrev X1:=lF (.c 609) Tf
abbrev C7:=K.c 20
abbrev j9:=aV cK
abbrev X2:=fJ lT
abbrev Tj:=fZ (nR 120)
abbrev KI:=K.c 1073741824
abbrev X3:=K.c (-1073741824)
abbrev oo:=fZ aM
abbrev X4:=fJ iR
abbrev afE:=pQ [aM,aM,dY]
abbrev kA:=K.mm J d e
abbrev ap1:=K.bin .rem .u64 iR (kA f8 cJ)
abbrev N8:=K.c (-1)
abbrev HI:=aV N8
abbrev C8:=fZ dY
abbrev afF:=lW cK cK
abbrev Tk:=K.c (-1099511627776)
abbrev Tl:=K.c 1099511627776
abbrev iM:=C.agg [v,w,x,y]
abbrev Fm:=iM j9 iG gL kX
abbrev Tm:=iM aM aM aM aM
abbrev afG:=iM pN oN eH jx
abbrev px:List LK:=[dp,dp,dp,dp,dp]
abbrev N9:=dQ fp
abbrev ap2:=K.c (-2199023255552)
abbrev zE:=iL Tm v
abbrev KJ:=zE tq
abbrev zF:=Bo d e .add
abbrev ap3:=iM (zF cK f8) (zF cY f8) (zF gK lT) (zF iR lT)
abbrev HJ:=K.c (-1048576)
abbrev zG:=iL aM tq
abbrev uP:=K.c 1048576
abbrev Fo:=K.c 4
abbrev wq:List LK:=[dp,dp,dp,dp]
abbrev afH:=fZ (.agg [kX,pN,oN])
abbrev ap4:=T.aJ (dQ cY) (mW 139 afH j9 dY wq) (mW 139 afH j9 iG wq)
abbrev Oa:=C.bool tj
abbrev Ob:=K.conv .u64 d
abbrev KK:=K.conv I (.bin .shr .u64 (Ob (oO gK iR)) cJ)
abbrev KL:=se gK
abbrev Fp:=C.ak j7
abbrev py:=RE.v 1
abbrev Bp:=C.ak py
abbrev HL:=C.ak xT
abbrev Oc:=iM j9 Fp Bp HL
abbrev X5:=fJ jI
abbrev rp:List LK:=[dp,dp,dp]
abbrev uQ:=C.ak (.v a)
abbrev HM:=uQ 3
abbrev KM:=C.ak (.v 4)
abbrev i7:=C.agg [j9,iG,gL,kX,pN,Fp,oN,Bp,HL,HM,KM]
abbrev Od:=dQ ez
abbrev C9:=Bo d e .sub
abbrev afI:=C9 lT cJ
abbrev oP:=RE.v 5
abbrev zH:=C.ak oP
abbrev afJ:=C.agg [zH]
abbrev uR:=RE.v 6
abbrev qJ:=C.ak uR
abbrev ke:=RE.v 7
abbrev wt:=C.ak ke
abbrev pR:=RE.v 8
abbrev wu:=C.ak pR
abbrev uS:=RE.v 9
abbrev uT:=C.ak uS
abbrev tB:=RE.v 10
abbrev qK:=C.ak tB
abbrev tC:=RE.v 11
abbrev xU:=C.ak tC
abbrev X6:=C.agg [eH,wt,wu,uT,qK,xU]
abbrev HN:=RE.v 12
abbrev zI:=K.len HN
abbrev zJ:=fZ tq
abbrev Da:=K.len (.v 4)
abbrev Db:=K.c 4096
abbrev KN:=iM oN Bp HL HM
abbrev KO:=K.c 1000
abbrev Tn:=aV KO
abbrev To:=fZ (nR G)
abbrev zK:=To 190
abbrev Bq:=fJ ez
abbrev zL:List C:=[aM]
abbrev lf:=cL d iH
abbrev X7:=lf fp
abbrev Dc:=gM fp
abbrev afK:=oO fp cJ
abbrev Tp:=aV afK
abbrev mC:=T.back a [v]
abbrev KP:=mC 0 Tp
abbrev X8:=cL dw Da
abbrev HO:=BE.and (gM dw) n
abbrev Oe:=HO X8
abbrev HQ:=iE dw A
abbrev afL:=HQ (.v 4)
abbrev Tq:=aV afL
abbrev f9:=aV (.cell A d a)
abbrev zM:=f9 a dw A
abbrev xV:=zM a (.v 4)
abbrev ap5:List C:=[Tq,xV 1,xV 2,xV 3,xV 4,xV 5,xV 6,xV 7,xV 8,xV 9,xV 10,xV 11,xV 12,xV 13]
abbrev gW:=zF d cJ
abbrev uU:=gW dw
abbrev Ts:=eN iH bJ
abbrev kf:=eN d (.c 536870912)
abbrev Of:=kf iH
abbrev Fq:=LE.lit []
abbrev Tt:=LE.iA Fq (.ak j7)
abbrev afM:=RE.k (.slice Z 0 0)
abbrev cQ:=C.ak afM
abbrev tD:=C.bool Bj
abbrev tE:=BE.and (gM d) n
abbrev ap6:=tE pP (cL pP Da)
abbrev Dd:=K.cell (.v 4) d a
abbrev KQ:=Dd 1 pP
abbrev oQ:=K.len oP
abbrev ap7:=fD KQ oQ (gM KQ)
abbrev lg:=K.len pR
abbrev ap8:=fD KQ lg (gM KQ)
abbrev uV:=RK.sl 96
abbrev HR:=mC 0 (gW pP)
abbrev Og:List LK:=[.bool,dp]
abbrev Tu:=lf cY
abbrev Oi:=BE.and (gM cY) n
abbrev Fs:=Oi Tu
abbrev xW:=K.c 5
abbrev Oj:=gW cY
abbrev X9:=mC 0 Oj
abbrev De:=fJ fp
abbrev rq:=aV jw
abbrev ru:=aV jg
abbrev afN:List C:=[ru,dY,pw]
abbrev Tv:=C.bool Bk
abbrev mX:=T.call a t [] [] M .any (.aJ n j k)
abbrev mY:=mX a j k n t C2
abbrev Dg:=jS a j t C2
abbrev ap9:=mY 133 (Dg 133 (fZ Tv) afN) fo tj [rq,aM,HF]
abbrev Ya:=dQ jw
abbrev HS:=T.aJ n j fo
abbrev aqa:=HS (wm (dQ jg)) Ya
abbrev afO:=ik (HS (Dg 133 (fZ Oa) afN) Ya) aqa aqa pO (eP f8 Bi)
abbrev aqb:=dt fo ap9 afO (lW kL cK) pO
abbrev Ol:=aV xW
abbrev zN:=aV Fo
abbrev mZ:=dt j k (.aJ p l m) n o
abbrev jJ:=mX a j k n t [dp]
abbrev qL:=BE.cmp .geq d e
abbrev zO:=qL d bJ
abbrev aqc:=dt (fZ Ol) C8 (mZ C8 C8 C8 (jJ 128 (fZ zN) oo (zO cY) [.ak (.k (.string ⟨#[123,125,40,41,59,44,61,58,46,60,62,33,43,45,42,47]⟩)),.int .u8 cK]) (eP cK Bi) (eP cK KH) (eP cK (.c 13))) (eP cK (.c 95)) (eP cK (.c 32))
abbrev wv:=ik j k l n (eN d e)
abbrev aqd:=wv cK (.c 57) (fZ pw) aqc aqc (qL cK (.c 48))
abbrev aqe:=wv cK (.c 90) zJ aqd aqd (qL cK (.c 65))
abbrev HT:=zE (nR 290)
abbrev afP:=oO lT cJ
abbrev nS:=K.mm E d e
abbrev aqf:=kA bJ (tw (nS fp afP) f8)
abbrev Yb:=fJ kZ
abbrev aqg:=kA bJ (tw (nS afK afP) f8)
abbrev sj:=aV iw
abbrev ww:=K.len py
abbrev qM:=aV kM
abbrev uW:=aV ol
abbrev HV:=aV pP
abbrev dR:=aV (.v a)
abbrev KR:=dR 22
abbrev Br:=K.v 23
abbrev Ft:=aV Br
abbrev Yc:=bu.lex [0] E
abbrev Tw:=lf cK
abbrev wz:=BE.and (gM cK) Tw
abbrev pS:=K.len (.v a)
abbrev afQ:=cL cY (pS 3)
abbrev Yd:=iE cK j7
abbrev Om:=Oi (cL cY ww)
abbrev Tx:=T.stuck ""
abbrev afR:=C.agg [j9,iG,gL,kX,pN,oN,eH,jx,iJ,kY,jf,j8,gN]
abbrev zP:=dR 29
abbrev tG:=aV ij
abbrev Tz:=dR 24
abbrev TA:=dR 25
abbrev TC:=dR 26
abbrev uX:=K.v 27
abbrev TE:=aV uX
abbrev zQ:=dR 28
abbrev On:=dR 30
abbrev Bs:=dQ gF
abbrev Bt:=dQ dP
abbrev kO:=Bn d e .mul
abbrev Ye:=kO C6 cK
abbrev Yf:=kO tu jw
abbrev Yg:=tw Ye Yf
abbrev Yh:=oO Ye Yf
abbrev Yi:=kO C6 cY
abbrev Yj:=tw Yi Yf
abbrev Yk:=oO Yi Yf
abbrev Fu:=dR 31
abbrev Fv:=K.v 33
abbrev Bu:=K.v 34
abbrev Oo:List C:=[kY,gL]
abbrev sn:=oO Ye (kO d e)
abbrev Yl:=nS Yg (sn kM Fv)
abbrev Ym:=kA Yh (sn kM Fv)
abbrev sq:=oO Yi (kO d e)
abbrev Yn:=nS Yj (sq kM Bu)
abbrev Yo:=kA Yk (sq kM Bu)
abbrev tH:=K.v 37
abbrev Dh:=aV tH
abbrev m6:=K.v 39
abbrev Yq:=sn ol m6
abbrev oR:=K.v 40
abbrev Yr:=sq ol oR
abbrev oq:=iL (.agg t) aM
abbrev Fw:=oq [aV d,aV e,aV f,aV g]
abbrev nT:=jS a (jS b j u F) t M
abbrev Oq:=nT 138 139 j t [v,w] zB wq
abbrev Fy:=Oq j [j8,gL] v gN
abbrev Ot:=aV (nS d e)
abbrev xX:=aV (kA d e)
abbrev Di:=oq [Ot d e,xX f g,Ot h i,v]
abbrev aqh:=T.aJ Bt (Fw Yl Ym Yn Yo) (Fy (Di Yl Yq Ym Yq Yn Yr (xX Yo Yr)) Dh)
abbrev Ou:=sn kM m6
abbrev Ov:=sq kM oR
abbrev zR:=dR 43
abbrev HW:=K.v 45
abbrev Ow:=sn ol HW
abbrev HX:=K.v 46
abbrev Ox:=sq ol HX
abbrev Ys:=nS Yg (sn ij Fv)
abbrev Yt:=kA Yh (sn ij Fv)
abbrev Yu:=nS Yj (sq ij Bu)
abbrev Yv:=kA Yk (sq ij Bu)
abbrev Yw:=nS Ys Ou
abbrev Yx:=kA Yt Ou
abbrev Yy:=nS Yu Ov
abbrev Yz:=kA Yv Ov
abbrev aqi:=T.aJ Bt (Fw Yw Yx Yy Yz) (Fy (Di Yw Ow Yx Ow Yy Ox (xX Yz Ox)) zR)
abbrev Oy:=sn kM HW
abbrev Oz:=sq kM HX
abbrev HY:=K.v 49
abbrev Fz:=aV HY
abbrev HZ:=K.v 51
abbrev YA:=sn ol HZ
abbrev OA:=K.v 52
abbrev YB:=sq ol OA
abbrev qN:=mX a j k n [v,w] M
abbrev aqj:=ik (.aJ Bt (Fw Ys Yt Yu Yv) (Fy (Di Ys Yq Yt Yq Yu Yr (xX Yv Yr)) Dh)) (Oq aqi Oo Dh jf) (Fj 138 (qN 139 aqi (jS 138 (qN 139 (Fw (nS Yw Oy) (kA Yx Oy) (nS Yy Oz) (kA Yz Oz)) (Fy (Di (nS Yw Oy) YA (kA Yx Oy) YA (nS Yy Oz) YB (xX (kA Yz Oz) YB)) Fz) Bt zR jf wq) Oo zB) Bs Dh iJ wq) jx gL) N9 Bs
abbrev afS:=nS Ys (sn ij m6)
abbrev afT:=kA Yt (sn ij m6)
abbrev afU:=nS Yu (sq ij oR)
abbrev afV:=kA Yv (sq ij oR)
abbrev afW:=nS afS Oy
abbrev afX:=kA afT Oy
abbrev afY:=nS afU Oz
abbrev afZ:=kA afV Oz
abbrev aqk:=T.aJ Bt (Fw afW afX afY afZ) (Fy (Di afW YA afX YA afY YB (xX afZ YB)) Fz)
abbrev aql:=nS afW (sn kM HZ)
abbrev aqm:=kA afX (sn kM HZ)
abbrev aqn:=nS afY (sq kM OA)
abbrev aqo:=kA afZ (sq kM OA)
abbrev FA:=dR 55
abbrev Bv:=To 260
abbrev aqp:=BE.not (Fk lT bJ (dQ jI))
abbrev YC:=BE.not (.and n o)
abbrev af0:=YC Od N9
abbrev af3:List C:=[jx,aM,HF]
abbrev af4:List C:=[iJ,dY,pw]
abbrev Bw:=dQ dw
abbrev YD:=YC Bw Bs
abbrev YE:List C:=[kY,aM,HF]
abbrev YF:List C:=[jf,dY,pw]
abbrev TF:=YC (dQ iK) Bt
abbrev TG:List C:=[j8,aM,HF]
abbrev TH:List C:=[gN,dY,pw]
abbrev uY:=mY 46 j k n t
abbrev KS:=uY Bv (uY Bv j o u) n t
abbrev OC:=T.aJ n (KS j o p t u) k
abbrev aqq:=OC oo oo TF (mB 9) (mB 10) TG TH
abbrev aqr:=OC oo oo TF (mB 7) (mB 8) TG TH
abbrev aqs:=OC aqq aqr YD (mB 7) (mB 8) YE YF
abbrev aqt:=OC oo oo TF (mB 5) (mB 6) TG TH
abbrev aqu:=OC aqr aqt YD (mB 5) (mB 6) YE YF
abbrev aqv:=OC aqs aqu af0 (mB 5) (mB 6) af3 af4
abbrev OD:=kA fp (tw bJ fp)
abbrev OE:=To 140
abbrev wB:=To 250
abbrev zS:=T.aS ld j
abbrev pT:=zS wB
abbrev OF:=K.c 16
abbrev jK:=iL cQ v
abbrev YG:=jK jx
abbrev af5:=cL fp Da
abbrev OG:=BE.and Dc af5
abbrev af6:=se (Dd 9 fp)
abbrev YI:=Dd 1 fp
abbrev im:=T.back a [v,w]
abbrev nU:=im 0 v w
abbrev af7:=nU Tp zH
abbrev qO:=K.len ke
abbrev TJ:=LE.ak ke
abbrev xY:=gW gF
abbrev YJ:List C:=[i7,eH,jx]
abbrev nV:=LK.ak (.sl a)
abbrev H0:List LK:=[nV 89,dp]
abbrev qP:=K.len uR
abbrev af8:=fZ (nR 270)
abbrev YK:=kf qP
abbrev YL:=LE.ak uR
abbrev tI:=cL d qP
abbrev YM:=tI dw
abbrev OH:=HO YM
abbrev OI:=cL gF lg
abbrev KT:=BE.and (gM gF) n
abbrev OJ:=KT OI
abbrev YN:=iE gF pR
abbrev OK:=KT (cL gF oQ)
abbrev lX:=K.len tB
abbrev FB:=kf lX
abbrev Dj:=LE.ak tB
abbrev KU:=C.agg [aM,aM,aM,aM,aM,aM,aM,aM,aM,aM,aM,aM,aM]
abbrev YO:List C:=[iJ,kY,jf,j8,gN,oh,nQ,rq,ru,sj,tG,qM,uW]
abbrev pU:=K.v 38
abbrev OL:=aV m6
abbrev KV:=aV oR
abbrev zT:=K.v 41
abbrev YP:=aV zT
abbrev FC:=K.v 42
abbrev ON:=aV FC
abbrev TK:=K.v 44
abbrev TL:=aV TK
abbrev OO:=aV HW
abbrev KW:=aV HX
abbrev OP:=K.v 47
abbrev OQ:=aV OP
abbrev KY:=K.v 48
abbrev TN:=aV KY
abbrev H3:List LK:=[dp,dp,dp,dp,dp,dp,dp,dp,dp,dp,dp,dp,dp,dp]
abbrev OS:=dR 63
abbrev OT:=K.v 50
abbrev KZ:=aV OT
abbrev K1:=aV HZ
abbrev FD:=aV OA
abbrev FE:=dR 53
abbrev FF:=dR 54
abbrev K2:=K.v 56
abbrev K3:=aV K2
abbrev H4:=dR 57
abbrev H5:=dR 58
abbrev H6:=dR 59
abbrev H7:=dR 60
abbrev H8:=dR 61
abbrev H9:=dR 62
abbrev FG:=K.v 35
abbrev tJ:=K.v 36
abbrev kP:=eP d qI
abbrev Dl:=kP iw
abbrev jL:=eP d Fo
abbrev Dm:=jL iw
abbrev Dn:=eP iw xW
abbrev K4:=K.c 6
abbrev FH:=eP iw K4
abbrev OU:=eP iw zD
abbrev OV:=eP iw lC
abbrev OW:=eP iw Bi
abbrev rz:=K.dv n d (.dv o e f)
abbrev aqw:=rz bJ bJ (rz bJ cJ bJ OV OW) FH OU
abbrev mD:=rz d e (.dv p f bJ) n o
abbrev YQ:=mD bJ bJ bJ OU OV OW
abbrev aqx:=rz bJ bJ (.dv Dn bJ (.dv FH bJ YQ)) Dl Dm
abbrev aqy:=rz lC lC (.dv Dn lC (.dv FH bJ YQ)) Dl Dm
abbrev By:=aV (rz d e f n o)
abbrev gP:=eP d cJ
abbrev iS:=eP d rm
abbrev Do:=By d e f (gP iw) (iS iw)
abbrev aqz:=Do bJ bJ (rz cJ cJ (.dv Dn cJ aqw) Dl Dm)
abbrev aqA:=Do bJ bJ (rz qI qI (rz qI bJ (mD bJ bJ qI OU OV OW) Dn FH) Dl Dm)
abbrev Ia:=iL KU dY
abbrev FI:=se ij
abbrev YR:=dQ FI
abbrev YS:=gP FI
abbrev YT:=iS FI
abbrev YU:=kP FI
abbrev aqB:=zF cK (kO pP Fv)
abbrev aqC:=zF cY (kO pP Bu)
abbrev pV:=aV (.dv n bJ d)
abbrev aqD:=C.agg [aqB,aqC,gL,pV iR YR,pV f8 YR,pV lT YS,pV jI YS,pV ez YT,pV fp YT,pV dw YU,pV gF YU,pV iK (jL FI),pV dP (jL FI)]
abbrev aqE:=C.agg [aqB,aqC,gL,aM,aM,aM,aM,jx,iJ,kY,jf,j8,gN]
abbrev YV:=C.agg [j9,iG,gL,zQ,zP,oN,eH,jx,iJ,kY,jf,j8,gN]
abbrev YW:=C.agg [j9,iG,gL,kX,pN,zQ,zP,jx,iJ,kY,jf,j8,gN]
abbrev YX:=C.agg [j9,iG,gL,kX,pN,oN,eH,zQ,zP,kY,jf,j8,gN]
abbrev YY:=C.agg [j9,iG,gL,kX,pN,oN,eH,jx,iJ,zQ,zP,j8,gN]
abbrev Dp:=oO ij cJ
abbrev YZ:=dQ Dp
abbrev Y0:=gP Dp
abbrev Y1:=iS Dp
abbrev Y2:=kP Dp
abbrev aqF:=C.agg [j9,iG,gL,kX,pN,oN,eH,jx,iJ,kY,jf,zQ,zP]
abbrev aqG:=C.agg [j9,iG,Bo (oO gK pP) lC .rem,kX,pN,oN,eH,jx,iJ,kY,jf,j8,gN]
abbrev aqH:=C.agg [j9,iG,gL,kX,pN,oN,eH,aM,aM,aM,aM,j8,gN]
abbrev aqI:=C.agg [j9,iG,gL,aM,aM,aM,aM,jx,iJ,kY,jf,j8,gN]
abbrev aqJ:=C.agg [j9,iG,gL,pV iR YZ,pV f8 YZ,pV lT Y0,pV jI Y0,pV ez Y1,pV fp Y1,pV dw Y2,pV gF Y2,pV iK (jL Dp),pV dP (jL Dp)]
abbrev Ib:=T.stuck ""
abbrev jT:=iL v aM
abbrev eQ:=T.aS n (.aS o j)
abbrev kg:=fD e f (gM d)
abbrev OX:=eQ j (kg d e xW) n
abbrev xZ:=BE.dv n o (.dv p q r)
abbrev FJ:=xZ n ld o ld p
abbrev OY:=FJ n o (.dv p ld gA)
abbrev Dq:=FJ n o (OY p q r)
abbrev af9:=jJ a (iL KU tq) (jT w) n [v]
abbrev wC:=fJ (.v a)
abbrev ya:=af9 34 (wC 31) v w
abbrev aqK:=dt Ia Ia (dt (jT afR) (nT 138 274 (OX FI FI (af9 34 (fJ tJ) aqD aqD) (Dq YR YS YT YU (jL FI))) [qM,gL] [Fu] zB rp) (dt (nT 138 274 (af9 34 (fJ tJ) aqE aqE) [qM,gL] [Fu] zB rp) (dt (ya YV YV) (ya YW YW) (dt (ya YX YX) (ya YY YY) (.stuck "") YT YU) YR YS) (dt (dt (ya YV YV) (ya YW YW) (dt (ya YX YX) (ya YY YY) (.stuck "") Y1 Y2) YZ Y0) (ya aqF aqF) (dt (ya aqG aqG) (ya aqH aqH) (dt (ya aqI aqI) (OX Dp Dp (ya aqJ aqJ) (Dq YZ Y0 Y1 Y2 (jL Dp))) Ib OV OW) FH OU) Dm Dn) (iS iw) Dl) Bj (gP iw)) (mB 7) (lW uX kZ)
abbrev TO:=T.aJ Bj Ia Ia
abbrev lY:=To 130
abbrev Dr:=iE cY j7
abbrev aga:=cL f8 ww
abbrev agb:=iE f8 py
abbrev agc:=cL jI Tg
abbrev Y3:=gM jI
abbrev agd:=iE jI xT
abbrev K5:=C.agg [aM,cQ,cQ,cQ,cQ,cQ]
abbrev yb:=K.len uS
abbrev Ic:=iL K5 (nR 310)
abbrev TP:=tI fp
abbrev Ie:=BE.and Dc TP
abbrev Y4:=fD fp qO Dc
abbrev OZ:=fD fp lg Dc
abbrev FL:=C.ak (.cell A d a H)
abbrev FM:=FL a d A .str
abbrev kC:=f9 a d uR
abbrev pW:=kC a fp
abbrev age:List C:=[.agg [FM 0 fp uR,pW 1,pW 2,pW 3,pW 4,pW 5,pW 6,pW 7,pW 8,pW 9,pW 10,pW 11,pW 12,pW 13,pW 14,pW 15,pW 16]]
abbrev K6:=f9 a d pR
abbrev yc:=K6 a fp
abbrev aqL:List C:=[.agg [yc 0,yc 1,yc 2,yc 3,yc 4,yc 5,yc 6,yc 7,yc 8,yc 9,yc 10,yc 11,yc 12]]
abbrev agf:=BE.not (dQ iK)
abbrev Ds:=RK.sl 4
abbrev If:=RK.sl 108
abbrev Y5:List C:=[aM,cQ,cQ,cQ]
abbrev ye:=cL d qO
abbrev Y6:=ye dw
abbrev Ig:=HO Y6
abbrev pz:=fD dw d (gM dw)
abbrev Y7:=pz yb
abbrev agh:=FL 0 dw uS uV
abbrev ss:=RE.v 13
abbrev Ih:=K.len ss
abbrev Ii:=kf Ih
abbrev Ij:=LE.ak ss
abbrev pX:=uQ 15
abbrev yf:=K6 a dw
abbrev Y8:List C:=[yf 0,yf 1,yf 2,yf 3,yf 4,yf 5,yf 6,yf 7,yf 8,yf 9,yf 10,yf 11,yf 12]
abbrev gQ:=kC a dw
abbrev aqM:=C.agg [FM 0 dw uR,gQ 1,gQ 2,gQ 3,gQ 4,gQ 5,gQ 6,gQ 7,gQ 8,gQ 9,gQ 10,gQ 11,gQ 12,gQ 13,gQ 14,gQ 15,gQ 16]
abbrev yg:=kf zI
abbrev zU:=LE.ak HN
abbrev Bz:=RE.v 14
abbrev yi:=kf (.len Bz)
abbrev rB:=LE.ak Bz
abbrev qQ:=uQ 17
abbrev Dt:=RE.v 16
abbrev m7:=C.ak Dt
abbrev Ik:=RE.v 18
abbrev nW:=C.ak Ik
abbrev aqN:=T.back 1 [uU,qQ,m7,nW]
abbrev TQ:=fJ kL
abbrev yj:=C.ak HN
abbrev uZ:=C.ak ss
abbrev lj:=C.ak Bz
abbrev wD:=K.len tC
abbrev wE:=jK (nR 310)
abbrev Il:=BE.and Dc (cL fp lX)
abbrev tK:=HO (cL dw wD)
abbrev aqO:=iM (zM 0 tC) (zM 1 tC) (zM 2 tC) (zM 3 tC)
abbrev TR:=mC 1 uU
abbrev BA:=gM iK
abbrev agi:=FL 0 iK tB uV
abbrev wF:=kf (pS 15)
abbrev BB:=LE.ak (.v a)
abbrev wG:=BB 15
abbrev yk:=K6 a iK
abbrev Y9:List C:=[yk 0,yk 1,yk 2,yk 3,yk 4,yk 5,yk 6,yk 7,yk 8,yk 9,yk 10,yk 11,yk 12]
abbrev tL:=kC a iK
abbrev aqP:=C.agg [FM 0 iK uR,tL 1,tL 2,tL 3,tL 4,tL 5,tL 6,tL 7,tL 8,tL 9,tL 10,tL 11,tL 12,tL 13,tL 14,tL 15,tL 16]
abbrev Za:=K.len Dt
abbrev Du:=kf Za
abbrev ym:=LE.ak Dt
abbrev Zb:=gW iK
abbrev wH:=RE.v 19
abbrev oS:=C.ak wH
abbrev vc:=RE.v 20
abbrev pA:=C.ak vc
abbrev K7:=T.back 3 t
abbrev aqQ:=K7 [Zb,oS,nW,pA]
abbrev Im:=fJ jg
abbrev O4:=jK ru
abbrev vd:=LE.lit [t]
abbrev aqR:=vd [gN,oh,nQ,rq]
abbrev wI:=gM dP
abbrev Zc:=BE.and wI (cL dP yb)
abbrev aqS:=fD dP (.len Bz) wI
abbrev agj:=iE dP uS
abbrev FN:=BB 17
abbrev Zd:=fD dP Za wI
abbrev Ze:=fD dP wD wI
abbrev FO:=iM v (f9 a d A) w x
abbrev FP:=f9 a d tC
abbrev aqT:List C:=[FO 1 dP (f9 0 dP Dt) (f9 2 dP Dt) (f9 3 dP Dt) Dt,iM (FP 0 dP) (FP 1 dP) (FP 2 dP) (FP 3 dP)]
abbrev FQ:=LE.ak Ik
abbrev BC:=BE.cell A d 0
abbrev agk:=BC dP ke
abbrev agl:List C:=[i7,gN,eH]
abbrev FR:=K.len vc
abbrev agm:=cL jw FR
abbrev TS:=gM jw
abbrev oT:=RE.cell A d 0 H
abbrev zV:=oT dP tB uV
abbrev Dv:=cL d (.len A)
abbrev Zf:=Dv jg zV
abbrev In:=BE.and (gM jg) Zf
abbrev Zg:=iE jg zV
abbrev O5:=iE jw vc
abbrev tN:=kC a dP
abbrev O6:=C.agg [FM 0 dP uR,tN 1,tN 2,tN 3,tN 4,tN 5,tN 6,tN 7,tN 8,tN 9,tN 10,tN 11,tN 12,tN 13,tN 14,tN 15,tN 16]
abbrev O7:List LK:=[.ak uV,dp]
abbrev O8:=jK sj
abbrev su:=uQ 22
abbrev wJ:=C.bool (.cell A d a)
abbrev agn:=FO 1 jg (aV Zg) (f9 2 jg zV) (wJ 3 jg zV) zV
abbrev Dw:=RE.v 21
abbrev O9:=LE.ak Dw
abbrev Dx:=zF cJ d
abbrev aqU:=LE.ins O9 3 [dY,gN,Dx O5,kN]
abbrev ago:=K.cell vc jw 4
abbrev Zh:=eP ago zD
abbrev zW:=BE.not (.cell zV jg 3)
abbrev Io:=f9 a jw A
abbrev zX:=Io a vc
abbrev aqV:List C:=[i7,X6,.agg [aV O5,zX 1,zX 2,zX 3,aV ago,zX 5,zX 6,zX 7,zX 8,zX 9,zX 10,zX 11,zX 12,zX 13]]
abbrev Pa:=RE.v 23
abbrev Pb:=LE.ak Pa
abbrev aqW:List C:=[pw,gN,Dx O5,kN]
abbrev zY:=gW jw
abbrev FT:=uQ 24
abbrev zZ:=C.ak Pa
abbrev Ip:=im 5 zY zZ
abbrev Dy:=mY a j k HD t
abbrev Iq:=T.ah .aT B O j
abbrev tO:=Iq j (.ins B a t) []
abbrev BD:=tO a (im b v w) t B
abbrev agp:=Dy 147 (BD 3 5 aqW zY FT Pb) Ip aqV
abbrev Zi:=eP ago lC
abbrev vf:=C.ak Dw
abbrev yo:=im 5 zY vf
abbrev agq:=Dy 147 (tO 3 Ip aqW O9) yo aqV
abbrev agr:=mC 6 (gW jg)
abbrev ags:=FO 1 N8 (f9 0 N8 zV) (f9 2 N8 zV) (wJ 3 N8 zV) zV
abbrev Pc:=BE.not (.cell zV N8 3)
abbrev jh:=eQ (.aJ p j k) n o
abbrev aqX:=jh agp Ip gA gA Pc
abbrev aqY:=jh agq yo gA gA Pc
abbrev yp:=K6 a dP
abbrev agt:List C:=[i7,gN,eH,.agg [yp 0,yp 1,yp 2,yp 3,yp 4,yp 5,yp 6,yp 7,yp 8,yp 9,yp 10,yp 11,yp 12],qJ,.ak zV]
abbrev agu:List LK:=[nV 292,dp]
abbrev agv:=cL iw (pS 22)
abbrev K8:=gM iw
abbrev K9:=gW iw
abbrev Pd:=gW dP
abbrev La:List C:=[aM,nW]
abbrev Pe:=K.len wH
abbrev agw:=cL jw Pe
abbrev Pf:=iE jw wH
abbrev Pg:=LE.ak vc
abbrev aqZ:=LE.ins Pg 3 [dY,gN,Dx Pf,kN]
abbrev agx:=K.cell wH jw 4
abbrev Zj:=eP agx zD
abbrev Aa:=Io a wH
abbrev aq0:List C:=[i7,X6,.agg [aV Pf,Aa 1,Aa 2,Aa 3,aV agx,Aa 5,Aa 6,Aa 7,Aa 8,Aa 9,Aa 10,Aa 11,Aa 12,Aa 13]]
abbrev TU:=BB 22
abbrev aq1:List C:=[pw,gN,Dx Pf,kN]
abbrev Ir:=im 5 zY su
abbrev agy:=Dy 147 (tO 3 Ip aq1 TU) Ir aq0
abbrev Zk:=eP agx lC
abbrev Ph:=im 5 zY pA
abbrev agz:=Dy 147 (tO 3 Ir aq1 Pg) Ph aq0
abbrev aq2:=jh agy Ir gA gA Pc
abbrev aq3:=jh agz Ph gA gA Pc
abbrev agA:=cL iw (.len Dw)
abbrev Zl:=BE.and K8 agA
abbrev jM:=T.loop a [] t (.aJ n j k)
abbrev ot:=jM a (eQ j o p) k n t
abbrev Lc:=BE.and TS n
abbrev qR:=jM a j k n zL
abbrev vg:=jh j k In In n
abbrev Dz:=im a Pd v
abbrev aq4:=T.aJ agk (mX 73 (jK nQ) (ot 5 (qR 6 (vg (mX 145 O8 (eQ (mW 146 (mZ (Iq (dt (vg agy Ir zW) (vg agy Ir zW) Ir Zj Zk) aqZ []) (vg agz Ph zW) (vg agz Ph zW) Ph oM Zj Zk) vf agn C2) In In) HG [i7,aV Pf,O6] O7) agr (eP Zg Pf)) (mX 145 O8 (eQ (mW 146 (mZ (Iq (dt aq2 aq2 Ir Zj Zk) aqZ []) aq3 aq3 Ph oM Zj Zk) vf ags C2) gA gA) HG [i7,aV Pf,O6] O7) Zf) (mX 148 O4 (ot 6 (BD 3 6 [tq,gN,Dx (uO iw Dw),kN] K9 zZ TU) (Dz 4 su) agA Zl Zl [aM,pA]) Im agt agu) agw (Lc agw) (Lc agw) La) TQ agl H0) (Dz 4 nW)
abbrev TV:List C:=[aM,qQ]
abbrev Ld:=K.len Ik
abbrev agB:=cL jw Ld
abbrev Pj:=iE jw Ik
abbrev Is:=LE.ak wH
abbrev aq5:=LE.ins Is 3 [dY,gN,Dx Pj,kN]
abbrev agC:=K.cell Ik jw 4
abbrev Zm:=eP agC zD
abbrev Ac:=Io a Ik
abbrev aq6:List C:=[i7,X6,.agg [aV Pj,Ac 1,Ac 2,Ac 3,aV agC,Ac 5,Ac 6,Ac 7,Ac 8,Ac 9,Ac 10,Ac 11,Ac 12,Ac 13]]
abbrev aq7:List C:=[pw,gN,Dx Pj,kN]
abbrev agD:=Dy 147 (tO 3 Ir aq7 O9) yo aq6
abbrev Zn:=eP agC lC
abbrev Pl:=im 5 zY oS
abbrev agE:=Dy 147 (tO 3 yo aq7 Is) Pl aq6
abbrev aq8:=jh agD yo gA gA Pc
abbrev aq9:=jh agE Pl gA gA Pc
abbrev agF:=cL iw FR
abbrev agG:=cL kL lg
abbrev It:=gM kL
abbrev Zo:=tI kL
abbrev wK:=BE.and It Zo
abbrev TW:=kf Pe
abbrev Iu:=gW kL
abbrev agH:=cL jw yb
abbrev TX:=aV K4
abbrev agI:=cL ij Ld
abbrev Lf:=gM ij
abbrev yq:=iE ij Ik
abbrev ara:=fD yq Pe (gM yq)
abbrev yr:=uO ij Ik
abbrev arb:=fD yr Pe (gM yr)
abbrev arc:=fD yq FR (gM yq)
abbrev ard:=fD yr FR (gM yr)
abbrev Pm:=aV Dp
abbrev are:=tO 3 (BD 3 8 [TX,aV yr,aM,kN] Pm (uQ 25) (BB 24)) [TX,aV yq,aM,kN] Pb
abbrev Pn:=K.len Pa
abbrev Po:=RE.v 26
abbrev Zp:=K.len Po
abbrev TY:=iE (se Zp) Po
abbrev Zq:=C.ak Po
abbrev agJ:=cL kM Zp
abbrev Zr:=gM kM
abbrev Iv:=jK (nR 290)
abbrev arf:List C:=[iM (zM 0 ke) (zM 1 ke) (zM 2 ke) (zM 3 ke)]
abbrev agK:List C:=[aM,cQ,cQ]
abbrev agL:=uO gF pR
abbrev pB:=cL d bJ
abbrev Lg:=T.back 2 t
abbrev agM:=eQ (mZ Iv Iv Iv (tO 2 (Lg [xY,uT,xU]) [aV YN,aV agL,kN] Dj) (pB YN) (qL YN agL) (qL agL iH)) OJ OJ
abbrev agN:List C:=[aM,cQ,uT]
abbrev TZ:=cL iK oQ
abbrev Zs:=BE.and BA TZ
abbrev Iw:=f9 a iK oP
abbrev arh:=C.agg [Iw 0,Iw 1,Iw 2,Iw 3,Iw 4,Iw 5,Iw 6,Iw 7]
abbrev Lh:=kf wD
abbrev FU:=LE.ak tC
abbrev Ix:=T.aS n (.new a (.iA B N) [] [] j)
abbrev agO:=eQ (qN 43 O4 (Ix 0 (K7 [Zb,uZ,yj]) Lh FU aqR) Im arh eH px) Zs Zs
abbrev FV:=gW kZ
abbrev vj:=jM a (.aJ o j k) l n t
abbrev BF:=BE.look A a d e bJ b
abbrev agP:=vj 5 Tx (.back 5 [FV,lj]) (Dz 4 lj) (lf kZ) (.not (BF 2 2 dP kZ tB)) [Pd,uZ]
abbrev Zt:=tI kZ
abbrev agQ:=BE.not (BF 2 2 kZ kL tB)
abbrev Pp:=BE.and (gM kZ) Zt
abbrev pY:=kC a kL
abbrev Zu:=iM (pY 0) (pY 1) (pY 2) (pY 3)
abbrev agR:List C:=[iM (kC 0 kZ) (kC 1 kZ) (kC 2 kZ) (kC 3 kZ),Zu]
abbrev Zv:=im 6 Iu m7
abbrev kh:=Ix 0 j n B (vd t)
abbrev agS:=kh Zv wF [dY,oh,nQ] wG
abbrev Pq:=T.back 6 [Iu,pX]
abbrev agT:=im 5 FV pX
abbrev agU:=BE.not (BF 2 2 kL jw tB)
abbrev Zw:=ye jw
abbrev Ad:=Lc Zw
abbrev Zx:=iM (Io 0 ke) (Io 1 ke) (Io 2 ke) (Io 3 ke)
abbrev Zy:=im 7 zY qQ
abbrev agV:=kh Zy Du [tq,nQ,rq] ym
abbrev Pr:=T.back 7 [zY,m7]
abbrev agW:=BE.not (BF 2 2 jw jg tB)
abbrev Ps:=fD jg qP (gM jg)
abbrev agX:List C:=[Zx,iM (kC 0 jg) (kC 1 jg) (kC 2 jg) (kC 3 jg)]
abbrev Pt:=kf (pS 17)
abbrev Zz:=im 8 (gW jg) nW
abbrev agY:=kh Zz Pt [pw,rq,ru] FN
abbrev ZA:List C:=[gW jg,qQ]
abbrev Pu:=T.back 8 ZA
abbrev ZB:=ye jg
abbrev Pv:=lf iw
abbrev agZ:=BE.not (BF 2 2 jg iw tB)
abbrev Pw:=BE.and (gM jg) ZB
abbrev Ae:=fD iw qO K8
abbrev tQ:=f9 a d ke
abbrev ZC:=iM (tQ 0 iw) (tQ 1 iw) (tQ 2 iw) (tQ 3 iw)
abbrev ag0:List C:=[iM (tQ 0 jg) (tQ 1 jg) (tQ 2 jg) (tQ 3 jg),ZC]
abbrev Px:=kf Ld
abbrev ZD:=im 9 K9 oS
abbrev ag1:=kh ZD Px [zN,ru,sj] FQ
abbrev Py:=im 9 K9 nW
abbrev ZE:=cL ij wD
abbrev Pz:=BE.and Lf ZE
abbrev PA:=fD iw qP K8
abbrev ZF:=iM (FP 0 ij) (FP 1 ij) (FP 2 ij) (FP 3 ij)
abbrev ag2:List C:=[iM (kC 0 iw) (kC 1 iw) (kC 2 iw) (kC 3 iw),ZF]
abbrev PB:=kh (im 10 Pm pA) TW [Ol,sj,tG] Is
abbrev PD:=im 10 Pm oS
abbrev PE:=fD ij qP Lf
abbrev ari:=iM aM (lF tu cK) aM (lF tu cY)
abbrev ag3:List C:=[iM (kC 0 ij) (kC 1 ij) (kC 2 ij) (kC 3 ij),ari]
abbrev PF:=fD ij qO Lf
abbrev ag4:List C:=[iM (tQ 0 ij) (tQ 1 ij) (tQ 2 ij) (tQ 3 ij),ari]
abbrev PH:=kh (im 10 Pm pA) TW [TX,tG,aM] Is
abbrev ou:=jM a j k n [aM,v]
abbrev gG:=eQ (eQ j p q) n o
abbrev rC:=mY 184 j k n t
abbrev Iy:=jS 118 j t Og
abbrev arj:=jM 2 agM (jM 3 agO (ou 4 agP (ou 5 (vj 6 (gG (rC agS Pq Bk agR) Pp Pp wK wK) Pq agT (lf kL) agQ [FV,lj]) (ou 6 (vj 7 (gG (rC agV Pr Bk [Zu,Zx]) wK wK Ad Ad) Pr Zv (lf jw) agU [Iu,pX]) (ou 7 (vj 8 (gG (rC agY Pu Bk agX) Ad Ad Ps Ps) Pu Zy (lf jg) agW [zY,m7]) (ou 8 (vj 9 (gG (rC ag1 Py Bk ag0) Pw Pw Ae Ae) Py Zz Pv agZ ZA) (jM 9 (jM 10 (gG (rC PB (eQ (rC PB PD Bl [ZC,ZF]) Ae Ae) Bk ag2) Pz Pz PA PA) ZD ZE La) (ot 10 (Iy (eQ (Iy (dt PH PH PD HD C3) ag4) PF PF) ag3) (jT oS) (lf ij) PE PE La) Pv TV) ZB m7) Zw pX) Zo lj) Zt uZ) (pB dP) yj) TZ agN) OI agK
abbrev ag5:=lW (.v 26) cJ
abbrev ag6:=vd [eH,aM,aM,kN]
abbrev Af:=T.aS ld (.new a B [] [] j)
abbrev FW:=Af 0 (Ix a j n Fq N) B
abbrev ark:=T.aJ ag5 (FW 0 (jT wt) YK ag6 YL) (jT cQ)
abbrev vk:=Af 0 (Ix a j (.and n o) N D) B
abbrev ag7:=T.aJ ag5 (vk 0 (jT wu) YK (kf qO) ag6 YL TJ) (jT qJ)
abbrev Ag:=Af a j (vd t)
abbrev arl:=Ag 0 ag7 [Ft,aM,aM,kz]
abbrev ag8:=eN m6 lC
abbrev T1:=dQ zT
abbrev PI:=eP oR (.v 30)
abbrev PJ:=gW oR
abbrev arm:=Ix 0 (im 1 PJ uT) (.and (kf qO) (kf lg)) TJ (.ak pR)
abbrev ag9:=Ag 0 arm [Ft,OL,KV,kz,aV KI]
abbrev arn:=BE.not (Fk HW bJ (Fk HX bJ (dQ OP)))
abbrev Li:=im 1 PJ wt
abbrev aha:=Ag 0 arm [Ft,OL,KV,kz,Fz]
abbrev DA:=kO (kO d e) f
abbrev aro:=ik aha Li Li arn (qL (kO HY f8) (DA gK tu tu))
abbrev PK:=dt j (.aJ p k l) m n o
abbrev ahb:=nT 139 139 (Fj 276 (dt (.aJ (eP m6 (.v 29)) (dt (PK ag9 ag9 Li Li PI arn (qL (kO KI f8) (DA gK tu tu))) aha aro PI PI) aro) (dt (.aJ PI ag9 Li) aha Li PI PI) Li (YC T1 (Fk FC bJ (dQ (.v 43)))) (eP m6 (.v 29))) (.agg [YP,ON,zR]) (.agg [OO,KW,OQ])) [zP,On] [OL,KV] wq wq
abbrev ahc:=nU (gW m6) wt
abbrev ZG:=gM oR
abbrev arp:=BE.and (kf lg) (kf yb)
abbrev arq:=LE.iA (.ak pR) (.ak uS)
abbrev BG:=T.eF a b c Q L A [] j
abbrev wL:=ot a j k n o p [aM,cQ]
abbrev wM:=T.aS n (.new 0 B [] [] j)
abbrev ahd:=BG 0 0 0 (wL 1 (Ag 0 (wM (im 1 PJ qK) arp arq) [tQ 0 oR,tQ 1 oR,tQ 2 oR,wJ 3 oR ke]) (zS (.aJ ag5 (Af 0 (wM (jT qK) arp arq) ag6) (jT wu))) (ye oR) (.and ZG (ye oR)) (.and ZG (ye oR))) uR (.lex [4] J) J
abbrev FX:=jS a j t [dp]
abbrev Ah:=jM a j k n [aM,cQ]
abbrev ars:=FX 41 (mZ (jK (aV pU)) (jK Dh) (dt (zS (.aJ (gO (.v 31) gF) ark arl)) (zS (.aJ (gO (.v 31) iK) ark arl)) (dt (Ah 0 (jM 1 ahb ahc (eN oR ij) [dY,qJ]) ahd ag8) (Ah 0 (jM 1 ahb ahc (eN oR kM) [dY,qJ]) ahd ag8) (dt (Ah 0 (jM 1 ahb ahc (eN oR ol) [dY,qJ]) ahd ag8) (Ag 0 ag7 [Ft,aM,Ot (.v 30) kM,kz]) Ib (eP uX xW) (eP uX Bi)) (kP uX) (jL uX)) (gP uX) (iS uX)) (Ag 0 ag7 [eH,aM,aM,kz]) (fJ pU) (fJ tH) (FJ (gP uX) (iS uX) (FJ (kP uX) (jL uX) (FJ (eP uX xW) (eP uX Bi) gA)))) [.agg [zH,jx,iJ,kY,jf,j8,gN,oh,nQ,rq,ru,sj,tG,qM,uW,HV,KR]]
abbrev ahe:=cL oR wD
abbrev ZH:=C.bool Bl
abbrev Iz:=K.cell tC oR 4
abbrev ZI:=fD Iz KH (gM Iz)
abbrev ZJ:=fD Iz ww (gM Iz)
abbrev pC:=C.bool (.v a)
abbrev art:List C:=[aM,Tv,ZH,pC 4,pC 5,pC 6]
abbrev Lj:=RK.sl 3
abbrev ZK:=Dv zT (oT Iz py Lj)
abbrev ZL:=gM zT
abbrev Ai:=se (oO (iE zT (oT Iz py Lj)) (.cell tC oR 5))
abbrev ZM:=gW zT
abbrev IA:=gG j (.and n o) (.and p q) r s
abbrev DB:=C.bool (.dv n ld (.v a))
abbrev aru:=IA (.back 1 [ZM,DB 7 (dQ Ai),DB 8 (gP Ai),DB 9 (iS Ai),DB 10 (kP Ai),DB 11 (jL Ai)]) ZL ZK ZL ZK (kg Ai Ai xW) (Dq (dQ Ai) (gP Ai) (iS Ai) (kP Ai) (jL Ai))
abbrev arv:List C:=[aM,pC 7,pC 8,pC 9,pC 10,pC 11]
abbrev arw:=RE.cell py Iz 1 Lj
abbrev ZN:=Dv FC arw
abbrev Aj:=iE FC arw
abbrev arx:=gG (Lg [gW FC,DB 12 (dQ Aj),DB 13 (gP Aj),DB 14 (iS Aj),DB 15 (kP Aj),DB 16 (jL Aj)]) (tE FC ZN) (tE FC ZN) (kg Aj Aj xW) (Dq (dQ Aj) (gP Aj) (iS Aj) (kP Aj) (jL Aj))
abbrev ZO:=kO tu Br
abbrev ahf:=cL zT xW
abbrev IB:=Bn zT rm .quo
abbrev ZP:=gP zT
abbrev ZQ:=iS zT
abbrev ZR:=kP zT
abbrev ZS:=jL zT
abbrev ZT:=iM ON zR TL OO
abbrev T2:=mD (.v 26) uX (.v 28) (dQ IB) (gP IB) (iS IB)
abbrev ZU:=kO tu T2
abbrev ary:=mW 70 (.back 1 [ZM,KW,OQ,TN,Fz]) ZT (iM (C9 bJ ZU) (aV ZU) (C9 bJ ZU) (aV ZU)) px
abbrev ahg:=rz dP kL (mD jg ij ol ZQ ZR ZS) T1 ZP
abbrev arz:=T.aJ (fJ ahg) (Oq (mW 70 (.back 1 [ZM,FD,FE,FF,FA]) ZT (iM (lF T2 KY) (lF T2 KY) (lF T2 HY) (lF T2 HY)) px) [By iK kZ (mD jw iw kM ZQ ZR ZS) T1 ZP,jf] KW (aV ahg)) (.back 1 [ZM,ON,zR,TL,OO])
abbrev arA:=iM KW OQ TN Fz
abbrev arB:=tE K2 (cL K2 wD)
abbrev T3:=dR 64
abbrev PL:=dR 66
abbrev Lk:=dR 68
abbrev Ll:=dR 69
abbrev Ln:=dR 70
abbrev Lq:=dR 71
abbrev Lr:=dR 72
abbrev Ls:=dR 73
abbrev ahh:=iM (dR 88) (dR 89) (dR 90) (dR 91)
abbrev Lt:=dR 74
abbrev Lu:=dR 75
abbrev Lv:=dR 76
abbrev Lw:=dR 77
abbrev Lx:=dR 78
abbrev T4:=dR 79
abbrev PM:=K.v 86
abbrev arC:=T.aJ (wC 87) (oq [dR 93,dR 94,dR 95,dR 96]) (Lg [gW K2,dR 93,dR 94,dR 95,dR 96,Lt,Lu,Lv,Lw,Lx,T4,dR 80,dR 81,dR 82,dR 83,dR 84,dR 85,aV PM,kz])
abbrev arD:=iM H4 H5 H6 H7
abbrev arE:=tE FG (cL FG oQ)
abbrev ZV:=fD jI oQ Y3
abbrev arF:=tE m6 (cL m6 lg)
abbrev PN:=iE m6 pR
abbrev tR:=K.cell pR d a
abbrev rD:=tR 4 m6
abbrev DC:=K6 a m6
abbrev ZW:=C.agg [aV PN,DC 1,DC 2,DC 3,aV rD,aV (tR 5 m6),DC 6,DC 7,aV (tR 8 m6),DC 9,DC 10,DC 11,DC 12,DC 13]
abbrev IC:=K.look A a d bJ e b
abbrev arG:=aV (IC 1 2 PN bJ ke)
abbrev T5:=IC 1 3 PN bJ ke
abbrev arH:=BF 1 4 PN bJ ke
abbrev FY:List C:=[KV,FF,FA,K3,H4,H5,H6,H7,H8,H9,OS,T3,dR 65,PL,uT,cQ]
abbrev FZ:=BE.not (.has tC 1 (.v 82) bJ bJ)
abbrev F0:=LE.ins FU 1 [dR 82]
abbrev PO:=iE (se zI) HN
abbrev PQ:=dQ PO
abbrev m8:=K7 [Lk,Ll,Ln,Lq,Lr,Ls,Lt,Lu,Lv,Lw,Lx,T4,dR 80,dR 81,qK,yj]
abbrev PS:=gP PO
abbrev BH:=iS PO
abbrev Ly:=kP PO
abbrev arI:=By cJ rm (rz qI Fo bJ BH Ly) PQ PS
abbrev F1:=kh (K7 [Lk,Ll,Ln,Lq,Lr,Ls,Lt,Lu,Lv,Lw,Lx,T4,dR 80,dR 81,uZ,yj]) FB [arI,aV PN] Dj
abbrev ahi:=T.aJ Ly m8 Ib
abbrev F2:=Lg [gW m6,Lk,Ll,Ln,Lq,Lr,Ls,Lt,Lu,Lv,Lw,Lx,T4,dR 80,dR 81,qK]
abbrev pZ:=se (tR 5 m6)
abbrev T6:=Bn pZ rm .quo
abbrev ahj:=kg T6 T6 qI
abbrev ZX:=dQ T6
abbrev ZY:=gP T6
abbrev ZZ:=iS T6
abbrev ahk:=OY ZX ZY ZZ
abbrev ID:=K.cell A jI a
abbrev iT:=ID a oP
abbrev PU:=iT 14
abbrev ahl:=lD arG (aV T5)
abbrev PV:=kA (kA d e) (tw bJ f)
abbrev Ak:=tw (.v a) d
abbrev ahm:=PV (PV (PV bJ (Ak 83 PM) (Ak 83 PM)) (Ak 84 (.v 87)) (Ak 84 (.v 87))) (Ak 85 (.v 88)) (Ak 85 (.v 88))
abbrev PW:=iT 11
abbrev T7:=T.aJ BH m8 ahi
abbrev p7:=oO (tR 5 m6) cJ
abbrev T8:=Bn p7 rm .quo
abbrev ahn:=kg T8 T8 qI
abbrev Z0:=dQ T8
abbrev Z1:=gP T8
abbrev Z2:=iS T8
abbrev aho:=OY Z0 Z1 Z2
abbrev wN:=jh j k n o (gO d e)
abbrev arJ:=wN T5 (mD (iT 12) (iT 13) PU Z0 Z1 Z2) F1 m8 ahn aho
abbrev ahp:=eP rD xW
abbrev ahq:=eP rD K4
abbrev ahr:=eP rD zD
abbrev T9:=se (tR 9 m6)
abbrev arK:=wN (uO T9 oP) (iT 2) F1 m8 (kg T9 T9 oQ) (kg T9 T9 oQ)
abbrev arL:=BE.dv (eP rD Bi) gA gA
abbrev arM:=BG 0 0 0 (zS (jT qK)) uS (.lex [1,0] E) E
abbrev arN:=tE pU (cL pU lg)
abbrev PY:=iE pU pR
abbrev rF:=tR 4 pU
abbrev DD:=K6 a pU
abbrev Z3:=C.agg [aV PY,DD 1,DD 2,DD 3,aV rF,aV (tR 5 pU),DD 6,DD 7,aV (tR 8 pU),DD 9,DD 10,DD 11,DD 12,DD 13]
abbrev arO:=aV (IC 1 2 PY bJ ke)
abbrev Ua:=IC 1 3 PY bJ ke
abbrev arP:=BF 1 4 PY bJ ke
abbrev F3:List C:=[FD,FE,FF,FA,K3,H4,H5,H6,H7,H8,H9,OS,T3,uT,cQ]
abbrev F4:=BE.not (.has tC 1 (.v 79) bJ bJ)
abbrev F5:=LE.ins FU 1 [T4]
abbrev m9:=K7 [PL,dR 67,Lk,Ll,Ln,Lq,Lr,Ls,Lt,Lu,Lv,Lw,Lx,qK,yj]
abbrev F6:=kh (K7 [PL,dR 67,Lk,Ll,Ln,Lq,Lr,Ls,Lt,Lu,Lv,Lw,Lx,uZ,yj]) FB [arI,aV PY] Dj
abbrev ahs:=T.aJ Ly m9 Ib
abbrev F7:=Lg [gW pU,PL,dR 67,Lk,Ll,Ln,Lq,Lr,Ls,Lt,Lu,Lv,Lw,Lx,qK]
abbrev p8:=se (tR 5 pU)
abbrev Ub:=Bn p8 rm .quo
abbrev aht:=kg Ub Ub qI
abbrev Z4:=dQ Ub
abbrev Z5:=gP Ub
abbrev Z6:=iS Ub
abbrev ahu:=OY Z4 Z5 Z6
abbrev ahv:=lD arO (aV Ua)
abbrev ahw:=PV (PV (PV bJ (Ak 80 (.v 83)) (Ak 80 (.v 83))) (Ak 81 (.v 84)) (Ak 81 (.v 84))) (Ak 82 (.v 85)) (Ak 82 (.v 85))
abbrev Uc:=T.aJ BH m9 ahs
abbrev p9:=oO (tR 5 pU) cJ
abbrev Ud:=Bn p9 rm .quo
abbrev ahx:=kg Ud Ud qI
abbrev Z7:=dQ Ud
abbrev Z8:=gP Ud
abbrev Z9:=iS Ud
abbrev ahy:=OY Z7 Z8 Z9
abbrev arQ:=wN Ua (mD (iT 12) (iT 13) PU Z7 Z8 Z9) F6 m9 ahx ahy
abbrev ahz:=eP rF xW
abbrev ahA:=eP rF K4
abbrev ahB:=eP rF zD
abbrev Ue:=se (tR 9 pU)
abbrev arR:=wN (uO Ue oP) (iT 2) F6 m9 (kg Ue Ue oQ) (kg Ue Ue oQ)
abbrev arS:=BE.dv (eP rF Bi) gA gA
abbrev ahC:=C.agg [aM,aM,aM,aM,aM,aM,aM,aM,aM,aM,aM,aM,aM,aM]
abbrev Lz:=K.conv I (.bin .shr .u64 (Ob (oO fp dw)) cJ)
abbrev ahD:=cL dw oQ
abbrev ahE:=bu.lex [] E
abbrev arT:=iE (uO dw oP) uS
abbrev Uf:=kA (iE (HQ oP) pR) arT
abbrev PZ:=K.c 50
abbrev aaa:=BE.and Y3 (ye jI)
abbrev ahF:=oT jI ke Lj
abbrev aab:=cL ez lg
abbrev wO:=gM ez
abbrev P0:=BE.and wO aab
abbrev P1:=RK.sl 100
abbrev ahG:=oT ez pR P1
abbrev P2:=gW ez
abbrev BJ:=T.back 0 t
abbrev tU:=ot a j k n o p zL
abbrev arU:=C5 (qR 0 (wN (.len ahF) C7 fo (BJ [gW jI]) aaa aaa) (tU 1 (mY 51 fo (mC 1 P2) pO [.ak ahG]) (Dg 52 (fZ tD) [i7]) aab P0 P0) (ye jI)) (gO oQ KH)
abbrev arV:=Bm oQ rm (C5 arU (eN oQ lC)) arU (gO qO KH)
abbrev arW:=Bm qO qI (C5 arV (eN qO lC)) arV (gO qP C7)
abbrev LA:=gO d (.c G)
abbrev arX:=Bm qP K4 (C5 arW (eN qP OF)) arW (LA lg 70)
abbrev arY:=Bm lg K4 (C5 arX (eN lg (.c 64))) arX (gO iH C7)
abbrev Ug:=RK.sl 101
abbrev ahH:=RE.cell j7 cK 1 Ug
abbrev ahI:=Dv cY ahH
abbrev P3:=K.len (oT d A H)
abbrev IF:=T.loop a [] t j
abbrev arZ:=C5 (qR 0 (wN (P3 cK j7 Ds) C7 fo (wN (.len ahH) C7 fo (IF 1 (jh (eQ (wN (P3 cY ahH uV) PZ fo (mC 1 Oj) (Oi ahI) (Oi ahI)) wz wz) (mC 0 (gW cK)) wz wz ahI) zL) wz wz) wz wz) wn Tw) (LA iH 12)
abbrev pD:=C.agg [j9,iG,gL,kX,pN,Fp,oN,Bp,HL,HM,KM,zH,qJ,wt,wu,uT]
abbrev DE:=C.agg [v,w,x,y,z]
abbrev sx:=DE qK eH xU yj tD
abbrev F8:List C:=[pD,sx]
abbrev P4:=DE cQ aM cQ cQ kz
abbrev LD:=iL P4 dY
abbrev aac:=iE fp tB
abbrev ahJ:=eN lX bJ
abbrev P5:=eN wD bJ
abbrev tV:=fD ez zI wO
abbrev IG:=lW (iE ez HN) (oO cJ fp)
abbrev ar0:=oq [lj,eH,m7,nW,tD]
abbrev aad:=oT ez tC If
abbrev DF:=Dv bJ aad
abbrev II:=fD ez Za wO
abbrev yt:=f9 a bJ aad
abbrev aae:=vd [yt 0,yt 1,yt 2,yt 3,yt 4,yt 5,yt 6,yt 7,yt 8,yt 9,yt 10,yt 11,yt 12]
abbrev IJ:=wM j n (.set B d 0 t)
abbrev Al:=eQ (.new a B [] [] j) n o
abbrev ar1:=IJ ez (Al 0 (oq [lj,eH,pA,vf,tD]) (fD ez Ld wO) (fD ez Ld wO) (.set FQ ez 0 zL)) II [oS] ym
abbrev DG:=Dv cJ aad
abbrev yu:=f9 a cJ aad
abbrev aaf:=vd [yu 0,yu 1,yu 2,yu 3,yu 4,yu 5,yu 6,yu 7,yu 8,yu 9,yu 10,yu 11,yu 12]
abbrev ar2:=oq [lj,eH,m7,cQ,tD]
abbrev ar3:=T.stuck ""
abbrev ar4:=IJ ez ar3 II [qQ] ym
abbrev aag:=BE.and wF yg
abbrev aah:=LE.iA wG zU
abbrev ar5:=oq [lj,eH,cQ,m7,tD]
abbrev ahK:=gG j (fD ez wD wO) (fD ez wD wO) n o
abbrev aai:=ahK Tx DF DF
abbrev aaj:=ahK Tx DG DG
abbrev ahL:=DE lj eH cQ cQ tD
abbrev ar6:=oq [cQ,eH,lj,m7,tD]
abbrev P6:=fD ez (.len Bz) wO
abbrev ar7:=IJ ez (Al 0 (oq [cQ,eH,nW,oS,tD]) II II (.set ym ez 0 zL)) P6 [qQ] rB
abbrev ar8:=oq [cQ,eH,lj,cQ,tD]
abbrev ar9:=IJ ez ar3 P6 [pX] rB
abbrev asa:=oq [cQ,eH,cQ,lj,tD]
abbrev asb:=oq [cQ,eH,cQ,cQ,tD]
abbrev nc:=fZ (nR 500)
abbrev LF:=oT dw tC If
abbrev IK:=K.len LF
abbrev aak:=pz zI
abbrev ahM:=cL gF IK
abbrev Uh:=se (HQ HN)
abbrev asc:=tE Uh (cL Uh lX)
abbrev P7:=jJ a j k n [.agg t]
abbrev yv:=f9 a gF LF
abbrev DH:=eQ (dt j k l p q) n o
abbrev LG:=jh j k n o (.not p)
abbrev asd:=tU 2 (P7 34 nc (mC 2 xY) agf [yv 0,yv 1,yv 2,yv 3,yv 4,yv 5,yv 6,yv 7,yv 8,yv 9,yv 10,yv 11,yv 12]) (DH TR (.aJ (cL Uh lX) (LG nc TR asc asc (fJ (iE Uh tB))) nc) nc aak aak (gP IK) (zO Uh)) ahM (KT ahM) (KT ahM)
abbrev DJ:=cL bJ IK
abbrev ahN:=iE bJ LF
abbrev F9:=Fk d (.cell A e a) n
abbrev P8:=F9 a d e (F9 b f g n LF) LF
abbrev ji:=K.cell LF bJ a
abbrev ase:=T.aJ (iS IK) (eQ (LG nc asd (cL cJ IK) (cL cJ IK) (.not (P8 0 1 ahN cJ (ji 1) cJ (P8 2 3 (ji 2) cJ (ji 3) cJ (P8 4 5 (ji 4) cJ (ji 5) cJ (P8 6 7 (ji 6) cJ (ji 7) cJ (P8 8 9 (ji 8) cJ (ji 9) cJ (P8 10 11 (ji 10) cJ (ji 11) cJ (eP (ji 12) (.cell LF cJ 12)))))))))) DJ DJ) nc
abbrev yw:=LK.ak Lj
abbrev ahO:=oT gF pR P1
abbrev ahP:=Dv kZ ahO
abbrev Ui:=oT kZ ahO Ds
abbrev aal:=RE.cell ahO kZ 1 Ug
abbrev ahQ:=cL kL (.len Ui)
abbrev ahR:=iE kL tB
abbrev asf:=kg ahR ahR (.len Ui)
abbrev ahS:=BC kL Ui
abbrev aam:=fD kL (.len aal) It
abbrev DK:=T.aJ (.not n) j k
abbrev asg:=DK (mC 6 Iu) (eQ (jJ 45 nc (mC 6 Iu) (.not Ya) [i7,nQ,jf,.ak (oT kL aal uV)]) aam aam) ahS
abbrev ahT:=cL iK Da
abbrev ash:=kg (se dP) (se dP) yb
def nf:=T.stuck ""
abbrev DL:=vd zL
abbrev IL:List C:=[pD,sx,jx]
abbrev asi:=pQ [P4,cQ,nR 500]
abbrev IM:=vd [jx]
abbrev asj:=RE.cell ss bJ 1 Ds
abbrev Uj:=Dv dw asj
abbrev IN:=HO Uj
abbrev aan:=BE.not (BC dw asj)
abbrev aao:=aV lX
abbrev aap:=vd [aao,kY,aao,jx]
abbrev DM:=RE.cell ss bJ 3 If
abbrev IP:=pz (.len DM)
abbrev Uk:=F9 a d e (F9 b f g n DM) DM
abbrev aaq:=BE.not (Uk 0 1 ahN dw (ji 1) dw (Uk 2 3 (ji 2) dw (ji 3) dw (Uk 4 5 (ji 4) dw (ji 5) dw (Uk 6 7 (ji 6) dw (ji 7) dw (Uk 8 9 (ji 8) dw (ji 9) dw (Fk (ji 10) (.cell DM dw 10) (C4 (ji 11) (.cell DM dw 11) (ji 12) (.cell DM dw 12))))))))
abbrev DN:=zM a DM
abbrev aar:=LE.lit [[aV ahN,aV (ji 1),aV (ji 2),aV (ji 3),aV (ji 4),aV (ji 5),aV (ji 6),aV (ji 7),aV (ji 8),aV (ji 9),aV (ji 10),aV (ji 11),aV (ji 12)],[DN 0,DN 1,DN 2,DN 3,DN 4,DN 5,DN 6,DN 7,DN 8,DN 9,aV (.cell DM dw 10),aV (.cell DM dw 11),aV (.cell DM dw 12)]]
abbrev aas:List C:=[Dx lX]
abbrev Am:=BJ [uU,v,w,x]
abbrev LH:=eQ j (cL bJ Ih) (cL bJ Ih)
abbrev BK:=pQ [DE v eH w x tD,y,aM]
abbrev ahU:=T.aJ Uj (jh (Am pA vf su) (vk 0 (gG (LH (jh (Al 0 (IJ dw (Al 0 (Am FT Zq (uQ 27)) (pz (pS 22)) (pz (pS 22)) (.set TU dw 0 aas)) (pz (.len Dw)) [uQ 25] O9) (pz (.len Dw)) ld aar) (Am FT vf su) IP IP aaq)) tK tK DJ DJ) (kf FR) (kf Pn) aap Pg Pb) IN IN aan) (BK oS vf su pA)
abbrev ahV:=T.aJ Uj (jh (Am nW oS pA) (vk 0 (gG (LH (jh (Al 0 (IJ dw (Al 0 (Am su FT (uQ 25)) (pz FR) (pz FR) (.set Pg dw 0 aas)) (pz Pe) [zZ] Is) (pz Pe) ld aar) (Am su oS pA) IP IP aaq)) tK tK DJ DJ) Px (kf (.len Dw)) aap FQ O9) IN IN aan) (BK qQ oS pA nW)
abbrev aat:=cL dw Ih
abbrev P9:=HO aat
abbrev aau:=nU uU pX
abbrev ahW:=Dv ez ahF
abbrev Qa:=iE ez ahF
abbrev ahX:=cL ez Ih
abbrev asl:=wm (.not (zO ez))
abbrev Qb:=fD lX lg (gM lX)
abbrev Ul:=oT lX pR P1
abbrev ahY:=cL gF Ih
abbrev aav:=KT ahY
abbrev Um:=se ez
abbrev aaw:=kg Um Um (.len Ul)
abbrev asm:=fD gF (.len (oT Um Ul Ds)) (gM gF)
abbrev aax:=iE gF ss
abbrev asn:=RE.cell Ul Um 1 Ug
abbrev aso:=kg aax aax (.len asn)
abbrev ahZ:=oT aax asn uV
abbrev ah0:=Dv dP ahZ
abbrev asp:=fZ (Ot fp (.c 4097))
abbrev IQ:=K.conv I (.bin .shr .u64 (Ob (oO cY gK)) cJ)
abbrev ah1:=iE IQ j7
abbrev asq:=T.aJ (cL ah1 cK) (nU (gW IQ) gL) (nU iG (aV IQ))
abbrev asr:List LK:=[yw,dp,nV 111,yw,.bool,dp]
abbrev IR:List LK:=[yw,dp,dp,dp]
def ah2:List LK:=[.ak Ds,.ak Ug]
def ast:=fD cK ww (gM cK)
abbrev ah3:=cL gF Za
abbrev asu:=DE qQ j8 nW oS Tv
abbrev asv:=pQ [cQ,aM,aM,dY]
abbrev asw:=kO gF (oO cJ (P3 dw ss P1))
abbrev ah4:List LK:=[dp,yw,dp]
abbrev aay:=C.agg [gL,kX,pN,oN,eH,KM,jx,zH,qJ,wt,wu,uT,qK,xU,yj,uZ]
abbrev asx:=DE Fp j9 Bp HL tD
abbrev ah5:List C:=[aay,asx,gN]
abbrev asy:=BJ [Pd,FV,nW,nQ]
abbrev asz:List LK:=[yw,dp,nV 111,yw,.bool]
abbrev asA:=DE lj iJ pX m7 Oa
abbrev ah6:=jS 20 (Ix 0 (jS 308 (iL ru (lD zZ sj)) [DE oS rq pA vf Tv,su,zF cY bJ,aay,asA,kY,oh,lD nW nQ] ah4) (kf (pS 3)) (BB 3) DL) [aay,asx,aM] asz
abbrev ah7:=cL ij (pS 15)
abbrev ah8:=cL kM Ih
abbrev asB:=qR 0 (jh fo (mC 0 Pm) (.and Lf ah7) (.and Lf ah7) (fJ (iE ij (.v 15)))) (qR 1 (jh (dt fo fo (mC 1 (gW kM)) Od Bj) (mC 1 (gW kM)) (.and Zr ah8) (.and Zr ah8) (fJ (iE kM ss))) (wm (eP (pS 15) Ih)) ah8) ah7
abbrev vl:=zC f g j k l (cL d e)
abbrev tW:=T.gr ld n j k
abbrev DO:=f9 a d j7
abbrev Ga:=C.int .u64 d
abbrev sC:=tQ a Br
abbrev sD:=FP a K2
abbrev Un:=Iq (.aS (.and (.and (eN cJ zI) yg) (kg PO PO Fo)) j) B O
abbrev tX:=f9 a FG oP
abbrev Gb:=BE.not (eN d e)
abbrev An:=mX a (iL v w) j n t M
abbrev DP:=vk a j n o Fq B N
abbrev tY:=kC a jw
abbrev tZ:=kC a Qa
abbrev mE:=DO a cK
abbrev yz:=Io a uS
abbrev wP:=f9 a fp (.v 4)
abbrev yA:=zM a uS
abbrev yB:=K6 a kL
abbrev Uo:=tW j k (eN zI bJ)
abbrev t6:=eP d iH
abbrev DQ:=Dg a (dt j k l n o) t
abbrev DR:=FX a (dt j k l n o) t
abbrev LI:=eP (Dd a d) e
abbrev BL:=F9 b (.cell uS dP a) d n Bz
abbrev Uq:=mY a fo (mY b fo j o u) n t
abbrev IS:=Uo (DP a j n o B N) k
abbrev Ao:=f9 a d py
abbrev Qc:=K.cell A f8 a
abbrev IT:=ahK (Al a j p ld B) n o
abbrev IU:=vl d e f g j k (eQ (zS l) ld ld)
abbrev Ur:=IF 3 (.pick Fo n (eN Fo wD) j k) t
abbrev wQ:=Ur (Un (dt j k l PQ PS) B []) m n t
abbrev wU:=f9 a gF oP
abbrev IW:=T.new a B [] O j
abbrev Qd:=LH (IF a j t)
abbrev Gc:=mY a j k pO t
abbrev IX:=jh j k Il Il (eP dw aac)
abbrev Us:=fZ (Ga d)
def T82:T:=HS Td (qL cK cY)
def T84:T:=Uq 61 61 (Uq 61 61 (eQ (Uq 88 88 (Uq 88 88 (mY 88 fo (Fj 89 (Bm jg bJ fo (ik (C5 afz (C4 gF dP iK kZ)) afz afz (dQ jg) (C4 bJ gF cJ iK)) HG) (lD aM dY) (lD jf j8)) (mB 8) [kY,wJ 2 f8 j7,dY,nQ]) (mB 6) (mB 7) [jx,.bool (gO (Qc 4 j7) bJ),dY,DO 4 f8] [iJ,.bool (gO (Qc 5 j7) bJ),dY,DO 5 f8]) HE (mB 5) [oN,wJ 0 f8 j7,dY,tq] [eH,wJ 1 f8 j7,DO 3 f8,HF]) (fD f8 KH Te) (fD f8 iH Te)) HD C3 [gL,aM,C9 jw cJ] [kX,dY,pw]) pO oM [pN,dY,aV Bi] [iG,aM,C9 kL cJ]
def aib:T:=HS Td (eN cY cK)
def aic:T:=dt XZ XZ (zC cY zD XZ XZ (zC afB lC (jT aM) (jT (C9 afB lC)) (jT (aV afB)) (dQ cK)) (pB cY)) (pB cK) afA
def aid:T:=dt X0 X0 (zC cY qI X0 X0 (.aJ (dQ cK) (oq [aM,aM,lF tu Tf]) (DH (.aJ (dQ Tf) (zS (oq [lF C6 Th,lF C6 Ti,X1])) (zS (oq [lF C6 Th,lF C7 Ti,X1]))) (zS (oq [lF C7 Th,lF C6 Ti,X1])) (zS (oq [lF C7 Th,lF C7 Ti,X1])) afC afD (dQ Tf) (dQ Tf))) (cL cY cJ)) (pB cK) afA
def aie:T:=dt (pQ [aM,aM,Fl]) (pQ [aM,aM,Fl]) (gG (pQ [aV Th,aV Ti,aM]) afC afD afC afD) (cL cK cJ) afA
def aaz:T:=jJ 127 (iL aM (nR 120)) (jJ 127 (iL aM (nR 120)) (mW 106 (jT eH) (aV (kO cK iR)) (lF gK cY) [dp]) X2 [lD gL kX]) (fJ f8) [lD j9 iG]
def aaA:T:=zC cY KI Tj Tj (vl cK X3 cK KI Tj Tj (jS 157 (qN 156 Tj oo (lW iR cJ) (Ga gK) (Ga (Ob cY)) [.int .u64]) [j9] [.int .u64])) (cL cY cJ)
def aaB:T:=.aJ (pB cK) (Us (.bin .sub .u64 bJ (Ob cK))) (Us (Ob cK))
def aif:T:=eQ (.aS (fJ cY) (fZ (Bo (tw cK (Bn (oO (Bn cK cY .rem) cY) cY .rem)) cY .quo))) (fJ cY) (fJ cY)
def aaC:T:=FX 127 (mZ (pQ [aM,aM,kX]) afE afE (nT 280 280 (pQ [pN,C9 bJ lT,aM]) [lF cK gK,iG] [lF (tw bJ cK) gK,iG] [dp] [dp]) X4 (cL gK X3) (gO gK KI)) [lD j9 iG]
def aaD:T:=.aJ (dQ cY) (Us cK) (jM 0 (.aS (fJ (kA f8 cJ)) (.aJ (dQ ap1) (Us f8) (BJ [Ga iR,Ga f8,Ga ap1]))) (Us gK) X4 [Ga cY,Ga cK,Ga cY])
def aaE:T:=nT 76 76 (dt (.aJ tj oo (fZ HI)) C8 (vl cK cY cK cY (fZ HI) C8 oo) Bj tj) [j9] [iG] C2 C2
def aaF:T:=wm afF
def T66:T:=vl cK Tk cK Tl fo fo (vl cY Tk cY Tl fo fo (vl gK Tk gK Tl fo fo (vl iR Tk iR Tl fo fo (HS (wm (eN gK iR)) (eN cK cY)))))
def T72:T:=Gc 99 (zE Fl) (mY 99 (zE Fl) (Di cK f8 cY lT gK jI (xX iR ez)) oM [afG]) [Fm]
def T69:T:=mW 70 (wm N9) Fm Fm px
def aij:T:=DQ 99 (zE Fl) KJ (mZ KJ KJ KJ (mY 99 KJ (jT ap3) oM [ap3]) (gO f8 (.c 2199023255552)) (cL lT ap2) (gO lT (.c 2199023255552))) pO (cL f8 ap2) [Fm]
def T24:T:=Gc 99 (iL kz Fl) (DQ 99 (iL kz Fl) (ik (jT (.bool (eN iR ez))) (jT kz) (jT kz) (eN cY lT) (qL gK jI)) (jT kz) oM (qL cK f8) [afG]) [Fm]
def ail:T:=vl cK HJ cK uP zG zG (vl cY HJ cY uP zG zG (vl gK HJ gK uP zG zG (vl iR HJ iR uP zG zG (vl f8 HJ f8 uP zG zG (vl lT HJ lT uP zG zG (jT (zF (oO (kO cK iR) (kO cY f8)) (kO gK lT))))))))
def aim:T:=ik (mW 139 afH j9 pw wq) ap4 ap4 (dQ cY) (jL gK)
def ain:T:=.aJ pO (wm (dQ cK)) (Dg 61 (fZ Oa) [j9,iG,gL])
def aio:T:=HS Td (eN cY cK)
def aip:T:=jM 0 (LG (nU (gW KK) kX) (nU gL (aV KK)) (kg KK KK iH) (kg KK KK iH) (gO (iE KK j7) cY)) (eQ (.aS (kg KL KL iH) (fZ (zF (uO KL j7) (kO (tw cY (iE KL j7)) (.cell j7 KL 2))))) ld (kg KL KL iH)) (cL gK iR) [aM,aV iH]
def aiq:T:=jJ 60 (iL aM gL) (Gc 124 (iL aM dY) (mW 125 (jT kX) Oc iG [dp]) [iG,aM,aV HH]) (fJ gK) [Oc]
def air:T:=qN 272 (pQ [aM,aM,oN]) (jJ 127 (pQ [aM,aM,eH]) (Gc 124 afE (mW 273 (pQ [jx,iJ,kY]) (lD gL kX) pN rp) [gL,aM,kX]) X5 [lD gL kX]) X2 Oc iG zB
def ais:T:=nT 255 255 (fZ (xX bJ (tw jw kM))) [Oc,kX,lD oh nQ] [Oc,kX,lD j8 gN] rp rp
def T70:T:=HS Td (eN cY cK)
def T65:T:=jJ 40 (Gc 68 C8 (fZ jx) [eH,aM,afI]) (fZ jx) Od [i7]
def T18:T:=An 84 (iL kz jx) Od [i7,afJ,qJ,X6] (.bool (dQ zI)) jx [nV 252,dp]
def T37:T:=zC Da Db zJ zJ (jJ 60 (fZ eH) (Gc 61 zK (mY 61 zK (DR 62 zK zK (dt zK zK (tU 0 (Dy 61 zK (mY 61 zK (mY 61 zK KP HE [DO 3 fp,aM,aV zD]) C3 [DO 2 fp,aM,iG]) [DO 1 fp,aM,j9]) (ot 1 (zC afL uP zK zK (Dy 63 zK (im 1 uU Tq) [.agg ap5,aV iH,oN]) (eN afL gF)) oo X8 Oe Oe [aM,HI]) X7 (.and Dc X7) (.and Dc X7)) (pB iR) (dQ iH)) Bq (pB gK) [.agg [gL,kX,pN]]) oM [iG,dY,Tn]) [j9,dY,Tn]) X5 [KN]) (LA iH 64)
def T86:T:=tW (wM (fZ Bp) Of Tt) (fZ cQ) Ts
def T87:T:=tW (wM (fZ Bp) Of Tt) (fZ cQ) Ts
def T88:T:=tW (wM (fZ Bp) Of Tt) (fZ cQ) Ts
def aix:T:=mW 176 (wm (zO iR)) Fp (.agg [j9,iG,gL,tD]) [dp]
def aiy:T:=qR 0 (jh (fZ kX) (BJ [gW iR]) (tE iR (lf iR)) (tE iR (lf iR)) (F9 0 cK iR (F9 1 cY iR (F9 2 gK iR (.beq Bj (.cell j7 iR 3)) j7) j7) j7)) (fZ HI) (lf iR)
def aiz:T:=tU 0 (ik (ik (ik (jh (eQ (Gc 146 wn HR [FL 0 KQ pR uV,iM (f9 0 pP (.v 4)) aM aM kN]) ap8 ap8) HR ap7 ap7 (BC KQ oP)) HR HR (C4 (Dd 10 pP) iw (Dd 11 pP) ij) (C4 (Dd 12 pP) kM (Dd 13 pP) ol)) HR HR (LI 4 pP (tw (.c 15) iK)) (LI 9 pP afK)) HR HR (LI 2 pP dw) (eP KQ (se jg))) fo (cL pP Da) ap6 ap6
def aiA:T:=mW 151 (wm pO) Fm afG Og
def aiB:T:=Bm iH (.c 32) fo (.aS (lf bJ) (jJ 90 fo (qR 0 (.aS Fs (jJ 90 (ik fo X9 X9 (lW gK qI) (lW gK xW)) X9 (lW gK rm) [.int .u8 (.o7 j7 cY)])) wn Tu) (lW cK rm) [.int .u8 (.o7 j7 bJ)])) (.seq j7 (.k (.string ⟨#[]⟩)))
def T77:T:=jJ 40 (jK iJ) (Gc 61 (jK dY) (mY 61 (jK dY) (wL 0 (ik (kh (nU uU qJ) (kf oQ) ap5 (.ak oP)) (nU uU zH) (nU uU zH) (LI 1 dw jI) (LI 2 dw ez)) (BG 0 0 0 (jT qJ) oP (.ratio 10 11) J) X8 Oe Oe) oM [jx,aM,afI]) [eH,aM,C9 iH cJ]) De [i7]
def aiD:T:=dt aqb aqb (PK fo ap9 afO afO (lW kL cK) pO (eP f8 xW)) (kP f8) (jL f8)
def aiE:T:=HS Td (qL cK cY)
def aiF:T:=wv cK (.c 122) zJ aqe aqe (qL cK (.c 97))
def T25:T:=DQ 67 HT (mZ HT HT (dt HT (dt HT (DK (zE dY) (mX 98 KJ (kh (mX 98 KJ (kh (gG (mW 70 (iL (.agg [qM,uW,HV,KR]) Ft) (FO 1 bJ (Ao 0 bJ) (Ao 2 bJ) (Ao 3 bJ) py) (FO 1 cJ (Ao 0 cJ) (Ao 2 cJ) (Ao 3 cJ) py) px) (cL bJ ww) (cL bJ ww) (cL cJ ww) (cL cJ ww)) Of [nQ,rq,ru,sj] (.ak j7)) (fJ ij) [Fm,lF aqg jI,lF aqg ez] px) ld [kY,jf,j8,gN] Fq) Yb [Fm,lF aqf jI,lF aqf ez] px) (eN fp (.c 4095))) (zE dY) (Gb ez uP) Dc) HT (Gb jI uP) (eN HJ ez)) HT (Gb f8 lT) (qL lT Db) (eN HJ jI)) HT pO Te [Fm]
def aaG:T:=.aJ (lW iH ww) (jK kz) (tW (wM (BG 0 0 0 (wL 0 (ou 1 (jh (eQ (mY 107 (eQ (kh (nU (gW cK) qJ) (kf oQ) [aV Yd,mE 1,mE 2,mE 3,mE 4,mE 5,mE 6,mE 7,mE 8,mE 9,mE 10,mE 11,mE 12,mE 13,Ao 0 cY,Ao 1 cY,Ao 2 cY,wJ 3 cY py] (.ak oP)) Om Om) (im 1 Oj zH) Bj [.agg [aV Yd,mE 1,mE 2,mE 3,mE 4,mE 5,mE 6,mE 7,mE 8,mE 9,mE 10,mE 11,mE 12,mE 13],iM (Ao 0 cY) (Ao 1 cY) (Ao 2 cY) (wJ 3 cY py)]) Om Om) (im 1 Oj zH) (Oi afQ) (Oi afQ) (eP (iE cY (.v 3)) Yd)) (jK kz) afQ KM) (iL KM kN) Tw wz wz) xT Yc E) Of Tt) (BG 0 0 0 (wL 0 (ou 1 Tx (jK kz) (pB cY) HM) (iL HM kN) Tw wz wz) afM Yc E) Ts)
def T27:T:=jJ 34 (zE zP) (DR 41 (zE On) (ik (ik (Fw Yg Yh Yj Yk) (Fy (Di Yg (sn ol Fv) Yh (sn ol Fv) Yj (sq ol Bu) (xX Yk (sq ol Bu))) Fu) (Oq aqh Oo Fu jf) Bs Bt) (Fj 138 (qN 139 aqh (jS 138 (qN 139 (Fw (nS Yl Ou) (kA Ym Ou) (nS Yn Ov) (kA Yo Ov)) (Fy (Di (nS Yl Ou) Ow (kA Ym Ou) Ow (nS Yn Ov) Ox (xX (kA Yo Ov) Ox)) zR) Bt Dh jf wq) Oo zB) Bs Fu iJ wq) jx gL) (Oq aqj [oN,gL] Fu eH) (dQ jI) N9) (Fj 138 (qN 139 aqj (Fj 138 (qN 139 (ik (Fw afS afT afU afV) (Fy (Di afS Ow afT Ow afU Ox (xX afV Ox)) zR) (Oq aqk Oo zR jf) Bs Bt) (Fj 138 (qN 139 aqk (jS 138 (qN 139 (Fw aql aqm aqn aqo) (Fy (Di aql (sn ol (.v 57)) aqm (sn ol (.v 57)) aqn (sq ol (.v 58)) (xX aqo (sq ol (.v 58)))) FA) Bt Fz jf wq) Oo zB) Bs zR iJ wq) jx gL) N9 Dh eH wq) oN gL) (dQ jI) Fu pN wq) kX gL) (wC 30) (dQ f8) [.agg [Fp,oh,nQ,rq,ru,sj,tG,qM,uW,HV,KR,Ft,Tz,TA,TC,TE,zQ]]) (wC 29) [afR]
def T74:T:=KS (DQ 46 Bv (uY Bv (DQ 46 Bv (uY Bv (DQ 46 Bv (uY Bv (DQ 46 Bv (uY Bv (DQ 46 Bv (KS oo (mB 11) (mB 12) TG TH) oo (mB 10) TF YF) (mB 9) YE) aqq (mB 8) YD af4) (mB 7) af3) aqs (mB 6) af0 [eH,dY,pw]) (mB 5) [oN,aM,HF]) aqv HE aqp [pN,dY,pw]) C3 [kX,aM,HF]) (dt (KS aqv C3 HE [oN,aM,HF] [eH,dY,pw]) (KS aqu C3 HE af3 af4) (dt (KS aqt C3 HE YE YF) (KS oo C3 HE TG TH) oo YD TF) aqp af0) HD (.not (Fk iR bJ (dQ f8))) [gL,aM,aV zD]) pO oM [j9,aV X3,aV KI] [iG,aV X3,aV KI]
def aiJ:T:=jM 0 (.aS X4 (nU (Bo f8 iR .rem) kX)) (jM 1 (.aS X2 (im 1 (Bo jI lT .rem) oN)) (jM 2 (.aS Bq (im 2 (Bo fp ez .rem) jx)) (eQ (.aS (fJ OD) (fZ (.agg [Bo cK OD .quo,Bo cY OD .quo,Bo gK OD .quo]))) (fJ OD) (fJ OD)) Bq [gL,eH]) X2 [iG,pN]) X4 [j9,aM]
def T83:T:=zC gK (.c 32768) OE OE (vl (nS cK cY) (tw bJ gK) (kA cK cY) gK OE OE (.aJ (lW (oO (kO cK cK) (kO cY cY)) (kO gK gK)) OE (mX 87 OE oo (.not (Fk iR cK (C4 f8 cY lT gK))) [.agg [j9,iG,gL]] rp))) (cL gK cJ)
def T75:T:=DQ 64 wB wB (dt wB wB (dt wB wB (dt wB wB (dt wB wB (mZ wB wB wB (eQ (IU iK cJ iK qI pT pT (IU dP cJ dP qI pT pT (IU kZ cJ kZ qI pT pT (IU fp cJ fp uP pT pT (IU dw cJ dw uP pT pT (IU gF cJ gF uP pT pT (IU iR cJ iR OF pT pT (IU f8 bJ f8 OF pT pT (zC cY (.c 500) pT pT (eQ (zS (vl kL bJ kL uP pT pT (zS oo))) ld ld) (pB cY)))))))))) ld ld) (gO ez lC) (pB jw) (gO jw uP)) (gO jI lC) (cL ez cJ)) (gO lT lC) (cL jI cJ)) (gO gK Fo) (cL lT cJ)) (LA cK 500) (cL gK cJ)) pO (cL cK cJ) [Fp]
def T23:T:=jJ 100 YG (wL 0 (ik (.aJ (lW af6 YI) (BD 2 0 [Ot YI af6,xX YI af6,kN] Tp qJ (.ak oP)) af7) af7 af7 (LI 2 fp jI) (LI 4 fp zD)) (Ah 1 (vj 2 (kh (im 2 xY wu) (kf qO) [kY,jf] TJ) (im 2 xY wt) (im 1 uU wt) (lf gF) (BF 2 2 dw gF oP) [aM,qJ]) (jT qJ) (lf dw)) af5 OG OG) Bq [i7,eH]
def Ut:T:=jS 73 (dt (fZ iJ) af8 (tW (Ix 0 (BG 0 0 0 (wL 0 (ou 1 (jh (eQ (mY 107 (eQ (kh (nU uU xU) FB [gQ 0,gQ 1,gQ 2,gQ 3,gQ 4,gQ 5,gQ 6,gQ 7,gQ 8,gQ 9,gQ 10,gQ 11,gQ 12,gQ 13,wU 0,wU 1,wU 2,wJ 3 gF oP] Dj) OK OK) (im 1 xY qK) Bj [.agg [gQ 0,gQ 1,gQ 2,gQ 3,gQ 4,gQ 5,gQ 6,gQ 7,gQ 8,gQ 9,gQ 10,gQ 11,gQ 12,gQ 13],iM (wU 0) (wU 1) (wU 2) (wJ 3 gF oP)]) OK OK) (im 1 xY qK) OJ OJ (eP YN (HQ uR))) af8 OI uT) oo YM OH OH) ke Yc E) YK Fq YL) (BG 0 0 0 (wL 0 (ou 1 Tx af8 (pB gF) wu) oo YM OH OH) afM Yc E) (eN qP bJ)) De (lW qP oQ)) YJ H0
def T89:T:=An 73 (P7 34 (iL KU KR) (An 74 (ot 0 (jS 171 (dt (iL KU OS) (oq [KZ,K1,FD,FE,FF,FA,K3,H4,H5,H6,H7,H8,H9]) (BJ [gW Br,KZ,K1,FD,FE,FF,FA,K3,H4,H5,H6,H7,H8,H9,KZ,K1,FD,FE,FF,FA,K3,H4,H5,H6,H7,H8,H9]) (wC 63) (wC 63)) [.agg [Dh,aV pU,OL,KV,YP,ON,zR,TL,OO,KW,OQ,TN,Fz],.agg [sC 0,sC 1,sC 2,sC 3,sC 4,sC 5,sC 6,sC 7,sC 8,sC 9,sC 10,sC 11,sC 12,sC 13],iM (sC 14) (sC 15) (sC 16) (wJ 17 Br ke)] H3) (oq [Tz,TA,TC,TE,zQ,zP,On,Fu,dR 32,aV Fv,aV Bu,aV FG,aV tJ]) (ye Br) (tE Br (ye Br)) (tE Br (ye Br)) [aM,iJ,kY,jf,j8,gN,oh,nQ,rq,ru,sj,tG,qM,uW,iJ,kY,jf,j8,gN,oh,nQ,rq,ru,sj,tG,qM,uW]) pO [qJ,zH] KU (nR 270) [nV 227,.bool]) (wC 22) YO) (fJ pP) YJ KU HV H0
def aaJ:T:=DR 34 (iL KU On) (uY (uY (uY (uY (DQ 46 (.aJ (.v 5) (uY (Dg 46 aqK [zP,aM,aM]) Ia (.v 6) [zQ,aM,aM]) Ia) (uY (Dg 46 aqK [zP,aqz,aqA]) Ia (.v 6) [zQ,Do bJ bJ aqx,Do bJ bJ aqy]) Ia Bj (.v 5) [HV,Do cJ cJ (rz bJ bJ (rz bJ cJ YQ Dn FH) Dl Dm),Do OF OF (rz bJ bJ (rz bJ zD YQ Dn FH) Dl Dm)]) TO (.v 4) [uW,aqz,aqA]) TO Bl [qM,Do cJ cJ aqx,Do lC lC aqy]) TO Bk [tG,Do cJ bJ (rz cJ cJ (.dv Dn bJ aqw) Dl Dm),Do rm bJ (rz rm rm (rz bJ bJ (mD bJ bJ rm OU OV OW) Dn FH) Dl Dm)]) TO tj afN) TO (wC 30) (FJ (gP iw) (iS iw) (FJ Dl Dm (Dq Dn FH OU OV OW))) [afR]
def T81:T:=.aJ (eN (kA iH ww) Db) (dt zJ (ik (LG lY (ot 0 (wv Dr HH (wv (uO cY j7) (.c 65536) (ik lY (nU Oj (aV Dr)) lY (eN (.c (-65536)) (.cell j7 cY 2)) (Gb (.cell j7 cY 2) (.c 65536))) lY lY (eN (.c (-65536)) (uO cY j7))) lY lY (eN (oO gK cJ) Dr)) (qR 1 (jJ 125 (DK lY (.back 1 [gW iR]) (eN f8 (.c 65536))) lY (eN cJ f8) [Oc,kX]) (ot 2 (wv agb (tw cK rm) (wv (uO f8 py) rm (wv (Qc 2 py) (Qc 3 py) (DK lY (im 2 (gW f8) (aV agb)) (eN (Qc 3 py) uP)) lY lY (gM (Qc 2 py))) lY lY (eN cJ (uO f8 py))) lY lY (eN afP agb)) (tU 3 (wv agd cK (wv (ID 1 xT) cK (wv Tk (ID 2 xT) (ik lY (K7 [gW jI]) lY (eN (ID 2 xT) (ID 3 xT)) (Gb (ID 3 xT) Tl)) lY lY (lW agd (ID 1 xT))) lY lY (gM (ID 1 xT))) lY lY (gM agd)) oo agc (.and Y3 agc) (.and Y3 agc)) aga (.and Te aga) (.and Te aga) [aM,HI]) (cL iR cK)) Tu Fs Fs [aM,HI]) (lf bJ) (lf bJ) (dQ (iE bJ j7))) lY lY (eN cK Db) (gO iH bJ)) lY (Gb Tg (.c 256)) (eN cJ cK)) zJ
def T13:T:=DR 40 (iL K5 jx) (iL K5 dY) (dt (iL K5 dY) (ik (DK Ic (qR 0 (gG (gG (jJ 41 (FX 34 (mZ Ic (jJ 45 Ic KP agf [i7,iJ,eH,.ak (oT fp uS uV)]) Ic KP (.not Bs) (BC fp ke) (.not (dQ (.len (oT fp uS uV))))) aqL) Ic Bw age) OZ OZ (fD fp yb Dc) (fD fp yb Dc)) Ie Ie Y4 Y4) (nT 110 111 (jM 1 (gG (gG (jS 112 (kh (.aJ (BC dw ke) (An 113 (An 114 (kh (kh aqN yi [Tz,TA,TC,TE] rB) yg [jf,j8,gN,oh,nQ,rq,ru,sj,tG,qM,uW,HV,KR] zU) (wC 28) [i7,kY,eH,.agg Y8,aqM,agh] K5 zQ px) (fJ Br) [i7,kY,eH,.agg Y8,agh] K5 Ft H3) (An 115 (kh (kh aqN yi [jf,j8,gN,oh] rB) yg Y8 zU) TQ [.agg Y8,aqM] K5 nQ px)) Ii [pX] Ij) [agh] [.ak uV]) (pz lg) (pz lg) Y7 Y7) OH OH Ig Ig) (oq [eH,qK,xU,yj,uZ,lj]) YM Y5) [wt] [wu] [.ak Ds] [.ak If]) TP) (t6 yb)) Ic Ic (t6 qO) (t6 lg)) Ic (qL jI lT) (t6 qP)) Bq (pB jI) [i7]
def qa:T:=DR 40 YG (jK tq) (ik (.aJ (t6 yb) (dt wE (ik (DK wE (qR 0 (gG (gG (jJ 41 (FX 34 (mZ wE (jJ 45 wE KP agf [i7,iJ,eH,.ak (oT fp tB uV)]) wE KP (.not Bs) (BC fp ke) (.not (dQ (.len (oT fp tB uV))))) aqL) wE Bw age) OZ OZ Il Il) Ie Ie Y4 Y4) (qR 1 (gG (qN 70 (eQ (P7 34 wE TR (.not Ya) [yA 0,yA 1,yA 2,yA 3,yA 4,yA 5,yA 6,yA 7,yA 8,yA 9,yA 10,yA 11,yA 12]) Y7 Y7) wE (dQ kL) aqO aqO px) tK tK tK tK) (tU 2 (qN 43 (jK rq) (mC 2 xY) (fJ jw) (.agg [wU 0,wU 1,wU 2,wU 3,wU 4,wU 5,wU 6,wU 7]) eH px) (nT 110 111 (jM 3 (IA (gG (jS 112 (kh (.aJ (BC iK ke) (mX 113 (jK TA) (mX 114 (jK On) (kh (kh aqQ Du [TC,TE,zQ,zP] ym) yi [gN,oh,nQ,rq,ru,sj,tG,qM,uW,HV,KR,Ft,Tz] rB) (wC 30) [i7,j8,eH,.agg Y9,aqP,agi] px) (wC 25) [i7,j8,eH,.agg Y9,agi] H3) (qN 115 O4 (kh (Ix 0 aqQ Du ym aqR) yi Y9 rB) Im (.agg Y9) aqP px)) wF [qQ] wG) [agi] [.ak uV]) (fD iK lg BA) (fD iK lg BA) (fD iK lX BA) (fD iK lX BA)) BA (tI iK) BA (tI iK) (fD iK qO BA) (fD iK qO BA)) (Ah 4 (IA (gG (eQ (LG (tO 3 (gG (Iy (dt (jK oh) (tO 3 (.aJ agk (mX 73 (jK nQ) (ot 5 (qR 6 (vg (mX 145 O8 (eQ (mW 146 (mZ (Iq (dt (vg agp Ip zW) (vg agp Ip zW) Ip Zh Zi) aqU []) (vg agq yo zW) (vg agq yo zW) yo oM Zh Zi) su agn C2) In In) HG [i7,aV O5,O6] O7) agr (eP Zg O5)) (mX 145 O8 (eQ (mW 146 (mZ (Iq (dt aqX aqX Ip Zh Zi) aqU []) aqY aqY yo oM Zh Zi) su ags C2) gA gA) HG [i7,aV O5,O6] O7) Zf) (mX 148 O4 (ot 6 (BD 3 6 [tq,gN,Dx (uO iw (.v 22)),kN] K9 FT Pb) (Dz 4 zZ) agv (.and K8 agv) (.and K8 agv) [aM,vf]) Im agt agu) agm (Lc agm) (Lc agm) [aM,oS]) TQ agl H0) (Dz 4 oS)) [Ol,gN,aM,kN] FQ) aq4 Yb pO) aqT) Zd Zd Ze Ze) [zN,gN,aM,kN] FN) (gG (Iy (mZ (jK oh) (tO 3 aq4 [Ol,gN,aM,kN] FN) (mX 73 (jK nQ) (ot 5 (qR 6 (vg (mX 145 O8 (eQ (mW 146 (mZ (Iq (dt (vg agD yo zW) (vg agD yo zW) yo Zm Zn) aq5 []) (vg agE Pl zW) (vg agE Pl zW) Pl oM Zm Zn) pA agn C2) In In) HG [i7,aV Pj,O6] O7) agr (eP Zg Pj)) (mX 145 O8 (eQ (mW 146 (mZ (Iq (dt aq8 aq8 yo Zm Zn) aq5 []) aq9 aq9 Pl oM Zm Zn) pA ags C2) gA gA) HG [i7,aV Pj,O6] O7) Zf) (mX 148 O4 (ot 6 (BD 3 6 [tq,gN,Dx (uO iw vc),kN] K9 su O9) (Dz 4 vf) agF (.and K8 agF) (.and K8 agF) [aM,oS]) Im agt agu) agB (Lc agB) (Lc agB) TV) TQ agl H0) (Dz 4 qQ) Yb pO agk) aqT) Zd Zd Ze Ze) aqS aqS (F9 0 agj dP (BL 1 1 dP (BL 2 2 dP (BL 3 3 dP (BL 4 4 dP (BL 5 5 dP (BL 6 6 dP (BL 7 7 dP (BL 8 8 dP (BL 9 9 dP (BL 10 10 dP (BL 11 11 dP (eP (.cell uS dP 12) (.cell Bz dP 12))))))))))))) Bz)) Zc Zc) (fD dP lg wI) (fD dP lg wI) (fD dP lX wI) (fD dP lX wI)) wI (tI dP) wI (tI dP) (fD dP qO wI) (fD dP qO wI)) (mX 71 (jK oh) (Ah 5 (IA (qN 115 (jK qM) (kh (im 5 Iu pA) TW [rq,ru,sj,tG] Is) XY (.agg [yB 0,yB 1,yB 2,yB 3,yB 4,yB 5,yB 6,yB 7,yB 8,yB 9,yB 10,yB 11,yB 12]) (.agg [FM 0 kL uR,pY 1,pY 2,pY 3,pY 4,pY 5,pY 6,pY 7,pY 8,pY 9,pY 10,pY 11,pY 12,pY 13,pY 14,pY 15,pY 16]) px) It agG It agG wK wK) (Ah 6 (IA (qN 115 (jK uW) (kh (im 6 zY vf) (kf FR) [ru,sj,tG,qM] Pg) (fJ ol) (.agg [yz 0,yz 1,yz 2,yz 3,yz 4,yz 5,yz 6,yz 7,yz 8,yz 9,yz 10,yz 11,yz 12]) (.agg [FM 0 jw uR,tY 1,tY 2,tY 3,tY 4,tY 5,tY 6,tY 7,tY 8,tY 9,tY 10,tY 11,tY 12,tY 13,tY 14,tY 15,tY 16]) px) TS agH TS agH (fD jw qP TS) (fD jw qP TS)) (eQ (mX 150 O4 (ot 7 (tO 3 (.aJ (eN (iE iw Dw) Fo) (BD 3 7 [TX,f9 2 iw Dw,aM,kN] K9 FT Pb) (im 7 K9 zZ)) [TX,f9 1 iw Dw,aM,kN] TU) (ou 8 (IA (eQ (qN 151 (jK qM) (gG (mW 151 (mZ (jK uW) are are (im 8 Pm zZ) (fJ ol) pO oM) (FO 1 yq (f9 0 yq vc) (f9 2 yq vc) (f9 3 yq vc) vc) (FO 1 yr (f9 0 yr vc) (f9 2 yr vc) (f9 3 yr vc) vc) Og) arc arc ard ard) XY (FO 1 yq (f9 0 yq wH) (f9 2 yq wH) (f9 3 yq wH) wH) (FO 1 yr (f9 0 yr wH) (f9 2 yr wH) (f9 3 yr wH) wH) Og) arb arb) Lf agI Lf agI ara ara) (IF 9 (.pick Pn (.not (.has (.v 25) 1 kM bJ bJ)) (eN Pn (pS 25)) (tO 1 (Al 0 (im 9 (uQ 27) Zq) (.and (.and (eN cJ Zp) (kf Zp)) (kg TY TY Pn)) (kf (pS 24)) (.iA (BB 24) (vd [f9 0 TY Pa,f9 1 TY Pa,f9 2 TY Pa]))) [qM] (BB 25)) (BG 0 0 0 (wL 10 (kh (im 10 (gW kM) (uQ 28)) (kf (pS 27)) [f9 0 kM Po,f9 1 kM Po,f9 2 kM Po] (BB 27)) (jT (uQ 27)) agJ (.and Zr agJ) (.and Zr agJ)) (.v 24) (.lex [0,1,2] E) E)) [cQ,cQ]) agI su) agA Zl Zl TV) Im [i7,afJ,eH,xU,oS,nW] [nV 298,dp]) ld ld) agH) agG) Yb [i7,eH] [nV 188,dp]) (tI dP)) (tI iK) Y5) [wt] [wu] [.ak Ds] [.ak If]) (cL gF oQ) OK OK) (lf dw)) TP) (t6 lX)) wE wE (t6 qO) (t6 lg)) wE (.not (t6 wD)) (t6 qP)) wE) wE wE (zO jI) (cL jI lT)) Bq (gO oQ lC) [i7]
def aiO:T:=DR 40 YG (jK tq) (Dg 68 (mZ (jK dY) Iv Iv (tU 0 (mY 67 (.aJ (zO fp) Iv (tU 1 (Dy 67 (.aJ (zO dw) Iv (jM 2 agM (jM 3 agO (ou 4 agP (ou 5 (vj 6 (gG (rC agS Pq Bl agR) Pp Pp wK wK) Pq agT (lf kL) agQ [FV,lj]) (ou 6 (vj 7 (gG (rC agV Pr Bl [Zu,Zx]) wK wK Ad Ad) Pr Zv (lf jw) agU [Iu,pX]) (ou 7 (vj 8 (gG (rC agY Pu Bl agX) Ad Ad Ps Ps) Pu Zy (lf jg) agW [zY,m7]) (ou 8 (vj 9 (gG (rC ag1 Py Bl ag0) Pw Pw Ae Ae) Py Zz Pv agZ ZA) (jM 9 (jM 10 (gG (rC PB (eQ (rC PB PD (.v 4) [ZC,ZF]) Ae Ae) Bl ag2) Pz Pz PA PA) ZD ZE La) (ot 10 (Iy (eQ (Iy (dt PH PH PD C3 HE) ag4) PF PF) ag3) (jT oS) (lf ij) PE PE La) Pv TV) ZB m7) Zw pX) Zo lj) Zt uZ) (pB dP) yj) TZ agN) OI agK)) TR arf) arj Y6 Ig Ig)) KP oM [iM (pW 0) (pW 1) (pW 2) (pW 3)]) (tU 1 (mY 67 (.aJ (zO dw) Iv arj) TR oM arf) (jM 2 agM (jM 3 agO (ou 4 agP (ou 5 (vj 6 (gG (rC agS Pq tj agR) Pp Pp wK wK) Pq agT (lf kL) agQ [FV,lj]) (ou 6 (vj 7 (gG (rC agV Pr tj [Zu,Zx]) wK wK Ad Ad) Pr Zv (lf jw) agU [Iu,pX]) (ou 7 (vj 8 (gG (rC agY Pu tj agX) Ad Ad Ps Ps) Pu Zy (lf jg) agW [zY,m7]) (ou 8 (vj 9 (gG (rC ag1 Py tj ag0) Pw Pw Ae Ae) Py Zz Pv agZ ZA) (jM 9 (jM 10 (gG (rC PB (eQ (rC PB PD Bk [ZC,ZF]) Ae Ae) tj ag2) Pz Pz PA PA) ZD ZE La) (ot 10 (Iy (eQ (Iy (dt PH PH PD oM HD) ag4) PF PF) ag3) (jT oS) (lf ij) PE PE La) Pv TV) ZB m7) Zw pX) Zo lj) Zt uZ) (pB dP) yj) TZ agN) OI agK) Y6 Ig Ig) TP Ie Ie) pO (lW qP iH) (lW qO iH)) [eH,aM,afI]) Bq (gO oQ lC) [i7]
def BM:T:=mX 174 (.aJ (lW tH (.c 300)) (jK Dh) ars) ars (fJ tH) [i7,eH] [dp,dp,dp,dp,dp,dp,dp,dp,dp,dp,dp,dp,dp,dp,dp]
def T90:T:=An 73 (P7 34 (zE (aV pU)) (P7 41 (zE OL) (An 74 (ot 0 (dt (BJ [PJ,Oa,Tv,ZH,pC 4,pC 5,pC 6]) (eQ (jM 1 aru (eQ (jM 2 arx (BJ [PJ,kN,pC 12,pC 13,pC 14,pC 15,pC 16]) ZN arv) ZI ZJ) ZK art) ZI ZJ) (eQ (jM 1 aru (eQ (jM 2 arx (BJ [PJ,.bool (eP Iz K4),pC 12,pC 13,pC 14,pC 15,pC 16]) ZN arv) ZI ZJ) ZK art) ZI ZJ) (.cell tC oR 17) tj) (jM 1 (gG (.aS (Dq T1 ZP ZQ ZR ZS) (PK ary ary arz arz (xZ T1 Bk ZP Bl (xZ ZQ (.v 4) ZR (.v 5) (.dv ZS (.v 6) gA))) tj (fJ ahg))) (.and ZL ahf) (kg IB IB qI) (OY (dQ IB) (gP IB) (iS IB)) (.and ZL ahf)) (An 98 (mW 70 (ot 2 (An 171 (jS 98 (dt (zE (dR 92)) (mW 70 arC ahh ahh px) (mW 70 arC arD ahh px) (wC 92) (.v 7)) [ZT,lF C6 (.v 74),lF C6 (.v 75)] px) (wC 87) [.agg [H8,H9,OS,T3,dR 65,PL,dR 67,Lk,Ll,Ln,Lq,Lr,Ls],.agg [sD 0,sD 1,sD 2,sD 3,sD 4,sD 5,sD 6,sD 7,sD 8,sD 9,sD 10,sD 11,sD 12,sD 13],iM (sD 14) (sD 15) (sD 16) (wJ 17 K2 tC)] Tm (dR 87) H3) (jT arD) (cL K2 wD) arB arB [aM,K1,FD,FE,FF,iJ,kY,jf,j8,gN,oh,nQ,rq,ru,sj,tG,qM,uW,kz]) arA arA px) (fJ OT) [ZT,lF C6 fp,lF C6 dw] Tm KZ px) ahf [aM,C9 bJ ZO,aV ZO,C9 bJ ZO,aV ZO]) ahe (.and ZG ahe) (.and ZG ahe) [aM,kz,kz,kz,kz,kz,kz]) pO [qK,uT] Tm (nR 270) [nV 227,.bool]) (fJ m6) [wu,HV,KR,Ft,Tz,TA,TC,TE,zQ,zP,On,Fu,dR 32,aV Fv,aV Bu,aV FG,aV tJ]) (fJ pU) YO) (fJ tH) [.agg [j9,iG,gL,kX,pN,HM,oN,KM,zH,qJ,wt],eH,jx] Tm Dh H0
def fq:T:=jS 113 (dt (jK (aV Bu)) (tU 0 (P7 41 (DK (jK (nR 280)) (wL 1 (BD 1 1 [kC 0 tH,kC 0 tH,kC 1 tH,kC 2 tH,wJ 3 tH uR] (gW tH) wu TJ) (jS 73 (eQ (ot 2 (jS 171 (dt (Lg [gW m6,KV,FF,FA,K3,H4,H5,H6,H7,H8,H9,OS,T3,dR 65,PL,uT]) (wQ m8 m8 (ik F1 m8 ahi BH (gO (tR 8 m6) (iT 4))) F2 FZ FY F0) (dt (wQ m8 m8 (ik F1 m8 ahi BH (gO (tR 8 m6) (iT 5))) F2 FZ FY F0) (wQ (wN T5 (mD (iT 12) (iT 13) PU ZX ZY ZZ) F1 m8 ahj ahk) (OX pZ pZ (nT 219 219 (gG (jJ 220 F1 m8 (gO (DA KO (mD (iT 6) (iT 7) (iT 8) ZX ZY ZZ) ahm) (DA tu (mD (iT 9) (iT 10) PW ZX ZY ZZ) (.v 89))) [KN,ZW]) ahj ahk ahj ahk) [ahl,aV pZ] [lD (By TK HX (mD KY OT OA (iS pZ) (kP pZ) (jL pZ)) (dQ pZ) (gP pZ)) (By HW OP (mD HY HZ (.v 53) (iS pZ) (kP pZ) (jL pZ)) (dQ pZ) (gP pZ)),aV pZ] rp rp) (Dq (dQ pZ) (gP pZ) (iS pZ) (kP pZ) (jL pZ))) T7 F2 FZ FY F0) (dt (wQ arJ (OX p7 p7 (nT 219 219 (gG (jJ 220 F1 m8 (gO (DA KO (mD (iT 6) (iT 7) (iT 8) Z0 Z1 Z2) ahm) (DA tu (mD (iT 9) (iT 10) PW Z0 Z1 Z2) (.v 89))) [KN,ZW]) ahn aho ahn aho) [ahl,aV p7] [lD (By TK HX (mD KY OT OA (iS p7) (kP p7) (jL p7)) (dQ p7) (gP p7)) (By HW OP (mD HY HZ (.v 53) (iS p7) (kP p7) (jL p7)) (dQ p7) (gP p7)),aV p7] rp rp) (Dq (dQ p7) (gP p7) (iS p7) (kP p7) (jL p7))) T7 F2 FZ FY F0) (wQ (.aJ (gO T5 PU) F1 m8) (nT 219 219 (jJ 220 F1 m8 (gO (kO (kO KO (iT 8)) ahm) (kO (kO tu PW) (.v 89))) [KN,ZW]) [ahl,zN] [lD FD FE,zN] rp rp) T7 F2 FZ FY F0) (mZ (Ur (Un (.aJ PQ m8 (.aJ PS m8 T7)) F0 []) F2 FZ FY) (wQ m8 m8 (dt m8 arK Ib BH Ly) F2 FZ FY F0) (Ur (Un (.aJ PQ arJ (.aJ PS m8 T7)) F0 []) F2 FZ FY) (wQ m8 (DK m8 (.stuck "") (xZ (gP rD) gA (iS rD) gA (FJ (kP rD) (jL rD) (xZ ahp ld ahq gA (.dv ahr gA arL))))) (PK m8 arK m8 Ib BH Ly (xZ (gP rD) gA (iS rD) gA (xZ (kP rD) gA (jL rD) gA (xZ ahp gA ahq gA (.dv ahr ld arL))))) F2 FZ FY F0) ahq ahr (eP rD Bi)) (jL rD) ahp) (iS rD) (kP rD)) arH (gP rD)) [.agg [YP,ON,zR,TL,OO,KW,OQ,TN,Fz,KZ,K1,FD,FE],ZW,iM (aV (IC 1 1 PN bJ ke)) arG (aV T5) (.bool arH)] H3) arM (cL m6 lg) arF arF [aM,jx,iJ,kY,jf,j8,gN,oh,nQ,rq,ru,sj,tG,qM,uW,cQ]) ZV ZV) YJ H0) (tI tH) (tE tH (tI tH)) (tE tH (tI tH))) (.not (zO FG))) (mC 0 (gW FG)) (fJ tJ) [FM 0 FG oP,tX 1,tX 2,tX 3,tX 4,tX 5,tX 6,tX 7,tX 8,tX 9,tX 10,tX 11,tX 12,tX 13,tX 14,tX 15,tX 16]) (wL 1 (BD 1 1 [kC 0 tJ,kC 0 tJ,kC 1 tJ,kC 2 tJ,wJ 3 tJ uR] (gW tJ) wu TJ) (jS 73 (eQ (ot 2 (jS 171 (dt (Lg [gW pU,FD,FE,FF,FA,K3,H4,H5,H6,H7,H8,H9,OS,T3,uT]) (wQ m9 m9 (ik F6 m9 ahs BH (gO (tR 8 pU) (iT 4))) F7 F4 F3 F5) (dt (wQ m9 m9 (ik F6 m9 ahs BH (gO (tR 8 pU) (iT 5))) F7 F4 F3 F5) (wQ (wN Ua (mD (iT 12) (iT 13) PU Z4 Z5 Z6) F6 m9 aht ahu) (OX p8 p8 (nT 219 219 (gG (jJ 220 F6 m9 (gO (DA KO (mD (iT 6) (iT 7) (iT 8) Z4 Z5 Z6) ahw) (DA tu (mD (iT 9) (iT 10) PW Z4 Z5 Z6) PM)) [KN,Z3]) aht ahu aht ahu) [ahv,aV p8] [lD (By FC TK (mD HX KY OT (iS p8) (kP p8) (jL p8)) (dQ p8) (gP p8)) (By (.v 43) HW (mD OP HY HZ (iS p8) (kP p8) (jL p8)) (dQ p8) (gP p8)),aV p8] rp rp) (Dq (dQ p8) (gP p8) (iS p8) (kP p8) (jL p8))) Uc F7 F4 F3 F5) (dt (wQ arQ (OX p9 p9 (nT 219 219 (gG (jJ 220 F6 m9 (gO (DA KO (mD (iT 6) (iT 7) (iT 8) Z7 Z8 Z9) ahw) (DA tu (mD (iT 9) (iT 10) PW Z7 Z8 Z9) PM)) [KN,Z3]) ahx ahy ahx ahy) [ahv,aV p9] [lD (By FC TK (mD HX KY OT (iS p9) (kP p9) (jL p9)) (dQ p9) (gP p9)) (By (.v 43) HW (mD OP HY HZ (iS p9) (kP p9) (jL p9)) (dQ p9) (gP p9)),aV p9] rp rp) (Dq (dQ p9) (gP p9) (iS p9) (kP p9) (jL p9))) Uc F7 F4 F3 F5) (wQ (.aJ (gO Ua PU) F6 m9) (nT 219 219 (jJ 220 F6 m9 (gO (kO (kO KO (iT 8)) ahw) (kO (kO tu PW) PM)) [KN,Z3]) [ahv,zN] [lD KZ K1,zN] rp rp) Uc F7 F4 F3 F5) (mZ (Ur (Un (.aJ PQ m9 (.aJ PS m9 Uc)) F5 []) F7 F4 F3) (wQ m9 m9 (dt m9 arR Ib BH Ly) F7 F4 F3 F5) (Ur (Un (.aJ PQ arQ (.aJ PS m9 Uc)) F5 []) F7 F4 F3) (wQ m9 (DK m9 (.stuck "") (xZ (gP rF) gA (iS rF) gA (FJ (kP rF) (jL rF) (xZ ahz ld ahA gA (.dv ahB gA arS))))) (PK m9 arR m9 Ib BH Ly (xZ (gP rF) gA (iS rF) gA (xZ (kP rF) gA (jL rF) gA (xZ ahz gA ahA gA (.dv ahB ld arS))))) F7 F4 F3 F5) ahA ahB (eP rF Bi)) (jL rF) ahz) (iS rF) (kP rF)) arP (gP rF)) [.agg [OL,KV,YP,ON,zR,TL,OO,KW,OQ,TN,Fz,KZ,K1],Z3,iM (aV (IC 1 1 PY bJ ke)) arO (aV Ua) (.bool arP)] H3) arM (cL pU lg) arN arN [aM,iJ,kY,jf,j8,gN,oh,nQ,rq,ru,sj,tG,qM,uW,cQ]) ZV ZV) YJ H0) (tI tJ) (tE tJ (tI tJ)) (tE tJ (tI tJ))) (cL FG oQ) arE arE) (jK (nR 280)) (fJ Bu) (t6 oQ)) [i7,eH,jx,.agg YO,qJ] H3
def aiQ:T:=jJ 40 (iL ahC jx) (IF 0 (dt (eQ (jJ 106 (nU (gW Lz) kY) (nU iJ (aV Lz)) (pB gF) [f9 0 Lz (.v 4),eH]) (kg Lz Lz Da) (kg Lz Lz Da)) (eQ (jJ 106 (iL ahC (nR 300)) (eQ (oq [wP 0,aV YI,wP 2,wP 3,wP 4,wP 5,wP 6,wP 7,wP 8,wP 9,wP 10,wP 11,wP 12,wP 13]) OG OG) (.not Bs) [wP 0,eH]) OG OG) (iL ahC (nR 300)) (cL fp dw) af5) [aM,aV Da]) Bq [i7]
def T63:T:=mX 71 YG (Ah 0 (kh (nU Tp wt) YK [iJ] YL) (ot 1 (BG 0 0 0 (BG 0 0 0 (gG (IW 0 (im 1 uU qK) (.set (.ak uS) Uf 0 [Ot (iE (HQ oP) pR) arT]) []) ld ld (kg Uf Uf yb) (kg Uf Uf yb)) pR (.dE 0 ahE [uO dw oP]) J) ke (.dE 0 ahE [HQ oP]) J) (ou 2 (BG 0 0 0 (im 2 xY uT) pR (.dE 0 ahE [gF]) J) (jT wu) (ye gF) wt) ahD (HO ahD) (HO ahD) [aM,qJ]) X7) Bq [i7,eH] [nV 188,dp]
def IY:T:=Bm yb PZ fo (ik fo arY arY (gO iH Fo) (eN iH (.c 12))) (LA Da 40)
def Uu:T:=wv iH lC fo arZ arZ (gO iH qI)
def aiS:T:=wv Tg PZ (wm (eN (pS 3) PZ)) fo fo (eN ww PZ)
def aiT:T:=tW (wM (fZ Bp) Of Tt) (fZ cQ) Ts
def aiU:T:=wL 0 (mZ fo fo fo (BD 1 0 [aV Dr,kN] Oj HL (.ak py)) (pB Dr) (qL Dr cK) (BF 1 1 Dr bJ py)) wn Tu Fs Fs
def aiV:T:=DR 15 (iL P4 jf) LD (mZ LD LD LD (eQ (mZ LD LD LD (tW (DP 0 (tW (DP 0 (IS 0 (DH ar0 (IT 0 ar1 DF DF II aae) (IX (IT 0 ar1 DG DG II aaf) ar0) tV tV IG Bw) (DH ar2 (IT 0 ar4 DF DF II aae) (IX (IT 0 ar4 DG DG II aaf) ar2) tV tV IG Bw) Pt yg FN zU) wF Lh wG FU) (Uo (Af 0 (wM (DH ar5 aai (IX aaj ar5) tV tV IG Bw) aag aah) Fq) (DH (jT ahL) aai (IX aaj (jT ahL)) tV tV IG Bw)) P5) Ii FB Ij Dj) (tW (DP 0 (Uo (Af 0 (wM (DH ar6 (IT 0 ar7 DF DF P6 aae) (IX (IT 0 ar7 DG DG P6 aaf) ar6) tV tV IG Bw) aag aah) Fq) (DH ar8 (IT 0 ar9 DF DF P6 aae) (IX (IT 0 ar9 DG DG P6 aaf) ar8) tV tV IG Bw)) Ii Lh Ij FU) (IS 0 (DH asa aai (IX aaj asa) tV tV IG Bw) (DH asb aai (IX aaj asb) tV tV IG Bw) Ii yg Ij zU) P5) ahJ) (dQ aac) (pB dw) (gO dw lC)) Il Il) (qL ez zI) (pB fp) (qL fp lX)) (fJ gF) (pB ez) F8
def aaK:T:=DR 26 (fZ jx) (ik (ik nc (qR 0 (jh (jh nc KP OZ OZ (Gb aac (P3 fp pR P1))) nc Il Il (zO aac)) (qR 1 (jh (jh asd ase aak aak (dQ (HQ HN))) ase tK tK (gP IK)) oo (cL dw wD)) (cL fp lX)) nc (t6 wD) (.not (t6 zI))) nc nc (zO jI) (ye jI)) nc Bq (eN lX lg) [pD]
def aiW:T:=DR 40 (fZ eH) (ik (ik zJ (qR 0 (jh zJ (mC 0 P2) P0 P0 (Gb (.len ahG) lC)) (IF 1 (zC qO bJ (eQ (jJ 41 (fZ kY) (mC 1 Tp) (fJ dw) age) Ie Ie) (DK nc (qR 2 (jh (Gc 42 nc (mC 2 uU) [.ak (oT dw ke Lj),aV qP]) nc Ig Ig (t6 (.len (oT dw ke Lj)))) (tU 3 (tU 4 (qN 43 nc (mC 4 Zb) (.not (dQ jg)) arh jf px) (mW 44 (tU 5 (ik nc (qR 6 (IA (eQ (ik asg (LG nc asg aam aam (dQ (.len (oT kL aal uV)))) nc (.beq ahS (BC ahR Ui)) ahS) asf asf) It ahQ It ahQ (fD kL lX It) (fD kL lX It)) (mC 5 FV) ahQ) nc (t6 (.len Ui)) (.not (t6 (.len aal)))) (mC 3 xY) ahP (.and (gM kZ) ahP) (.and (gM kZ) ahP)) i7 jf [yw,dp]) TZ Zs Zs) (wL 4 (BD 1 4 [f9 0 iK (.v 4),.bool (lW (Dd 3 iK) cJ)] Zb xU Dj) (tU 5 (ik (mC 5 Pd) (LG nc (mC 5 Pd) ash ash (gO agj (iE (se dP) uS))) nc (BF 1 1 agj bJ tB) Bt) oo (cL dP yb) Zc Zc) ahT (.and BA ahT) (.and BA ahT)) OI OJ OJ) Y6) (eP lg lT)) nc TP) zL) aab) zJ (eN qO lC) (Gb lT (.c 64))) zJ zJ (eN iH (.c 12)) (eN qP OF)) zJ X5 (eN oQ lC) [i7]
def asF:T:=jJ 26 nf (wL 0 (jS 27 (Ag 0 (vk 0 (nU P2 uZ) FB yg (vd [xU]) Dj zU) YO) [iM (FM 0 ez j7) (DO 1 ez) (DO 2 ez) (DO 3 ez)] H3) (wM (oq [cQ,aM,qK,xU,kz]) (.and (gM lX) FB) (.xp lX zL)) (lf ez) (.and wO (lf ez)) (.and wO (lf ez))) X5 [pD]
def asG:T:=uY nf (uY nf (uY nf (oq [aV Ye,aV Yi,gL,aM,aM,aM,aM,aM,aM,aM,aM,aM,aM]) HD [gL,aM,aV zD]) oM [iG,aM,Tn]) pO [j9,aM,Tn]
def Uv:T:=.aJ Od (DR 15 (pQ [P4,cQ,iJ]) (pQ [P4,cQ,dY]) (tW (DP 0 (tW (DP 0 (IS 0 (vk 0 (BK pA m7 nW cQ) yi TW DL rB Is) (vk 0 (BK nW m7 cQ cQ) yi Pt DL rB FN) Pt yg FN zU) wF Lh wG FU) (Uo (Af 0 (wM (vk 0 (BK nW cQ m7 cQ) yi Pt DL rB FN) aag aah) Fq) (vk 0 (BK m7 cQ cQ cQ) yi wF DL rB wG)) P5) Ii FB Ij Dj) (tW (DP 0 (Uo (Af 0 (wM (FW 0 (BK nW lj m7 cQ) Pt DL FN) aag aah) Fq) (FW 0 (BK m7 lj cQ cQ) wF DL wG)) Ii Lh Ij FU) (IS 0 (FW 0 (BK m7 cQ lj cQ) wF DL wG) (FW 0 (pQ [ahL,cQ,aM]) Ii DL Ij) Ii yg Ij zU) P5) ahJ) De (qL lX lg) F8) (jS 37 (dt (pQ [P4,cQ,iJ]) asi (mY 38 asi (tW (DP 0 (tW (DP 0 (IS 0 (vk 0 (LH (jM 0 (jh (Am su zZ FT) (vk 0 (gG (LH (jh (Al 0 (IJ dw (Al 0 (Am Zq (uQ 28) (uQ 29)) (pz (pS 24)) (pz (pS 24)) (.set (BB 24) dw 0 aas)) (pz Pn) [uQ 27] Pb) (pz Pn) ld aar) (Am Zq zZ FT) IP IP aaq)) tK tK DJ DJ) (kf (pS 22)) (kf (pS 25)) aap TU (BB 25)) IN IN aan) (BK vf zZ FT su) Uj [aM,cQ,qQ,oS])) wF (kf FR) IM wG Pg) (vk 0 (Qd 0 ahU [aM,cQ,qQ,cQ]) wF Px IM wG FQ) Px yg FQ zU) Du Lh ym FU) (IS 0 (vk 0 (Qd 0 ahU [aM,cQ,cQ,qQ]) wF Px IM wG FQ) (vk 0 (Qd 0 ahV Y5) wF Du IM wG ym) Du yg ym zU) P5) yi FB rB Dj) (tW (DP 0 (IS 0 (FW 0 (Qd 0 ahU [aM,cQ,pX,qQ]) Px IM FQ) (FW 0 (Qd 0 ahV [aM,cQ,pX,cQ]) Du IM ym) Du yg ym zU) yi Lh rB FU) (IS 0 (FW 0 (Qd 0 ahV [aM,cQ,cQ,pX]) Du IM ym) (FW 0 (LH (jM 0 (jh (Am m7 qQ nW) (vk 0 (gG (LH (jh (Al 0 (IJ dw (Al 0 (Am pA su zZ) (pz Ld) (pz Ld) (.set FQ dw 0 aas)) (pz (pS 17)) [vf] FN) (pz (pS 17)) ld aar) (Am pA qQ nW) IP IP aaq)) tK tK DJ DJ) Du TW aap ym Is) IN IN aan) (BK pX qQ nW m7) Uj Y5)) yi IM rB) yi yg rB zU) P5) ahJ) oM [pD,sx,uZ]) De Bj) IL [nV 132,dp])
def aaL:T:=jJ 47 (jK iJ) (jS 48 (Ah 0 (jh (kh aau yi [kY] rB) (nU uU lj) P9 P9 (BC dw ss)) (jT lj) aat) IL [.ak Ds]) De IL
def aiX:T:=eQ (Ah 0 (IA (kh (nU P2 xU) FB [FM 0 Qa uR,tZ 1,tZ 2,tZ 3,tZ 4,tZ 5,tZ 6,tZ 7,tZ 8,tZ 9,tZ 10,tZ 11,tZ 12,tZ 13,tZ 14,tZ 15,tZ 16] Dj) wO ahW wO ahW (kg Qa Qa qP) (kg Qa Qa qP)) (fZ qK) ahW) aaa aaa
def aiY:T:=tU 0 (nT 55 58 (dt asl asl (mC 0 P2) oM De) [pD,eH] [i7,afJ,lj,.agg [f9 0 ez ss,FL 1 ez ss Ds,FL 2 ez ss If,FL 3 ez ss If,FL 4 ez ss Ug,FL 5 ez ss (.sl 139)]] [nV 85] Og) wn ahX (.and wO ahX) (.and wO ahX)
def aaM:T:=FX 15 (mZ (fZ iJ) C8 C8 (wN ez (.len Ul) C8 oo Qb Qb) De (qL lX lg) (cL ez cJ)) F8
def aiZ:T:=mW 44 (Ah 0 (wN IK cJ (eQ (tO 1 aau [zM 0 ss,gW (IC 1 1 (HQ ss) bJ Bz)] rB) P9 P9) (nU uU lj) tK tK) (Ah 1 (gG (eQ (jh (kh (im 1 xY m7) wF [.bool (dQ (IC 1 1 aax bJ Bz))] wG) (kh (im 1 xY m7) wF [kz] wG) asm asm (BC gF (oT Um Ul Ds))) aaw aaw) aav aav Qb Qb) (fZ pX) ahY) aat) i7 aao [yw,dp]
def aaN:T:=Uq 30 31 (jJ 16 wn (FX 16 (wm (gO fp Db)) F8) (eN ez (.c 40)) F8) oM HD [pD] [sx]
def aaO:T:=An 28 (wL 0 (qN 29 (tO 1 aau [Tq,kN] rB) (tO 1 aau [Tq,.bool (gP (Dd 3 dw))] rB) tj uT Tq [dp,.bool]) (gG (ou 1 (gG (ot 2 (ik (Dz 2 FV) (Dz 2 oh) (Dz 2 oh) (BF 1 1 (iE dP ahZ) bJ Bz) (.not (.cell ahZ dP 3))) (im 1 xY oh) ah0 (.and wI ah0) (.and wI ah0) [aM,j8]) aav aav aso aso) (jT j8) ahY aM) Qb Qb aaw aaw) X8 Oe Oe) De IL aM iJ [yw,dp]
def ai0:T:=Bm ww (.c 40) fo (C5 (qR 0 (wN (P3 cY py If) KH fo X9 Om Om) wn (cL cY ww)) (LA Tg 40)) (LA iH 100)
def aaP:T:=vj 0 (eQ (nU P2 (lF fp (oO cJ (.len ahG)))) P0 P0) asp asp aab (eN fp Db) [aao,dY]
def ai1:T:=IF 0 (dt (eQ (ik (nU (gW IQ) gL) asq asq (lW ah1 ah1) (.not afF)) (kg IQ IQ iH) (kg IQ IQ iH)) (jh (iL iG kN) (jh (iL iG (.bool afF)) (iL iG kz) Fs Fs (lW Dr Dr)) Fs Fs (eP Dr cK)) (iL iG kz) (cL cY gK) Tu) [aM,aV iH]
def asH:T:=nT 10 11 (nT 12 12 (nT 12 8 (nT 8 8 (nT 8 8 (dt nf nf (dt nf nf (dt nf nf (dt nf nf (PK nf (Af 0 (mY 13 (ik (Af 0 (mY 13 (ik (Af 0 (mY 13 (.aJ (gP ol) (wm (gP pP)) nf) nf Bl [pX,pA]) (.lit [[dY],zL])) nf nf (dQ iw) (dQ ij)) nf Bk [lj,oS]) (.lit [zL,zL])) nf nf (gP kL) (eP jw xW)) nf tj [uZ,nW]) (.lit [[dY],zL])) nf nf (dQ (.v 28)) (gP fp) Bs) (wC 22) (lW (.v 25) cJ)) Im XY) (fJ iK) (lW kZ cJ)) Bq (fJ dw)) [pD,sx,HI] [.agg [aM,aM,aM,aM,aM,cQ,aM,cQ,cQ,cQ,cQ,cQ,cQ,cQ,cQ,cQ],sx,aM] IR IR) [pD,sx,aM] [pD,sx,dY] IR IR) [pD,sx,aM] [pD,sx,aV Bi] zB IR) [pD,sx,dY] [pD,sx,tq] zB zB) [] [pD] [dp,dp,dp,dp,dp,nV 92,dp,nV 94,nV 255,nV 257,nV 89,nV 141,nV 85,nV 39,nV 63,yw] asr
def asI:T:=Ag 0 (Ag 0 (Af 0 (nT 25 25 (jS 25 (IW 0 (IW 0 (IW 0 (IW 0 (IW 0 (IW 0 (IW 0 (fZ (.agg [aV C7,aV KH,dY,aM,dY,Fp,tq,Bp,cQ,cQ,HL,cQ,uT,xU,lj,pX])) (vd [pw]) []) (.lit [[yj],[uZ]]) []) (vd [wt,wu]) []) (.lit [[HM,KM],[zH,qJ]]) []) (vd [qK]) []) DL []) (vd [.ak (.k (.string ⟨#[98]⟩)),aV PZ,nR 60,dY,zN,tq,dY,dY,dY,nR 90,nR 90,nR 90,pw,pw,pw,nR 100,nR 30]) []) [iM zN aM aM kz] ah2) [iM pw aM aM kz] [iM pw aM aM kN] ah2 ah2) (.lit [[pw,aM,aM,tq,dY,dY,dY,aM,zN,aM,aM,dY,dY,dY],[zN,aM,dY,dY,dY,dY,dY,aM,zN,aM,aM,dY,dY,dY]])) [aM,Tn,aM]) [.ak (.k (.string ⟨#[97]⟩)),Ol,Ol,aM]
def asJ:T:=Ag 0 (Ag 0 (Ag 0 (fZ (lD Fp HL)) [Bp]) [j9,iG,gL,tD]) [kN]
def asK:T:=.aJ (lW iH ww) nf (tU 0 (jh nf (mC 0 (gW cK)) ast ast (lW Yd (iE cK py))) wn Tw wz wz)
def ai2:T:=jS 22 (ot 0 (jS 23 (BJ [xY,pA,gN,vf,su,ZH]) [pD,asu,.agg [f9 1 gF Dt,f9 2 gF Dt,f9 3 gF Dt]] asr) (fZ asu) ah3 (KT ah3) (KT ah3) [aM,uZ,iJ,lj,pX,Oa]) IL [yw,dp,nV 111,yw,.bool,nV 79,dp]
def ai3:T:=FX 15 (mZ (pQ [cQ,aM,aM,iJ]) asv asv (wM (ou 0 (wN asw Db (pQ [cQ,aM,aM,tq]) (nU uU (aV asw)) P9 P9) (jS 308 (pQ [lj,gN,j8,aM]) [sx,cQ,aM,pD,sx,jx,aM,lD cQ HI] ah4) aat dY) (.and (gM lX) (eN lX lg)) (.sub (.ak pR) lX lg)) De (pB ez) (gO ez Db)) F8
def aaQ:T:=ik (jS 35 (iL jf (lD nW iG)) [HM] [yw]) (iL jf (lD qQ j8)) (IF 0 (eQ (ik (.aJ pO (jS 21 (dt asy asy (nT 12 20 (kh (jS 308 (BJ [Pd,qM,zZ,uW]) [DE oS tG pA vf ZH,su,zF cY jg,aay,asA,kY,FV,lD nW nQ] ah4) (kf (pS 3)) [gN] (BB 3)) ah5 ah5 zB asz) HD (fJ jw)) ah5 Og) ah6) ah6 ah6 (eN dP (P3 iH HN P1)) (cL kZ dw)) (kg iH iH zI) (kg iH iH zI)) [dY,jf,qQ,j8]) (eP iH zI) (gO cY iK)
def aaR:T:=An 37 (Dg 38 (jT Oa) [pD,sx,uZ]) De IL kz iJ [nV 132,dp]
def ai4:T:=mY 14 (jJ 15 (wv ez Db (FX 16 (wm (eN dw Db)) F8) fo fo (zO ez)) fo N9 F8) fo tj F8
def ai5:T:=mY 6 fo (Dy 7 wn (Dg 7 (zC ez fp wn wn (nT 8 8 (dt fo fo (Bm gF kZ fo (jS 8 (dt fo fo (dt fo (dt fo fo asB (fJ dw) (fJ gF)) asB Im Od) HG (fJ jw)) [pD,DE qK eH xU yj kN,iJ] IR) (gO dw dP)) (fJ iK) TQ) IL [pD,sx,iJ] IR IR) C3) [pD,sx,iJ]) IL) oM []
end
def vn:Nat->Nat
 |0=>11|d+1=>18+3*d
def IZ(j:Nat):List C:=(dj 13).map λq=>.int I (.cell (.cell (.v (vn j)) (.c 0) 0 (.sl 108)) (.v (12+j)) q)
def Uw:Nat->T->T
 |0,t=>t|n+1,t=>.aS (.c J) (Uw n t)
def Qe:List C:=[(.int I (.v 0)),(.int I (.v 1)),(.int I (.v 2)),(.int I (.v 3)),(.int I (.v 4)),(.ak (.v 0)),(.int I (.v 5)),(.ak (.v 1)),(.ak (.v 2)),(.ak (.v 3)),(.ak (.v 4))]
def acT(d:Nat):T:=
 .call 55 [(.agg (Qe++[(.ak (.v 5)),(.ak (.v 6)),(.ak (.v 7)),(.ak (.v 8)),(.ak (.v 9))])),(.int I (.v 6))] [] [] [(.ak (.sl 85))] .any
  (.call 54 [(.agg Qe),(.agg [(.ak (.v 5))]),(.ak (.v (21+5*d))),(.int I (.len (.v 10))),(.ak (.v 13)),(.ak (.v (20+5*d))),(.ak (.v (17+3*d)))] [] [] [(.int I),(.ak (.sl 4)),(.ak (.sl 108)),(.ak (.sl 108)),(.ak (.sl 101)),(.ak (.sl 139)),(.int I)] .any
  (.aJ (.cmp .neq (.v (14+d)) (.c 0))
  (Uw (d+1) (.ret (.bI [(.ak (.k (.slice Z 0 0))),(.int I (.v (14+d)))]) [] []))
  (.aS (.c J)
   (.new 0 (.lit [[(.int I (.v (13+d))),(.ak (.v (22+5*d))),(.ak (.v (23+5*d))),(.ak (.v (24+5*d))),(.ak (.v (25+5*d))),(.ak (.v (26+5*d)))]]) [] []
   (.aS (.and (.cmp .leq (.len (.v (16+3*d))) (.c 536870912)) (.cmp .leq (.len (.v (27+5*d))) (.c 536870912)))
   (.new 0 (.iA (.ak (.v (16+3*d))) (.ak (.v (27+5*d)))) [] []
   (Uw (d+1) (.back (2+d) [(.int I (.bin .add I (.v (12+d)) (.c 1))),(.ak (.v (28+5*d))),(.ak (.v (17+3*d)))]))))))))
def Ux(d:Nat):Nat->Nat->T
 |0,_=>acT d
 |j+1,m=>.aS (.c J)
  (.new 0 (.lit [IZ j]) [] []
  (.aS (.and (.cmp .leq (.len (.v (19+3*d+2*m))) (.c 536870912)) (.cmp .leq (.len (.v (18+3*d+2*m))) (.c 536870912)))
  (.new 0 (.iA (.ak (.v (19+3*d+2*m))) (.ak (.v (18+3*d+2*m)))) [] []
  (Ux d j (m+1)))))
def acI:Nat->List C
 |0=>[(.int I (.c 0)),(.ak (.k (.slice Z 0 0))),(.ak (.v 15))]|d+1=>[(.int I (.c 0)),(.ak (.v (16+3*d))),(.ak (.v (17+3*d)))]
def acE:Nat->T
 |0=>.ret (.bI [(.ak (.v 16)),(.int I (.c 0))]) [] []|d+1=>.back (2+d) [(.int I (.bin .add I (.v (12+d)) (.c 1))),(.ak (.v (19+3*d))),(.ak (.v (20+3*d)))]
def acL:Nat->Nat->T
 |0,d=>.loop (2+d) [] (acI d) (.stuck "fuel")
 |n+1,d=>.loop (2+d) [] (acI d)
  (.aJ (.cmp .lss (.v (12+d)) (.len (.cell (.v (vn d)) (.c 0) 0 (.sl 108))))
   (.aS (.and (.cmp .leq (.c 0) (.v (12+d))) (.cmp .lss (.v (12+d)) (.len (.cell (.v (vn d)) (.c 0) 0 (.sl 108)))))
   (.aS (.and (.cmp .leq (.c 0) (.v (12+d))) (.cmp .lss (.v (12+d)) (.len (.cell (.v (vn d)) (.c 0) 0 (.sl 108)))))
   (.aS (.cmp .leq (.c 1) (.len (.v (vn d))))
   (.new 0 (.sub (.ak (.v (vn d))) (.c 1) (.len (.v (vn d)))) [] []
   (.aJ (.cmp .eql (.len (.v (18+3*d))) (.c 0))
   (.aS (.c J)
   (.new 0 (.lit [IZ d]) [] []
   (.aS (.cmp .leq (.len (.v (19+3*d))) (.c 536870912))
   (.new 0 (.iA (.ak (.v (19+3*d))) (.lit [])) [] []
   (Ux d d 1)))))
   (.aS (.cmp .lss (.c 0) (.len (.v (18+3*d))))
   (.aS (.cmp .lss (.c 0) (.len (.v (18+3*d))))
   (acL n (d+1)))))))))
   (acE d))
def ai7:T:=(.call 47 [(.agg [(.int I (.v 0)),(.int I (.v 1)),(.int I (.v 2)),(.int I (.v 3)),(.int I (.v 4)),(.ak (.v 0)),(.int I (.v 5)),(.ak (.v 1)),(.ak (.v 2)),(.ak (.v 3)),(.ak (.v 4)),(.ak (.v 5)),(.ak (.v 6)),(.ak (.v 7)),(.ak (.v 8)),(.ak (.v 9))]),(.agg [(.ak (.v 10)),(.int I (.v 6)),(.ak (.v 11)),(.ak (.v 12)),(.bool (.v 0))]),(.int I (.v 7))] [] [] [.int I] .any (.aJ (.cmp .neq (.v 8) (.c 0)) (.ret (.bI [(.ak (.k (.slice Z 0 0))),(.int I (.v 8))]) [] []) (.loop 0 [] [(.int I (.c 0)),(.int I (.c 1))] (.aJ (.cmp .lss (.v 9) (.len (.v 11))) (.aS (.and (.cmp .leq (.c 0) (.v 9)) (.cmp .lss (.v 9) (.len (.v 11)))) (.aS (.and (.cmp .leq (.c 0) (.v 9)) (.cmp .lss (.v 9) (.len (.v 11)))) (.aJ (.cmp .gtr (.bin .mul I (.v 10) (.len (.cell (.v 11) (.v 9) 0 (.sl 108)))) (.c 256)) (.ret (.bI [(.ak (.k (.slice Z 0 0))),(.int I (.c 2))]) [] []) (.back 0 [(.int I (.bin .add I (.v 9) (.c 1))),(.int I (.bin .mul I (.v 10) (.len (.cell (.v 11) (.v 9) 0 (.sl 108)))))])))) (.call 48 [(.agg [(.int I (.v 0)),(.int I (.v 1)),(.int I (.v 2)),(.int I (.v 3)),(.int I (.v 4)),(.ak (.v 0)),(.int I (.v 5)),(.ak (.v 1)),(.ak (.v 2)),(.ak (.v 3)),(.ak (.v 4)),(.ak (.v 5)),(.ak (.v 6)),(.ak (.v 7)),(.ak (.v 8)),(.ak (.v 9))]),(.agg [(.ak (.v 10)),(.int I (.v 6)),(.ak (.v 11)),(.ak (.v 12)),(.bool (.v 0))]),(.int I (.v 7))] [] [] [.ak (.sl 4)] .any (.aS (.and (.cmp .leq (.c 0) (.len (.v 13))) (.cmp .leq (.len (.v 13)) (.c 536870912))) (.new 0 (.xp (.len (.v 13)) [(.ak (.k (.slice Z 0 0)))]) [] [] (.loop 1 [] [(.int I (.c 0)),(.ak (.v 14))] (.aJ (.cmp .lss (.v 11) (.len (.v 13))) (.aS (.and (.cmp .leq (.c 0) (.v 11)) (.cmp .lss (.v 11) (.len (.v 13)))) (.aS (.and (.cmp .leq (.c 0) (.v 11)) (.cmp .lss (.v 11) (.len (.v 13)))) (.aJ (.cell (.v 13) (.v 11) 0) (.aS (.and (.cmp .leq (.c 0) (.len (.v 10))) (.cmp .lss (.len (.v 10)) (.len (.v 8)))) (.aS (.and (.cmp .leq (.c 0) (.len (.v 10))) (.cmp .lss (.len (.v 10)) (.len (.v 8)))) (.aS (.and (.cmp .leq (.c 0) (.bin .sub I (.v 7) (.c 1))) (.cmp .lss (.bin .sub I (.v 7) (.c 1)) (.len (.cell (.v 8) (.len (.v 10)) 0 (.sl 100))))) (.aS (.and (.cmp .leq (.c 0) (.bin .sub I (.v 7) (.c 1))) (.cmp .lss (.bin .sub I (.v 7) (.c 1)) (.len (.cell (.v 8) (.len (.v 10)) 0 (.sl 100))))) (.aS (.and (.cmp .leq (.c 0) (.v 11)) (.cmp .lss (.v 11) (.len (.cell (.cell (.v 8) (.len (.v 10)) 0 (.sl 100)) (.bin .sub I (.v 7) (.c 1)) 1 (.sl 101))))) (.aS (.and (.cmp .leq (.c 0) (.v 11)) (.cmp .lss (.v 11) (.len (.cell (.cell (.v 8) (.len (.v 10)) 0 (.sl 100)) (.bin .sub I (.v 7) (.c 1)) 1 (.sl 101))))) (.aS (.and (.cmp .leq (.c 0) (.v 11)) (.cmp .lss (.v 11) (.len (.v 15)))) (.aS (.and (.cmp .leq (.c 0) (.v 11)) (.cmp .lss (.v 11) (.len (.v 15)))) (.new 0 (.set (.ak (.v 15)) (.v 11) 0 [(.ak (.cell (.cell (.cell (.v 8) (.len (.v 10)) 0 (.sl 100)) (.bin .sub I (.v 7) (.c 1)) 1 (.sl 101)) (.v 11) 0 (.sl 96)))]) [] [] (.back 1 [(.int I (.bin .add I (.v 11) (.c 1))),(.ak (.v 16))])))))))))) (.back 1 [(.int I (.bin .add I (.v 11) (.c 1))),(.ak (.v 15))])))) (.aJ (.cmp .eql (.len (.v 11)) (.c 0)) (.call 55 [(.agg [(.int I (.v 0)),(.int I (.v 1)),(.int I (.v 2)),(.int I (.v 3)),(.int I (.v 4)),(.ak (.v 0)),(.int I (.v 5)),(.ak (.v 1)),(.ak (.v 2)),(.ak (.v 3)),(.ak (.v 4)),(.ak (.v 5)),(.ak (.v 6)),(.ak (.v 7)),(.ak (.v 8)),(.ak (.v 9))]),(.int I (.v 6))] [] [] [.ak (.sl 85)] .any (.call 54 [(.agg [(.int I (.v 0)),(.int I (.v 1)),(.int I (.v 2)),(.int I (.v 3)),(.int I (.v 4)),(.ak (.v 0)),(.int I (.v 5)),(.ak (.v 1)),(.ak (.v 2)),(.ak (.v 3)),(.ak (.v 4))]),(.agg [(.ak (.v 5))]),(.ak (.v 16)),(.int I (.len (.v 10))),(.ak (.v 13)),(.ak (.k (.slice Z 0 0))),(.ak (.v 15))] [] [] [.int I,.ak (.sl 4),.ak (.sl 108),.ak (.sl 108),.ak (.sl 101),.ak (.sl 139),.int I] .any (.aJ (.cmp .neq (.v 13) (.c 0)) (.ret (.bI [(.ak (.k (.slice Z 0 0))),(.int I (.v 13))]) [] []) (.aS (.c J) (.new 0 (.lit [[(.int I (.v 12)),(.ak (.v 17)),(.ak (.v 18)),(.ak (.v 19)),(.ak (.v 20)),(.ak (.v 21))]]) [] [] (.aS (.cmp .leq (.len (.v 22)) (.c 536870912)) (.new 0 (.iA (.lit []) (.ak (.v 22))) [] [] (.ret (.bI [(.ak (.v 23)),(.int I (.c 0))]) [] [])))))))) (.aS (.cmp .lss (.c 0) (.len (.v 11))) (.aS (.cmp .lss (.c 0) (.len (.v 11))) (acL 12 0)))))))))))))
section
def eE(a b c d:Int):Bool:=decide (-1099511627776<=a)&&decide (a<=1099511627776)&&decide (-1099511627776<=b)&&decide (b<=1099511627776)&&decide (-1099511627776<=c)&&decide (c<=1099511627776)&&decide (-1099511627776<=d)&&decide (d<=1099511627776)&&decide (a<=b)&&decide (c<=d)
def BN(a b c d X W V Q:Int):Bool:= !(decide (a<=W)&&decide (X<=b)&&decide (c<=Q)&&decide (V<=d))
def aaV:aZ->jR
 |[.i a,.i b,.i c,.i d,.i X,.i W,.i V,.i Q]=>U (.ret (if eE a b c d&&eE X W V Q then[.b (BN a b c d X W V Q),.i 0] else[.b E,.i 150]))|_=>Z
def I0:Nat->List UInt8->UInt8->Int
 |_,[],_=>-1|k,x::l,b=>if x==b then k else I0 (k+1) l b
def aaW:aZ->jR
 |[.r s,.i b]=>match s.val with|.string t=>U (.ret [.i (I0 0 t.toList (UInt8.ofNat b.toNat))])|_=>U (.ret [.i (-1)])
 |_=>Z
def LJ:my:=λf X=>if f=151 then aaV X else if f=128 then aaW X else Z
def I1:FuncId->Option Fn
 |61=>U ⟨T82,E,E⟩|63=>U ⟨T84,J,E⟩|46=>U ⟨aib,E,E⟩|138=>U ⟨aic,E,E⟩|139=>U ⟨aid,J,E⟩|274=>U ⟨aie,J,E⟩|89=>U ⟨aaz,E,E⟩|127=>U ⟨aaA,E,E⟩|157=>U ⟨aaB,E,E⟩|280=>U ⟨aif,E,E⟩|273=>U ⟨aaC,E,E⟩|156=>U ⟨aaD,E,E⟩|106=>U ⟨aaE,E,E⟩|76=>U ⟨aaF,E,E⟩|99=>U ⟨T66,E,E⟩|70=>U ⟨T72,E,E⟩|67=>U ⟨T69,E,E⟩|98=>U ⟨aij,E,E⟩|118=>U ⟨T24,E,E⟩|276=>U ⟨ail,E,E⟩|219=>U ⟨aim,E,E⟩|88=>U ⟨ain,E,E⟩|124=>U ⟨aio,E,E⟩|125=>U ⟨aip,E,E⟩|272=>U ⟨aiq,E,E⟩|255=>U ⟨air,E,E⟩|220=>U ⟨ais,E,E⟩|68=>U ⟨T70,E,E⟩|100=>U ⟨T65,E,E⟩|58=>U ⟨T18,E,E⟩|40=>U ⟨T37,E,E⟩|110=>U ⟨T86,E,E⟩|111=>U ⟨T87,E,E⟩|112=>U ⟨T88,E,E⟩|146=>U ⟨aix,E,E⟩|176=>U ⟨aiy,E,E⟩|147=>U ⟨aiz,E,E⟩|184=>U ⟨aiA,E,E⟩|64=>U ⟨aiB,E,E⟩|73=>U ⟨T77,E,E⟩|107=>U ⟨aiD,E,E⟩|133=>U ⟨aiE,E,E⟩|90=>U ⟨aiF,E,E⟩|43=>U ⟨T25,E,E⟩|74=>U ⟨aaG,E,E⟩|115=>U ⟨T27,E,E⟩|34=>U ⟨T74,E,E⟩|87=>U ⟨aiJ,E,E⟩|62=>U ⟨T83,E,E⟩|41=>U ⟨T75,E,E⟩|71=>U ⟨T23,E,E⟩|45=>U ⟨Ut,E,E⟩|113=>U ⟨T89,E,E⟩|171=>U ⟨aaJ,E,E⟩|60=>U ⟨T81,E,J⟩|54=>U ⟨T13,E,J⟩|84=>U ⟨qa,E,J⟩|150=>U ⟨aiO,E,E⟩|145=>U ⟨BM,E,E⟩|114=>U ⟨T90,J,E⟩|148=>U ⟨fq,E,E⟩|174=>U ⟨aiQ,E,E⟩|44=>U ⟨T63,E,E⟩|30=>U ⟨IY,E,E⟩|23=>U ⟨aiV,E,E⟩|15=>U ⟨aaK,E,J⟩|11=>U ⟨asF,E,E⟩|22=>U ⟨Uv,E,E⟩|21=>U ⟨aaR,E,E⟩|28=>U ⟨aaL,E,E⟩|37=>U ⟨ai7,E,E⟩|26=>U ⟨aiW,E,J⟩|51=>U ⟨Uu,E,E⟩|52=>U ⟨aiS,E,E⟩|27=>U ⟨asG,E,E⟩|55=>U ⟨aiX,E,E⟩|38=>U ⟨aiY,E,E⟩|47=>U ⟨aaM,E,E⟩|48=>U ⟨aiZ,E,E⟩|42=>U ⟨aiU,E,E⟩|35=>U ⟨aiT,E,E⟩|6=>U ⟨asH,E,E⟩|14=>U ⟨aaN,E,E⟩|12=>U ⟨aaO,E,E⟩|10=>U ⟨asI,E,E⟩|8=>U ⟨ai3,E,E⟩|13=>U ⟨asK,E,E⟩|31=>U ⟨ai0,E,E⟩|16=>U ⟨aaP,E,E⟩|29=>U ⟨ai1,E,E⟩|25=>U ⟨asJ,E,E⟩|20=>U ⟨ai2,E,E⟩|308=>U ⟨aaQ,E,J⟩|5=>U ⟨ai5,E,E⟩|7=>U ⟨ai4,E,E⟩|_=>Z
def TB:lR:=⟨I1,LJ⟩
def gX(p:FuncId->aZ->aX->Prop)(R:aX->Prop)(f:FuncId)(W:aZ)(V:aL)(t:T)(O:aj)(L:ck):Prop:=∃o,p f W o/\(match o with|.ret X=>fA V X=J/\t.wp p R (O.ext X) L|.bp v=>R (.bp v))
def io(p:FuncId->aZ->aX->Prop)(R:aX->Prop)(o:aX)(W:aL)(t:T)(O:aj)(L:ck):Prop:=match o with|.ret X=>fA W X=J/\t.wp p R (O.ext X) L|.bp v=>R (.bp v)
def I2(c:Option PC)(X:aZ):Prop:=match c with|U c=>c.I X/\c.μ X<c.m|none=>False
section
variable{p:FuncId->aZ->aX->Prop}{R:aX->Prop}{O:aj}{L:ck}
def aAT{X W:aZ}{Q:aL}{t:T}(h:X=W):gX p R V X Q t O L=gX p R V W Q t O L:=by rw[h]
def aAU{o X:aX}{W:aL}{t:T}(h:o=X):io p R o W t O L=io p R X W t O L:=by rw[h]
def aAV{t:T}{X:aj}(h:O=X):T.wp p R t O L=T.wp p R t X L:=by rw[h]
def Qf(b:BE)(t f:T):T.wp p R (.aJ b t f) O L=(if b.ai O=J then t.wp p R O L else f.wp p R O L):=by
 simp only[T.wp,T.nP];cases b.ai O<;>simp
def yC(b:BE)(t:T):T.wp p R (.aS b t) O L=(b.ai O=J/\t.wp p R O L):=by simp only[T.wp,T.nP]
def Uy(v:C)(X:bm)(W:bo):T.wp p R (.ret v X W) O L=R (.ret ((zw v).map (C.xv O))):=by simp only[T.wp,T.nP]
def ai8(f:FuncId)(X:aq)(V:bm)(Q:bo)(W:aL)(fz:C)(t:T):T.wp p R (.call f X V Q W fz t) O L=gX p R f ((rk X).map (C.xv O)) W t O L:=by simp only[T.wp,T.nP,gX];rfl
def I3(e:TypeId)(x:LE)(X W:bo)(t:T):T.wp p R (.new e x X W t) O L=t.wp p R (O.add (.r (gu x O))) L:=by simp only[T.wp,T.nP]
def aAW(k:RK)(x:LE)(X:bo)(t:T):T.wp p R (.ah k x X t) O L=t.wp p R (O.add (.r (gu x O))) L:=by simp only[T.wp,T.nP]
def ai9(X:aZ)(W:aL)(t:T):io p R (.ret X) W t O L=(fA W X=J/\t.wp p R (O.ext X) L):=rfl
def aAX(v:Value)(X:aL)(t:T):io p R (.bp v) X t O L=R (.bp v):=rfl
def aja(ax:Nat)(x:aq):T.wp p R (.back ax x) O L=I2 (Bh ax L) (x.map (C.xv O)):=by
 simp only[T.wp,T.nP,I2];cases Bh ax L<;>rfl
def BO(c:PC)(X:aZ):I2 (U c) X=(c.I X/\c.μ X<c.m):=rfl
def Ge(g h:BE)(t f:T):T.wp p R (.gr g h t f) O L=((g.ai O=J\/h.ai O=J)/\(g.ai O=J->t.wp p R O L)/\(h.ai O=J->f.wp p R O L)/\(g.ai O=J->h.ai O=J->KD R)):=rfl
def aAY(f g:FuncId)(e:TypeId)(X:bu)(W:Bool)(r:RE)(Q:bo)(t:T):T.wp p R (.eF f g e X W r Q t) O L=(∃V,oJ O X W (r.rv O).ah=U V/\t.wp p R (O.add (.r (.mk (r.rv O).val V))) L):=rfl
def wV(f g:FuncId)(e:TypeId)(X:ar)(d:Bool)(W:Bool)(r:RE)(Q:bo)(t:T):T.wp p R (.eF f g e (.lex X d) W r Q t) O L=(∃V,iu (.lex X d) W (r.rv O).ah=U V/\t.wp p R (O.add (.r (.mk (r.rv O).val V))) L):=rfl
def wW(f g:FuncId)(e:TypeId)(n d:Nat)(X:Bool)(r:RE)(V:bo)(t:T):T.wp p R (.eF f g e (.ratio n d) X r V t) O L=(∃W,iu (.ratio n d) X (r.rv O).ah=U W/\t.wp p R (O.add (.r (.mk (r.rv O).val W))) L):=rfl
def asL(n:K)(g h:BE)(t f:T):T.wp p R (.pick n g h t f) O L=(KD R/\xO n g h O≠[]/\(∀j:Int,0<=j->j<n.ai O->g.ai (O.add (.i j))=J->t.wp p R (O.add (.i j)) L)/\(h.ai O=J->f.wp p R O L)):=rfl
def Ap{N:aL}{P:aq}{t:T}(X:aZ->Prop)(V:aZ->Nat)(M:X (P.map (C.xv O)))(h:∀Q,X Q->t.wp p R (O.ext Q) (⟨W,X,V,V Q⟩::L)):T.wp p R (.loop W N P t) O L:=by
 simp only[T.wp,T.nP];exact⟨R,L,.inl ⟨rfl,rfl⟩,X,V,M,h⟩
def asM{M:aL}{N:aq}{t:T}(V:aX->Prop)(H:∀o,V o->R o)(X:aZ->Prop)(Q:aZ->Nat)(G:X (N.map (C.xv O)))(h:∀P,X P->t.wp p V (O.ext P) [⟨W,X,Q,Q P⟩]):T.wp p R (.loop W M N t) O L:=by
 simp only[T.wp,T.nP];exact⟨V,[],.inr ⟨H,rfl⟩,X,Q,G,h⟩
end
def aY{X:lR}{R:aX->Prop}{Q:aZ}{P:aL}{t:T}{O:aj}{L:ck}{o:aX}(h:X.Ev V Q o):gX X.Ev R V Q P t O L=io X.Ev R o P t O L:=by
 refine propext ⟨λ⟨M,N,W⟩=> ?_,λW=>⟨o,h,W⟩⟩;rw[N3 h N];exact W
attribute[congr] aAT aAU aAV
def has{X:Fn}(h:I1 V=U X)(W:V≠151)(Q:V≠128):N2 TB V X:=⟨h,λP=>by simp[TB,LJ,W,Q]⟩
def single{o:aX}(h:Bb o o=J):KD (· =o):=λa b X W=>by subst X;exact⟨W.symm,h⟩
def evo{X:Fn}{Q:aZ}{o:aX}(P:I1 V=U X)(W:(V !=151&&V !=128)=J)(N:X.d=E\/∀v,o≠ .bp v)(h:X.t.wp TB.Ev (· =o) (dI (mA X.g) Q) []):TB.Ev V Q o:=by
 simp only[aC,bne_iff_ne,ne_eq] at W;exact KE (has P W.1 W.2) N h
def Qg{X:Fn}{Q:aZ}{R:aX->Prop}(P:I1 V=U X)(W:(V !=151&&V !=128)=J)(N:X.d=E\/∀v,¬R (.bp v))(h:X.t.wp TB.Ev R (dI (mA X.g) Q) []):∃o,TB.Ev V Q o/\R o:=by
 simp only[aC,bne_iff_ne,ne_eq] at W;exact apL (has P W.1 W.2) N h
def kD{X:Fn}{W:aZ}{o:aX}(h:X.t.wp TB.Ev (· =o) (dI (mA X.g) W) [])(Q:I1 V=U X:=by exact rfl)(P:(V !=151&&V !=128)=true:=by exact rfl)(N:X.d=false:=by exact rfl):TB.Ev V W o:=evo Q P (.inl N) h
def eI{X:Fn}{W:aZ}{R:aX->Prop}(h:X.t.wp TB.Ev R (dI (mA X.g) W) [])(Q:I1 V=U X:=by exact rfl)(P:(V !=151&&V !=128)=true:=by exact rfl)(N:X.d=false:=by exact rfl):∃o,TB.Ev V W o/\R o:=Qg Q P (.inl N) h
end
section
attribute[simp] K.ai BE.ai RE.rv RE.ai fk aj.rv dI aj.ext aj.add rk zw SZ C.xv mA Bh fA NP Qf yC Uy ai8 I3 aAW ai9 aAX aja
def out(f:FuncId)(X:aZ):aZ:=by classical exact if h:∃W,TB.Ev f X (.ret W) then h.choose else[]
def xi(X:aZ)(k:Nat):Int:=match X.getD k (.i 0) with|.i n=>n|_=>0
def xb(X:aZ)(k:Nat):Bool:=match X.getD k (.i 0) with|.b x=>x|_=>E
def xr(X:aZ)(k:Nat):RV:=match X.getD k (.i 0) with|.r x=>x|_=>default
def oi(f:FuncId)(X:aZ)(k:Nat):Int:=xi (out f X) k
def ob(f:FuncId)(X:aZ)(k:Nat):Bool:=xb (out f X) k
def or(f:FuncId)(X:aZ)(k:Nat):RV:=xr (out f X) k
def DT{W X:aZ}(h:TB.Ev V W (.ret X)):out V W=X:=by
 have Q:∃X,TB.Ev V W (.ret X):=⟨X,h⟩;have:out V W=Q.choose:=by unfold out;rw[dif_pos Q]
 rw[this];have:=N3 Q.choose_spec h;injection this
def aAZ{X:aZ}{P:aZ->Prop}(h:∃o,TB.Ev V X o/\∃W,o=.ret W/\P W):TB.Ev V X (.ret (out V X))/\P (out V X):=by
 obtain⟨o,Q,W,rfl,N⟩:=h;rw[DT Q];exact⟨Q,N⟩
def t7(X:aZ):aL->Nat->aZ
 |[],_=>[]|.int _::G,n=>.i (xi X n)::t7 X G (n+1)|.bool::G,n=>.b (xb X n)::t7 X G (n+1)|.ak _::G,n=>.r (xr X n)::t7 X G (n+1)
def asN(W:aZ):∀(G:aL)(X:aZ),fA G X=J->t7 (W++X) G (Y W)=X
 |[],[],_=>rfl|[],_::_,h=>by simp at h|k::G,[],h=>by cases k<;>simp at h
 |k::G,y::X,h=>by
  have V:=asN (W++[y]) G X;simp only[fA,aC] at h;have V:=V h.2;simp only[Ce,List.singleton_append,ga,ab1] at V;have Q:(W++y::X).getD (Y W) (.i 0)=y:=by simp[List.getD]
  cases k<;>cases y<;>simp at h<;>simp only[t7,V,xi,xb,xr,Q]
def shp{X:aZ}(G:aL){P:aZ->Prop}(h:∃o,TB.Ev V X o/\∃W,o=.ret W/\fA G W=J/\P W):TB.Ev V X (.ret (t7 (out V X) G 0))/\P (out V X):=by
 obtain⟨Q,N,M⟩:=aAZ h;rw[show t7 (out V X) G 0=out V X from asN [] G _ N];exact⟨Q,M⟩
def jk(n X W:Int):Bool:=decide (X<=n)&&decide (n<=W)
@[simp] def aJh (n X W:Int):jk n X W=J<->X<=n/\n<=W:=by simp[jk]
def DU(a b:Int):Int:=if a<b then-1 else if b<a then 1 else 0
def aaY(a b c d:Int):Int:=if mq a b&&mq c d then DU (IntKind.i64.wrap (a*d)) (IntKind.i64.wrap (c*b)) else 0
def Gf:FuncId->Option Fn
 |89=>U ⟨aaz,E,E⟩|127=>U ⟨aaA,E,E⟩|157=>U ⟨aaB,E,E⟩|156=>U ⟨aaD,E,E⟩|106=>U ⟨aaE,E,E⟩|76=>U ⟨aaF,E,E⟩|_=>Z
section
variable{p:lR}(H:∀f fn,Gf f=U fn->N2 p f fn)
include H
def aA1(a b:Nat):p.Ev 156 [.i a,.i b] (.ret [.i (acd a b)]):=by
 refine KE (H _ _ rfl) (.inl rfl) ?_;simp[aaD];split;rename_i W;simp[W];rename_i W;refine Ap (λX=>∃d x y:Nat,X=[.i d,.i x,.i y]/\y≠0/\acd x y=acd a b/\(x=0->d=acd a b)) (λX=>(xi X 2).toNat) ⟨b,a,b,aw,W,rfl,λV=>by subst V;simp⟩ ?_;rintro X ⟨d,x,y,rfl,P,Q,V⟩;have N:max (y:Int) 1=y:=ae;have M:be .rem .u64 (x:Int) (y:Int)=((x%y:Nat):Int):=by
  simp only[be];rw[Int.tmod_eq_emod_of_nonneg ae];exact(Int.natCast_emod x y).symm
 simp[xi,N,M,BO];split;rename_i G;simp[V G];refine⟨ae, ?_⟩;split;rename_i D;rw[<-Q,awj,Nat.gcd_rec,show x%y=0 from ae];simp;refine⟨⟨x,y,x%y,⟨rfl,rfl,ae⟩,ae, ?_,λF=>bE F P⟩, ?_⟩;rw[<-Q,awj x y,Nat.gcd_rec y x,awj];have:=QY x (show 0<y from ae);omega
def aA2(n:Int)(W:-1073741824<=n)(V:n<=1073741824):p.Ev 157 [.i n] (.ret [.i n.natAbs]):=by
 refine KE (H _ _ rfl) (.inl rfl) ?_;simp[aaB,be];have X:∀x:Int,IntKind.u64.wrap x=x%18446744073709551616:=λx=>rfl
 rw[X,X];split<;>omega
def asO(n:Int):p.Ev 76 [.i n] (.ret [.b E]):=by
 refine KE (H _ _ rfl) (.inl rfl) ?_;simp[aaF]
def ajb(a b:Int):p.Ev 106 [.i a,.i b] (.ret [.i (DU a b)]):=by
 refine KE (H _ _ rfl) (.inl rfl) ?_;simp[aaE,DU,aY (asO H _)]
 grind
def asP(n d:Int):p.Ev 127 [.i n,.i d] (.ret [.i (if mq n d then 0 else 120)]):=by
 refine KE (H _ _ rfl) (.inl rfl) ?_;simp[aaA]
 repeat' split
 any_goals(simp[mq];omega)
 all_goals
  rw[aY (aA2 H n ae ae)];have X:IntKind.u64.wrap d=(d.toNat:Int):=by
   have:IntKind.u64.wrap d=d%18446744073709551616:=rfl;omega
  have W:max d 0=(d.toNat:Int):=ae;simp[X];rw[W,aY (aA1 H n.natAbs d.toNat)];simp[mq] at*;omega
def asQ(a b c d:Int):p.Ev 89 [.i a,.i b,.i c,.i d] (.ret [.i (aaY a b c d),.i (if mq a b&&mq c d then 0 else 120)]):=by
 refine KE (H _ _ rfl) (.inl rfl) ?_;simp[aaz,aaY,be,aY (asP H _ _),aY (ajb H _ _)]
 grind
end
def hTB(f:FuncId)(fn:Fn)(h:Gf f=U fn):N2 TB f fn:=by
 unfold Gf at h;split at h<;>cases h<;>exact has rfl ew ew
section
variable{R:aX->Prop}{G:aL}{t:T}{O:aj}{L:ck}
def e82(n X W:Int):TB.Ev 61 [.i n,.i X,.i W] (.ret [.b (jk n X W)]):=by
 refine kD ?_;simp[T82,jk]
 grind
@[simp] def c82 (n X W:Int):gX TB.Ev R 61 [.i n,.i X,.i W] G t O L=io TB.Ev R (.ret [.b (jk n X W)]) G t O L:=aY (e82 n X W)
def aA4(n X W:Int):TB.Ev 46 [.i n,.i X,.i W] (.ret [.b (jk n X W)]):=by
 refine kD ?_;simp[aib,jk]
 grind
@[simp] def aJj (n X W:Int):gX TB.Ev R 46 [.i n,.i X,.i W] G t O L=io TB.Ev R (.ret [.b (jk n X W)]) G t O L:=aY (aA4 n X W)
def aA5(n X W:Int):TB.Ev 124 [.i n,.i X,.i W] (.ret [.b (jk n X W)]):=by
 refine kD ?_;simp[aio,jk]
 grind
@[simp] def aJk (n X W:Int):gX TB.Ev R 124 [.i n,.i X,.i W] G t O L=io TB.Ev R (.ret [.b (jk n X W)]) G t O L:=aY (aA5 n X W)
def e70(n X W:Int):TB.Ev 68 [.i n,.i X,.i W] (.ret [.b (jk n X W)]):=by
 refine kD ?_;simp[T70,jk]
 grind
@[simp] def c70 (n X W:Int):gX TB.Ev R 68 [.i n,.i X,.i W] G t O L=io TB.Ev R (.ret [.b (jk n X W)]) G t O L:=aY (e70 n X W)
def aA7(n X W:Int):TB.Ev 133 [.i n,.i X,.i W] (.ret [.b (jk n X W)]):=by
 refine kD ?_;simp[aiE,jk]
 grind
@[simp] def aJm (n X W:Int):gX TB.Ev R 133 [.i n,.i X,.i W] G t O L=io TB.Ev R (.ret [.b (jk n X W)]) G t O L:=aY (aA7 n X W)
def Gg(n:Int)(u:Bool)(X W:Int):Bool:=if u then jk n X W else n==0
def aA8(n X W:Int)(u:Bool):TB.Ev 88 [.i n,.b u,.i X,.i W] (.ret [.b (Gg n u X W)]):=by
 refine kD ?_;simp[ain,Gg]
 grind
@[simp] def aJn (n X W:Int) (u:Bool):gX TB.Ev R 88 [.i n,.b u,.i X,.i W] G t O L=io TB.Ev R (.ret [.b (Gg n u X W)]) G t O L:=aY (aA8 n X W u)
@[simp] def aJo (n:Int):gX TB.Ev R 76 [.i n] G t O L=io TB.Ev R (.ret [.b E]) G t O L:=aY (asO hTB n)
@[simp] def aJp (a b:Int):gX TB.Ev R 106 [.i a,.i b] G t O L=io TB.Ev R (.ret [.i (DU a b)]) G t O L:=aY (ajb hTB a b)
@[simp] def aJq (n d:Int):gX TB.Ev R 127 [.i n,.i d] G t O L=io TB.Ev R (.ret [.i (if mq n d then 0 else 120)]) G t O L:=aY (asP hTB n d)
@[simp] def aJr (a b c d:Int):gX TB.Ev R 89 [.i a,.i b,.i c,.i d] G t O L=io TB.Ev R (.ret [.i (aaY a b c d),.i (if mq a b&&mq c d then 0 else 120)]) G t O L:=aY (asQ hTB a b c d)
def e66(a b c d:Int):TB.Ev 99 [.i a,.i b,.i c,.i d] (.ret [.b (eE a b c d)]):=by
 refine kD ?_;simp[T66,eE]
 grind
@[simp] def c66 (a b c d:Int):gX TB.Ev R 99 [.i a,.i b,.i c,.i d] G t O L=io TB.Ev R (.ret [.b (eE a b c d)]) G t O L:=aY (e66 a b c d)
def jn(X:Bool)(x:Int):Int:=if X then x else 0
def e72(a b c d X W V Q:Int):TB.Ev 70 [.i a,.i b,.i c,.i d,.i X,.i W,.i V,.i Q] (.ret [.i (jn (eE a b c d&&eE X W V Q) (min a X)),.i (jn (eE a b c d&&eE X W V Q) (max b W)),.i (jn (eE a b c d&&eE X W V Q) (min c V)),.i (jn (eE a b c d&&eE X W V Q) (max d Q)),.i (if eE a b c d&&eE X W V Q then 0 else 150)]):=by
 refine kD ?_;simp[T72,jn]
 grind
@[simp] def c72 (a b c d X W V Q:Int):gX TB.Ev R 70 [.i a,.i b,.i c,.i d,.i X,.i W,.i V,.i Q] G t O L=io TB.Ev R (.ret [.i (jn (eE a b c d&&eE X W V Q) (min a X)),.i (jn (eE a b c d&&eE X W V Q) (max b W)),.i (jn (eE a b c d&&eE X W V Q) (min c V)),.i (jn (eE a b c d&&eE X W V Q) (max d Q)),.i (if eE a b c d&&eE X W V Q then 0 else 150)]) G t O L:=aY (e72 a b c d X W V Q)
def e69(a b c d:Int):TB.Ev 67 [.i a,.i b,.i c,.i d] (.ret [.b (eE a b c d)]):=by
 refine kD ?_;simp[T69]
 grind
@[simp] def c69 (a b c d:Int):gX TB.Ev R 67 [.i a,.i b,.i c,.i d] G t O L=io TB.Ev R (.ret [.b (eE a b c d)]) G t O L:=aY (e69 a b c d)
def I4(a b c d X W V Q:Int):Bool:=decide (X<=a)&&decide (b<=W)&&decide (V<=c)&&decide (d<=Q)
def e24(a b c d X W V Q:Int):TB.Ev 118 [.i a,.i b,.i c,.i d,.i X,.i W,.i V,.i Q] (.ret [.b (eE a b c d&&eE X W V Q&&I4 a b c d X W V Q),.i (if eE a b c d&&eE X W V Q then 0 else 150)]):=by
 refine kD ?_;simp[T24,I4]
 grind
@[simp] def c24 (a b c d X W V Q:Int):gX TB.Ev R 118 [.i a,.i b,.i c,.i d,.i X,.i W,.i V,.i Q] G t O L=io TB.Ev R (.ret [.b (eE a b c d&&eE X W V Q&&I4 a b c d X W V Q),.i (if eE a b c d&&eE X W V Q then 0 else 150)]) G t O L:=aY (e24 a b c d X W V Q)
def e26(a b c d X W V Q:Int):TB.Ev 151 [.i a,.i b,.i c,.i d,.i X,.i W,.i V,.i Q] (.ret [.b (eE a b c d&&eE X W V Q&&BN a b c d X W V Q),.i (if eE a b c d&&eE X W V Q then 0 else 150)]):=by
 refine afq ?_;simp only[TB,LJ,aaV,dN];cases P:eE a b c d&&eE X W V Q<;>simp
@[simp] def c26 (a b c d X W V Q:Int):gX TB.Ev R 151 [.i a,.i b,.i c,.i d,.i X,.i W,.i V,.i Q] G t O L=io TB.Ev R (.ret [.b (eE a b c d&&eE X W V Q&&BN a b c d X W V Q),.i (if eE a b c d&&eE X W V Q then 0 else 150)]) G t O L:=aY (e26 a b c d X W V Q)
def aBe(a b c d X W V Q:Int):TB.Ev 184 [.i a,.i b,.i c,.i d,.i X,.i W,.i V,.i Q] (.ret [.b (!(eE a b c d&&eE X W V Q&&BN a b c d X W V Q))]):=by
 refine kD ?_;simp[aiA]
@[simp] def aJx (a b c d X W V Q:Int):gX TB.Ev R 184 [.i a,.i b,.i c,.i d,.i X,.i W,.i V,.i Q] G t O L=io TB.Ev R (.ret [.b (!(eE a b c d&&eE X W V Q&&BN a b c d X W V Q))]) G t O L:=aY (aBe a b c d X W V Q)
def BP(a b c d x y:Int):Int:=if !eE a b c d then 150 else if !(decide (-2199023255552<=x)&&decide (x<=2199023255552)&&decide (-2199023255552<=y)&&decide (y<=2199023255552)) then 2 else if eE (IntKind.i64.wrap (a+x)) (IntKind.i64.wrap (b+x)) (IntKind.i64.wrap (c+y)) (IntKind.i64.wrap (d+y)) then 0 else 2
def aBf(a b c d x y:Int):TB.Ev 98 [.i a,.i b,.i c,.i d,.i x,.i y] (.ret [.i (jn (BP a b c d x y==0) (IntKind.i64.wrap (a+x))),.i (jn (BP a b c d x y==0) (IntKind.i64.wrap (b+x))),.i (jn (BP a b c d x y==0) (IntKind.i64.wrap (c+y))),.i (jn (BP a b c d x y==0) (IntKind.i64.wrap (d+y))),.i (BP a b c d x y)]):=by
 refine kD ?_;simp[aij,jn,be]
 repeat' split
 all_goals(simp_all[BP])
 all_goals grind
@[simp] def aJy (a b c d x y:Int):gX TB.Ev R 98 [.i a,.i b,.i c,.i d,.i x,.i y] G t O L=io TB.Ev R (.ret [.i (jn (BP a b c d x y==0) (IntKind.i64.wrap (a+x))),.i (jn (BP a b c d x y==0) (IntKind.i64.wrap (b+x))),.i (jn (BP a b c d x y==0) (IntKind.i64.wrap (c+y))),.i (jn (BP a b c d x y==0) (IntKind.i64.wrap (d+y))),.i (BP a b c d x y)]) G t O L:=aY (aBf a b c d x y)
end
structure Sl(v:RV):Prop where
 sl:∃a n c,v.val=.slice a n c
 len:lenOf v.val=Y v.ah
 sm:Y v.ah<=140737488355328
def ci(v:RV)(i j:Nat):Int:=bn (aQ v.ah i j).val
def cb(v:RV)(i j:Nat):Bool:=jr (aQ v.ah i j).val
def DV(n:Nat)(X:Nat->aZ->Prop):aZ->Prop
 |.i j::W=>∃i:Nat,j=i/\i<=n/\X i W|_=>False
def BQ(n:Nat):aZ->Nat
 |.i j::_=>n-j.toNat|_=>0
section
variable{e:FuncId->aZ->aX->Prop}{R:aX->Prop}{O:aj}{L:ck}
def bQ{G:aL}{P:aq}{t:T}(n:Nat)(X:Nat->aZ->Prop)(N:DV n X (P.map (C.xv O)))(h:∀(i:Nat) V,i<=n->X i V->t.wp e R (O.ext (.i i::V)) (⟨W,DV n X,BQ n,n-i⟩::L)):T.wp e R (.loop W G P t) O L:=by
 refine Ap (DV n X) (BQ n) N λM Q=> ?_
 match M,Q with
 |.i j::V,Q=>
  obtain⟨i,rfl,F,D⟩:=Q;have:=h i V F D;simpa[BQ] using this
theorem i8{n:Int}(X:-9223372036854775808<=n)(W:n<9223372036854775808):IntKind.i64.wrap n=n:=by
 rw[IntKind.wrap_i64];omega
def wX{i:Nat}(h:i<=140737488355328):be .add I (i:Int) 1=((i+1:Nat):Int):=by
 simp only[be];rw[i8 ae ae];omega
theorem bD{n:Nat}{X:Nat->aZ->Prop}{i:Nat}{V:aZ}(Q:i<n)(P:n<=140737488355328):I2 (U ⟨W,DV n X,BQ n,n-i⟩) (.i (be .add I (i:Int) 1)::V)=X (i+1) V:=by
 rw[wX ae];refine propext ⟨λh=> ?_,λh=>⟨⟨i+1,rfl,ae,h⟩, ?_⟩⟩;obtain⟨⟨k,N,_,h⟩,_⟩:=h;have:k=i+1:=ae;exact this▸h;simp only[BQ];omega
end
end
inductive KX where
 |i
 |b
 |r
 deriving DecidableEq
def isTrue:BE->Bool
 |.c b=>b|_=>E
def I5{X:aZ}{P:Int->Prop}(h:∃o,TB.Ev V X o/\∃e,o=.ret [.i e]/\P e):TB.Ev V X (.ret [.i (oi V X 0)])/\P (oi V X 0):=by
 obtain⟨o,W,e,rfl,Q⟩:=h;have:oi V X 0=e:=by simp only[oi,DT W];rfl
 grind
def mkb{X:aZ}{P:Bool->Prop}(h:∃o,TB.Ev V X o/\∃e,o=.ret [.b e]/\P e):TB.Ev V X (.ret [.b (ob V X 0)])/\P (ob V X 0):=by
 obtain⟨o,W,e,rfl,Q⟩:=h;have:ob V X 0=e:=by simp only[ob,DT W];rfl
 grind
structure BR(roles bars:Int)(c:Nat->Int):Prop where
 kind:1<=c 4/\c 4<=9
 bw:0<=c 1/\c 1<roles
 ap:0<=c 2/\c 2<bars
 mark:1<=c 3/\c 3<=3
 side:if c 4=1\/c 4=3\/c 4=4\/c 4=9 then 1<=c 5/\c 5<=2 else c 5=0
 dir:if c 4=1\/c 4=2 then 1<=c 6/\c 6<=8 else if c 4=3\/c 4=4\/c 4=5 then 0<=c 6/\c 6<=8 else c 6=0
 aBg:if c 4=3\/c 4=4\/c 4=5\/c 4=9 then 1<=c 7/\c 7<=3 else c 7=0
 size:if c 4=1\/c 4=2 then 1<=c 8/\c 8<=16 else if c 4=6 then 1<=c 8/\c 8<=7 else c 8=0
 wth:if c 4=7\/c 4=8 then 1<=c 9/\c 9<=roles else c 9=0
 from_:mq (c 10) (c 11)=J
 to:mq (c 12) (c 13)=J
section
variable{R:aX->Prop}{G:aL}{t:T}{O:aj}{L:ck}
def lZ(c:Nat->Int):aZ:=[.i (c 0),.i (c 1),.i (c 2),.i (c 3),.i (c 4),.i (c 5),.i (c 6),.i (c 7),.i (c 8),.i (c 9),.i (c 10),.i (c 11),.i (c 12),.i (c 13)]
def kT(k:Int)(j:Nat):RV:=aQ (wl[0]?.getD default).ah k j
def aBh{c:Nat->Int}{X W:Int}(H:1<=c 4/\c 4<=9)(G:0<=c 1/\c 1<=X-1)(F:0<=c 2/\c 2<=W-1)(D:1<=c 3/\c 3<=3)(V:Gg (c 5) (jr (kT (c 4) 0).val) 1 2=J)(Q:Gg (c 6) (jr (kT (c 4) 1).val) (bn (kT (c 4) 3).val) 8=J)(P:Gg (c 7) (decide (0<bn (kT (c 4) 4).val)) 1 (bn (kT (c 4) 4).val)=J)(N:Gg (c 8) (decide (0<bn (kT (c 4) 5).val)) 1 (bn (kT (c 4) 5).val)=J)(M:Gg (c 9) (jr (kT (c 4) 2).val) 1 X=J)
  (B:mq (c 10) (c 11)=J)(A:mq (c 12) (c 13)=J):BR X W c:=by
 have:c 4=1\/c 4=2\/c 4=3\/c 4=4\/c 4=5\/c 4=6\/c 4=7\/c 4=8\/c 4=9:=ae;rcases this with h|h|h|h|h|h|h|h|h
 all_goals
  simp[h,kT,wl,Bg,bV,iV,aQ,Gg,jr,bn] at V Q P N M;constructor<;>(first|omega|assumption|(simp[h];done)|(simp[h];omega))
def t84(c:Nat->Int)(X W:Int)(N:-1000<=X/\X<=1000000)(M:-1000<=W/\W<=1000000):∃o,TB.Ev 63 (lZ c++[.i X,.i W]) o/\∃b,o=.ret [.b b]/\(b=J->BR X W c):=by
 refine eI ?_;have V:be .sub I X 1=X-1:=by simp only[be];rw[i8 ae ae]
 have Q:be .sub I W 1=W-1:=by simp only[be];rw[i8 ae ae]
 have P:lenOf (wl[0]?.getD default).val=10:=rfl;simp[T84,lZ,V,Q,P]
 repeat' split
 all_goals(try simp)
 all_goals(intros;refine⟨ae, ?_⟩;intros;apply aBh<;>(first|assumption|omega|grind))
def f84(c:Nat->Int)(X W:Int)(V:-1000<=X/\X<=1000000)(Q:-1000<=W/\W<=1000000):TB.Ev 63 (lZ c++[.i X,.i W]) (.ret [.b (ob 63 (lZ c++[.i X,.i W]) 0)])/\(ob 63 (lZ c++[.i X,.i W]) 0=J->BR X W c):=mkb (t84 c X W V Q)
def ajc{a b:Int}(h:b≠0):(a.tmod b).natAbs<b.natAbs:=by
 rw[akT];exact QY _ ae
def aBk(a b c:Int)(N:1<=c)(M:c<=32768)(H:-c<=a/\a<=c)(G:-c<=b/\b<=c):∃o,TB.Ev 87 [.i a,.i b,.i c] o/\∃x y z,o=.ret [.i x,.i y,.i z]:=by
 refine eI ?_;simp[aiJ];refine Ap (λX=>∃n d:Int,X=[.i n,.i d]∧-c<=n/\n<=c∧-c<=d/\d<=c) (λX=>(xi X 0).natAbs) ⟨a,0,rfl,ae,ae,ae,ae⟩ ?_;rintro _ ⟨n,d,rfl,W,V,Q,P⟩;simp[xi,BO,be];split
 case isFalse h=>
  have:=ajc (a:=d) h;refine⟨h,⟨_,_,⟨rfl,rfl⟩, ?_⟩,by rw[<-akT];exact this⟩;omega
 refine Ap (λX=>∃n d:Int,X=[.i n,.i d]∧-c<=n/\n<=c∧-c<=d/\d<=c) (λX=>(xi X 0).natAbs) ⟨b,d,rfl,ae,ae,ae,ae⟩ ?_;rintro _ ⟨n,d,rfl,W,V,Q,P⟩;simp[xi,BO,be];split
 case isFalse h=>
  have:=ajc (a:=d) h;refine⟨h,⟨_,_,⟨rfl,rfl⟩, ?_⟩,by rw[<-akT];exact this⟩;omega
 refine Ap (λX=>∃n d:Int,X=[.i n,.i d]∧-c<=n/\n<=c∧-c<=d/\d<=c/\(n≠0\/d≠0)) (λX=>(xi X 0).natAbs) ⟨c,d,rfl,ae,ae,ae,ae,ae⟩ ?_;rintro _ ⟨n,d,rfl,W,V,Q,P,F⟩;simp[xi,BO,be];split
 case isFalse h=>
  have:=ajc (a:=d) h;refine⟨h,⟨_,_,⟨rfl,rfl⟩, ?_⟩,by rw[<-akT];exact this⟩;omega
 have:IntKind.i64.wrap (-d)=-d:=i8 ae ae;omega
def t83(a b c:Int):∃o,TB.Ev 62 [.i a,.i b,.i c] o/\∃e,o=.ret [.i e]/\True:=by
 refine eI ?_;simp[T83];intro V Q X P N;have W:be .sub I 0 c=-c:=by simp only[be];rw[i8 ae ae];omega
 rw[W] at X;obtain⟨o,h,x,y,z,rfl⟩:=aBk a b c ae ae ae ae;rw[aY h];simp
@[simp] def c83 (a b c:Int):gX TB.Ev R 62 [.i a,.i b,.i c] G t O L=io TB.Ev R (.ret [.i (oi 62 [.i a,.i b,.i c] 0)]) G t O L:=aY (I5 (t83 a b c)).1
structure Qh(tp:RV):Prop where
 sl:Sl tp
 pos:0<Y tp.ah
 zero:ci tp 0 0=0
def ajd{j:Nat}(h:j<=140737488355328)(X:W<=j):IntKind.i64.wrap (be .shr .u64 (IntKind.u64.wrap (be .add I (W:Int) (j:Int))) 1)=(((W+j)/2:Nat):Int):=by
 simp only[be];rw[i8 (n:=(W:Int)+j) ae ae];rw[show IntKind.u64.wrap ((W:Int)+j)=(W:Int)+j by rw[IntKind.wrap_u64];omega];have:((W:Int)+j).fdiv (2^min (1:Int).toNat IntKind.u64.bits)=(((W+j)/2:Nat):Int):=by
  have V:(2:Int)^min (1:Int).toNat IntKind.u64.bits=2:=rfl
  grind
 rw[this,i8 ae ae]
def aBm(V ap:Int)(X Q P:RV)(h:Qh X)(A:0<=ap):∃o,TB.Ev 125 [.i V,.r X,.r Q,.r P,.i ap] o/\∃e,o=.ret [.i e]/\True:=by
 refine eI ?_;simp[aip];have z:=h.pos;have y:=h.sl.sm;refine Ap (λW=>∃i j:Nat,W=[.i i,.i j]/\i<=j/\j<=Y X.ah/\(j=Y X.ah\/ap<ci X j 0)) (λW=>(xi W 1-xi W 0).toNat) ⟨0,Y X.ah,by simp[h.sl.len],ae,ae,.inl rfl⟩ ?_;rintro _ ⟨i,j,rfl,N,x,M⟩;simp[xi,BO,h.sl.len,ajd (show j<=140737488355328 from ae) N];split;rename_i H;refine⟨ae, ?_⟩;have G:((i:Int)+j)/2=(((i+j)/2:Nat):Int):=ae;have F:=wX (i:=(i+j)/2) ae;rw[G,F];split;refine⟨⟨(i+j)/2+1,j,⟨rfl,rfl⟩,ae,ae,M⟩,ae⟩
 grind [ci]
 rename_i H;have D:i=j:=ae;subst D;have:1<=i:=by
  rcases Jt i with rfl|B;have:=h.zero;omega;exact B
 rw[show be .sub I (i:Int) 1=(i:Int)-1 by simp only[be];rw[i8 ae ae]];omega
def asT(W ap:Int)(X V Q:RV)(h:Qh X)(P:0<=ap):gX TB.Ev R 125 [.i W,.r X,.r V,.r Q,.i ap] G t O L=io TB.Ev R (.ret [.i (oi 125 [.i W,.r X,.r V,.r Q,.i ap] 0)]) G t O L:=aY (I5 (aBm W ap X V Q h P)).1
end
section
def ao(X:av):RV:=.mk (.slice Z (Y X) (Y X)) X
@[simp] def LL (x:LE) (O:aj):gu x O=ao (x.ah O):=rfl
@[simp] theorem ov (r:av):(ao r).ah=r:=rfl
@[simp] def Qi (r:av):lenOf (ao r).val=Y r:=rfl
@[simp] def asU:RV.mk (.slice Z 0 0) []=ao []:=rfl
def l8(h:Y X<=140737488355328):Sl (ao X):=⟨⟨_,_,_,rfl⟩,rfl,h⟩
attribute[simp] LE.ah C.cg
def Qj(c:Nat->Int):aE:=[.mk (.int I (c 0)) [],.mk (.int I (c 1)) [],.mk (.int I (c 2)) [],.mk (.int I (c 3)) [],.mk (.int I (c 4)) [],.mk (.int I (c 5)) [],.mk (.int I (c 6)) [],.mk (.int I (c 7)) [],.mk (.int I (c 8)) [],.mk (.int I (c 9)) [],.mk (.int I (c 10)) [],.mk (.int I (c 11)) [],.mk (.int I (c 12)) [],.mk (.int I (c 13)) []]
def asV{lt:aE->aE->Bool}{x:aE}:∀{l:av},(fh lt x l).Perm (x::l)
 |[]=>akV _
 |y::r=>by
  simp only[fh];split;exact akV _;exact((asV (l:=r)).cons y).trans (aI9 x y r)
def asW{lt:aE->aE->Bool}:∀(l acc:av),(l.foldl (λacc x=>fh lt x acc) acc).Perm (acc++l)
 |[],acc=>aw
 |x::l,acc=>by
  simp only[ab7];refine(asW l _).trans ?_;refine(List.Perm.append_right l asV).trans ?_;rw[cU];exact List.perm_middle.symm
def BS{lt:aE->aE->Bool}(l:av):(bN lt l).Perm l:=by
 have:=asW (lt:=lt) l [];simpa[bN] using this
def wY(X:av):Prop:=X.Pairwise λx y=>aI 0 x≠aI 0 y
def wY.perm{W:av}(h:wY X)(V:W.Perm X):wY W:=(V.symm.pairwise_iff (λ{x y} h=>h.symm)).1 h
def asX:∀{X:av},wY X->vT (bu.lex [0] E).lt X=J
 |[],_=>rfl
 |x::r,h=>by
  simp only[wY,jO] at h;simp only[vT,aC,gC,lu];refine⟨λy V=> ?_,asX h.2⟩;have W:¬aI 0 x=aI 0 y:=h.1 y V;have Q:¬aI 0 y=aI 0 x:=λe=>W e.symm
  simp only[bu.lt,jF,aP W,aP Q,iW,jB,dl];omega
def asY{W:Bool}(V:Y X<=1099511627776)(h:wY X):iu (.lex [0] E) W X=U (bN (bu.lex [0] E).lt X):=by
 simp only[iu];rw[aH (by simp[V,asX h,bu.ok])]
def aBn{rows:av}(X:Y rows<=1099511627776)(h:∀x∈rows,mq (aI 10 x) (aI 11 x)=J):iu (.ratio 10 11) J rows=U (bN (bu.ratio 10 11).lt rows):=by
 simp only[iu];rw[aH (by simp only[aC,dl,Bool.true_or,and_true];exact⟨X,gC.2 h⟩)]
structure cm where
 cW:Int
 cD:Int
 cA:Int
 cB:Int
 cC:Int
 cO:Int
 cr0:RV
 ct0:RV
 cp0:RV
 gJ:RV
 cg0:RV
section
variable[Inhabited cm]
def oU:Int:=(default:cm).cW
def oV:Int:=(default:cm).cD
def wZ:Int:=(default:cm).cA
def I6:Int:=(default:cm).cB
def I7:Int:=(default:cm).cC
def eU:Int:=(default:cm).cO
def ay:RV:=(default:cm).cr0
def l9:RV:=(default:cm).ct0
def ng:RV:=(default:cm).cp0
def nh:RV:=(default:cm).gJ
def di:RV:=(default:cm).cg0
end
structure BT[Inhabited cm]:Prop where
 nr:1<=Y ay.ah/\Y ay.ah<=64
 ns:Y di.ah<=4096
 br:1<=eU/\eU<=4096
 wd:1<=oU/\oU<=1000/\1<=oV/\oV<=1000
 tp:Qh l9
 Uz:∀i<Y di.ah,BR (Y ay.ah) eU (ci di i)
 id:∀i<Y di.ah,0<=ci di i 0/\ci di i 0<=1048576
 ids:∀i j,i<j->j<Y di.ah->ci di i 0<ci di j 0
structure dV[Inhabited cm]:Prop where
 rl:Sl ay
 tp:Sl l9
 ps:Sl ng
 sp:Sl nh
 sg:Sl di
section
variable{R:aX->Prop}{G:aL}{t:T}{O:aj}{L:ck}
variable[Inhabited cm]
def wk:aZ:=[.i oU,.i oV,.i wZ,.i I6,.i I7,.r ay,.i eU,.r l9,.r ng,.r nh,.r di]
def Aq:Prop:=∀(eU:Int)(l9 ng nh:RV),Sl l9->Sl ng->Sl nh->TB.Ev 60 [.i eU,.r l9,.r ng,.r nh] (.ret [.i (oi 60 [.i eU,.r l9,.r ng,.r nh] 0)])/\(oi 60 [.i eU,.r l9,.r ng,.r nh] 0=0->Qh l9/\1<=eU/\eU<=4096)
def t37(F:Aq)(h:dV):∃o,TB.Ev 40 wk o/\∃e,o=.ret [.i e]/\(e=0->BT):=by
 refine eI ?_;obtain⟨D,B⟩:=F eU l9 ng nh h.tp h.ps h.sp;simp[T37,wk,h.rl.len,h.sg.len,aY D]
 repeat'(first|intro _|split)
 any_goals(exfalso;omega)
 obtain⟨A,q,p⟩:=B me;refine bQ (Y ay.ah) (λ_ P=>P=[]) ⟨0,rfl,ae,rfl⟩ ?_;rintro i _ X rfl;simp[h.rl.len];split;rename_i X;simp[bD X h.rl.sm,X];refine bQ (Y di.ah) (λi P=>∃V:Int,P=[.i V]∧-1<=V/\(∀k<i,BR (Y ay.ah) eU (ci di k)/\0<=ci di k 0/\ci di k 0<=V/\ci di k 0<=1048576)/\∀j k,j<k->k<i->ci di j 0<ci di k 0) ⟨0,rfl,ae,-1,rfl,ae,ae,ae⟩ ?_;rintro j _ N ⟨V,rfl,n,W,M⟩;simp[h.rl.len,h.sg.len];split;rename_i N;refine⟨N,λm l=> ?_⟩;obtain⟨H,Q⟩:=f84 (ci di j) (Y ay.ah) eU ae ae;simp only[lZ,ci,cU,du] at H Q;rw[aY H];simp[bD N h.sg.sm];intro z;have Q:=Q z;refine⟨ae,λk g=> ?_,λa b G f=> ?_⟩;by_cases y:k=j;subst y;refine⟨Q, ?_, ?_, ?_⟩<;>simp only[ci]<;>omega;obtain⟨x,w,v,u⟩:=W k ae;exact⟨x,w,by simp only[ci] at v⊢;omega,u⟩;by_cases s:b=j;subst s;have:=(W a G).2.2.1;simp only[ci] at this⊢;omega;exact M a b G ae;have r:j=Y di.ah:=ae;subst r;have d:Y ay.ah≠0:=λe=>bE (AC.1 e) me
 exact⟨ae,ae,ae,ae,A,λi X=>(W i X).1,λi X=>⟨(W i X).2.1,(W i X).2.2.2⟩,M⟩
end
end
section
variable{R:aX->Prop}{G:aL}{t:T}{O:aj}{L:ck}
variable[Inhabited cm]
@[simp] def Qk (c:Nat->Int) (j:Nat) (h:j<14):aI j (Qj c)=c j:=by
 match j,h with|0,_|1,_|2,_|3,_|4,_|5,_|6,_|7,_|8,_|9,_|10,_|11,_|12,_|13,_=>rfl
def w4(bw ap:Int):Nat->av
 |0=>[]|i+1=>w4 bw ap i++(if ci di i 1=bw/\ci di i 2=ap then[Qj (ci di i)] else[])
def UA{bw ap:Int}:∀i,(w4 bw ap i).length<=i
 |0=>by simp[w4]
 |i+1=>by
  have:=UA (bw:=bw) (ap:=ap) i;simp only[w4,ga];split<;>simp<;>omega
def aa0{bw ap:Int}{x:aE}:∀{i},x∈w4 bw ap i<->∃k<i,x=Qj (ci di k)/\ci di k 1=bw/\ci di k 2=ap
 |0=>by simp[w4]
 |i+1=>by
  simp only[w4,fg,aa0 (i:=i)];constructor;rintro(⟨k,V,X⟩|h);exact⟨k,ae,X⟩;split at h;rename_i Q;simp at h;exact⟨i,ae,h,Q⟩;simp at h;rintro⟨k,V,X,W⟩;by_cases P:k=i;subst P;right;rw[aH W];simp[X];exact .inl ⟨k,ae,X,W⟩
def asZ{bw ap:Int}(h:∀i j,i<j->j<Y di.ah->ci di i 0<ci di j 0):∀{i},i<=Y di.ah->wY (w4 bw ap i)
 |0,_=>xk
 |i+1,Q=>by
  simp only[w4,wY,oC];refine⟨asZ h ae,by split<;>simp,λx W y X=> ?_⟩;obtain⟨k,V,rfl,-⟩:=(aa0).1 W;split at X;simp at X;subst X;rw[Qk _ _ ae,Qk _ _ ae];have:=h k i V ae;omega;simp at X
def jU:Int:=oi 40 wk 0
def ma(bw ap:Int):Int:=if jU=0 then(if jk bw 0 (Y ay.ah-1)&&jk ap 0 (eU-1) then 0 else 1) else jU
def dS(bw ap:Int):av:=if ma bw ap=0 then bN (bu.ratio 10 11).lt (w4 bw ap (Y di.ah)) else[]
def yD(X:Aq)(h:dV):TB.Ev 40 wk (.ret [.i jU])/\(jU=0->BT):=I5 (t37 X h)
def I8(G:Aq)(h:dV)(bw ap:Int):TB.Ev 73 (wk++[.i bw,.i ap]) (.ret [.r (ao (dS bw ap)),.i (ma bw ap)]):=by
 refine kD ?_;obtain⟨W,F⟩:=yD G h;simp only[wk] at W;simp[T77,wk,h.rl.len,aY W];split
 case isFalse X=>
  simp[dS,ma,X]
 rename_i X;have V:=F X;have w:=V.nr;have v:=V.br;rw[show be .sub I (Y ay.ah:Int) 1=Y ay.ah-1 by simp only[be];rw[i8 ae ae],show be .sub I eU 1=eU-1 by simp only[be];rw[i8 ae ae]];split
 case isFalse Q=>
  simp[dS,ma,X,Q]
 rename_i Q;split
 case isFalse N=>
  simp[dS,ma,X,Q,N]
 rename_i N;refine bQ (Y di.ah) (λi D=>D=[.r (ao (w4 bw ap i))]) ⟨0,rfl,ae,rfl⟩ ?_;rintro i _ M rfl;have bq:=UA (bw:=bw) (ap:=ap) i;have u:=V.ns;simp[h.sg.len];split;rename_i M;simp[bD M h.sg.sm,w4,ci,M];have s:(w4 bw ap i).length<=536870912:=ae;split;rename_i P;split;rename_i H;simp[P,H,Qj,ci];omega;rename_i H;simp[P,H];rename_i P;simp[P];have B:i=Y di.ah:=ae;subst B;have A:=aBn (rows:=w4 bw ap (Y di.ah)) (by have:=UA (bw:=bw) (ap:=ap) (Y di.ah);have:=h.sg.sm;omega) (λx z=>by
  obtain⟨k,W,rfl,-⟩:=(aa0).1 z;rw[Qk _ _ ae,Qk _ _ ae];exact(V.Uz k W).from_)
 simp only[wV,wW];refine⟨_,A, ?_⟩;have y:ma bw ap=0:=by simp[ma,X,Q,N]
 simp[dS,y,ao,pL]
def as1{bw ap:Int}(Q:jU=0->BT){x:aE}(X:x∈dS bw ap):∃k<Y di.ah,x=Qj (ci di k)/\ci di k 1=bw/\ci di k 2=ap/\BR (Y ay.ah) eU (ci di k):=by
 unfold dS at X;split at X;rename_i W;have P:jU=0:=by
  unfold ma at W;split at W;assumption;exact W
 obtain⟨k,V,N,M,H⟩:=(aa0).1 ((BS _).mem_iff.1 X);exact⟨k,V,N,M,H,(Q P).Uz k V⟩;simp at X
def aa1{bw ap:Int}(W:jU=0->BT):wY (dS bw ap):=by
 unfold dS;split;rename_i X;have V:jU=0:=by
  unfold ma at X;split at X;assumption;exact X
 exact(asZ (W V).ids (cd _)).perm (BS _);exact xk
def UB{bw ap:Int}(W:jU=0->BT):(dS bw ap).length<=4096:=by
 unfold dS;split;rename_i X;have V:jU=0:=by
  unfold ma at X;split at X;assumption;exact X
 rw[pL];have:=UA (bw:=bw) (ap:=ap) (Y di.ah);have:=(W V).ns;omega;simp
end
section
variable{R:aX->Prop}{G:aL}{t:T}{O:aj}{L:ck}
def aBt(c:Nat->Int)(x y z:Int)(b:Bool):∃o,TB.Ev 107 (lZ c++[.i x,.i y,.i z,.b b]) o/\∃e,o=.ret [.b e]/\(e=J->x=c 0):=by
 refine eI ?_;simp[aiD,lZ]
 repeat' split
 all_goals(intros;grind [jk])
def f225(c:Nat->Int)(x y z:Int)(b:Bool):TB.Ev 107 (lZ c++[.i x,.i y,.i z,.b b]) (.ret [.b (ob 107 (lZ c++[.i x,.i y,.i z,.b b]) 0)])/\(ob 107 (lZ c++[.i x,.i y,.i z,.b b]) 0=J->x=c 0):=mkb (aBt c x y z b)
def aje(c:Nat->Int)(r:RV)(k:Nat):aE:=Qj c++[.mk (.int I (ci r k 0)) [],.mk (.int I (ci r k 1)) [],.mk (.int I (ci r k 2)) [],.mk (.bool (cb r k 3)) []]
def bX(X:av)(i j:Nat):Int:=bn (aQ X i j).val
def Ar(l:av)(r:RV)(n:Nat)(out:av):Prop:=Y out=n/\∀i<n,∃k<Y r.ah,out[i]?=U (aje (bX l i) r k)/\ci r k 0=bX l i 0
theorem Ar.add{r:RV}{out:av}(h:Ar X r W out){k:Nat}(V:k<Y r.ah)(hid:ci r k 0=bX X W 0):Ar X r (W+1) (out++[aje (bX X W) r k]):=by
 refine⟨by simp[h.1],λi G=> ?_⟩;by_cases Q:i=W;subst Q;refine⟨k,V, ?_,hid⟩;rw[jl (by rw[h.1];omega),h.1];simp;obtain⟨P,N,M,H⟩:=h.2 i ae;exact⟨P,N,by rw[fT (by rw[h.1];omega)];exact M,H⟩
def aBu(l:av)(r:RV)(W:Sl r)(B:Y l<=4096)(G:wY l)(N:0<Y l):∃o,TB.Ev 74 [.r (ao l),.r r] o/\∃v b,o=.ret [.r (ao v),.b b]/\(b=E->v=[])/\(b=J->Ar l r (Y l) v):=by
 refine eI ?_;simp[aaG,W.len];intro F;simp only[Ge];refine⟨.inl rfl,λ_=> ?_,λh=> ?_,λ_ h=> ?_⟩;simp;refine⟨ae, ?_⟩;simp only[wV,wW];refine⟨_,asY bZ (by simpa using G), ?_⟩;simp;have A:(bN (bu.lex [0] E).lt l).length=Y l:=pL;refine bQ (Y l) (λi V=>∃v,V=[.r (ao v)]/\Ar l r i v) ⟨0,rfl,ae,[],rfl,rfl,ae⟩ ?_;rintro i _ Q ⟨v,rfl,P⟩;simp;split;rename_i Q;refine⟨Q, ?_⟩;refine bQ (Y l) (λj V=>V=[.r (ao v)]) ⟨0,rfl,ae,rfl⟩ ?_;rintro j _ X rfl;simp[W.len];intro X;have z:=P.1;simp[bD X (show Y l<=140737488355328 from ae)];refine⟨X,λy=>⟨ae, ?_⟩⟩;obtain⟨M,H⟩:=f225 (bX l i) (ci r j 0) (ci r j 1) (ci r j 2) (cb r j 3);simp only[lZ,bX,ci,cb,cU,du] at M H;rw[aY M];simp[bD X (show Y l<=140737488355328 from ae),bD Q (show Y l<=140737488355328 from ae),<-F,W.len];intro D;refine⟨X,ae, ?_⟩;have:=P.add (k:=j) ae (H D);exact⟨_,rfl,this⟩;have:i=Y l:=ae;subst this;exact⟨_,rfl,P⟩;simp at h;simp[h] at N;simp at h;simp[h] at N
def aBv(r:RV)(Q:Sl r):TB.Ev 74 [.r (ao []),.r r] (.ret [.r (ao []),.b (Y r.ah==0)]):=by
 refine kD ?_;simp[aaG,Q.len];split
 case isFalse h=>
  intro e;simp[e] at h
 rename_i h;have W:Y r.ah=0:=ae;have V:iu (bu.lex [0] E) E []=U []:=rfl;simp only[Ge,wV,wW];refine⟨.inl rfl,λ_=> ?_,λ_=> ?_,λ_ _=>single (Hv _)⟩
 ·try simp
  try simp only[wV,wW]
  refine⟨_,by simpa using V, ?_⟩;refine bQ 0 (λi X=>X=[.r (ao [])]) ⟨0,rfl,ae,rfl⟩ ?_;rintro i _ P rfl;have:i=0:=ae;simp[W,this]
 ·try simp
  try simp only[wV,wW]
  refine⟨_,by simpa using V, ?_⟩;refine bQ 0 (λi X=>X=[.r (ao [])]) ⟨0,rfl,ae,rfl⟩ ?_;rintro i _ P rfl;have:i=0:=ae;simp[W,this]
def as2(l:av)(r:RV)(X:Sl r)(W:Y l<=4096)(V:wY l):∃o,TB.Ev 74 [.r (ao l),.r r] o/\∃v b,o=.ret [.r (ao v),.b b]/\(b=E->v=[])/\(b=J->Ar l r (Y l) v):=by
 cases l with|nil=>exact⟨_,aBv r X,[],Y r.ah==0,rfl,λ_=>rfl,λ_=>⟨rfl,aw⟩⟩|cons x l=>exact aBu (x::l) r X W V aw
def nj{W:aZ}(G:aL)(h:∃o,TB.Ev V W o/\∃X,o=.ret X/\fA G X=J):TB.Ev V W (.ret (t7 (out V W) G 0)):=by
 obtain⟨o,Q,X,N,M⟩:=h;exact(shp G (P:=λ_=>True) ⟨o,Q,X,N,M,trivial⟩).1
def kI:Nat->aL
 |0=>[]|n+1=>.int I::kI n
@[simp] def Ql:kI 0=[]:=rfl
@[simp] def I9 (n:Nat):kI (n+1)=.int I::kI n:=rfl
def aBw(a b:Int):∃o,TB.Ev 138 [.i a,.i b] o/\∃X,o=.ret X/\fA (kI 2) X=true:=by
 refine eI ?_;simp[aic]
@[simp] def aJA (a b:Int):gX TB.Ev R 138 [.i a,.i b] G t O L=io TB.Ev R (.ret [.i (oi 138 [.i a,.i b] 0),.i (oi 138 [.i a,.i b] 1)]) G t O L:=aY (nj _ (aBw a b))
def aBx(a b:Int):∃o,TB.Ev 139 [.i a,.i b] o/\∃X,o=.ret X/\fA (kI 4) X=true:=by
 refine eI ?_;simp[aid]
 repeat'(first|intro _|split)
 have W:lenOf (wl[2]?.getD default).val=8:=rfl;rw[show be .sub I a 1=a-1 by simp only[be];exact i8 ae ae,W];omega
@[simp] def aJB (a b:Int):gX TB.Ev R 139 [.i a,.i b] G t O L=io TB.Ev R (.ret [.i (oi 139 [.i a,.i b] 0),.i (oi 139 [.i a,.i b] 1),.i (oi 139 [.i a,.i b] 2),.i (oi 139 [.i a,.i b] 3)]) G t O L:=aY (nj _ (aBx a b))
def aBy(a:Int):∃o,TB.Ev 274 [.i a] o/\∃X,o=.ret X/\fA (kI 3) X=true:=by
 refine eI ?_;simp[aie]
 repeat'(first|intro _|split)
 have W:lenOf (wl[2]?.getD default).val=8:=rfl;rw[show be .sub I a 1=a-1 by simp only[be];exact i8 ae ae,W];omega
@[simp] def aJC (a:Int):gX TB.Ev R 274 [.i a] G t O L=io TB.Ev R (.ret [.i (oi 274 [.i a] 0),.i (oi 274 [.i a] 1),.i (oi 274 [.i a] 2)]) G t O L:=aY (nj _ (aBy a))
def aBz(a b c d e f:Int):∃o,TB.Ev 276 [.i a,.i b,.i c,.i d,.i e,.i f] o/\∃X,o=.ret X/\fA (kI 2) X=true:=by
 refine eI ?_;simp[ail]
@[simp] def aJD (a b c d e f:Int):gX TB.Ev R 276 [.i a,.i b,.i c,.i d,.i e,.i f] G t O L=io TB.Ev R (.ret [.i (oi 276 [.i a,.i b,.i c,.i d,.i e,.i f] 0),.i (oi 276 [.i a,.i b,.i c,.i d,.i e,.i f] 1)]) G t O L:=aY (nj _ (aBz a b c d e f))
def aBA(a b c:Int):∃o,TB.Ev 219 [.i a,.i b,.i c] o/\∃X,o=.ret X/\fA (kI 3) X=true:=by
 refine eI ?_;simp[aim]
@[simp] def aJE (a b c:Int):gX TB.Ev R 219 [.i a,.i b,.i c] G t O L=io TB.Ev R (.ret [.i (oi 219 [.i a,.i b,.i c] 0),.i (oi 219 [.i a,.i b,.i c] 1),.i (oi 219 [.i a,.i b,.i c] 2)]) G t O L:=aY (nj _ (aBA a b c))
def aBB(s:RV)(b:Int):∃o,TB.Ev 128 [.r s,.i b] o/\∃X,o=.ret X/\fA (kI 1) X=true:=by
 cases W:s.val with|string u=>exact⟨_,afq (by simp only[TB,LJ,aaW,W];rfl),_,rfl,rfl⟩|_=>exact⟨_,afq (by simp only[TB,LJ,aaW,W];rfl),_,rfl,rfl⟩
@[simp] def aJF (s:RV) (b:Int):gX TB.Ev R 128 [.r s,.i b] G t O L=io TB.Ev R (.ret [.i (oi 128 [.r s,.i b] 0)]) G t O L:=aY (nj _ (aBB s b))
def aBC(a:Int):∃o,TB.Ev 90 [.i a] o/\∃X,o=.ret X/\fA (kI 1) X=true:=by
 refine eI ?_;simp[aiF]
@[simp] def aJG (a:Int):gX TB.Ev R 90 [.i a] G t O L=io TB.Ev R (.ret [.i (oi 90 [.i a] 0)]) G t O L:=aY (nj _ (aBC a))
def DW(v:RV):Prop:=∃s,v.val=.string s
def UC(v:RV):DW (cH .str v):=by
 simp only[cH];split<;>exact⟨_,rfl⟩
def aBD(s:RV)(Q:DW s):∃o,TB.Ev 64 [.r s] o/\∃W,o=.ret W/\fA [.bool] W=true:=by
 refine eI ?_;obtain⟨u,V⟩:=Q;simp[aiB,V,xB,lenOf];intro P G;have N:0<u.size:=by
  rcases Jt u.size with h|h;exfalso;apply P;have M:u=ByteArray.empty:=by simpa using h
  rw[M,ByteArray.toList,ByteArray.toList.loop];simp;exact h
 refine⟨N,λ_=> ?_⟩;refine bQ u.size (λ_ H=>H=[]) ⟨0,rfl,ae,rfl⟩ ?_;rintro i _ X rfl;simp[V,lenOf];intro X;simp[bD X (show u.size<=140737488355328 from ae),X]
def aBE(s:RV)(X:DW s):gX TB.Ev R 64 [.r s] G t O L=io TB.Ev R (.ret [.b (ob 64 [.r s] 0)]) G t O L:=aY (nj [.bool] (aBD s X))
def t74(W V a2 Q P a5 a6 a7 a8 N M mF mG:Int):∃o,TB.Ev 34 [.i W,.i V,.i a2,.i Q,.i P,.i a5,.i a6,.i a7,.i a8,.i N,.i M,.i mF,.i mG] o/\∃X,o=.ret X/\fA (kI 1) X=true:=by
 refine eI ?_;simp[T74]
def o74(X W a2 V Q a5 a6 a7 a8 P N mF mG:Int):Int:=oi 34 [.i X,.i W,.i a2,.i V,.i Q,.i a5,.i a6,.i a7,.i a8,.i P,.i N,.i mF,.i mG] 0
@[simp] def c74 (X W a2 V Q a5 a6 a7 a8 P N mF mG:Int):gX TB.Ev R 34 [.i X,.i W,.i a2,.i V,.i Q,.i a5,.i a6,.i a7,.i a8,.i P,.i N,.i mF,.i mG] G t O L=io TB.Ev R (.ret [.i (o74 X W a2 V Q a5 a6 a7 a8 P N mF mG)]) G t O L:=aY (nj _ (t74 X W a2 V Q a5 a6 a7 a8 P N mF mG))
def t75(s:RV)(X:DW s)(W V a2 Q P a5 a6 a7 a8 N M mF mG pE H G:Int):∃o,TB.Ev 41 [.r s,.i W,.i V,.i a2,.i Q,.i P,.i a5,.i a6,.i a7,.i a8,.i N,.i M,.i mF,.i mG,.i pE,.i H,.i G] o/\∃e,o=.ret [.i e]/\(e=0->(1<=mF/\mF<=3)/\(1<=mG/\mG<=3)/\1<=pE/\pE<=3):=by
 refine eI ?_;simp[T75,aBE s X];intros;omega
def Qm(s:RV)(X W a2 V Q a5 a6 a7 a8 P N mF mG pE M H:Int):Int:=oi 41 [.r s,.i X,.i W,.i a2,.i V,.i Q,.i a5,.i a6,.i a7,.i a8,.i P,.i N,.i mF,.i mG,.i pE,.i M,.i H] 0
def f75(s:RV)(G:DW s)(X W a2 V Q a5 a6 a7 a8 P N mF mG pE M H:Int):TB.Ev 41 [.r s,.i X,.i W,.i a2,.i V,.i Q,.i a5,.i a6,.i a7,.i a8,.i P,.i N,.i mF,.i mG,.i pE,.i M,.i H] (.ret [.i (Qm s X W a2 V Q a5 a6 a7 a8 P N mF mG pE M H)])/\(Qm s X W a2 V Q a5 a6 a7 a8 P N mF mG pE M H=0->(1<=mF/\mF<=3)/\(1<=mG/\mG<=3)/\1<=pE/\pE<=3):=I5 (t75 s G X W a2 V Q a5 a6 a7 a8 P N mF mG pE M H)
def c75(s:RV)(F:DW s)(X W a2 V Q a5 a6 a7 a8 P N mF mG pE M H:Int):gX TB.Ev R 41 [.r s,.i X,.i W,.i a2,.i V,.i Q,.i a5,.i a6,.i a7,.i a8,.i P,.i N,.i mF,.i mG,.i pE,.i M,.i H] G t O L=io TB.Ev R (.ret [.i (Qm s X W a2 V Q a5 a6 a7 a8 P N mF mG pE M H)]) G t O L:=aY (f75 s F X W a2 V Q a5 a6 a7 a8 P N mF mG pE M H).1
def t27(W V Q P N M H G F D B A z:Int)(s:RV)(y:DW s)(x w a2 v u a5 a6 a7 a8 q p mF mG pE n m:Int):∃o,TB.Ev 115 [.i W,.i V,.i Q,.i P,.i N,.i M,.i H,.i G,.i F,.i D,.i B,.i A,.i z,.r s,.i x,.i w,.i a2,.i v,.i u,.i a5,.i a6,.i a7,.i a8,.i q,.i p,.i mF,.i mG,.i pE,.i n,.i m] o/\∃X,o=.ret X/\fA (kI 5) X=true:=by
 refine eI ?_;simp(maxSteps:=9999999) [T27,c75 s y]

variable[Inhabited cm]
def cr(e:TypeId)(v:RV)(i:Nat):RV:=cH (.sl e) (aQ v.ah i 0)
def e65(V:Aq)(h:dV)(ap:Int):TB.Ev 100 (wk++[.i ap]) (.ret [.i (if jU=0 then(if jk ap 0 (eU-1) then 0 else 1) else jU)]):=by
 refine kD ?_;obtain⟨W,Q⟩:=yD V h;simp only[wk] at W;simp[T65,wk,aY W];split;rename_i X;have:=(Q X).br;rw[show be .sub I eU 1=eU-1 by simp only[be];rw[i8 ae ae]];split<;>simp_all;rename_i X;simp[X]
def LM(c:Nat->Int):aZ:=[.i (c 0),.i (c 1),.i (c 2),.i (c 3),.i (c 4),.i (c 5),.i (c 6),.i (c 7)]
def t25(c:Nat->Int)(ap:Int):∃o,TB.Ev 43 (LM c++[.i ap]) o/\∃X,o=.ret X/\fA (kI 5) X=true:=by
 refine eI ?_;simp[T25,LM]
def mH(c:Nat->Int)(ap:Int)(k:Nat):Int:=oi 43 (LM c++[.i ap]) k
def f25(c:Nat->Int)(ap:Int):TB.Ev 43 (LM c++[.i ap]) (.ret [.i (mH c ap 0),.i (mH c ap 1),.i (mH c ap 2),.i (mH c ap 3),.i (mH c ap 4)]):=nj _ (t25 c ap)
def as5(n:Nat)(v:av):Prop:=Y v<=4096/\∀x∈v,(0<=aI 0 x/\aI 0 x<n)/\0<=aI 1 x/\aI 1 x<n
def t23(H:Aq)(h:dV)(ap:Int):∃o,TB.Ev 71 (wk++[.i ap]) o/\∃v e,o=.ret [.r (ao v),.i e]/\(e≠0->v=[])/\as5 (Y ay.ah) v/\(e=0->jU=0/\jk ap 0 (eU-1)=J):=by
 refine eI ?_;have M:=e65 H h ap;obtain⟨-,F⟩:=yD H h;simp only[wk,cU,du] at M;obtain⟨e,P⟩:∃e,e=(if jU=0 then(if jk ap 0 (eU-1) then 0 else 1) else jU):=⟨_,rfl⟩;rw[<-P] at M;simp[T23,wk,aY M];split
 case isFalse D=>
  exact⟨[],e,⟨rfl,rfl⟩,λ_=>rfl,⟨aw,aw⟩,λh=>bE h D⟩
 rename_i B;have X:jU=0/\jk ap 0 (eU-1)=true:=by
  subst B;by_cases X:jU=0;rw[aH X] at P;refine⟨X, ?_⟩;cases A:jk ap 0 (eU-1);simp[A] at P;rfl;rw[aP X] at P;exact bE P.symm X
 have z:=F X.1;have w:=z.nr;refine bQ (Y di.ah) (λi N=>∃v,N=[.r v]) ⟨0,rfl,ae,_,rfl⟩ ?_;rintro i _ W ⟨m,rfl⟩;simp[h.sg.len];split;rename_i W;simp[bD W h.sg.sm,W];refine bQ (Y ay.ah) (λi N=>∃v,N=[.r (ao v)]/\Y v<=i*64/\∀x∈v,(0<=aI 0 x/\aI 0 x<Y ay.ah)/\0<=aI 1 x/\aI 1 x<Y ay.ah) ⟨0,rfl,ae,[],rfl,aw,aw⟩ ?_;rintro i _ W ⟨v,rfl,y,V⟩;simp[h.rl.len];split;rename_i W;refine bQ (Y ay.ah) (λj N=>∃v,N=[.r (ao v)]/\Y v<=i*64+j/\∀x∈v,(0<=aI 0 x/\aI 0 x<Y ay.ah)/\0<=aI 1 x/\aI 1 x<Y ay.ah) ⟨0,rfl,ae,v,rfl,ae,V⟩ ?_;rintro j _ G ⟨v,rfl,y,V⟩;simp[h.rl.len];split
 ·rename_i G;simp[bD G h.rl.sm]
  repeat' split
  all_goals first
   |exact⟨v,rfl,ae,V⟩
   |(refine⟨ae,_,rfl,bZ,λx Q=> ?_⟩
     rcases fg.1 Q with Q|Q;exact V x Q;simp at Q;subst Q;simp[aI,bn];omega)
 simp[bD W h.rl.sm];exact⟨v,rfl,ae,V⟩;exact⟨v,0,⟨rfl,rfl⟩,aw,⟨ae,V⟩,λ_=>by simpa using X⟩

def aBJ(M:Aq)(h:dV)(bw ap:Int)(r:RV)(V:Sl r)(H:0<(dS bw ap).length):∃o,TB.Ev 45 (wk++[.i bw,.i ap,.r r]) o/\∃e,o=.ret [.i e]/\(e=0->ma bw ap=0/\∃v,Ar (dS bw ap) r (dS bw ap).length v):=by
 refine eI ?_;have G:=I8 M h bw ap;have F:=(yD M h).2;have x:=UB (bw:=bw) (ap:=ap) F;have A:=aa1 (bw:=bw) (ap:=ap) F;simp only[wk,cU,du] at G;generalize dS bw ap=l at*;generalize ma bw ap=e at*;simp[Ut,wk,aY G,V.len];split
 case isFalse W=>simp[W]
 rename_i W;intro z;rw[Ge];refine⟨.inl rfl,λ_=> ?_,λh=> ?_,λ_ h=> ?_⟩;simp;refine⟨ae, ?_⟩
 first|rw[wV]|rw[wW]
 refine⟨_,asY bZ (by simpa using A), ?_⟩;simp;have w:(bN (bu.lex [0] E).lt l).length=Y l:=pL;refine bQ (Y l) (λi Q=>∃v,Q=[.r (ao v)]/\Ar l r i v) ⟨0,rfl,ae,[],rfl,rfl,ae⟩ ?_;rintro i _ P ⟨v,rfl,N⟩;simp;split;rename_i P;refine⟨P, ?_⟩;refine bQ (Y l) (λj Q=>Q=[.r (ao v)]) ⟨0,rfl,ae,rfl⟩ ?_;rintro j _ X rfl;simp[V.len];intro X;have u:=N.1;simp[bD X (show Y l<=140737488355328 from ae)];refine⟨X,λW=>⟨ae, ?_⟩⟩;obtain⟨D,B⟩:=f225 (bX l i) (ci r j 0) (ci r j 1) (ci r j 2) (cb r j 3);simp only[lZ,bX,ci,cb,cU,du] at D B;rw[aY D];simp[bD X (show Y l<=140737488355328 from ae),bD P (show Y l<=140737488355328 from ae),<-z,V.len];intro y;refine⟨X,ae, ?_⟩;have:=N.add (k:=j) ae (B y);exact⟨_,rfl,this⟩;have:i=Y l:=ae;subst this;exact⟨W,v,N⟩;simp at h;simp[h] at H;simp at h;simp[h] at H
def aBK(N:Aq)(h:dV)(bw ap:Int)(r:RV)(M:Sl r)(H:dS bw ap=[]):TB.Ev 45 (wk++[.i bw,.i ap,.r r]) (.ret [.i (if ma bw ap≠0 then ma bw ap else if Y r.ah=0 then 0 else 270)]):=by
 refine kD ?_;have W:=I8 N h bw ap;rw[H] at W;simp only[wk,cU,du] at W;generalize ma bw ap=e at*;simp[Ut,wk,aY W,M.len];split
 case isFalse X=>simp[X]
 rename_i X;split
 case isFalse h=>
  simp;intro e;simp[e] at h
 rename_i h;have Q:r.ah=[]:=AC.1 ae;have P:iu (bu.lex [0] E) E []=U []:=rfl;simp only[Ge,wV,wW];refine⟨.inl rfl,λ_=> ?_,λ_=> ?_,λ_ _=>single (Hv _)⟩
 ·try simp
  try simp only[wV,wW]
  refine⟨_,by simpa using P, ?_⟩;refine bQ 0 (λi V=>V=[.r (ao [])]) ⟨0,rfl,ae,rfl⟩ ?_;rintro i _ G rfl;have:i=0:=ae;simp[Q,X,this]
 ·try simp
  try simp only[wV,wW]
  refine⟨_,by simpa using P, ?_⟩;refine bQ 0 (λi V=>V=[.r (ao [])]) ⟨0,rfl,ae,rfl⟩ ?_;rintro i _ G rfl;have:i=0:=ae;simp[Q,X,this]
def t85(W:Aq)(h:dV)(bw ap:Int)(r:RV)(V:Sl r):∃o,TB.Ev 45 (wk++[.i bw,.i ap,.r r]) o/\∃e,o=.ret [.i e]/\(e=0->ma bw ap=0/\∃v,Ar (dS bw ap) r (dS bw ap).length v):=by
 by_cases X:dS bw ap=[];refine⟨_,aBK W h bw ap r V X,_,rfl,λQ=> ?_⟩;split at Q;rename_i P;exact bE Q P;rename_i P;exact⟨ae,[],by rw[X];exact⟨rfl,aw⟩⟩;exact aBJ W h bw ap r V (avR.2 X)
end
def aW{c:Prop}[Decidable c]{A B:Prop}(X:c->A)(W:¬c->B):if c then A else B:=by
 by_cases h:c;rw[aH h];exact X h;rw[aP h];exact W h
section
variable{R:aX->Prop}{G:aL}{t:T}{O:aj}{L:ck}
variable[Inhabited cm]
end
section
variable{R:aX->Prop}{G:aL}{t:T}{O:aj}{L:ck}
def t81(W:Int)(Q N M:RV)(P:Sl Q)(H:Sl N)(G:Sl M):∃o,TB.Ev 60 [.i W,.r Q,.r N,.r M] o/\∃e,o=.ret [.i e]/\(e=0->Qh Q/\1<=W/\W<=4096):=by
 refine Qg rfl rfl (.inr λv D=>by obtain⟨_,h,_⟩:=D;cases h) ?_;simp[T81,P.len,H.len,G.len]
 repeat'(first|intro _|split)
 refine⟨me, ?_⟩;intro B;have A:0<Y Q.ah:=me;have F:Qh Q:=⟨P,A,by simpa[ci] using B⟩;have z:1<=W/\W<=4096:=ae;refine bQ (Y Q.ah) (λ_ V=>∃n:Int,V=[.i n]) ⟨0,rfl,ae,_,rfl⟩ ?_;rintro i _ X ⟨n,rfl⟩;simp[P.len];split;rename_i X;simp[bD X P.sm,X];refine bQ W.toNat (λ_ V=>V=[]) ⟨0,rfl,ae,rfl⟩ ?_;rintro i _ X rfl;simp;split;rename_i X;have y:i<W.toNat:=ae;rw[asT _ _ _ _ _ F ae];simp[bD y (show W.toNat<=140737488355328 from ae)];refine bQ (Y N.ah) (λ_ V=>∃n:Int,V=[.i n]) ⟨0,rfl,ae,_,rfl⟩ ?_;rintro i _ X ⟨n,rfl⟩;simp[H.len];split;rename_i X;simp[bD X H.sm,X];refine bQ (Y M.ah) (λ_ V=>V=[]) ⟨0,rfl,ae,rfl⟩ ?_;rintro i _ X rfl;simp[G.len];split;rename_i X;simp[bD X G.sm,X];exact⟨F,z⟩
def oW:Aq:=λX W V Q P N M=>I5 (t81 X W V Q P N M)

def Aft:Prop:=∀(W V Q P N M H G F D B A z:Int)(c:Nat->Int)(p q r:Int)(b:Bool),∃o,TB.Ev 171 ([.i W,.i V,.i Q,.i P,.i N,.i M,.i H,.i G,.i F,.i D,.i B,.i A,.i z]++lZ c++[.i p,.i q,.i r,.b b]) o/\∃X,o=.ret X/\fA (kI 14) X=J
def ajh:Aft:=by
 intro A z y x w v u s o n m l k c p q r b;refine eI ?_;by_cases X:c 4=1\/c 4=2\/c 4=3\/c 4=4\/c 4=5\/c 4=6\/c 4=7\/c 4=8\/c 4=9
 ·rcases X with h|h|h|h|h|h|h|h|h
  all_goals
   simp(maxSteps:=9999999) [aaJ,lZ,h]
   try
    (repeat'(first|intro _|split)
     all_goals
      have W:be .sub I (c 5) 1=c 5-1:=by simp only[be];exact i8 ae ae
      have V:be .add I (c 5) 1=c 5+1:=by simp only[be];exact i8 ae ae
      simp only[W,V] at*
      first|omega|(exfalso;omega))
 simp only[not_or] at X;obtain⟨Q,P,N,M,H,G,F,D,B⟩:=X;simp(maxSteps:=9999999) [aaJ,lZ,Q,P,N,M,H,G,F,D,B]
variable[Inhabited cm]
def Qn:∀{n:Nat}{ys:aZ},fA (kI n) ys=J->∃f:Nat->Int,ys=(dj n).map λk=>.i (f k)
 |0,[],_=>⟨λ_=>0,rfl⟩|0,_::_,h=>by simp at h|n+1,[],h=>by simp at h
 |n+1,y::ys,h=>by
  simp only[I9,fA,aC] at h;obtain⟨f,X⟩:=Qn (n:=n) (ys:=ys) h.2;cases y<;>simp only[NP,iW,false_and] at h;rename_i x;refine⟨λk=>match k with|0=>x|k+1=>f k, ?_⟩
  rw[X,avK];simp
def t89(h:dV)(bw ap:Int)(x:Nat->Int)(r:RV)(M:Sl r):∃o,TB.Ev 113 (wk++[.i bw,.i ap,.i (x 0),.i (x 1),.i (x 2),.i (x 3),.i (x 4),.i (x 5),.i (x 6),.i (x 7),.i (x 8),.i (x 9),.i (x 10),.i (x 11),.i (x 12),.r r]) o/\∃X,o=.ret X/\fA (kI 14) X=true:=by
 refine eI ?_;have Q:=I8 oW h bw ap;have P:=(yD oW h).2;have H:=UB (bw:=bw) (ap:=ap) P;have G:=aa1 (bw:=bw) (ap:=ap) P;simp only[wk,cU,du] at Q;generalize dS bw ap=l at*;generalize ma bw ap=e at*;obtain⟨o,F,v,b,rfl,y,D⟩:=as2 l r M H G;simp[T89,wk,aY Q,aY F];intro _ _ B;have w:Y v<=4096:=by have:=(D B).1;omega
 refine bQ (Y v) (λi N=>fA (kI 26) N=J) ⟨0,rfl,ae,rfl⟩ ?_;rintro i N W A;obtain⟨f,rfl⟩:=Qn A;rw[show dj 26=[0,1,2,3,4,5,6,7,8,9,10,11,12,13,14,15,16,17,18,19,20,21,22,23,24,25] from rfl];simp;intro W;obtain⟨o,V,X,rfl,z⟩:=ajh (f 13) (f 14) (f 15) (f 16) (f 17) (f 18) (f 19) (f 20) (f 21) (f 22) (f 23) (f 24) (f 25) (bX v i) (bX v i 14) (bX v i 15) (bX v i 16) (jr (aQ v i 17).val);obtain⟨g,rfl⟩:=Qn z;rw[show dj 14=[0,1,2,3,4,5,6,7,8,9,10,11,12,13] from rfl] at V;simp only[lZ,bX,cU,du,dG,oD] at V;simp[aY V,bD W (show Y v<=140737488355328 from ae),W]
end
section
variable{R:aX->Prop}{G:aL}{t:T}{O:aj}{L:ck}
variable[Inhabited cm]
def ajj{v:RV}{X:T}{e:TypeId}{W Q P:bo}(V:Sl v)(M:Y v.ah<=536870912)(N:X=.gr (.c J) (.cmp .leq (.len (.v 0)) (.c 0)) (.aS (.cmp .leq (.len (.v 0)) (.c 536870912)) (.new e (.iA (.lit []) (.ak (.v 0))) W Q (.ret (.ak (.v 1)) [] P))) (.ret (.ak (.k (.slice Z 0 0))) [] W)):T.wp TB.Ev (· =.ret [.r (ao v.ah)]) X (dI [] [.r v]) []:=by
 subst N;rw[Ge];refine⟨.inl rfl,λ_=> ?_,λh=> ?_,λ_ h=> ?_⟩;simp[zw,V.len];omega
 all_goals
  have h:v.ah=[]:=by
   simp[V.len] at h;exact h
 simp[zw,h];exact single (Hv _)
def e86(v:RV)(X:Sl v)(h:Y v.ah<=536870912):TB.Ev 110 [.r v] (.ret [.r (ao v.ah)]):=kD (ajj X h rfl)
def e87(v:RV)(X:Sl v)(h:Y v.ah<=536870912):TB.Ev 111 [.r v] (.ret [.r (ao v.ah)]):=kD (ajj X h rfl)
def e88(v:RV)(X:Sl v)(h:Y v.ah<=536870912):TB.Ev 112 [.r v] (.ret [.r (ao v.ah)]):=kD (ajj X h rfl)
def aBN(v:RV)(W:Sl v)(a b c:Int)(d:Bool):∃o,TB.Ev 176 [.r v,.i a,.i b,.i c,.b d] o/\∃V,o=.ret V/\fA (kI 1) V=true:=by
 refine eI ?_;simp[aiy];refine bQ (Y v.ah) (λ_ Q=>Q=[]) ⟨0,rfl,ae,rfl⟩ ?_;rintro i _ X rfl;simp[W.len];intro X;simp[bD X W.sm,X]
def aBO(v:RV)(W:Sl v)(a b c:Int)(d:Bool):∃o,TB.Ev 146 [.r v,.i a,.i b,.i c,.b d] o/\∃X,o=.ret X/\fA [.bool] X=true:=by
 refine eI ?_;have h:=nj _ (aBN v W a b c d);simp[aix,aY h,t7]
def as9(v:RV)(X:Sl v)(a b c:Int)(d:Bool):gX TB.Ev R 146 [.r v,.i a,.i b,.i c,.b d] G t O L=io TB.Ev R (.ret [.b (ob 146 [.r v,.i a,.i b,.i c,.b d] 0)]) G t O L:=aY (nj [.bool] (aBO v X a b c d))
def aBP(Q:Aq)(h:dV)(id:Int):∃o,TB.Ev 174 (wk++[.i id]) o/\∃W,o=.ret W/\fA (kI 15) W=true:=by
 refine eI ?_;obtain⟨V,H⟩:=yD Q h;simp only[wk] at V;simp[aiQ,wk,aY V];intro G;have F:=h.sg.sm;refine Ap (λX=>∃i j:Nat,X=[.i i,.i j]/\i<=j/\j<=Y di.ah) (λX=>(xi X 1-xi X 0).toNat) ⟨0,Y di.ah,by simp[h.sg.len],ae,ae⟩ ?_;rintro _ ⟨i,j,rfl,P,D⟩;simp[xi,BO,h.sg.len,ajd (show j<=140737488355328 from ae) P];split;rename_i B;refine⟨ae, ?_⟩;have N:((i:Int)+j)/2=(((i+j)/2:Nat):Int):=ae;have M:=wX (i:=(i+j)/2) ae;rw[N,M];split;exact⟨⟨(i+j)/2+1,j,⟨rfl,rfl⟩,ae,ae⟩,ae⟩;exact⟨⟨i,(i+j)/2,⟨rfl,rfl⟩,ae,ae⟩,ae⟩;intro A;omega
def aBQ(N:BT)(h:dV)(ap:Int)(V M H X G:RV)(c:Nat->Int)(F:Sl V)(D:Sl X)(y:Y V.ah=Y ay.ah)(x:Y X.ah=Y ay.ah)(bY:∀i<Y X.ah,Sl (cr 96 X i)):∃o,TB.Ev 147 (wk++[.i ap,.r V,.r M,.r H,.r X,.r G]++lZ c) o/\∃P,o=.ret P/\fA [.bool] P=true:=by
 refine eI ?_;simp[aiz,wk,lZ];refine bQ (Y di.ah) (λ_ B=>B=[]) ⟨0,rfl,ae,rfl⟩ ?_;rintro i _ W rfl;simp[h.sg.len,F.len,D.len];intro W;simp[bD W h.sg.sm,W];intros;have A:=(N.Uz i W).bw;simp only[ci] at A;refine⟨ae,λ_=>⟨ae, ?_⟩⟩;have z:(bn (aQ di.ah (i:Int) 1).val).toNat<Y X.ah:=ae;have Q:=bY _ z;simp only[cr] at Q;rw[show(((bn (aQ di.ah (i:Int) 1).val).toNat:Nat):Int)=bn (aQ di.ah (i:Int) 1).val from ae] at Q;rw[as9 _ Q];simp[bD W h.sg.sm]

def gl0:RV:=wl[0]?.getD default
def LN:RV:=wl[1]?.getD default
def gl2:RV:=wl[2]?.getD default
def aBT:wl=[gl0,LN,gl2]:=rfl
def ata:lenOf LN.val=10:=rfl
def rG(k:Int)(j:Nat):RV:=cH (.sl 3) (aQ LN.ah k j)
def aBU{k s:Int}(Q:1<=k/\k<=9)(W:if k=1\/k=3\/k=4\/k=9 then 1<=s/\s<=2 else s=0):
  (lenOf (rG k 0).val=(rG k 0).ah.length/\(rG k 0).ah.length<=2/\∀i:Nat,i<(rG k 0).ah.length->0<=bn (aQ (rG k 0).ah i 0).val/\bn (aQ (rG k 0).ah i 0).val<=2/\1<=s/\s<=2)/\
  (lenOf (rG k 1).val=(rG k 1).ah.length/\(rG k 1).ah.length<=2/\∀i:Nat,i<(rG k 1).ah.length->0<=bn (aQ (rG k 1).ah i 0).val/\bn (aQ (rG k 1).ah i 0).val<=4):=by
 have:k=1\/k=2\/k=3\/k=4\/k=5\/k=6\/k=7\/k=8\/k=9:=ae;rcases this with rfl|rfl|rfl|rfl|rfl|rfl|rfl|rfl|rfl
 all_goals
  simp at W;refine⟨⟨rfl,ew,λi X=> ?_⟩,rfl,ew,λi X=> ?_⟩
  all_goals
   simp[rG,LN,wl,Bg,sV,iV,aQ,cH,-asU] at X
   try
    have V:i=0\/i=1:=ae;rcases V with rfl|rfl
    all_goals simp[rG,LN,wl,Bg,sV,iV,aQ,cH,bn,-asU] at X⊢
    all_goals(try omega)
def aBV{bw ap:Int}{v:av}{r:RV}(Q:jU=0->BT)(h:Ar (dS bw ap) r (dS bw ap).length v){i:Nat}(W:i<Y v):∃c,BR (Y ay.ah) eU c/\∀j<14,bn (aQ v (i:Int) j).val=c j:=by
 rw[h.1] at W;obtain⟨k,F,P,D⟩:=h.2 i W;obtain⟨x,V⟩:∃x,(dS bw ap)[i]?=U x:=⟨_,dB W⟩;obtain⟨m,B,N,A,z,M⟩:=as1 Q (jA V);refine⟨ci di m,M,λj X=> ?_⟩;have H:∀j<14,bX (dS bw ap) i j=ci di m j:=λj X=>by
  have:=Qk (ci di m) j X;simp only[bX,aQ,rM,dA,V,N];simpa[aI] using this
 have G:∀j<14,bn ((aje (bX (dS bw ap) i) r k).getD j default).val=bX (dS bw ap) i j:=λj X=>by
  match j,X with|0,_|1,_|2,_|3,_|4,_|5,_|6,_|7,_|8,_|9,_|10,_|11,_|12,_|13,_=>rfl
 rw[<-H j X,<-G j X];simp only[aQ,rM,dA,P];rfl
def kB:Nat->aL
 |0=>[]|n+1=>.bool::kB n
@[simp] def kB0:kB 0=[]:=rfl
@[simp] def kBs (n:Nat):kB (n+1)=.bool::kB n:=rfl
def aa3:∀{n:Nat}{ys:aZ},fA (kB n) ys=J->∃f:Nat->Bool,ys=(dj n).map λk=>.b (f k)
 |0,[],_=>⟨λ_=>E,rfl⟩|0,_::_,h=>by simp at h|n+1,[],h=>by simp at h
 |n+1,y::ys,h=>by
  simp only[kBs,fA,aC] at h;obtain⟨f,X⟩:=aa3 (n:=n) (ys:=ys) h.2;cases y<;>simp only[NP,iW,false_and] at h;rename_i x;refine⟨λk=>match k with|0=>x|k+1=>f k, ?_⟩
  rw[X,avK];simp
def atb:∀{n:Nat}{ys:aZ},fA (kI n++[.bool]) ys=J->∃(f:Nat->Int)(b:Bool),ys=(dj n).map (λk=>.i (f k))++[.b b]
 |0,[],h=>by simp at h|0,[.b b],_=>⟨λ_=>0,b,rfl⟩|0,[.i _],h=>by simp at h|0,[.r _],h=>by simp at h|0,_::_::_,h=>by simp at h|n+1,[],h=>by simp at h
 |n+1,y::ys,h=>by
  simp only[I9,cU,fA,aC] at h;obtain⟨f,b,X⟩:=atb (n:=n) (ys:=ys) h.2;cases y<;>simp only[NP,iW,false_and] at h;rename_i x;refine⟨λk=>match k with|0=>x|k+1=>f k,b, ?_⟩
  rw[X,avK];simp
def t90(h:dV)(bw ap:Int)(x:Nat->Int)(N:RV)(ac:DW N)(y:Nat->Int)(r:RV)(hr:Sl r):∃o,TB.Ev 114 (wk++[.i bw,.i ap,.i (x 0),.i (x 1),.i (x 2),.i (x 3),.i (x 4),.i (x 5),.i (x 6),.i (x 7),.i (x 8),.i (x 9),.i (x 10),.i (x 11),.i (x 12),.r N,.i (y 1),.i (y 2),.i (y 3),.i (y 4),.i (y 5),.i (y 6),.i (y 7),.i (y 8),.i (y 9),.i (y 10),.i (y 11),.i (y 12),.i (y 13),.i (y 14),.i (y 15),.i (y 16),.r r]) o/\∃M,o=.ret M/\fA (kI 5) M=true:=by
 refine eI ?_;have m:=I8 oW h bw ap;have H:=(yD oW h).2;have hl:=UB (bw:=bw) (ap:=ap) H;have hk:=aa1 (bw:=bw) (ap:=ap) H;have fP:= @aBV _ bw ap;simp only[wk,cU,du] at m;generalize dS bw ap=l at*;generalize ma bw ap=e at*;obtain⟨o,h2,v,b,rfl,h3,h4⟩:=as2 l r hr hl hk;simp[T90,wk,aBT,aY m,aY h2,c75 N ac];intro _ _ _ hb;have j:=h4 hb;have hv:Y v<=4096:=by have:=j.1;omega
 have G:Y v<=140737488355328:=ae;refine bQ (Y v) (λi X=>fA (kB 6) X=J) ⟨0,rfl,ae,rfl⟩ ?_;rintro i X W V;obtain⟨f,rfl⟩:=aa3 V;rw[show dj 6=[0,1,2,3,4,5] from rfl];simp;split
 ·rename_i W;obtain⟨c,F,d⟩:=fP H j W;have D:=d 4 ae;have af:=d 5 ae;obtain⟨B,A⟩:=aBU F.kind F.side;have ag:=F.kind;have aa:cH (.sl 3) (aQ LN.ah (c 4) 0)=rG (c 4) 0:=rfl;have ab:cH (.sl 3) (aQ LN.ah (c 4) 1)=rG (c 4) 1:=rfl;generalize rG (c 4) 0=z at B aa;generalize rG (c 4) 1=w at A ab;simp[bD W G,W,D,ata];intro _;split
  all_goals
   refine⟨ae, ?_⟩;refine bQ (Y z.ah) (λ_ X=>fA (kB 5) X=J) ⟨0,rfl,ae,rfl⟩ ?_;rintro a X Q V;obtain⟨g,rfl⟩:=aa3 V;rw[show dj 5=[0,1,2,3,4] from rfl];simp[D,af,aa,B.1,ata];split;rename_i Q;have s:=B.2.2 a Q;generalize bn (aQ z.ah (a:Int) 0).val=x at s;rw[show be .sub I (be .add I x (c 5)) 1=x+c 5-1 by simp only[be];rw[i8 (n:=x+c 5) ae ae,i8 ae ae]];simp[bD Q (show Y z.ah<=140737488355328 from ae),Q];omega;refine⟨ae, ?_⟩;refine bQ (Y w.ah) (λ_ X=>fA (kB 5) X=J) ⟨0,rfl,ae,rfl⟩ ?_;rintro a' X P V;obtain⟨g',rfl⟩:=aa3 V;rw[show dj 5=[0,1,2,3,4] from rfl];simp[D,ab,A.1];split;rename_i P;have s:=A.2.2 a' P;generalize bn (aQ w.ah (a':Int) 0).val=x at s;simp[bD P (show Y w.ah<=140737488355328 from ae),P];omega;simp[bD W G]
 refine bQ 5 (λ_ X=>fA (kI 4) X=J) ⟨0,rfl,ae,rfl⟩ ?_;rintro k X q V;obtain⟨g,rfl⟩:=Qn V;rw[show dj 4=[0,1,2,3] from rfl];have hq:be .quo I (k:Int) 2=((k/2:Nat):Int):=by
  simp only[be];rw[show(k:Int).tdiv 2=((k/2:Nat):Int) by rw[Int.tdiv_eq_ediv_of_nonneg ae];omega];exact i8 ae ae
 simp[hq];split;rename_i q;have q:k<5:=ae;simp[bD q (show 5<=140737488355328 from ae)];omega;intro _;refine bQ (Y v) (λ_ X=>fA (kI 17++[.bool]) X=J) ⟨0,rfl,ae,rfl⟩ ?_;rintro i X W V;obtain⟨f,b',rfl⟩:=atb V;rw[show dj 17=[0,1,2,3,4,5,6,7,8,9,10,11,12,13,14,15,16] from rfl];simp;intro W;obtain⟨o,p,M,rfl,q2⟩:=ajh (f 4) (f 5) (f 6) (f 7) (f 8) (f 9) (f 10) (f 11) (f 12) (f 13) (f 14) (f 15) (f 16) (bX v i) (bX v i 14) (bX v i 15) (bX v i 16) (jr (aQ v i 17).val);obtain⟨u,rfl⟩:=Qn q2;rw[show dj 14=[0,1,2,3,4,5,6,7,8,9,10,11,12,13] from rfl] at p;simp only[lZ,bX,cU,du,dG,oD] at p;refine⟨W, ?_⟩;rw[aY p];simp[bD W G]
end
section
variable{R:aX->Prop}{G:aL}{t:T}{O:aj}{L:ck}
def aft(x:Nat->Int)(v:av)(i:Nat):Nat->Int:=xi (out 171 ([.i (x 0),.i (x 1),.i (x 2),.i (x 3),.i (x 4),.i (x 5),.i (x 6),.i (x 7),.i (x 8),.i (x 9),.i (x 10),.i (x 11),.i (x 12)]++lZ (bX v i)++[.i (bX v i 14),.i (bX v i 15),.i (bX v i 16),.b (jr (aQ v i 17).val)]))

variable[Inhabited cm]

end
def jN(v:av):Prop:=∀x∈v,jr (x.getD 3 default).val=E
def jN.nil:jN []:=λx X=>by simp at X
def jN.iA{x:aE}(h:jN X)(V:jr (x.getD 3 default).val=E):jN (X++[x]):=λy W=>by
 rcases fg.1 W with W|W;exact h y W
 grind
theorem jN.at(h:jN X)(V:W<Y X):jr (X[W].getD 3 default).val=false:=h _ (sK V)
def jN.cell(h:jN X)(V:W<Y X):jr (aQ X (W:Int) 3).val=false:=by
 have:=h.at V;simpa[aQ,V] using this
section
variable{R:aX->Prop}{G:aL}{t:T}{O:aj}{L:ck}
variable[Inhabited cm]
def ajk{W:ar}{d:Bool}(V:Y X<=1099511627776):iu (.lex W d) J X=U (bN (bu.lex W d).lt X):=by
 simp only[iu];rw[aH (by simp[V,bu.ok])]
def aBX(hc:Aq)(h:dV)(id:Int)(l:RV)(a0:DW l)(f d c b a y5 y6 y7 y8 y9 aa F D B ab ac:Int):∃o,TB.Ev 145 (wk++[.i id,.r l,.i f,.i d,.i c,.i b,.i a,.i y5,.i y6,.i y7,.i y8,.i y9,.i aa,.i F,.i D,.i B,.i ab,.i ac]) o/\∃v e,o=.ret [.r (ao v),.i e]/\(xi (out 174 (wk++[.i id])) 3=1->jN v)/\Y v<=100:=by
 refine eI ?_;have Q:=nj _ (aBP hc h id);have P:=f75 l a0 f d c b a y5 y6 y7 y8 y9 aa F D B ab ac;simp only[wk,cU,du,I9,Ql,t7] at Q;simp only[wk,cU,du];generalize xi (out 174 [XV.i oU,XV.i oV,XV.i wZ,XV.i I6,XV.i I7,XV.r ay,XV.i eU,XV.r l9,XV.r ng,XV.r nh,XV.r di,XV.i id])=g at Q⊢;generalize Qm l f d c b a y5 y6 y7 y8 y9 aa F D B ab ac=a1 at P;by_cases N:g 14=0;by_cases M:a1=0;have ht:=P.2 M;have V:g 4=1\/g 4=2\/g 4=9\/g 4=3\/g 4=4\/g 4=5\/(g 4≠1/\g 4≠2/\g 4≠9/\g 4≠3/\g 4≠4/\g 4≠5):=ae;rcases V with V|V|V|V|V|V|⟨k1,k2,k3,k4,k5,k6⟩
 ·simp(maxSteps:=9999999) [BM,wk,aY Q,aY P.1,N,M,V]
  repeat' split
  all_goals first|exact⟨_,rfl,λe=>bE e me,aw⟩|exact⟨_,rfl,λ_=>by simp[jN,jr],aw⟩
 ·simp(maxSteps:=9999999) [BM,wk,aY Q,aY P.1,N,M,V]
  repeat' split
  all_goals first|exact⟨_,rfl,λe=>bE e me,aw⟩|exact⟨_,rfl,λ_=>by simp[jN,jr],aw⟩
 ·simp(maxSteps:=9999999) [BM,wk,aY Q,aY P.1,N,M,V]
  repeat' split
  all_goals first|exact⟨_,rfl,λe=>bE e me,aw⟩|exact⟨_,rfl,λ_=>by simp[jN,jr],aw⟩
 simp(maxSteps:=9999999) [BM,wk,aY Q,aY P.1,N,M,V];have hT:1<=F/\F<=3:=ht.1;obtain⟨eL,A⟩:∃n:Nat,F=n:=⟨F.toNat,ae⟩;subst A;refine bQ 9 (λi W=>∃v,W=[.r (ao v)]/\jN v/\Y v<=3*i) ⟨0,rfl,ae,[],rfl,jN.nil,aw⟩ ?_;rintro i _ hi ⟨v,rfl,X,z⟩;simp;split;rename_i af;have y:i<9:=ae;refine bQ (eL+1) (λj W=>1<=j/\∃v,W=[.r (ao v)]/\jN v/\Y v+1<=3*i+j) ⟨1,rfl,ae,ae,v,rfl,X,ae⟩ ?_;rintro j _ hj ⟨ag,v,rfl,X,z⟩;simp;split
 ·rename_i al;have w:j<eL+1:=ae;simp[bD w (show eL+1<=140737488355328 from ae)]
  repeat'(first|intro _|split)
  all_goals first
   |exact⟨v,rfl,X,ae⟩
   |(refine⟨ae,_,rfl,X.iA rfl,bZ⟩)
   |(refine⟨⟨ae,ae⟩,_,rfl,X.iA rfl,bZ⟩)
 simp[bD y (show 9<=140737488355328 from ae)];exact⟨v,rfl,X,ae⟩
 first|rw[wV]|rw[wW]
 refine⟨_,ajk bZ, ?_⟩;have s:(bN (bu.lex [4] J).lt v).length=Y v:=pL;simp;have H:jN (bN (bu.lex [4] J).lt v):=λx p=>X x ((BS v).mem_iff.1 p)
 generalize hq:bN (bu.lex [4] J).lt v=q at s H;refine bQ (Y q) (λi W=>∃u,W=[.r (ao u)]/\jN u/\Y u=i) ⟨0,rfl,ae,[],rfl,jN.nil,rfl⟩ ?_;rintro k _ an ⟨u,rfl,G,hu⟩;simp;split;rename_i m;refine⟨m,ae, ?_⟩;rw[bD (show k<Y q from ae) (show Y q<=140737488355328 from ae)];exact⟨_,rfl,G.iA (H.cell (show k<Y q from ae)),bZ⟩
 ·repeat'(first|intro _|split)
  all_goals first
   |exact⟨u,rfl,λ_=>G,ae⟩|(refine⟨ae,_,rfl,λe=>bE e me, ?_⟩;simp;omega)|(refine⟨⟨ae,ae⟩,_,rfl,λe=>bE e me, ?_⟩;simp;omega)
 simp(maxSteps:=9999999) [BM,wk,aY Q,aY P.1,N,M,V];have hT:1<=D/\D<=3:=ht.2.1;obtain⟨eL,A⟩:∃n:Nat,D=n:=⟨D.toNat,ae⟩;subst A;refine bQ 9 (λi W=>∃v,W=[.r (ao v)]/\jN v/\Y v<=3*i) ⟨0,rfl,ae,[],rfl,jN.nil,aw⟩ ?_;rintro i _ hi ⟨v,rfl,X,z⟩;simp;split;rename_i af;have y:i<9:=ae;refine bQ (eL+1) (λj W=>1<=j/\∃v,W=[.r (ao v)]/\jN v/\Y v+1<=3*i+j) ⟨1,rfl,ae,ae,v,rfl,X,ae⟩ ?_;rintro j _ hj ⟨ag,v,rfl,X,z⟩;simp;split
 ·rename_i al;have w:j<eL+1:=ae;simp[bD w (show eL+1<=140737488355328 from ae)]
  repeat'(first|intro _|split)
  all_goals first
   |exact⟨v,rfl,X,ae⟩
   |(refine⟨ae,_,rfl,X.iA rfl,bZ⟩)
   |(refine⟨⟨ae,ae⟩,_,rfl,X.iA rfl,bZ⟩)
 simp[bD y (show 9<=140737488355328 from ae)];exact⟨v,rfl,X,ae⟩
 first|rw[wV]|rw[wW]
 refine⟨_,ajk bZ, ?_⟩;have s:(bN (bu.lex [4] J).lt v).length=Y v:=pL;simp;have H:jN (bN (bu.lex [4] J).lt v):=λx p=>X x ((BS v).mem_iff.1 p)
 generalize hq:bN (bu.lex [4] J).lt v=q at s H;refine bQ (Y q) (λi W=>∃u,W=[.r (ao u)]/\jN u/\Y u=i) ⟨0,rfl,ae,[],rfl,jN.nil,rfl⟩ ?_;rintro k _ an ⟨u,rfl,G,hu⟩;simp;split;rename_i m;refine⟨m,ae, ?_⟩;rw[bD (show k<Y q from ae) (show Y q<=140737488355328 from ae)];exact⟨_,rfl,G.iA (H.cell (show k<Y q from ae)),bZ⟩
 ·repeat'(first|intro _|split)
  all_goals first
   |exact⟨u,rfl,λ_=>G,ae⟩|(refine⟨ae,_,rfl,λe=>bE e me, ?_⟩;simp;omega)|(refine⟨⟨ae,ae⟩,_,rfl,λe=>bE e me, ?_⟩;simp;omega)
 simp(maxSteps:=9999999) [BM,wk,aY Q,aY P.1,N,M,V];have hT:1<=B/\B<=3:=ht.2.2;obtain⟨eL,A⟩:∃n:Nat,B=n:=⟨B.toNat,ae⟩;subst A;refine bQ 9 (λi W=>∃v,W=[.r (ao v)]/\jN v/\Y v<=3*i) ⟨0,rfl,ae,[],rfl,jN.nil,aw⟩ ?_;rintro i _ hi ⟨v,rfl,X,z⟩;simp;split;rename_i af;have y:i<9:=ae;refine bQ (eL+1) (λj W=>1<=j/\∃v,W=[.r (ao v)]/\jN v/\Y v+1<=3*i+j) ⟨1,rfl,ae,ae,v,rfl,X,ae⟩ ?_;rintro j _ hj ⟨ag,v,rfl,X,z⟩;simp;split
 ·rename_i al;have w:j<eL+1:=ae;simp[bD w (show eL+1<=140737488355328 from ae)]
  repeat'(first|intro _|split)
  all_goals first
   |exact⟨v,rfl,X,ae⟩
   |(refine⟨ae,_,rfl,X.iA rfl,bZ⟩)
   |(refine⟨⟨ae,ae⟩,_,rfl,X.iA rfl,bZ⟩)
 simp[bD y (show 9<=140737488355328 from ae)];exact⟨v,rfl,X,ae⟩
 first|rw[wV]|rw[wW]
 refine⟨_,ajk bZ, ?_⟩;have s:(bN (bu.lex [4] J).lt v).length=Y v:=pL;simp;have H:jN (bN (bu.lex [4] J).lt v):=λx p=>X x ((BS v).mem_iff.1 p)
 generalize hq:bN (bu.lex [4] J).lt v=q at s H;refine bQ (Y q) (λi W=>∃u,W=[.r (ao u)]/\jN u/\Y u=i) ⟨0,rfl,ae,[],rfl,jN.nil,rfl⟩ ?_;rintro k _ an ⟨u,rfl,G,hu⟩;simp;split;rename_i m;refine⟨m,ae, ?_⟩;rw[bD (show k<Y q from ae) (show Y q<=140737488355328 from ae)];exact⟨_,rfl,G.iA (H.cell (show k<Y q from ae)),bZ⟩
 ·repeat'(first|intro _|split)
  all_goals first
   |exact⟨u,rfl,λ_=>G,ae⟩|(refine⟨ae,_,rfl,λe=>bE e me, ?_⟩;simp;omega)|(refine⟨⟨ae,ae⟩,_,rfl,λe=>bE e me, ?_⟩;simp;omega)
 ·simp(maxSteps:=9999999) [BM,wk,aY Q,aY P.1,N,M,k1,k2,k3,k4,k5,k6]
  repeat' split
  all_goals first|exact⟨_,rfl,λe=>bE e me,aw⟩|exact⟨_,rfl,λ_=>by simp[jN,jr],aw⟩
 simp(maxSteps:=9999999) [BM,wk,aY Q,aY P.1,N,M]
 first|exact⟨_,rfl,λe=>bE e me,aw⟩|exact⟨_,rfl,λ_=>by simp[jN,jr],aw⟩
 ·simp(maxSteps:=9999999) [BM,wk,aY Q,aY P.1,N]
  repeat'(first|intro _|split)
  all_goals first|exact⟨_,rfl,λe=>bE e me,aw⟩|exact⟨_,rfl,λ_=>by simp[jN,jr],aw⟩
def t78(u:Aq)(h:dV)(id:Int)(X:RV)(s:DW X)(W V Q P N M H G F D B A z y x w:Int):∃o,TB.Ev 145 (wk++[.i id,.r X,.i W,.i V,.i Q,.i P,.i N,.i M,.i H,.i G,.i F,.i D,.i B,.i A,.i z,.i y,.i x,.i w]) o/\∃v e,o=.ret [.r (ao v),.i e]/\Y v<=100:=by
 obtain⟨o,g,v,e,q,_,p⟩:=aBX u h id X s W V Q P N M H G F D B A z y x w
 grind

def vB(v:RV)(i:Nat):Bool:=eE (ci v i 0) (ci v i 1) (ci v i 2) (ci v i 3)
def mI(u:RV)(i:Nat)(w:RV)(k:Nat):Bool:=vB u i&&vB w k&&BN (ci u i 0) (ci u i 1) (ci u i 2) (ci u i 3) (ci w k 0) (ci w k 1) (ci w k 2) (ci w k 3)
def DX(oU oV:Int)(u:RV)(i:Nat):Bool:=vB u i&&eE 0 (be .mul I 841 oU) 0 (be .mul I 841 oV)&&I4 (ci u i 0) (ci u i 1) (ci u i 2) (ci u i 3) 0 (be .mul I 841 oU) 0 (be .mul I 841 oV)
def mJ(X:RV):Nat->av
 |0=>[]|i+1=>iD 2 [.mk (.int I (ci X i 0)) [],.mk (.int I (ci X i 1)) [],.mk (.bool J) []] (mJ X i)
def ki(X:av)(a b:Nat):Bool:=BE.ai ⟨[(a:Int),(b:Int)],[],[ao X],[]⟩ (.look (.v 0) 2 (.v 0) (.v 1) (.c 0) 2)
def Ja(X:RV)(ap:Int):Nat->av
 |0=>[]|i+1=>Ja X ap i++[[.mk (.int I (mH (ci X i) ap 0)) [],.mk (.int I (mH (ci X i) ap 1)) [],.mk (.int I (mH (ci X i) ap 2)) [],.mk (.int I (mH (ci X i) ap 3)) []]]
def Qo(X:RV)(ap:Int):∀i,(Ja X ap i).length=i
 |0=>rfl|i+1=>by simp[Ja,Qo X ap i]
def ate(X:RV)(ap:Int){k:Nat}:∀{i},k<i->(Ja X ap i)[k]?=U [.mk (.int I (mH (ci X k) ap 0)) [],.mk (.int I (mH (ci X k) ap 1)) [],.mk (.int I (mH (ci X k) ap 2)) [],.mk (.int I (mH (ci X k) ap 3)) []]
 |0,h=>ae
 |i+1,h=>by
  by_cases W:k=i;subst W;rw[Ja,jl (by rw[Qo];omega),Qo];simp;rw[Ja,fT (by rw[Qo];omega)];exact ate X ap ae
def t8(u:RV)(i:Nat)(X:RV)(ap:Int)(g:Nat):Bool:=vB u i&&eE (mH (ci X g) ap 0) (mH (ci X g) ap 1) (mH (ci X g) ap 2) (mH (ci X g) ap 3)&&BN (ci u i 0) (ci u i 1) (ci u i 2) (ci u i 3) (mH (ci X g) ap 0) (mH (ci X g) ap 1) (mH (ci X g) ap 2) (mH (ci X g) ap 3)
def ptC(X:RV)(ap:Int){k:Nat}(h:k<W)(j:Nat)(V:j<4):bn (aQ (Ja X ap W) (k:Int) j).val=mH (ci X k) ap j:=by
 simp only[aQ,rM,dA,ate X ap h]
 match j,V with|0,_|1,_|2,_|3,_=>rfl
def aBZ{V:Type}{v:List V}{Q:Prop}{P:Nat->Prop}(h:v=[]<->Q/\∀X<W,P X)(N:P W):v=[]<->Q/\∀X<W+1,P X:=by
 grind
def aB0{V:Type}{v:List V}{Q:Prop}{P:Nat->Nat->Prop}{n:Nat}(h:v=[]<->(Q/\∀X<W,∀b<n,P X b)/\∀N<n,P W N):v=[]<->Q/\∀X<W+1,∀b<n,P X b:=by
 grind
structure ClE(wg:RV)(ap:Int)(mv hd pr:RV):Prop where
 wk:jU=0
 nw:Y wg.ah<=8
 inb:jk ap 0 (eU-1)=J
 lm:Y mv.ah=Y ay.ah
 lh:Y hd.ah=Y ay.ah
 vm:∀i<Y mv.ah,vB mv i=J
 vh:∀i<Y hd.ah,vB hd i=J
 UD:∀i<Y pr.ah,0<=ci pr i 0/\ci pr i 0<ci pr i 1/\ci pr i 1<Y ay.ah
 pth:∀g<Y wg.ah,mH (ci wg g) ap 4=0
structure ClN(oU oV:Int)(ay:RV)(wg:RV)(ap:Int)(mv hd pr:RV):Prop where
 n1:∀a<Y ay.ah,∀b,a<b->b<Y ay.ah->ki (mJ pr (Y pr.ah)) a b=J\/mI mv a mv b=J
 n2:∀a<Y ay.ah,∀b,a<b->b<Y ay.ah->ki (mJ pr (Y pr.ah)) a b=J\/mI mv a hd b=J
 n3:∀a<Y ay.ah,∀b,a<b->b<Y ay.ah->ki (mJ pr (Y pr.ah)) a b=J\/mI hd a mv b=J
 n4:∀a<Y ay.ah,∀b,a<b->b<Y ay.ah->ki (mJ pr (Y pr.ah)) a b=J\/mI hd a hd b=J
 wgs:∀a<Y ay.ah,∀g<Y wg.ah,t8 mv a wg ap g=J/\t8 hd a wg ap g=J
 aB2:∀a<Y ay.ah,DX oU oV mv a=J/\DX oU oV hd a=J
structure aa5(wg:RV)(ap:Int)(mv hd pr:RV):Prop extends ClE wg ap mv hd pr,ClN oU oV ay wg ap mv hd pr
def w5{P:Nat->Prop}(h:∀k<W,P k)(X:P W):∀k<W+1,P k:=λk V=>by
 grind
def Jb{wZ Q:Prop}{P:Nat->Prop}(h:wZ<->Q):wZ<->Q/\∀X<0,P X:=by simp[h]
def aa6{wZ Q:Prop}{P:Nat->Prop}(h:wZ<->Q):wZ<->Q/\∀X,W<X->X<W+1->P X:=by
 grind
def BU{e:Int}{X N:Prop}(V:e≠0)(Q:¬X):∃v W,(ao []=ao v/\e=W)/\(¬W=0->v=[])/\Y v<=1000000/\(W=0<->X)/\(W=0->(v=[]<->N)):=⟨[],e,⟨rfl,rfl⟩,λ_=>rfl,aw,by simp[V,Q],λh=>bE h V⟩
def aB3(h:dV)(P:RV)(ap:Int)(N M V:RV)(aa:Sl P)(f:Sl N)(d:Sl M)(a4:Sl V):∃o,TB.Ev 150 (wk++[.r P,.i ap,.r N,.r M,.r V]) o/\∃v e,o=.ret [.r (ao v),.i e]/\(e≠0->v=[])/\Y v<=1000000/\(e=0<->ClE P ap N M V)/\(e=0->(v=[]<->ClN oU oV ay P ap N M V)):=by
 refine eI ?_;obtain⟨h1,h2⟩:=yD oW h;simp only[wk] at h1;simp(maxSteps:=9999999) [aiO,wk,h.rl.len,aa.len,f.len,d.len,aY h1];split
 case isFalse a9=>exact BU a9 λX=>a9 X.wk
 rename_i h0;have hw:=h2 h0;have hn:=hw.nr;have b1:=hw.br;split
 case isTrue h8=>exact BU ae λX=>by have:=X.nw;omega
 rename_i h8;rw[show be .sub I eU 1=eU-1 by simp only[be];exact i8 ae ae];split
 case isFalse hb=>exact BU ae λX=>hb (by simpa using X.inb)
 rename_i hb;split
 case isFalse hl=>exact BU ae λX=>by have:=X.lm;omega
 rename_i bk;split
 case isFalse hl=>exact BU ae λX=>by have:=X.lh;omega
 rename_i bl;refine bQ (Y N.ah) (λi H=>H=[]/\∀k<i,vB N k=J) ⟨0,rfl,ae,rfl,ae⟩ ?_;rintro i _ F ⟨rfl,ba⟩;simp[f.len];split;rename_i F;simp[bD F f.sm,F];split;rename_i A;exact w5 ba A;rename_i A;exact BU ae λX=>A (X.vm i F)
 rename_i ab;have s:i=Y N.ah:=ae;subst s;refine bQ (Y M.ah) (λi H=>H=[]/\∀k<i,vB M k=J) ⟨0,rfl,ae,rfl,ae⟩ ?_;rintro i _ F ⟨rfl,bb⟩;simp[d.len];split;rename_i F;simp[bD F d.sm,F];split;rename_i A;exact w5 bb A;rename_i A;exact BU ae λX=>A (X.vh i F)
 rename_i ab;have s:i=Y M.ah:=ae;subst s;refine bQ (Y V.ah) (λi H=>H=[.r (ao []),.r (ao (mJ V i))]/\∀k<i,0<=ci V k 0/\ci V k 0<ci V k 1/\ci V k 1<Y ay.ah) ⟨0,rfl,ae,rfl,ae⟩ ?_;rintro i _ F ⟨rfl,bc⟩;simp[h.rl.len,a4.len];split;rename_i F;simp[bD F a4.sm,F];split;rename_i A;exact BU ae λX=>by have:=X.UD i F;simp only[ci] at this;omega
 split;rename_i A;exact BU ae λX=>by have:=X.UD i F;simp only[ci] at this;omega
 split;rename_i A;exact BU ae λX=>by have:=X.UD i F;simp only[ci] at this;omega
 exact⟨rfl,w5 bc (by simp only[ci];omega)⟩;rename_i ab;have s:i=Y V.ah:=ae;subst s;refine bQ (Y P.ah) (λi H=>H=[.r (ao (Ja P ap i)),.r (ao [])]/\∀k<i,mH (ci P k) ap 4=0) ⟨0,rfl,ae,rfl,ae⟩ ?_;rintro i _ F ⟨rfl,bd⟩;simp[aa.len];split;rename_i F;have bf:=f25 (ci P i) ap;simp only[LM,ci,cU,du] at bf;simp[bD F aa.sm,F,aY bf];split;rename_i A;exact⟨by rw[Qo];omega,rfl,w5 bd A⟩;rename_i A;exact BU A λX=>A (X.pth i F)
 rename_i ab;have s:i=Y P.ah:=ae;subst s;have q:lenOf N.val=(Y ay.ah:Int):=by rw[f.len];exact bk
 have p:lenOf M.val=(Y ay.ah:Int):=by rw[d.len];exact bl
 have bs:=Qo P ap (Y P.ah);have l:Y ay.ah<=140737488355328:=ae;obtain⟨c,bg⟩:∃Q:Prop,Q:=⟨True,trivial⟩;refine bQ 0 (λi H=>H=[.r (ao [])]) ⟨0,rfl,ae,rfl⟩ ?_;rintro z _ hz rfl;have bt:z=0:=ae;subst bt;simp;refine bQ (Y ay.ah) (λa H=>∃v,H=[.r (ao v)]/\Y v<=0+64*a/\(v=[]<->c/\∀W<a,∀b,W<b->b<Y ay.ah->ki (mJ V (Y V.ah)) W b=J\/mI N W N b=J)) ⟨0,rfl,ae,_,rfl,aw,Jb (by simp[bg]:([]:av)=[]<->c)⟩ ?_;rintro a _ B ⟨v,rfl,u,G⟩;simp[q];split;rename_i B;refine bQ (Y ay.ah) (λb H=>a<b/\∃v,H=[.r (ao v)]/\Y v<=0+64*a+b/\(v=[]<->(c/\∀W<a,∀b,W<b->b<Y ay.ah->ki (mJ V (Y V.ah)) W b=J\/mI N W N b=J)/\∀D,a<D->D<b->ki (mJ V (Y V.ah)) a D=J\/mI N a N D=J)) ⟨a+1,wX ae,ae,ae,v,rfl,ae,aa6 G⟩ ?_;rintro b _ ac ⟨af,v,rfl,u,G⟩;simp[h.rl.len,q];split;rename_i n;simp[bD n l];by_cases x:ki (mJ V (Y V.ah)) a b=J;have y:=x;simp[ki] at y
 grind
 have y:=x;simp[ki] at y
 grind [mI,vB,ci]
 grind [bD]
 rename_i j;have w:a=Y ay.ah:=ae;subst w;obtain⟨Q2,ag⟩:∃Q:Prop,Q<->(c/\∀W<Y ay.ah,∀b,W<b->b<Y ay.ah->ki (mJ V (Y V.ah)) W b=J\/mI N W N b=J):=⟨_,Iff.rfl⟩;rw[<-ag] at G;refine bQ (Y ay.ah) (λa H=>∃v,H=[.r (ao v)]/\Y v<=5000+64*a/\(v=[]<->Q2/\∀W<a,∀b,W<b->b<Y ay.ah->ki (mJ V (Y V.ah)) W b=J\/mI N W M b=J)) ⟨0,rfl,ae,_,rfl,ae,Jb G⟩ ?_;rintro a _ B ⟨v,rfl,u,G⟩;simp[q];split;rename_i B;refine bQ (Y ay.ah) (λb H=>a<b/\∃v,H=[.r (ao v)]/\Y v<=5000+64*a+b/\(v=[]<->(Q2/\∀W<a,∀b,W<b->b<Y ay.ah->ki (mJ V (Y V.ah)) W b=J\/mI N W M b=J)/\∀D,a<D->D<b->ki (mJ V (Y V.ah)) a D=J\/mI N a M D=J)) ⟨a+1,wX ae,ae,ae,v,rfl,ae,aa6 G⟩ ?_;rintro b _ ac ⟨af,v,rfl,u,G⟩;simp[h.rl.len,q,p];split;rename_i n;simp[bD n l];by_cases x:ki (mJ V (Y V.ah)) a b=J;have y:=x;simp[ki] at y
 grind
 have y:=x;simp[ki] at y
 grind [mI,vB,ci]
 grind [bD]
 rename_i j;have w:a=Y ay.ah:=ae;subst w;obtain⟨Q3,al⟩:∃Q:Prop,Q<->(Q2/\∀W<Y ay.ah,∀b,W<b->b<Y ay.ah->ki (mJ V (Y V.ah)) W b=J\/mI N W M b=J):=⟨_,Iff.rfl⟩;rw[<-al] at G;refine bQ (Y ay.ah) (λa H=>∃v,H=[.r (ao v)]/\Y v<=10000+64*a/\(v=[]<->Q3/\∀W<a,∀b,W<b->b<Y ay.ah->ki (mJ V (Y V.ah)) W b=J\/mI M W N b=J)) ⟨0,rfl,ae,_,rfl,ae,Jb G⟩ ?_;rintro a _ B ⟨v,rfl,u,G⟩;simp[p];split;rename_i B;refine bQ (Y ay.ah) (λb H=>a<b/\∃v,H=[.r (ao v)]/\Y v<=10000+64*a+b/\(v=[]<->(Q3/\∀W<a,∀b,W<b->b<Y ay.ah->ki (mJ V (Y V.ah)) W b=J\/mI M W N b=J)/\∀D,a<D->D<b->ki (mJ V (Y V.ah)) a D=J\/mI M a N D=J)) ⟨a+1,wX ae,ae,ae,v,rfl,ae,aa6 G⟩ ?_;rintro b _ ac ⟨af,v,rfl,u,G⟩;simp[h.rl.len,q,p];split;rename_i n;simp[bD n l];by_cases x:ki (mJ V (Y V.ah)) a b=J;have y:=x;simp[ki] at y
 grind
 have y:=x;simp[ki] at y
 grind [mI,vB,ci]
 grind [bD]
 rename_i j;have w:a=Y ay.ah:=ae;subst w;obtain⟨Q4,an⟩:∃Q:Prop,Q<->(Q3/\∀W<Y ay.ah,∀b,W<b->b<Y ay.ah->ki (mJ V (Y V.ah)) W b=J\/mI M W N b=J):=⟨_,Iff.rfl⟩;rw[<-an] at G;refine bQ (Y ay.ah) (λa H=>∃v,H=[.r (ao v)]/\Y v<=15000+64*a/\(v=[]<->Q4/\∀W<a,∀b,W<b->b<Y ay.ah->ki (mJ V (Y V.ah)) W b=J\/mI M W M b=J)) ⟨0,rfl,ae,_,rfl,ae,Jb G⟩ ?_;rintro a _ B ⟨v,rfl,u,G⟩;simp[p];split;rename_i B;refine bQ (Y ay.ah) (λb H=>a<b/\∃v,H=[.r (ao v)]/\Y v<=15000+64*a+b/\(v=[]<->(Q4/\∀W<a,∀b,W<b->b<Y ay.ah->ki (mJ V (Y V.ah)) W b=J\/mI M W M b=J)/\∀D,a<D->D<b->ki (mJ V (Y V.ah)) a D=J\/mI M a M D=J)) ⟨a+1,wX ae,ae,ae,v,rfl,ae,aa6 G⟩ ?_;rintro b _ ac ⟨af,v,rfl,u,G⟩;simp[h.rl.len,p];split;rename_i n;simp[bD n l];by_cases x:ki (mJ V (Y V.ah)) a b=J;have y:=x;simp[ki] at y
 grind
 have y:=x;simp[ki] at y
 grind [mI,vB,ci]
 grind [bD]
 rename_i j;have w:a=Y ay.ah:=ae;subst w;obtain⟨Q5,a0⟩:∃Q:Prop,Q<->(Q4/\∀W<Y ay.ah,∀b,W<b->b<Y ay.ah->ki (mJ V (Y V.ah)) W b=J\/mI M W M b=J):=⟨_,Iff.rfl⟩;rw[<-a0] at G;have b2:Y P.ah<=8:=ae;refine bQ (Y ay.ah) (λa H=>∃v,H=[.r (ao v)]/\Y v<=20000+64*a/\(v=[]<->Q5/\∀W<a,∀g<Y P.ah,t8 N W P ap g=J/\t8 M W P ap g=J)) ⟨0,rfl,ae,_,rfl,ae,Jb G⟩ ?_;rintro a _ B ⟨v,rfl,u,G⟩;simp[h.rl.len];split;rename_i B;refine bQ (Y P.ah) (λg H=>∃v,H=[.r (ao v)]/\Y v<=20000+64*a+g/\(v=[]<->(Q5/\∀W<a,∀g<Y P.ah,t8 N W P ap g=J/\t8 M W P ap g=J)/\∀g'<g,t8 N a P ap g'=J/\t8 M a P ap g'=J)) ⟨0,rfl,ae,v,rfl,ae,Jb G⟩ ?_;rintro g _ m ⟨v,rfl,u,G⟩;simp[q,p,bs];split;rename_i m;have c0:=ptC P ap m 0 ae;have c1:=ptC P ap m 1 ae;have c2:=ptC P ap m 2 ae;have c3:=ptC P ap m 3 ae;simp[bD m (show Y P.ah<=140737488355328 from ae),c0,c1,c2,c3];refine⟨m,B, ?_⟩;by_cases a1:t8 N a P ap g=J;have fK:=a1;simp[t8,vB,ci] at fK;rw[aP (by simp[fK])];refine⟨B, ?_⟩;by_cases bx:t8 M a P ap g=J
 grind [t8,vB,ci]
 grind [t8,vB,ci]
 grind [t8,vB,ci]
 rename_i b3;have b0:g=Y P.ah:=ae;subst b0;simp[bD B l];exact⟨v,rfl,ae,aB0 G⟩;rename_i j;have w:a=Y ay.ah:=ae;subst w;obtain⟨Q6,a3⟩:∃Q:Prop,Q<->(Q5/\∀W<Y ay.ah,∀g<Y P.ah,t8 N W P ap g=J/\t8 M W P ap g=J):=⟨_,Iff.rfl⟩;rw[<-a3] at G;refine bQ (Y ay.ah) (λa H=>∃v,H=[.r (ao v)]/\Y v<=30000+a/\(v=[]<->Q6/\∀W<a,DX oU oV N W=J/\DX oU oV M W=J)) ⟨0,rfl,ae,_,rfl,ae,Jb G⟩ ?_;rintro a _ B ⟨v,rfl,u,G⟩;simp[h.rl.len,q,p];split;rename_i B;simp[bD B l];refine⟨B, ?_⟩;by_cases a1:DX oU oV N a=J;have fK:=a1;simp[DX,vB,ci] at fK;by_cases bx:DX oU oV M a=J
 grind [DX,vB,ci]
 grind [DX,vB,ci]
 grind [DX,vB,ci]
 rename_i j;have w:a=Y ay.ah:=ae;subst w;refine⟨v,0,⟨rfl,rfl⟩,aw,ae,⟨λ_=>⟨h0,ae,by simpa using hb,ae,ae,ba,bb,bc,bd⟩,λ_=>rfl⟩,λ_=> ?_⟩;rw[G];refine⟨λ⟨q6,ed⟩=> ?_,λX=>⟨a3.2 ⟨a0.2 ⟨an.2 ⟨al.2 ⟨ag.2 ⟨bg,X.n1⟩,X.n2⟩,X.n3⟩,X.n4⟩,X.wgs⟩,X.aB2⟩⟩;obtain⟨q5,w1⟩:=a3.1 q6;obtain⟨q4,n4⟩:=a0.1 q5;obtain⟨q3,n3⟩:=an.1 q4;obtain⟨q2,n2⟩:=al.1 q3;obtain⟨_,n1⟩:=ag.1 q2;exact⟨n1,n2,n3,n4,w1,ed⟩
def aB4(h:dV)(W:RV)(ap:Int)(V Q P:RV)(H:Sl W)(G:Sl V)(F:Sl Q)(D:Sl P):∃o,TB.Ev 150 (wk++[.r W,.i ap,.r V,.r Q,.r P]) o/\∃v e,o=.ret [.r (ao v),.i e]/\(e≠0->v=[])/\Y v<=1000000/\((e=0/\v=[])<->aa5 W ap V Q P):=by
 obtain⟨o,B,v,e,A,z,y,N,M⟩:=aB3 h W ap V Q P H G F D;exact⟨o,B,v,e,A,z,y,λk=>{toClE:=N.1 k.1,toClN:=(M k.1).1 k.2},λX=>⟨N.2 X.toClE,(M (N.2 X.toClE)).2 X.toClN⟩⟩
end
section
variable{lt:aE->aE->Bool}
def DY(lt:aE->aE->Bool)(l:av):Prop:=l.Pairwise λx y=>lt x y=J
theorem DY.eq(R:∀x,lt x x=E)(Q:∀x y z,lt x y=J->lt y z=J->lt x z=J):∀{l X:av},DY lt l->DY lt X->l.Perm X->l=X
 |[],X,_,_,h=>(List.Perm.nil_eq h)|x::l,[],_,_,h=>(by have:=h.length_eq;simp at this)
 |x::l,y::X,N,M,h=>by
  have P:=jO.1 N;have O:=jO.1 M;have L:x=y:=by
   have W:x∈y::X:=h.mem_iff.1 aw;have V:y∈x::l:=h.mem_iff.2 aw;rcases eu.1 W with W|W;exact W;rcases eu.1 V with V|V;exact V.symm;have:=Q _ _ _ (P.1 y V) (O.1 x W);rw[R] at this;cases this
  subst L;rw[DY.eq R Q P.2 O.2 (List.perm_cons x|>.1 h)]
def ath(V:∀x y z,lt x y=J->lt y z=J->lt x z=J){x:aE}:∀{l:av},DY lt l->(∀y∈l,lt x y=J\/lt y x=J)->DY lt (fh lt x l)
 |[],_,_=>aII _ _
 |y::r,h,R=>by
  have g:=jO.1 h;simp only[fh];split;rename_i W;refine jO.2 ⟨λz X=> ?_,h⟩;rcases eu.1 X with rfl|X;exact W;exact V _ _ _ W (g.1 z X);rename_i W;have Q:lt y x=true:=(R y aw).resolve_left W;refine jO.2 ⟨λz X=> ?_,ath V g.2 λz X=>R z (by simp[X])⟩;rcases WE.1 X with rfl|X;exact Q;exact g.1 z X
def ati(W:∀x y z,lt x y=J->lt y z=J->lt x z=J):∀(l acc:av),DY lt acc->(∀x∈l,∀y∈acc,lt x y=J\/lt y x=J)->l.Pairwise (λx y=>lt x y=J\/lt y x=J)->DY lt (l.foldl (λacc x=>fh lt x acc) acc)
 |[],acc,h,_,_=>h
 |x::l,acc,h,V,Q=>by
  have g:=jO.1 Q;refine ati W l _ (ath W h λy X=>V x aw y X) (λz R y X=> ?_) g.2;rcases WE.1 X with rfl|X;exact(g.1 z R).symm;exact V z (by simp[R]) y X
def atj(W:∀x y z,lt x y=J->lt y z=J->lt x z=J)(h:X.Pairwise (λx y=>lt x y=J\/lt y x=J)):DY lt (bN lt X):=ati W X [] xk aw h
def atk(Q:∀x,lt x x=E)(V:∀x y z,lt x y=J->lt y z=J->lt x z=J){W:av}(R:W.Perm X)(h:X.Pairwise (λx y=>lt x y=J\/lt y x=J)):bN lt W=bN lt X:=by
 have P:W.Pairwise (λx y=>lt x y=J\/lt y x=J):=(R.symm.pairwise_iff (λ{x y} h=>h.symm)).1 h;exact DY.eq Q V (atj V P) (atj V h) (((BS W).trans R).trans (BS X).symm)
end
def ajn(d:Bool):∀(X:ar)(x:aE),jF d X x x=E
 |[],_=>rfl|c::X,x=>by simp[jF,ajn d X x]
def ajo(d:Bool):∀(Q:ar)(x y z:aE),jF d Q x y=J->jF d Q y z=J->jF d Q x z=J
 |[],_,_,_,h,_=>by simp[jF] at h
 |c::Q,x,y,z,V,X=>by
  simp only[jF] at V X⊢;by_cases R:aI c x=aI c y;by_cases W:aI c y=aI c z;rw[aH R] at V;rw[aH W] at X;rw[aH (R.trans W)];exact ajo d Q x y z V X;rw[aP W] at X;rw[aP (by rw[R];exact W),R];exact X;rw[aP R] at V;by_cases W:aI c y=aI c z;rw[aP (by rw[<-W];exact R),<-W];exact V;rw[aP W] at X;cases d;simp at V X;rw[aP ae];simp;omega;simp at V X;rw[aP ae];simp;omega
def ajp(d:Bool):∀(X:ar)(x y:aE),(∃c∈X,aI c x≠aI c y)->jF d X x y=J\/jF d X y x=J
 |[],_,_,⟨_,h,_⟩=>by cases h
 |c::X,x,y,h=>by
  simp only[jF];by_cases e:aI c x=aI c y;rw[aH e,aH e.symm];obtain⟨R,W,V⟩:=h;rcases eu.1 W with rfl|W;exact bE e V;exact ajp d X x y ⟨R,W,V⟩;clear h;have Q:¬aI c y=aI c x:=λP=>e P.symm
  rw[aP e,aP Q];cases d<;>simp<;>omega
def BV(X:ar)(W:av):Prop:=W.Pairwise λx y=>∃c∈X,aI c x≠aI c y
def atl{X:ar}{d:Bool}:∀{W:av},BV X W->vT (bu.lex X d).lt W=J
 |[],_=>rfl
 |x::r,h=>by
  have g:=jO.1 h;simp only[vT,aC,gC,lu];exact⟨λy V=>ajp d X x y (g.1 y V),atl g.2⟩
def atm{W:ar}{d R:Bool}{aF:av}(Q:Y X<=1099511627776)(h:BV W X)(V:aF.Perm X):iu (.lex W d) R aF=U (bN (bu.lex W d).lt X):=by
 have P:BV W aF:=(V.symm.pairwise_iff (λ{x y} h=>by obtain⟨c,O,N⟩:=h;exact⟨c,O,λe=>N e.symm⟩)).1 h;have M:Y aF<=1099511627776:=by rw[V.length_eq];exact Q
 simp only[iu];rw[aH (by simp[M,atl P,bu.ok])];exact jY U (atk (ajn d W) (ajo d W) V (h.imp λL=>ajp d W _ _ L))
def aB5(n:Nat)(X:aE)(m:av):iD n X m≠[]:=by
 cases m with|nil=>simp[iD]|cons r W=>simp only[iD];split<;>simp
def vo(n:Nat)(X:aE):∀m:av,(iD n X m).length<=Y m+1
 |[]=>by simp[iD]
 |r::W=>by
  have:=vo n X W;simp only[iD];split<;>simp<;>omega
def aa7{n:Nat}{X y:aE}:∀{m:av},y∈iD n X m->y=X\/y∈m
 |[],h=>by simp[iD] at h;exact .inl h
 |r::W,h=>by
  simp only[iD] at h;split at h;rcases eu.1 h with h|h;exact .inl h;exact .inr (by simp[h]);rcases eu.1 h with h|h;exact .inr (by simp[h]);rcases aa7 h with h|h;exact .inl h;exact .inr (by simp[h])
def aB6{X r:aE}(W:Y X=4)(V:Y r=4):mj 3 ((X.take 3).map λc=>bn c.val) r=J<->∀c∈[0,1,2],aI c r=aI c X:=by
 match X,W,r,V with|[a,b,c,d],_,[R,Q,P,O],_=>simp[mj,aI]
structure kj(m:av):Prop where
 keys:BV [0,1,2] m
 four:∀x∈m,Y x=4
def kj.nil:kj []:=⟨xk,aw⟩
def kj.ins{O:aE}(R:Y O=4):∀{m:av},kj m->kj (iD 3 O m)
 |[],_=>⟨by simp[iD,BV],by simp[iD,R]⟩
 |r::M,h=>by
  have g:=jO.1 h.keys;have bY:kj M:=⟨g.2,λx X=>h.four x (by simp[X])⟩;have L:=kj.ins R bY;have N:=aB6 R (h.four r aw);refine⟨?_,λx X=> ?_⟩;simp only[iD];split;rename_i W;have W:=N.1 W;refine jO.2 ⟨λy V=> ?_,g.2⟩;obtain⟨c,Q,P⟩:=g.1 y V;exact⟨c,Q,by rw[<-W c Q];exact P⟩;rename_i W;refine jO.2 ⟨λy V=> ?_,L.keys⟩;rcases aa7 V with rfl|V;have:¬∀c∈[0,1,2],aI c r=aI c y:=λH=>W (N.2 H)
  simp only[Classical.not_forall] at this;obtain⟨c,Q,P⟩:=this;exact⟨c,Q,P⟩;exact g.1 y V;rcases aa7 X with rfl|X;exact R;exact h.four x X
section
variable{R:aX->Prop}{G:aL}{t:T}{O:aj}{L:ck}
variable[Inhabited cm]
@[simp] def aJJ (v:RV) (X W V Q P N M H F D B A z y x w:Int):gX TB.Ev R 41 [.r (cH .str v),.i X,.i W,.i V,.i Q,.i P,.i N,.i M,.i H,.i F,.i D,.i B,.i A,.i z,.i y,.i x,.i w] G t O L=io TB.Ev R (.ret [.i (Qm (cH .str v) X W V Q P N M H F D B A z y x w)]) G t O L:=c75 _ (UC v) X W V Q P N M H F D B A z y x w
def Qp(X W V Q P N M H G F D B A:Int)(s:RV)(z y x w v u q p o n m l j h g f:Int)(k:Nat):Int:=oi 115 [.i X,.i W,.i V,.i Q,.i P,.i N,.i M,.i H,.i G,.i F,.i D,.i B,.i A,.r s,.i z,.i y,.i x,.i w,.i v,.i u,.i q,.i p,.i o,.i n,.i m,.i l,.i j,.i h,.i g,.i f] k
@[simp] def c27 (X W V Q P N M H F D B A z:Int) (v:RV) (y x w u s q p o n m l k j h g f:Int):gX TB.Ev R 115 [.i X,.i W,.i V,.i Q,.i P,.i N,.i M,.i H,.i F,.i D,.i B,.i A,.i z,.r (cH .str v),.i y,.i x,.i w,.i u,.i s,.i q,.i p,.i o,.i n,.i m,.i l,.i k,.i j,.i h,.i g,.i f] G t O L=io TB.Ev R (.ret [.i (Qp X W V Q P N M H F D B A z (cH .str v) y x w u s q p o n m l k j h g f 0),.i (Qp X W V Q P N M H F D B A z (cH .str v) y x w u s q p o n m l k j h g f 1),.i (Qp X W V Q P N M H F D B A z (cH .str v) y x w u s q p o n m l k j h g f 2),.i (Qp X W V Q P N M H F D B A z (cH .str v) y x w u s q p o n m l k j h g f 3),.i (Qp X W V Q P N M H F D B A z (cH .str v) y x w u s q p o n m l k j h g f 4)]) G t O L:=aY (nj (kI 5) (t27 X W V Q P N M H F D B A z _ (UC v) y x w u s q p o n m l k j h g f))
def Qq(X:RV)(i:Nat):Int:=Qm (cH .str (aQ X.ah (i:Int) 0)) (ci X i 1) (ci X i 2) (ci X i 3) (ci X i 4) (ci X i 5) (ci X i 6) (ci X i 7) (ci X i 8) (ci X i 9) (ci X i 10) (ci X i 11) (ci X i 12) (ci X i 13) (ci X i 14) (ci X i 15) (ci X i 16)
def LO(v:RV)(i:Nat):Int:=o74 (ci v i 0) (ci v i 1) (ci v i 2) (ci v i 3) (ci v i 4) (ci v i 5) (ci v i 6) (ci v i 7) (ci v i 8) (ci v i 9) (ci v i 10) (ci v i 11) (ci v i 12)
def iN(v X:RV)(i k:Nat):Int:=Qp (ci v i 0) (ci v i 1) (ci v i 2) (ci v i 3) (ci v i 4) (ci v i 5) (ci v i 6) (ci v i 7) (ci v i 8) (ci v i 9) (ci v i 10) (ci v i 11) (ci v i 12) (cH .str (aQ X.ah (i:Int) 0)) (ci X i 1) (ci X i 2) (ci X i 3) (ci X i 4) (ci X i 5) (ci X i 6) (ci X i 7) (ci X i 8) (ci X i 9) (ci X i 10) (ci X i 11) (ci X i 12) (ci X i 13) (ci X i 14) (ci X i 15) (ci X i 16) k
def m85(ap:Int)(X:RV)(i:Nat):Int:=oi 45 (wk++[.i i,.i ap,.r (cr 96 X i)]) 0
def m89(ap:Int)(X W:RV)(i k:Nat):Int:=oi 113 (wk++[.i i,.i ap,.i (ci X i 0),.i (ci X i 1),.i (ci X i 2),.i (ci X i 3),.i (ci X i 4),.i (ci X i 5),.i (ci X i 6),.i (ci X i 7),.i (ci X i 8),.i (ci X i 9),.i (ci X i 10),.i (ci X i 11),.i (ci X i 12),.r (cr 96 W i)]) k
def m90(ap:Int)(W X V:RV)(i k:Nat):Int:=oi 114 (wk++[.i i,.i ap,.i (ci W i 0),.i (ci W i 1),.i (ci W i 2),.i (ci W i 3),.i (ci W i 4),.i (ci W i 5),.i (ci W i 6),.i (ci W i 7),.i (ci W i 8),.i (ci W i 9),.i (ci W i 10),.i (ci W i 11),.i (ci W i 12),.r (cH .str (aQ X.ah (i:Int) 0)),.i (ci X i 1),.i (ci X i 2),.i (ci X i 3),.i (ci X i 4),.i (ci X i 5),.i (ci X i 6),.i (ci X i 7),.i (ci X i 8),.i (ci X i 9),.i (ci X i 10),.i (ci X i 11),.i (ci X i 12),.i (ci X i 13),.i (ci X i 14),.i (ci X i 15),.i (ci X i 16),.r (cr 96 V i)]) k
def gS(ap:Int)(W X V:RV)(i k:Nat):Int:=if cb W i 0 then m89 ap X V i k else ci X i k
def gB(ap:Int)(V X W Q:RV)(i k:Nat):Int:=if cb V i 0 then m90 ap X W Q i k else iN X W i k
structure Gh(ay wg bd mv bf af re bx:RV):Prop where
 wg:Sl wg
 bd:Sl bd
 mv:Sl mv
 bf:Sl bf
 af:Sl af
 Qr:Sl re
 bx:Sl bx
 fz:∀i<Y re.ah,Sl (cr 96 re i)/\(cr 96 re i).ah.length<=100
structure atp(ap:Int)(wg bd mv bf af re bx:RV):Prop where
 wk:jU=0
 nw:Y wg.ah<=8
 br:0<=ap/\ap<eU
 Jc:Y af.ah=Y ay.ah
 UE:Y bx.ah=Y ay.ah
 BW:Y bd.ah=Y ay.ah
 Jd:Y mv.ah=Y ay.ah
 DZ:Y bf.ah=Y ay.ah
 Gi:Y re.ah=Y ay.ah
 gw:∀i<Y ay.ah,Qq bd i=0/\LO bf i=0/\(if cb mv i 0 then m85 ap re i=0 else(cr 96 re i).ah=[])
 box:∀i<Y ay.ah,vB bx i=J/\LO af i=0
 pth:∀g<Y wg.ah,mH (ci wg g) ap 4=0
def BX(ap:Int)(Q X W V:RV)(i:Nat):Prop:=if cb Q i 0 then m89 ap X V i 13=0/\m90 ap X W V i 4=0 else iN X W i 4=0
def Fst(v:RV)(id:Int)(m:Nat):Prop:=m<Y v.ah/\ci v m 0=id/\∀X<m,ci v X 0≠id
def m78(X:RV)(id:Int)(i:Nat):aZ:=out 145 (wk++[.i id,.r (cH .str (aQ X.ah (i:Int) 0)),.i (ci X i 1),.i (ci X i 2),.i (ci X i 3),.i (ci X i 4),.i (ci X i 5),.i (ci X i 6),.i (ci X i 7),.i (ci X i 8),.i (ci X i 9),.i (ci X i 10),.i (ci X i 11),.i (ci X i 12),.i (ci X i 13),.i (ci X i 14),.i (ci X i 15),.i (ci X i 16)])
def aa9(ap:Int)(X W V Q P:RV)(c:Nat->Int):Bool:=ob 147 (wk++[.i ap,.r X,.r W,.r V,.r Q,.r P]++lZ c) 0
def aba(ap:Int)(W V Q P X N:RV)(i k:Nat):Prop:=∀m,Fst (cr 96 X i) (bX (dS i ap) k 0) m->
 xi (m78 W (bX (dS i ap) k 0) i) 1=0/\
 ob 146 [.r (xr (m78 W (bX (dS i ap) k 0) i) 0),.i (ci (cr 96 X i) m 0),.i (ci (cr 96 X i) m 1),.i (ci (cr 96 X i) m 2),.b (cb (cr 96 X i) m 3)] 0=J/\
 (bX (dS i ap) k 4=7\/bX (dS i ap) k 4=8->cb (cr 96 X i) m 3=J\/aa9 ap V Q P X N (bX (dS i ap) k)=J)
def UF(ap:Int)(X W V:RV)(i:Nat):aZ:=out 148 (wk++[.i i,.i ap,.i (ci X i 0),.i (ci X i 1),.i (ci X i 2),.i (ci X i 3),.i (ci X i 4),.i (ci X i 5),.i (ci X i 6),.i (ci X i 7),.i (ci X i 8),.i (ci X i 9),.i (ci X i 10),.i (ci X i 11),.i (ci X i 12),.r W,.r (cr 96 V i)])
structure LP(ap:Int)(bd mv bf af re bx:RV)(i:Nat):Prop where
 aft:∀j<13,ci af i j=gS ap mv bf re i j
 inb:eE (gB ap mv bf bd re i 0) (gB ap mv bf bd re i 1) (gB ap mv bf bd re i 2) (gB ap mv bf bd re i 3)=J/\vB bx i=J
 ins:I4 (gB ap mv bf bd re i 0) (gB ap mv bf bd re i 1) (gB ap mv bf bd re i 2) (gB ap mv bf bd re i 3) (ci bx i 0) (ci bx i 1) (ci bx i 2) (ci bx i 3)=J
 Uz:cb mv i 0=J->(∀k<(dS i ap).length,aba ap bd mv bf af re bx i k)/\xi (UF ap bf bd re i) 1=0/\(xr (UF ap bf bd re i) 0).ah=[]
def vp(ap:Int):aZ:=out 71 (wk++[.i ap])
def yE(v X:RV):Nat->av
 |0=>[]|i+1=>yE v X i++[[.mk (.int I (iN v X i 0)) [],.mk (.int I (iN v X i 1)) [],.mk (.int I (iN v X i 2)) [],.mk (.int I (iN v X i 3)) []]]
def Gj(v X:RV)(i k:Nat):Bool:=eE (iN v X i 0) (iN v X i 1) (iN v X i 2) (iN v X i 3)&&eE (iN v X k 0) (iN v X k 1) (iN v X k 2) (iN v X k 3)&&BN (iN v X i 0) (iN v X i 1) (iN v X i 2) (iN v X i 3) (iN v X k 0) (iN v X k 1) (iN v X k 2) (iN v X k 3)
structure Je(ap:Int)(wg bd mv bf af re bx:RV):Prop where
 ex:atp ap wg bd mv bf af re bx
 bld:∀i<Y ay.ah,BX ap mv bf bd re i
 ro:∀i<Y ay.ah,LP ap bd mv bf af re bx i
 UD:xi (vp ap) 1=0
 st1:∀i<Y ay.ah,iN bf bd i 4=0
 st2:∀i<Y ay.ah,iN af bd i 4=0
 cl:aa5 wg ap bx (ao (yE bf bd (Y ay.ah))) (xr (vp ap) 0)
 mI:∀p<(xr (vp ap) 0).ah.length,Gj bf bd (ci (xr (vp ap) 0) p 0).toNat (ci (xr (vp ap) 0) p 1).toNat=J/\Gj af bd (ci (xr (vp ap) 0) p 0).toNat (ci (xr (vp ap) 0) p 1).toNat=J
def Brc:Prop:=∀(_:dV)(bw ap:Int)(x:Nat->Int)(X r:RV)(_:Sl X)(_:Sl r),∃o,TB.Ev 148 (wk++[.i bw,.i ap,.i (x 0),.i (x 1),.i (x 2),.i (x 3),.i (x 4),.i (x 5),.i (x 6),.i (x 7),.i (x 8),.i (x 9),.i (x 10),.i (x 11),.i (x 12),.r X,.r r]) o/\∃v e,o=.ret [.r (ao v),.i e]/\Y v<=100000
def As{V:aE}{j:Nat}(h:Y X=W):aQ (X++[V]) (W:Int) j=V.getD j default:=by
 subst h;simp[aQ]
theorem Jf{w:av}{j:Nat}(h:W<Y X):aQ (X++w) (W:Int) j=aQ X (W:Int) j:=by
 grind [aQ]
def D0{V:aE}{Q:Prop}(h:¬Q):iD W V X=[]<->Q:=⟨λe=>bE e (aB5 W V X),λq=>bE q h⟩
def aB7{P:Nat->Prop}:(∀k<W+1,P k)<->(∀k<W,P k)/\P W:=⟨λh=>⟨λk X=>h k ae,h W ae⟩,λh=>w5 h.1 h.2⟩
def Qs{a b:Bool}(h:a=J->b=E):¬(a=J/\b=J):=by cases a<;>cases b<;>simp_all
def atr{a b:Bool}(h:¬(a=J->b=E)):a=J/\b=true:=by cases a<;>cases b<;>simp_all
def aB8{a b c:Bool}(h:¬(a=J->b=E))(X:(a=E\/b=E)\/c=E):¬c=true:=by cases a<;>cases b<;>cases c<;>simp_all
def aB9{a b c:Bool}(h:¬(a=J->b=E))(X:¬((a=E\/b=E)\/c=E)):c=true:=by cases a<;>cases b<;>cases c<;>simp_all
def ats{P:Nat->Prop}(X:P 0)(W:P 1)(V:P 2)(Q:P 3)(N:P 4)(M:P 5)(H:P 6)(G:P 7)(F:P 8)(D:P 9)(B:P 10)(A:P 11)(z:P 12):∀j<13,P j:=λj y=>by
 match j,y with|0,_=>exact X|1,_=>exact W|2,_=>exact V|3,_=>exact Q|4,_=>exact N|5,_=>exact M|6,_=>exact H|7,_=>exact G|8,_=>exact F|9,_=>exact D|10,_=>exact B|11,_=>exact A|12,_=>exact z
def Jg(v X:RV):∀i,(yE v X i).length=i
 |0=>rfl|i+1=>by simp[yE,Jg v X i]
def att(v X:RV){k:Nat}:∀{i},k<i->(yE v X i)[k]?=U [.mk (.int I (iN v X k 0)) [],.mk (.int I (iN v X k 1)) [],.mk (.int I (iN v X k 2)) [],.mk (.int I (iN v X k 3)) []]
 |0,h=>ae
 |i+1,h=>by
  by_cases W:k=i;subst W;rw[yE,jl (by rw[Jg];omega),Jg];simp;rw[yE,fT (by rw[Jg];omega)];exact att v X ae
def ua(v X:RV){z:Int}(h:z.toNat<W)(j:Nat)(V:j<4):bn (aQ (yE v X W) z j).val=iN v X z.toNat j:=by
 simp only[aQ,dA,att v X h]
 match j,V with|0,_|1,_|2,_|3,_=>rfl
end
def T.at:ar->T->T
 |[],t=>t|0::p,.aJ _ t _=>t.at p|_::p,.aJ _ _ f=>f.at p|_::p,.aS _ t=>t.at p|_::p,.call _ _ _ _ _ _ t=>t.at p|_::p,.loop _ _ _ t=>t.at p|_::p,.new _ _ _ _ t=>t.at p|_::p,.ah _ _ _ t=>t.at p|0::p,.gr _ _ t _=>t.at p|_::p,.gr _ _ _ f=>f.at p|0::p,.pick _ _ _ t _=>t.at p|_::p,.pick _ _ _ _ f=>f.at p|_::p,.eF _ _ _ _ _ _ _ t=>t.at p|_,t=>t
section
variable[Inhabited cm]
section
def vq(x:aE):aE:=[iV (aI 0 x),iV (aI 1 x),iV (aI 2 x)]
def mK(js:ar):av:=js.map λ(j:Nat)=>[iV (j:Int)]
def UG(js:ar):(mK js).length=Y js:=by simp[mK]
def abc{js:ar}{j:Nat}:(mo 1 [(j:Int),0,0] (mK js)).isSome=decide (j∈js):=by
 induction js with
 |nil=>rfl
 |cons a l X=>
  simp only[mK,dG,mo,av3] at X⊢;by_cases h:a=j;subst h;simp[mj,iV,bn];have W:¬j=a:=λe=>h e.symm
  have:mj 1 [(j:Int),0,0] [iV a]=false:=by simp[mj,iV,bn];omega
  rw[this];simp only[X,eu,W,false_or]
def atu{js:ar}{j:Nat}(h:j∉js):iD 1 [iV j] (mK js)=mK (js++[j]):=by
 induction js with
 |nil=>rfl
 |cons a l X=>
  simp only[eu,not_or] at h;have:¬mj 1 (([iV j].take 1).map λc=>bn c.val) [iV a]=true:=by simp[mj,iV,bn];omega
  simp only[mK,dG,iD,cU] at X⊢;rw[aP this,X h.2]
def UH{X:Type}[DecidableEq X]:∀{a b:List X},a.Nodup->(∀x∈a,x∈b)->Y a<=Y b
 |[],_,_,_=>rO _
 |x::a,b,Q,W=>by
  have g:=Eo.1 Q;have V:x∈b:=W x aw;have:=UH (a:=a) (b:=b.erase x) g.2 λy R=>(avO (λe=>g.1 (by rw[<-e];exact R))).2 (W y (by simp[R]))
  rw[aIH V] at this;have P:0<Y b:=List.length_pos_of_mem V;simp only[nX];omega
def atv{W:Type}[DecidableEq W]:∀{a b:List W},a.Nodup->(∀x∈a,x∈b)->Y b<=Y a->a.Perm b
 |[],b,_,_,X=>by
  have:b=[]:=AC.1 (Nat.le_zero.1 X);rw[this]
 |x::a,b,P,V,X=>by
  have g:=Eo.1 P;have R:x∈b:=V x aw;have:=atv (a:=a) (b:=b.erase x) g.2 (λy Q=>(avO (λe=>g.1 (by rw[<-e];exact Q))).2 (V y (by simp[Q]))) (by rw[aIH R];simp only[nX] at X;omega);exact(this.cons x).trans (List.perm_cons_erase R).symm
structure Pk(n:Nat)(js:ar):Prop where
 nd:js.Nodup
 lt:∀j∈js,j<n
def Pk.nil(n:Nat):Pk n []:=⟨List.nodup_nil,aw⟩
theorem Pk.add{j:Nat}{js:ar}(h:Pk W js)(R:j∉js)(P:j<W):Pk W (js++[j]):=⟨xl.2 ⟨h.nd,aw,by intro a Q b V e;simp at V;subst V;subst e;exact R Q⟩,by
 intro k X;rcases fg.1 X with X|X;exact h.lt k X;simp at X;omega⟩
theorem Pk.len{js:ar}(h:Pk W js):Y js<=W:=by
 have:=UH (b:=dj W) h.nd λj X=>rN.2 (h.lt j X)
 simpa using this
def Pk.perm{js:ar}(h:Pk W js)(X:W<=Y js):js.Perm (dj W):=atv h.nd (λj V=>rN.2 (h.lt j V)) (by simpa using X)
def Pk.more{js:ar}(Q:¬W<=Y js):∃j<W,j∉js:=by
 apply Classical.byContradiction;intro X;have:∀x∈dj W,x∈js:=λx V=>Classical.byContradiction λR=>X ⟨x,rN.1 V,R⟩
 have:=UH List.nodup_range this;simp at this;omega
def LQ(M:av)(js:ar):av:=js.map λj=>vq (M.getD j [])
def atw(M:av)(js:ar):(LQ M js).length=Y js:=by simp[LQ]
def aCa(M:av):(dj (Y M)).map (λj=>vq (M.getD j []))=M.map vq:=by
 apply List.ext_getElem;simp;intro i X W;simp at X;simp[X]
def aCb{js:ar}(h:Pk (Y X) js)(W:Y X<=Y js):(LQ X js).Perm (X.map vq):=by
 rw[<-aCa];exact(h.perm W).map _
def atx{x:aE}:∀c∈[0,1,2],aI c (vq x)=aI c x:=by
 intro c X;simp at X;rcases X with rfl|rfl|rfl<;>simp[vq,aI,iV,bn]
def BV.aCc(h:BV [0,1,2] X):BV [0,1,2] (X.map vq):=by
 refine akO.2 (h.imp λ{x y} V=> ?_);obtain⟨c,W,R⟩:=V;exact⟨c,W,by rw[atx c W,atx c W];exact R⟩
def UI(M:av):av:=(bN (bu.lex [0,1,2] E).lt (M.map vq)).map vq
theorem aCd:UI X=[]<->X=[]:=by
 rw[UI,List.map_eq_nil_iff];constructor;intro h;have:=(BS (lt:=(bu.lex [0,1,2] E).lt) (X.map vq)).length_eq;rw[h] at this;simp at this;exact AC.1 this.symm;rintro rfl;rfl
end
section
variable{L:ck}
def aty:ar:=[0,1,1,0,0,0,1,0,0,0,1,0,1,0,1,0,1,0,0,0,1,0,1,0,1,0,1,0,1,0,0,0,1,0,1,0,1]
def aCe(R:aX->Prop)(G D B A z y x w u t s q p w6 n m l g f:Int)(e d c a r4 r5 r6 r7 r8 r9 aa ab ac af UJ ag al an a0 a1 a3 a4 a9:RV)(M:av)(ba:kj M)(hl:Y M<=536870912)(hR:R (.ret [.r (ao (UI M)),.i 0])):
  T.wp TB.Ev R (qa.at aty) ⟨[G,D,B,A,z,y,x,w,u,t,s,q,p,w6,n,m,l,g,f],[],[e,d,c,a,r4,r5,r6,r7,r8,r9,aa,ab,ac,af,UJ,ag,al,an,a0,a1,a3,a4,a9,ao M],[]⟩ L:=by
 rw[show qa.at aty=T.loop _ _ _ _ from rfl];refine asM (· =.ret [.r (ao (UI M)),.i 0]) (λo h=>h▸hR) (λQ=>∃js,Q=[.r (ao (LQ M js)),.r (ao (mK js))]/\Pk (Y M) js) (λQ=>match Q with|[_,.r v]=>Y M-Y v.ah|_=>0) ⟨[],rfl,Pk.nil _⟩ ?_;rintro _ ⟨js,rfl,V⟩;have bf:=V.len;rw[asL];refine⟨single ?_, ?_, ?_, ?_⟩;exact Hv _;by_cases hn:Y M<=Y js;exact akM (ae2 (by simp[UG];omega));obtain⟨j,X,W⟩:=Pk.more hn;refine akM (ae1 (j:=(j:Int)) ae bZ ?_);simp[abc,W];intro j h0 X W;obtain⟨j,rfl⟩:∃k:Nat,j=k:=⟨j.toNat,ae⟩;have X:j<Y M:=by simp at X;omega
 have W:j∉js:=by simp[abc] at W;exact W
 have P:=UH (b:=dj (Y M)) (V.add W X).nd λj P=>rN.2 ((V.add W X).lt j P)
 simp at P;have fj:iD 1 [RV.mk (Value.int I (j:Int)) []] (mK js)=mK (js++[j]):=atu W;have dX:(mK (js++[j])).length=Y js+1:=by simp[mK]
 have fK:be BinOp.sub I ((Y js:Int)+1) 1=(Y js:Int):=by
  simp only[be];rw[i8 ae ae];omega
 have bq:bn (aQ (mK (js++[j])) (Y js:Int) 0).val=(j:Int):=by
  rw[mK,GF];rw[show Ck (λ(j:Nat)=>[iV (j:Int)]) [j]=[[iV (j:Int)]] from rfl,As aw];rfl
 simp[UG,atw,fj,fK,bq];rw[BO];refine⟨⟨ae,X⟩,ae,⟨js++[j], ?_,V.add W X⟩, ?_⟩;have:LQ M (js++[j])=LQ M js++[vq (M.getD j [])]:=by simp[LQ]
 rw[this];simp[vq,aI,aQ,iV];simp[ao,mK];omega;intro X;have X:Y M<=Y js:=by simp[UG] at X;omega
 have bb:=aCb V X
 first|rw[wV]|rw[wW]
 refine⟨_,atm bZ (BV.aCc ba.keys) (by simpa using bb), ?_⟩;generalize O:bN (bu.lex [0,1,2] E).lt (M.map vq)=F;have bg:Y F=Y M:=by rw[<-O,(BS _).length_eq];simp
 have bc:=atw M js;refine bQ (Y M) (λi bd=>bd=[.r (ao ((F.take i).map vq))]) ⟨0,rfl,rO _,rfl⟩ ?_;rintro i _ N rfl;simp[bc];refine aW (λN=>⟨N,ae, ?_⟩) (λbk=> ?_);have H:i<Y F:=ae;rw[bD ae ae,avZ,eo,dB H];simp[vq,aI,aQ,iV,H];have:Y F<=i:=ae;rw[Jp (by simpa using this),UI,O]
end
end
section
variable{R:aX->Prop}{G:aL}{t:T}{O:aj}{L:ck}
def aCf(a b:Int)(h:b≠0):∃o,TB.Ev 280 [.i a,.i b] o/\∃X,o=.ret X/\fA (kI 1) X=true:=by
 refine eI ?_;simp[aif,h]
def aCg(a b:Int)(h:b≠0):gX TB.Ev R 280 [.i a,.i b] G t O L=io TB.Ev R (.ret [.i (oi 280 [.i a,.i b] 0)]) G t O L:=aY (nj _ (aCf a b h))
def aCh{a b:Int}(h:mq a b=J):b≠0:=by
 simp[mq] at h;omega
def aCi(a b c:Int):∃o,TB.Ev 273 [.i a,.i b,.i c] o/\∃X,o=.ret X/\fA (kI 3) X=true:=by
 refine eI ?_;by_cases h:mq a b=J;simp[aaC,h,aCg _ _ (aCh h)];simp[aaC,h]
@[simp] def aJL (a b c:Int):gX TB.Ev R 273 [.i a,.i b,.i c] G t O L=io TB.Ev R (.ret [.i (oi 273 [.i a,.i b,.i c] 0),.i (oi 273 [.i a,.i b,.i c] 1),.i (oi 273 [.i a,.i b,.i c] 2)]) G t O L:=aY (nj _ (aCi a b c))
def aCj(Q:Int)(X W V:RV)(N:Sl X)(M:Sl W)(H:Sl V)(ap:Int):∃o,TB.Ev 272 [.i Q,.r X,.r W,.r V,.i ap] o/\∃P,o=.ret P/\fA (kI 2) P=true:=by
 refine eI ?_;obtain⟨G,F⟩:=oW Q X W V N M H;simp[aiq,aY G];intro D B;rw[asT Q ap X W V (F D).1 (by first|omega|(simp[jk] at B;omega))];simp
def aCk(Q:Int)(X W V:RV)(P:Sl X)(N:Sl W)(M:Sl V)(ap:Int):gX TB.Ev R 272 [.i Q,.r X,.r W,.r V,.i ap] G t O L=io TB.Ev R (.ret [.i (oi 272 [.i Q,.r X,.r W,.r V,.i ap] 0),.i (oi 272 [.i Q,.r X,.r W,.r V,.i ap] 1)]) G t O L:=aY (nj _ (aCj Q X W V P N M ap))
def aCl(Q:Int)(X W V:RV)(N:Sl X)(M:Sl W)(H:Sl V)(ap a b:Int):∃o,TB.Ev 255 [.i Q,.r X,.r W,.r V,.i ap,.i a,.i b] o/\∃P,o=.ret P/\fA (kI 3) P=true:=by
 refine eI ?_;simp[air,aCk Q X W V N M H ap]
def aCm(Q:Int)(X W V:RV)(P:Sl X)(N:Sl W)(M:Sl V)(ap a b:Int):gX TB.Ev R 255 [.i Q,.r X,.r W,.r V,.i ap,.i a,.i b] G t O L=io TB.Ev R (.ret [.i (oi 255 [.i Q,.r X,.r W,.r V,.i ap,.i a,.i b] 0),.i (oi 255 [.i Q,.r X,.r W,.r V,.i ap,.i a,.i b] 1),.i (oi 255 [.i Q,.r X,.r W,.r V,.i ap,.i a,.i b] 2)]) G t O L:=aY (nj _ (aCl Q X W V P N M ap a b))
def aCn(Q:Int)(X W V:RV)(N:Sl X)(M:Sl W)(H:Sl V)(G F D B A z y x w v u s q p:Int):∃o,TB.Ev 220 [.i Q,.r X,.r W,.r V,.i G,.i F,.i D,.i B,.i A,.i z,.i y,.i x,.i w,.i v,.i u,.i s,.i q,.i p] o/\∃P,o=.ret P/\fA (kI 1) P=true:=by
 refine eI ?_;simp[ais,aCm Q X W V N M H]
def ajs(Q:Int)(X W V:RV)(s:Sl X)(q:Sl W)(p:Sl V)(P N M H F D B A z y x w v u:Int):gX TB.Ev R 220 [.i Q,.r X,.r W,.r V,.i P,.i N,.i M,.i H,.i F,.i D,.i B,.i A,.i z,.i y,.i x,.i w,.i v,.i u] G t O L=io TB.Ev R (.ret [.i (oi 220 [.i Q,.r X,.r W,.r V,.i P,.i N,.i M,.i H,.i F,.i D,.i B,.i A,.i z,.i y,.i x,.i w,.i v,.i u] 0)]) G t O L:=aY (nj _ (aCn Q X W V s q p P N M H F D B A z y x w v u))
end
section
variable[Inhabited cm]
section
def abd(id:Int)(m:Nat):aE:=[iV ((m:Int)+1),iV id]
def ow(b:Nat->Bool)(id:Int)(js:ar):av:=(js.filter b).map (abd id)
def aCo{b:Nat->Bool}{id:Int}{js:ar}(h:b W=J):ow b id (js++[W])=ow b id js++[abd id W]:=by simp[ow,h]
def aCp{b:Nat->Bool}{id:Int}{js:ar}(h:b W=E):ow b id (js++[W])=ow b id js:=by simp[ow,h]
def atz(b:Nat->Bool)(id:Int)(js:ar):(ow b id js).length<=Y js:=by simp only[ow,oX];exact aIP _ _
def rH(X:RV)(id:Int)(k:Nat):Int:=match mo 1 [id,0,0] X.ah with|U W=>bn (W[k]?.getD default).val|none=>0
def abe(X W a2 V R q:Int):Int:=if q=0 then X else if q=1 then W else if q=2 then a2 else if q=3 then V else if q=4 then R else 0
def aCq(v w:Nat->Int):Int:=max 0 (max (be .sub I (v 0) (w 0)) (max (be .sub I 0 (be .sub I (v 0) (w 0))) (max (be .sub I (v 1) (w 1)) (max (be .sub I 0 (be .sub I (v 1) (w 1))) (max (be .sub I (v 2) (w 2)) (be .sub I 0 (be .sub I (v 2) (w 2))))))))
def ajt(eU:Int)(l9 ng nh X:RV)(W:Nat)(x:Nat->Int)(V R q d l:Int)(k:Nat):Bool:=decide (be .mul I (be .mul I 841 (ci X W (k+9))) (oi 220 ([.i eU,.r l9,.r ng,.r nh]++lZ x) 0)<be .mul I (be .mul I 1000 (ci X W (k+6))) (aCq (oi 219 [.i V,.i R,.i q]) (oi 219 [.i d,.i l,.i q])))
def fQ(X:RV)(W:Nat)(V:RV)(x s:Nat->Int):Nat->Bool
 |0=>if x 4=3 then decide (ci X W 12<rH V (x 0) 3) else if x 4=4\/x 4=9 then decide (ci X W 13<rH V (x 0) 3) else if x 4=5 then decide (ci X W 14<rH V (x 0) 3) else E|1=>if x 4=3 then ajt eU l9 ng nh X W x (rH V (x 0) 2) (rH V (x 0) 3) (x 5-1) (abe (s 3) (s 5) (s 7) (s 9) (s 11) (x 5-1)) (abe (s 4) (s 6) (s 8) (s 10) (s 12) (x 5-1)) 0 else if x 4=4 then ajt eU l9 ng nh X W x (rH V (x 0) 2) (rH V (x 0) 3) (x 5+1) (abe (s 3) (s 5) (s 7) (s 9) (s 11) (x 5+1)) (abe (s 4) (s 6) (s 8) (s 10) (s 12) (x 5+1)) 1 else if x 4=5 then ajt eU l9 ng nh X W x (rH V (x 0) 2) (rH V (x 0) 3) 4 (s 11) (s 12) 2 else E|2=>if x 4=1 then decide (ci X W 4<x 8) else if x 4=2 then decide (ci X W 5<x 8) else E|3=>if x 4=7 then decide (ci X W 2<ci X ((x 9).toNat-1) 1) else E|_=>E
def LR(l:bA)(k:Nat):Int:=l.getD k 0
end
section
structure atA(k:Int)(o0:aX)(n i rn:Nat)(bd mp:RV)(rs acc:av)(b:Nat->Bool)(s:bA):Prop where
 ho:Bb o0 o0=J
 h:dV
 hb:b=fQ bd rn mp (bX rs i) (LR s)
 hi:i<n
 hn:n<=4096
 bY:Y rs=n
 Gk:Y acc<=100000
 qS:rn<Y bd.ah
 ce:Sl bd
 jc:Y bd.ah=Y ay.ah
 oz:Y ay.ah<=64
 fP:BR (Y ay.ah) eU (bX rs i)
 hk:bX rs i 4=k
structure aCr(js:ar)(j:Nat)(z:Int)(b:Nat->Bool)(id:Int):Prop where
 z4:z=0/\j=0\/z=1/\j=1\/z=2/\j=2\/z=3/\j=3
 hlen:Y js<4
 fj:iD 1 [RV.mk (Value.int I z) []] (mK js)=mK (js++[j])
 dX:(mK (js++[j])).length=Y js+1
 fK:be BinOp.sub I ((Y js:Int)+1) 1=(Y js:Int)
 bq:bn (aQ (mK (js++[j])) (Y js:Int) 0).val=z
 D4:(ow b id js).length<=Y js
 fm:b j=J->ow b id (js++[j])=ow b id js++[abd id j]
 oA:b j=E->ow b id (js++[j])=ow b id js
def atB(X:aZ):Nat:=match X.reverse with|.r v::_=>4-Y v.ah|_=>0
def BY(k:Int)(t:T):Prop:=∀{W D A B X ap x8 x9 aa ab ac w6 af ag al an a0 a1 a3 a4 a9 ba bb bc bf bg bk bl br bs bt bx b0 b1 b2 UK Q P O N M H G F z y x UL UM b3:Int}{V:Nat->aZ->Prop}{L:ck}{re:RV}{w:aX}{v u s q p o m l j h g f e:Int}{n i d:Nat}{c a:RV}{R acc:av}{b:Nat->Bool},atA k w n i d c a R acc b [Q,P,O,N,M,H,G,F,z,y,x,UL,UM]->(∀js,js.Perm (dj 4)->V (i+1) [.i v,.i u,.i s,.i q,.i p,.i o,.i m,.i l,.i j,.i h,.i g,.i f,.i e,.r (ao (acc++ow b (bX R i 0) js))])->T.wp TB.Ev (· =w) t (⟨[W,D,A,B,X,eU,(d:Int),ap,x8,x9,aa,ab,ac,w6,af,ag,al,an,a0,a1,a3,a4,a9,ba,bb,bc,bf,bg,bk,bl,br,bs,bt,bx,b0,b1,b2,UK,(i:Int),Q,P,O,N,M,H,G,F,z,y,x,UL,UM,v,u,s,q,p,o,m,l,j,h,g,f,e,b3],[],[ay,l9,ng,nh,di,c,re,a,ao R,ao acc],[]⟩:aj) (⟨2,DV n V,BQ n,n-i⟩::L)
def D5(k:Int)(t:T):Prop:=∀{W D A B X ap x8 x9 ab ac af w6 ag al an a0 a1 a3 a4 a9 ba bb bc bf bg bk bl br bs bt bx b0 b1 b2 b3 UK p o l h g f e d c a aa UL UM b4:Int}{V:Nat->aZ->Prop}{L:ck}{re:RV}{o0:aX}{P O N H G F y x w v u s q:Int}{n i rn:Nat}{bd mp:RV}{Q acc:av}{b:Nat->Bool},atA k o0 n i rn bd mp Q acc b [p,o,l,h,g,f,e,d,c,a,aa,UL,UM]->∀{js:ar}{j:Nat}{z:Int}{R:aZ->Prop}{μ:aZ->Nat}{m:Nat},aCr js j z b (bX Q i 0)->(∀M,M=[.i P,.i O,.i N,.i H,.i G,.i F,.i y,.i x,.i w,.i v,.i u,.i s,.i q,.r (ao (acc++ow b (bX Q i 0) (js++[j]))),.r (ao (mK (js++[j])))]->I2 (U ⟨3,R,μ,m⟩) M)->T.wp TB.Ev (· =o0) t (((⟨[W,D,A,B,X,eU,(rn:Int),ap,x8,x9,ab,ac,af,w6,ag,al,an,a0,a1,a3,a4,a9,ba,bb,bc,bf,bg,bk,bl,br,bs,bt,bx,b0,b1,b2,b3,UK,(i:Int),p,o,l,h,g,f,e,d,c,a,aa,UL,UM,P,O,N,H,G,F,y,x,w,v,u,s,q,b4],[],[ay,l9,ng,nh,di,bd,re,mp,ao Q,ao acc],[]⟩:aj).ext [.i P,.i O,.i N,.i H,.i G,.i F,.i y,.i x,.i w,.i v,.i u,.i s,.i q,.r (ao (acc++ow b (bX Q i 0) js)),.r (ao (mK js))]).add (.i z)) (⟨3,R,μ,m⟩::⟨2,DV n V,BQ n,n-i⟩::L)
def BZ(t:T):T:=match fq.at [0,1,0,0,1,0,1,0,0,0,0,0,0,0,0,1,0] with|.loop a b c (.pick d e f _ g)=>.loop a b c (.pick d e f t g)|x=>x
def Gl{k:Int}{t:T}(O:D5 k t):BY k (BZ t):=by
 unfold BY;intros;rename_i N M L H G F D B A y x w v n i p o m u acc b R l;rw[show BZ t=T.loop _ _ _ (T.pick _ _ _ t _) from rfl];refine Ap (λs=>∃js,s=[.i N,.i M,.i L,.i H,.i G,.i F,.i D,.i B,.i A,.i y,.i x,.i w,.i v,.r (ao (acc++ow b (bX u i 0) js)),.r (ao (mK js))]/\Pk 4 js) atB ⟨[],by simp[ow,mK],Pk.nil _⟩ ?_;rintro _ ⟨js,rfl,V⟩;have h:=V.len;rw[asL];refine⟨single R.ho, ?_, ?_, ?_⟩;by_cases q:4<=Y js;exact akM (ae2 (by simp[UG];omega));obtain⟨j,X,W⟩:=Pk.more q;refine akM (ae1 (j:=(j:Int)) ae bZ ?_);simp[abc,W];intro z g X W;obtain⟨j,Q⟩:∃k:Nat,(k:Int)=z:=⟨z.toNat,ae⟩;have X:j<4:=by simp at X;omega
 have W:j∉js:=by rw[<-Q] at W;simp[abc] at W;exact W
 have P:=UH (b:=dj 4) (V.add W X).nd λj P=>rN.2 ((V.add W X).lt j P)
 simp at P;refine O (js:=js) (j:=j) (z:=z) R ⟨ae,ae,by rw[<-Q];exact atu W,by simp[mK],by simp only[be];rw[i8 ae ae];omega, ?_,atz _ _ _,aCo,aCp⟩ ?_;rw[<-Q,mK,GF];rw[show Ck (λ(j:Nat)=>[iV (j:Int)]) [j]=[[iV (j:Int)]] from rfl,As aw];rfl;rintro _ rfl;rw[BO];exact⟨⟨_,rfl,V.add W X⟩,by simp[atB,mK];omega⟩;intro X;have X:4<=Y js:=by simp[UG] at X;omega
 have f:=V.perm X;simp[bD R.hi (show n<=140737488355328 by have:=R.hn;omega)]
 grind
def br1:BY 1 (fq.at [0,1,0,0,1,0,1,0,0,0,0,0,0,0,0,1,0]):=by
 rw[show fq.at [0,1,0,0,1,0,1,0,0,0,0,0,0,0,0,1,0]=BZ (fq.at [0,1,0,0,1,0,1,0,0,0,0,0,0,0,0,1,0,0,0]) from rfl];refine Gl ?_;rw[show fq.at [0,1,0,0,1,0,1,0,0,0,0,0,0,0,0,1,0,0,0]=T.ah _ _ _ _ from rfl];unfold D5;intros;rename_i n i N M L Q acc b P js j z _ _ _ O R;obtain⟨H,h,X,G,F,bY,Gk,qS,ce,jc,oz,fP,W⟩:=P;obtain⟨D,B,fj,dX,fK,bq,D4,fm,oA⟩:=O;have A:(i:Int)<Y Q:=ae;rcases(show z=0/\j=0\/z=1/\j=1\/z=2/\j=2\/z=3/\j=3 from ae) with⟨rfl,rfl⟩|⟨rfl,rfl⟩|⟨rfl,rfl⟩|⟨rfl,rfl⟩;have e:b 0=false:=by rw[X];simp[fQ,W]
 simp[fj,fK,bq,dX]
 grind
 have e:b 1=false:=by rw[X];simp[fQ,W]
 simp[fj,fK,bq,dX]
 grind
 simp[fj,fK,bq,dX];refine⟨ae, ?_⟩;refine aW (λV=>⟨ae,R _ ?_⟩) (λV=>R _ ?_);have e:b 2=true:=by
  rw[X];simp only[fQ,W];exact decide_eq_true V
 rw[fm e];rfl;have e:b 2=false:=by
  rw[X];simp only[fQ,W];exact decide_eq_false V
 rw[oA e];have e:b 3=false:=by rw[X];simp[fQ,W]
 simp[fj,fK,bq,dX]
 grind
def br2:BY 2 (fq.at [0,1,0,0,1,0,1,0,0,0,0,0,0,0,0,1,1,0]):=by
 rw[show fq.at [0,1,0,0,1,0,1,0,0,0,0,0,0,0,0,1,1,0]=BZ (fq.at [0,1,0,0,1,0,1,0,0,0,0,0,0,0,0,1,1,0,0,0]) from rfl];refine Gl ?_;rw[show fq.at [0,1,0,0,1,0,1,0,0,0,0,0,0,0,0,1,1,0,0,0]=T.ah _ _ _ _ from rfl];unfold D5;intros;rename_i n i N M L Q acc b P js j z _ _ _ O R;obtain⟨H,h,X,G,F,bY,Gk,qS,ce,jc,oz,fP,W⟩:=P;obtain⟨D,B,fj,dX,fK,bq,D4,fm,oA⟩:=O;have A:(i:Int)<Y Q:=ae;rcases(show z=0/\j=0\/z=1/\j=1\/z=2/\j=2\/z=3/\j=3 from ae) with⟨rfl,rfl⟩|⟨rfl,rfl⟩|⟨rfl,rfl⟩|⟨rfl,rfl⟩;have e:b 0=false:=by rw[X];simp[fQ,W]
 simp[fj,fK,bq,dX]
 grind
 have e:b 1=false:=by rw[X];simp[fQ,W]
 simp[fj,fK,bq,dX]
 grind
 simp[fj,fK,bq,dX];refine⟨ae, ?_⟩;refine aW (λV=>⟨ae,R _ ?_⟩) (λV=>R _ ?_);have e:b 2=true:=by
  rw[X];simp only[fQ,W];exact decide_eq_true V
 rw[fm e];rfl;have e:b 2=false:=by
  rw[X];simp only[fQ,W];exact decide_eq_false V
 rw[oA e];have e:b 3=false:=by rw[X];simp[fQ,W]
 simp[fj,fK,bq,dX]
 grind
def br3:BY 3 (fq.at [0,1,0,0,1,0,1,0,0,0,0,0,0,0,0,1,1,1,0]):=by
 rw[show fq.at [0,1,0,0,1,0,1,0,0,0,0,0,0,0,0,1,1,1,0]=BZ (fq.at [0,1,0,0,1,0,1,0,0,0,0,0,0,0,0,1,1,1,0,0,0]) from rfl];refine Gl ?_;rw[show fq.at [0,1,0,0,1,0,1,0,0,0,0,0,0,0,0,1,1,1,0,0,0]=T.ah _ _ _ _ from rfl];unfold D5;intros;rename_i n i H G F W acc b N js j z _ _ _ M Q;obtain⟨D,h,V,B,A,bY,Gk,qS,ce,jc,oz,fP,R⟩:=N;obtain⟨y,x,fj,dX,fK,bq,D4,fm,oA⟩:=M;have w:(i:Int)<Y W:=ae;have L:bn (aQ W (i:Int) 5).val=1\/bn (aQ W (i:Int) 5).val=2:=by
  have:=fP.side
  grind [bX]
 have P:be .sub I (bn (aQ W (i:Int) 5).val) 1=bn (aQ W (i:Int) 5).val-1:=by simp only[be];rw[i8 ae ae]
 have O:be .quo I (bn (aQ W (i:Int) 5).val-1) 2=0:=by rcases L with h|h<;>rw[h]<;>decide
 rcases(show z=0/\j=0\/z=1/\j=1\/z=2/\j=2\/z=3/\j=3 from ae) with⟨rfl,rfl⟩|⟨rfl,rfl⟩|⟨rfl,rfl⟩|⟨rfl,rfl⟩;simp[fj,fK,bq,dX,P,O];refine⟨ae, ?_⟩;refine aW (λX=>⟨ae,Q _ ?_⟩) (λX=>Q _ ?_);have e:b 0=true:=by
  rw[V];simp only[fQ,R];exact decide_eq_true X
 rw[fm e];rfl;have e:b 0=false:=by
  rw[V];simp only[fQ,R];exact decide_eq_false X
 rw[oA e];simp[fj,fK,bq,dX,P,O,ajs eU l9 ng nh h.tp h.ps h.sp];refine⟨ae,⟨ae,ae⟩,ae, ?_⟩;refine aW (λX=>⟨ae,Q _ ?_⟩) (λX=>Q _ ?_);have e:b 1=true:=by
  rw[V];simp only[fQ,R];exact decide_eq_true X
 rw[fm e];rfl;have e:b 1=false:=by
  rw[V];simp only[fQ,R];exact decide_eq_false X
 rw[oA e];have e:b 2=false:=by rw[V];simp[fQ,R]
 simp[fj,fK,bq,dX]
 grind
 have e:b 3=false:=by rw[V];simp[fQ,R]
 simp[fj,fK,bq,dX]
 grind
def br4:BY 4 (fq.at [0,1,0,0,1,0,1,0,0,0,0,0,0,0,0,1,1,1,1,0]):=by
 rw[show fq.at [0,1,0,0,1,0,1,0,0,0,0,0,0,0,0,1,1,1,1,0]=BZ (fq.at [0,1,0,0,1,0,1,0,0,0,0,0,0,0,0,1,1,1,1,0,0,0]) from rfl];refine Gl ?_;rw[show fq.at [0,1,0,0,1,0,1,0,0,0,0,0,0,0,0,1,1,1,1,0,0,0]=T.ah _ _ _ _ from rfl];unfold D5;intros;rename_i n i H G F W acc b N js j z _ _ _ M Q;obtain⟨D,h,V,B,A,bY,Gk,qS,ce,jc,oz,fP,R⟩:=N;obtain⟨y,x,fj,dX,fK,bq,D4,fm,oA⟩:=M;have w:(i:Int)<Y W:=ae;have L:bn (aQ W (i:Int) 5).val=1\/bn (aQ W (i:Int) 5).val=2:=by
  have:=fP.side
  grind [bX]
 have P:be .add I (bn (aQ W (i:Int) 5).val) 1=bn (aQ W (i:Int) 5).val+1:=by simp only[be];rw[i8 ae ae]
 have O:be .quo I (bn (aQ W (i:Int) 5).val+1) 2=1:=by rcases L with h|h<;>rw[h]<;>decide
 rcases(show z=0/\j=0\/z=1/\j=1\/z=2/\j=2\/z=3/\j=3 from ae) with⟨rfl,rfl⟩|⟨rfl,rfl⟩|⟨rfl,rfl⟩|⟨rfl,rfl⟩;simp[fj,fK,bq,dX,P,O];refine⟨ae, ?_⟩;refine aW (λX=>⟨ae,Q _ ?_⟩) (λX=>Q _ ?_);have e:b 0=true:=by
  rw[V];simp only[fQ,R];exact decide_eq_true X
 rw[fm e];rfl;have e:b 0=false:=by
  rw[V];simp only[fQ,R];exact decide_eq_false X
 rw[oA e];simp[fj,fK,bq,dX,P,O,ajs eU l9 ng nh h.tp h.ps h.sp];refine⟨ae,⟨ae,ae⟩,ae, ?_⟩;refine aW (λX=>⟨ae,Q _ ?_⟩) (λX=>Q _ ?_);have e:b 1=true:=by
  rw[V];simp only[fQ,R];exact decide_eq_true X
 rw[fm e];rfl;have e:b 1=false:=by
  rw[V];simp only[fQ,R];exact decide_eq_false X
 rw[oA e];have e:b 2=false:=by rw[V];simp[fQ,R]
 simp[fj,fK,bq,dX]
 grind
 have e:b 3=false:=by rw[V];simp[fQ,R]
 simp[fj,fK,bq,dX]
 grind
def br5:BY 5 (fq.at [0,1,0,0,1,0,1,0,0,0,0,0,0,0,0,1,1,1,1,1,0]):=by
 rw[show fq.at [0,1,0,0,1,0,1,0,0,0,0,0,0,0,0,1,1,1,1,1,0]=BZ (fq.at [0,1,0,0,1,0,1,0,0,0,0,0,0,0,0,1,1,1,1,1,0,0,0]) from rfl];refine Gl ?_;rw[show fq.at [0,1,0,0,1,0,1,0,0,0,0,0,0,0,0,1,1,1,1,1,0,0,0]=T.ah _ _ _ _ from rfl];unfold D5;intros;rename_i n i N M L Q acc b P js j z _ _ _ O R;obtain⟨H,h,W,G,F,bY,Gk,qS,ce,jc,oz,fP,V⟩:=P;obtain⟨D,B,fj,dX,fK,bq,D4,fm,oA⟩:=O;have A:(i:Int)<Y Q:=ae;rcases(show z=0/\j=0\/z=1/\j=1\/z=2/\j=2\/z=3/\j=3 from ae) with⟨rfl,rfl⟩|⟨rfl,rfl⟩|⟨rfl,rfl⟩|⟨rfl,rfl⟩;simp[fj,fK,bq,dX];refine⟨ae, ?_⟩;refine aW (λX=>⟨ae,R _ ?_⟩) (λX=>R _ ?_);have e:b 0=true:=by
  rw[W];simp only[fQ,V];exact decide_eq_true X
 rw[fm e];rfl;have e:b 0=false:=by
  rw[W];simp only[fQ,V];exact decide_eq_false X
 rw[oA e];simp[fj,fK,bq,dX,ajs eU l9 ng nh h.tp h.ps h.sp];refine⟨ae, ?_⟩;refine aW (λX=>⟨ae,R _ ?_⟩) (λX=>R _ ?_);have e:b 1=true:=by
  rw[W];simp only[fQ,V];exact decide_eq_true X
 rw[fm e];rfl;have e:b 1=false:=by
  rw[W];simp only[fQ,V];exact decide_eq_false X
 rw[oA e];have e:b 2=false:=by rw[W];simp[fQ,V]
 simp[fj,fK,bq,dX]
 grind
 have e:b 3=false:=by rw[W];simp[fQ,V]
 simp[fj,fK,bq,dX]
 grind
def br6:BY 6 (fq.at [0,1,0,0,1,0,1,0,0,0,0,0,0,0,0,1,1,1,1,1,1,0]):=by
 rw[show fq.at [0,1,0,0,1,0,1,0,0,0,0,0,0,0,0,1,1,1,1,1,1,0]=BZ (fq.at [0,1,0,0,1,0,1,0,0,0,0,0,0,0,0,1,1,1,1,1,1,0,0,0]) from rfl];refine Gl ?_;rw[show fq.at [0,1,0,0,1,0,1,0,0,0,0,0,0,0,0,1,1,1,1,1,1,0,0,0]=T.ah _ _ _ _ from rfl];unfold D5;intros;rename_i n i P O N V acc b R js j z _ _ _ Q M;obtain⟨L,h,X,H,G,bY,Gk,qS,ce,jc,oz,fP,W⟩:=R;obtain⟨F,D,fj,dX,fK,bq,D4,fm,oA⟩:=Q;have B:(i:Int)<Y V:=ae;rcases(show z=0/\j=0\/z=1/\j=1\/z=2/\j=2\/z=3/\j=3 from ae) with⟨rfl,rfl⟩|⟨rfl,rfl⟩|⟨rfl,rfl⟩|⟨rfl,rfl⟩;have e:b 0=false:=by rw[X];simp[fQ,W]
 simp[fj,fK,bq,dX]
 grind
 have e:b 1=false:=by rw[X];simp[fQ,W]
 simp[fj,fK,bq,dX]
 grind
 have e:b 2=false:=by rw[X];simp[fQ,W]
 simp[fj,fK,bq,dX]
 grind
 have e:b 3=false:=by rw[X];simp[fQ,W]
 simp[fj,fK,bq,dX]
 grind
def br7:BY 7 (fq.at [0,1,0,0,1,0,1,0,0,0,0,0,0,0,0,1,1,1,1,1,1,1,0]):=by
 rw[show fq.at [0,1,0,0,1,0,1,0,0,0,0,0,0,0,0,1,1,1,1,1,1,1,0]=BZ (fq.at [0,1,0,0,1,0,1,0,0,0,0,0,0,0,0,1,1,1,1,1,1,1,0,0,0]) from rfl];refine Gl ?_;rw[show fq.at [0,1,0,0,1,0,1,0,0,0,0,0,0,0,0,1,1,1,1,1,1,1,0,0,0]=T.ah _ _ _ _ from rfl];unfold D5;intros;rename_i n i M L H X acc b P js j z _ _ _ O Q;obtain⟨G,h,W,F,D,bY,Gk,qS,ce,jc,oz,fP,V⟩:=P;obtain⟨B,A,fj,dX,fK,bq,D4,fm,oA⟩:=O;have y:(i:Int)<Y X:=ae;have x:1<=bX X i 9/\bX X i 9<=Y ay.ah:=by
  have:=fP.wth
  grind
 have N:be .sub I (bn (aQ X (i:Int) 9).val) 1=(((bX X i 9).toNat-1:Nat):Int):=by
  have:bn (aQ X (i:Int) 9).val=bX X i 9:=rfl
  grind [be,i8]
 rcases(show z=0/\j=0\/z=1/\j=1\/z=2/\j=2\/z=3/\j=3 from ae) with⟨rfl,rfl⟩|⟨rfl,rfl⟩|⟨rfl,rfl⟩|⟨rfl,rfl⟩;have e:b 0=false:=by rw[W];simp[fQ,V]
 simp[fj,fK,bq,dX]
 grind
 have e:b 1=false:=by rw[W];simp[fQ,V]
 simp[fj,fK,bq,dX]
 grind
 have e:b 2=false:=by rw[W];simp[fQ,V]
 simp[fj,fK,bq,dX]
 grind
 simp[fj,fK,bq,dX,ce.len,N];refine⟨ae,ae, ?_⟩;refine aW (λR=>⟨ae,Q _ ?_⟩) (λR=>Q _ ?_);have e:b 3=true:=by
  rw[W];simp only[fQ,V];exact decide_eq_true R
 rw[fm e];rfl;have e:b 3=false:=by
  rw[W];simp only[fQ,V];exact decide_eq_false R
 rw[oA e]
def br9:BY 9 (fq.at [0,1,0,0,1,0,1,0,0,0,0,0,0,0,0,1,1,1,1,1,1,1,1,0]):=by
 rw[show fq.at [0,1,0,0,1,0,1,0,0,0,0,0,0,0,0,1,1,1,1,1,1,1,1,0]=BZ (fq.at [0,1,0,0,1,0,1,0,0,0,0,0,0,0,0,1,1,1,1,1,1,1,1,0,0,0]) from rfl];refine Gl ?_;rw[show fq.at [0,1,0,0,1,0,1,0,0,0,0,0,0,0,0,1,1,1,1,1,1,1,1,0,0,0]=T.ah _ _ _ _ from rfl];unfold D5;intros;rename_i n i H G F X acc b P js j z _ _ _ O Q;obtain⟨D,h,W,B,A,bY,Gk,qS,ce,jc,oz,fP,V⟩:=P;obtain⟨y,x,fj,dX,fK,bq,D4,fm,oA⟩:=O;have w:(i:Int)<Y X:=ae;have N:bn (aQ X (i:Int) 5).val=1\/bn (aQ X (i:Int) 5).val=2:=by
  have:=fP.side
  grind [bX]
 have M:be .add I (bn (aQ X (i:Int) 5).val) 1=bn (aQ X (i:Int) 5).val+1:=by simp only[be];rw[i8 ae ae]
 have L:be .quo I (bn (aQ X (i:Int) 5).val+1) 2=1:=by rcases N with h|h<;>rw[h]<;>decide
 rcases(show z=0/\j=0\/z=1/\j=1\/z=2/\j=2\/z=3/\j=3 from ae) with⟨rfl,rfl⟩|⟨rfl,rfl⟩|⟨rfl,rfl⟩|⟨rfl,rfl⟩;simp[fj,fK,bq,dX,M,L];refine⟨ae, ?_⟩;refine aW (λR=>⟨ae,Q _ ?_⟩) (λR=>Q _ ?_);have e:b 0=true:=by
  rw[W];simp only[fQ,V];exact decide_eq_true R
 rw[fm e];rfl;have e:b 0=false:=by
  rw[W];simp only[fQ,V];exact decide_eq_false R
 rw[oA e];have e:b 1=false:=by rw[W];simp[fQ,V]
 simp[fj,fK,bq,dX]
 grind
 have e:b 2=false:=by rw[W];simp[fQ,V]
 simp[fj,fK,bq,dX]
 grind
 have e:b 3=false:=by rw[W];simp[fQ,V]
 simp[fj,fK,bq,dX]
 grind
def br8:BY 8 (fq.at [0,1,0,0,1,0,1,0,0,0,0,0,0,0,0,1,1,1,1,1,1,1,1,1]):=by
 rw[show fq.at [0,1,0,0,1,0,1,0,0,0,0,0,0,0,0,1,1,1,1,1,1,1,1,1]=BZ (fq.at [0,1,0,0,1,0,1,0,0,0,0,0,0,0,0,1,1,1,1,1,1,1,1,1,0,0]) from rfl];refine Gl ?_;rw[show fq.at [0,1,0,0,1,0,1,0,0,0,0,0,0,0,0,1,1,1,1,1,1,1,1,1,0,0]=T.ah _ _ _ _ from rfl];unfold D5;intros;rename_i n i O N M V acc b Q js j z _ _ _ P L;obtain⟨H,h,W,G,F,bY,Gk,qS,ce,jc,oz,fP,X⟩:=Q;obtain⟨D,B,fj,dX,fK,bq,D4,fm,oA⟩:=P;have A:(i:Int)<Y V:=ae;have R:bn (aQ V (i:Int) 4).val=8:=X;rcases(show z=0/\j=0\/z=1/\j=1\/z=2/\j=2\/z=3/\j=3 from ae) with⟨rfl,rfl⟩|⟨rfl,rfl⟩|⟨rfl,rfl⟩|⟨rfl,rfl⟩;have e:b 0=false:=by rw[W];simp[fQ,X]
 simp[fj,fK,bq,dX]
 grind
 have e:b 1=false:=by rw[W];simp[fQ,X]
 simp[fj,fK,bq,dX,R]
 grind
 have e:b 2=false:=by rw[W];simp[fQ,X]
 simp[fj,fK,bq,dX]
 grind
 have e:b 3=false:=by rw[W];simp[fQ,X]
 simp[fj,fK,bq,dX,R]
 grind
end

section
variable{p:FuncId->aZ->aX->Prop}{R:aX->Prop}{O:aj}{L:ck}
def aCB{M:aL}{N:aq}{t:T}(V:aX->Prop)(H:∀o,V o->R o)(n:Nat)(X:Nat->aZ->Prop)(G:DV n X (N.map (C.xv O)))(h:∀(i:Nat) Q,i<=n->X i Q->t.wp p V (O.ext (.i i::Q)) [⟨W,DV n X,BQ n,n-i⟩]):T.wp p R (.loop W M N t) O L:=by
 refine asM V H (DV n X) (BQ n) G λF P=> ?_
 match F,P with
 |.i j::Q,P=>
  obtain⟨i,rfl,D,B⟩:=P
  grind [BQ]
def Qt(X:RV)(id:Int)(k:Nat):Bool:=match mo 1 [id,0,0] X.ah with|U W=>jr (W[k]?.getD default).val|none=>E
def bO(W:RV)(X:av)(V:Nat->Int):Nat->Nat->Int
 |0,j=>V j|k+1,j=>oi 171 ([.i (bO W X V k 0),.i (bO W X V k 1),.i (bO W X V k 2),.i (bO W X V k 3),.i (bO W X V k 4),.i (bO W X V k 5),.i (bO W X V k 6),.i (bO W X V k 7),.i (bO W X V k 8),.i (bO W X V k 9),.i (bO W X V k 10),.i (bO W X V k 11),.i (bO W X V k 12)]++lZ (bX X k)++[.i (rH W (bX X k 0) 1),.i (rH W (bX X k 0) 2),.i (rH W (bX X k 0) 3),.b (Qt W (bX X k 0) 4)]) j
def qb(Q:RV)(P:Nat)(W:RV)(X:av)(V:Nat->Int):Nat->av
 |0=>[]|k+1=>qb Q P W X V k++if Qt W (bX X k 0) 4 then[] else ow (fQ Q P W (bX X k) (LR [bO W X V k 0,bO W X V k 1,bO W X V k 2,bO W X V k 3,bO W X V k 4,bO W X V k 5,bO W X V k 6,bO W X V k 7,bO W X V k 8,bO W X V k 9,bO W X V k 10,bO W X V k 11,bO W X V k 12])) (bX X k 0) (dj 4)
def aCC{b:Nat->Bool}{id:Int}{js X:ar}(h:js.Perm X):(ow b id js).Perm (ow b id X):=(h.filter b).map _
def abf(Q:RV)(P:Nat)(W:RV)(X:av)(V:Nat->Int):∀k,(qb Q P W X V k).length<=4*k
 |0=>by simp[qb]
 |k+1=>by
  have N:=abf Q P W X V k;have M:=atz (fQ Q P W (bX X k) (LR [bO W X V k 0,bO W X V k 1,bO W X V k 2,bO W X V k 3,bO W X V k 4,bO W X V k 5,bO W X V k 6,bO W X V k 7,bO W X V k 8,bO W X V k 9,bO W X V k 10,bO W X V k 11,bO W X V k 12])) (bX X k 0) (dj 4)
  grind [qb,ga,aI6]
def atC(V:RV)(Q:Nat)(P:RV)(W:av)(N:Nat->Int):∀k,∀x∈qb V Q P W N k,∃q<k,aI 1 x=bX W q 0
 |0,x,X=>by simp[qb] at X
 |k+1,x,X=>by
  rw[qb] at X;rcases fg.1 X with h|h;obtain⟨q,M,H⟩:=atC V Q P W N k x h
  grind
  split at h;simp at h;obtain⟨m,-,rfl⟩:=fw.1 h;exact⟨k,ae,rfl⟩
def aCD(b:Nat->Bool)(id:Int){js:ar}(h:js.Nodup):BV [1,0] (ow b id js):=by
 refine akO.2 ((h.sublist List.filter_sublist).imp λ{x y} X=>⟨0,aw, ?_⟩);simp[abd,aI,iV,bn];omega
def aCE(V:wY X){k:Nat}(Q:W<k)(P:k<Y X):bX X W 0≠bX X k 0:=by
 have:=abY.1 V W k ae P Q
 grind [bX,aQ,aI]
def atD(W:RV)(V:Nat)(Q:RV)(X:av)(P:Nat->Int)(N:wY X):∀k≤Y X,BV [1,0] (qb W V Q X P k)
 |0,_=>xk
 |k+1,h=>by
  rw[qb];refine oC.2 ⟨atD W V Q X P N k ae, ?_, ?_⟩;split;simp;exact aCD _ _ List.nodup_range;intro x H y M;obtain⟨q,G,F⟩:=atC W V Q X P k x H;split at M
  grind
  obtain⟨m,-,rfl⟩:=fw.1 M;refine⟨1,aw, ?_⟩;rw[F];exact aCE N G ae
end
section
def aCF(R:aX->Prop)(L:ck)(h:dV)(N:Nat)(ap z y x w v w6 u t s q p n m g f e d c a aa ab ac af ag al an a0 a1 a3 UK:Int)(Q re V:RV)(X:av)(W:Nat->Int)(l:[z,y,x,w,v,w6,u,t,s,q,p,n,m]=[W 0,W 1,W 2,W 3,W 4,W 5,W 6,W 7,W 8,W 9,W 10,W 11,W 12])
  (G:Y X<=4096)(qS:N<Y Q.ah)(ce:Sl Q)(jc:Y Q.ah=Y ay.ah)(oz:Y ay.ah<=64)(fP:∀i<Y X,BR (Y ay.ah) eU (bX X i))(hk:wY X)
  (hR:R (.ret [.r (ao (bN (bu.lex [1,0] E).lt (qb Q N V X W (Y X)))),.i 0])):
  T.wp TB.Ev R (fq.at [0,1,0,0,1,0,1,0,0,0]) ⟨[oU,oV,wZ,I6,I7,eU,(N:Int),ap,z,y,x,w,v,w6,u,t,s,q,p,n,m,g,f,e,d,c,a,aa,ab,ac,af,ag,al,an,a0,a1,a3,UK],[],[ay,l9,ng,nh,di,Q,re,V,ao X],[]⟩ L:=by
 rw[show fq.at [0,1,0,0,1,0,1,0,0,0]=(T.loop _ _ _ (T.aJ _ (T.aS _ (T.aS _ (T.call _ _ _ _ _ _ (T.aJ _ _ (T.aJ _ (fq.at [0,1,0,0,1,0,1,0,0,0,0,0,0,0,0,1,0]) (T.aJ _ (fq.at [0,1,0,0,1,0,1,0,0,0,0,0,0,0,0,1,1,0]) (T.aJ _ (fq.at [0,1,0,0,1,0,1,0,0,0,0,0,0,0,0,1,1,1,0]) (T.aJ _ (fq.at [0,1,0,0,1,0,1,0,0,0,0,0,0,0,0,1,1,1,1,0]) (T.aJ _ (fq.at [0,1,0,0,1,0,1,0,0,0,0,0,0,0,0,1,1,1,1,1,0]) (T.aJ _ (fq.at [0,1,0,0,1,0,1,0,0,0,0,0,0,0,0,1,1,1,1,1,1,0]) (T.aJ _ (fq.at [0,1,0,0,1,0,1,0,0,0,0,0,0,0,0,1,1,1,1,1,1,1,0]) (T.aJ _ (fq.at [0,1,0,0,1,0,1,0,0,0,0,0,0,0,0,1,1,1,1,1,1,1,1,0]) (fq.at [0,1,0,0,1,0,1,0,0,0,0,0,0,0,0,1,1,1,1,1,1,1,1,1]))))))))))))) _)) from rfl];simp at l;obtain⟨rfl,rfl,rfl,rfl,rfl,rfl,rfl,rfl,rfl,rfl,rfl,rfl,rfl⟩:=l;have a4:∀acc:av,acc.Perm (qb Q N V X W (Y X))->iu (.lex [1,0] E) E acc=U (bN (bu.lex [1,0] E).lt (qb Q N V X W (Y X))):=λacc B=>atm (by have:=abf Q N V X W (Y X);omega) (atD Q N V X W hk _ (cd _)) B
 have F:Bb (.ret [.r (ao (bN (bu.lex [1,0] E).lt (qb Q N V X W (Y X)))),.i 0]) (.ret [.r (ao (bN (bu.lex [1,0] E).lt (qb Q N V X W (Y X)))),.i 0])=true:=Hv _;refine aCB (· =.ret [.r (ao (bN (bu.lex [1,0] E).lt (qb Q N V X W (Y X)))),.i 0]) (λo h=>h▸hR) (Y X) (λi a9=>∃acc,a9=[.i (bO V X W i 0),.i (bO V X W i 1),.i (bO V X W i 2),.i (bO V X W i 3),.i (bO V X W i 4),.i (bO V X W i 5),.i (bO V X W i 6),.i (bO V X W i 7),.i (bO V X W i 8),.i (bO V X W i 9),.i (bO V X W i 10),.i (bO V X W i 11),.i (bO V X W i 12),.r (ao acc)]/\acc.Perm (qb Q N V X W i)) ⟨0,rfl,rO _,[],rfl,akV _⟩ ?_;rintro i _ M ⟨acc,rfl,B⟩;have ba:=B.length_eq;have D4:=abf Q N V X W i;simp;refine aW (λM=> ?_) (λbf=> ?_);have k:=nj _ (ajh (bO V X W i 0) (bO V X W i 1) (bO V X W i 2) (bO V X W i 3) (bO V X W i 4) (bO V X W i 5) (bO V X W i 6) (bO V X W i 7) (bO V X W i 8) (bO V X W i 9) (bO V X W i 10) (bO V X W i 11) (bO V X W i 12) (bX X i) (rH V (bX X i 0) 1) (rH V (bX X i 0) 2) (rH V (bX X i 0) 3) (Qt V (bX X i 0) 4));simp only[lZ,cU,du,I9,Ql,t7] at k;change _/\gX TB.Ev _ _ [.i (bO V X W i 0),.i (bO V X W i 1),.i (bO V X W i 2),.i (bO V X W i 3),.i (bO V X W i 4),.i (bO V X W i 5),.i (bO V X W i 6),.i (bO V X W i 7),.i (bO V X W i 8),.i (bO V X W i 9),.i (bO V X W i 10),.i (bO V X W i 11),.i (bO V X W i 12),.i (bX X i 0),.i (bX X i 1),.i (bX X i 2),.i (bX X i 3),.i (bX X i 4),.i (bX X i 5),.i (bX X i 6),.i (bX X i 7),.i (bX X i 8),.i (bX X i 9),.i (bX X i 10),.i (bX X i 11),.i (bX X i 12),.i (bX X i 13),.i (rH V (bX X i 0) 1),.i (rH V (bX X i 0) 2),.i (rH V (bX X i 0) 3),.b (Qt V (bX X i 0) 4)] _ _ _ _;rw[aY k];simp[M,bD M (show Y X<=140737488355328 from ae)];have H:=fP i M;refine aW (λA=> ?_) (λA=> ?_);refine⟨acc,⟨rfl,rfl,rfl,rfl,rfl,rfl,rfl,rfl,rfl,rfl,rfl,rfl,rfl,rfl⟩, ?_⟩;rw[qb,aH (show Qt V (bX X i 0) 4=J from A),Jw];exact B;have bb:Qt V (bX X i 0) 4=false:=Bool.eq_false_iff.2 A;have D:∀js,js.Perm (dj 4)->∃j,[.i (bO V X W (i+1) 0),.i (bO V X W (i+1) 1),.i (bO V X W (i+1) 2),.i (bO V X W (i+1) 3),.i (bO V X W (i+1) 4),.i (bO V X W (i+1) 5),.i (bO V X W (i+1) 6),.i (bO V X W (i+1) 7),.i (bO V X W (i+1) 8),.i (bO V X W (i+1) 9),.i (bO V X W (i+1) 10),.i (bO V X W (i+1) 11),.i (bO V X W (i+1) 12),XV.r (ao (acc++ow (fQ Q N V (bX X i) (LR [bO V X W i 0,bO V X W i 1,bO V X W i 2,bO V X W i 3,bO V X W i 4,bO V X W i 5,bO V X W i 6,bO V X W i 7,bO V X W i 8,bO V X W i 9,bO V X W i 10,bO V X W i 11,bO V X W i 12])) (bX X i 0) js))]=[.i (bO V X W (i+1) 0),.i (bO V X W (i+1) 1),.i (bO V X W (i+1) 2),.i (bO V X W (i+1) 3),.i (bO V X W (i+1) 4),.i (bO V X W (i+1) 5),.i (bO V X W (i+1) 6),.i (bO V X W (i+1) 7),.i (bO V X W (i+1) 8),.i (bO V X W (i+1) 9),.i (bO V X W (i+1) 10),.i (bO V X W (i+1) 11),.i (bO V X W (i+1) 12),.r (ao j)]/\j.Perm (qb Q N V X W (i+1)):=λjs hj=>⟨_,rfl,by
  rw[qb,bb];exact B.append (aCC hj)⟩
 have h4:=H.kind;refine aW (λP=>br1 ⟨F,h,rfl,M,G,rfl,ae,qS,ce,jc,oz,H,P⟩ D) (λbg=> ?_);refine aW (λP=>br2 ⟨F,h,rfl,M,G,rfl,ae,qS,ce,jc,oz,H,P⟩ D) (λbk=> ?_);refine aW (λP=>br3 ⟨F,h,rfl,M,G,rfl,ae,qS,ce,jc,oz,H,P⟩ D) (λbl=> ?_);refine aW (λP=>br4 ⟨F,h,rfl,M,G,rfl,ae,qS,ce,jc,oz,H,P⟩ D) (λbr=> ?_);refine aW (λP=>br5 ⟨F,h,rfl,M,G,rfl,ae,qS,ce,jc,oz,H,P⟩ D) (λbs=> ?_);refine aW (λP=>br6 ⟨F,h,rfl,M,G,rfl,ae,qS,ce,jc,oz,H,P⟩ D) (λbt=> ?_);refine aW (λP=>br7 ⟨F,h,rfl,M,G,rfl,ae,qS,ce,jc,oz,H,P⟩ D) (λbx=> ?_);refine aW (λP=>br9 ⟨F,h,rfl,M,G,rfl,ae,qS,ce,jc,oz,H,P⟩ D) (λb0=> ?_);exact br8 ⟨F,h,rfl,M,G,rfl,ae,qS,ce,jc,oz,H,(by simp only[bX] at h4⊢;omega)⟩ D;have bc:i=Y X:=ae;subst bc
 first|rw[wV]|rw[wW]
 refine⟨_,a4 acc B, ?_⟩;simp[ao,ba,(BS _).length_eq]
end
end
