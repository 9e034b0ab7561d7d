/- Part 4. -/
import Derived.Test.YtjnmghiggfgjlaaGreatDoorU3
set_option linter.all false
set_option maxRecDepth 100000
set_option maxHeartbeats 100000000
open Bool renaming and_eq_true->aC,false_eq_true->iZ,not_eq_true'->jT,or_eq_true->lq,true->J,false->E
open Nat renaming le_refl->cd,zero_le->rP,eq_zero_or_pos->Jz,mod_lt->Ra,gcd->acx,gcd_comm->awy
open List renaming cons_append->cG,nil_append->cX,getD_eq_getElem?_getD->di,range->dj,getElem?_eq_some_iff->du,getElem?_eq_getElem->dv,map_cons->dH,getElem?_map->ep,mem_cons->ey,mem_append->fc,mem_map->fo,getElem?_append_left->fO,length_append->fT,all_eq_true->gC,getElem?_append_right->jo,mem_of_getElem?->jD,pairwise_cons->jS,length_cons->n9,pairwise_append->oD,map_nil->oE,length_map->oW,getElem?_take->pJ,mem_range->rO,getElem?_of_mem->sP,getElem_mem->sQ,getElem?_drop->xj,nodup_append->xk,length_eq_zero_iff->yS,append_assoc->Ci,length_drop->Cj,map->Co,nodup_cons->Eu,map_append->GJ,take_of_length_le->Jv,take_append_drop->Jx,append_nil->JC,length_take->Mr,drop_drop->Q7,length_singleton->Vy,pairwise_iff_getElem->aci,foldl_cons->acr,ne_nil_of_mem->ak3,pairwise_map->ak5,range_succ_eq_map->avX,mem_erase_of_ne->av1,length_pos_iff->av4,filter_append->av7,take_add_one->awd,ext_getElem->awg,find?_cons->awi,length_erase_of_mem->aIZ,pairwise_singleton->aI0,length_filter_le->aI7,length_range->aJo,length->Y
open Option renaming some->U,none->Z
open Int renaming toNat_natCast->rN,natAbs_tmod->ak9,mul_le_mul_of_nonneg_right->aIR,mul_lt_mul_of_pos_right->aIS,fdiv_eq_ediv_of_nonneg->aIU
open List.Pairwise renaming nil->vx
open List.cons renaming injEq->Et
open List.Perm renaming refl->alb,swap->aJr
open Go.IntKind renaming i64->I
namespace Go.Proofs.YtjnmghiggfgjlaaGreatDoor.Y
open Go.RowKit
noncomputable section
variable{X:av}{W:Nat}{V:FuncId}
section
variable{lt:aE->aE->Bool}{p:aE->Prop}
structure m7(lt:aE->aE->Bool)(p:aE->Prop):Prop where
 X9:∀x,p x->lt x x=E
 tr:∀x y z,p x->p y->p z->lt x y=J->lt y z=J->lt x z=J
 nt:∀x y z,p x->p y->p z->lt x y=E->lt y z=E->lt x z=E
def m7.asym(h:m7 lt p){x y:aE}(X:p x)(W:p y)(V:lt x y=J):lt y x=false:=by
 cases R:lt y x;rfl;have:=h.tr x y x X W X V R;rw[h.X9 x X] at this;cases this
def ap9(h:m7 lt p){x y:aE}(W:p x)(V:p y)(X:lt y x=J):∀{l:av},(∀z∈l,p z)->fk lt y (fk lt x l)=fk lt x (fk lt y l)
 |[],_=>by
  have R:=h.asym V W X;simp[fk,X,R]
 |z::r,O=>by
  have N:=O z aw;have M:=ap9 h W V X (l:=r) (λw L=>O w (by simp[L]));have R:=h.asym V W X;cases Q:lt x z;cases P:lt y z;simp[fk,Q,P,M];simp[fk,Q,P,R];have P:lt y z=true:=h.tr y x z V W N X Q;simp[fk,Q,P,X,R]
inductive gz(lt:List RV->List RV->Bool)(l:List (List RV)):List (List RV)->Prop
 |refl:gz lt l l
 |step {P Q:List (List RV)} {x y:List RV}:lt y x=J->gz lt l (P++x::y::Q)->gz lt l (P++y::x::Q)
def gz.trans{b c:av}(W:gz lt X b)(V:gz lt b c):gz lt X c:=by
 induction V with|refl=>exact W|step h _ R=>exact .step h R
def gz.Oe{b:av}(A B:av)(h:gz lt X b):gz lt (A++X++B) (A++b++B):=by
 induction h with
 |refl=>exact .refl
 | @step P Q x y h _ W=>
  have V:A++(P++x::y::Q)++B=(A++P)++x::y::(Q++B):=aw;have R:A++(P++y::x::Q)++B=(A++P)++y::x::(Q++B):=aw;rw[V] at W;rw[R];exact .step h W
def gz.perm{b:av}(h:gz lt X b):b.Perm X:=by
 induction h with|refl=>exact alb _|step _ _ W=>exact((aJr _ _ _).append_left _).trans W
def gz.aqa(P:av)(b:aE):∀(A Q:av),(∀a∈A,lt b a=J)->gz lt (P++A.reverse++b::Q) (P++b::(A.reverse++Q))
 |[],Q,_=>by simpa using gz.refl
 |a::A,Q,h=>by
  have X:gz lt (P++(a::A).reverse++b::Q) ((P++A.reverse)++b::a::Q):=by
   have:P++(a::A).reverse++b::Q=(P++A.reverse)++a::b::Q:=aw;rw[this];exact .step (h a aw) .refl
  have W:=gz.aqa P b A (a::Q) (λx V=>h x (by simp[V]));have e:P++b::((a::A).reverse++Q)=P++b::(A.reverse++a::Q):=aw;rw[e];exact X.trans W
def gz.one(P Q:av)(b:aE)(A:av)(h:∀a∈A,lt b a=J):gz lt (P++A++b::Q) (P++b::(A++Q)):=by
 have:=gz.aqa (lt:=lt) P b A.reverse Q (λa X=>h a (by simpa using X));simpa using this
def gz.block(Q:av)(A:av):∀(B P:av),(∀a∈A,∀b∈B,lt b a=J)->gz lt (P++A++(B++Q)) (P++B++(A++Q))
 |[],P,_=>by simpa using gz.refl
 |b::B,P,h=>by
  have W:=gz.one P (B++Q) b A (λa X=>h a X b aw);have V:=gz.block Q A B (P++[b]) (λa X R O=>h a X R (by simp[O]));have N:P++b::(A++(B++Q))=P++[b]++A++(B++Q):=aw;have M:P++b::B++(A++Q)=P++[b]++B++(A++Q):=aw;rw[N] at W;rw[M];exact W.trans V
def zG(lt:aE->aE->Bool)(acc l:av):av:=l.foldl (λacc x=>fk lt x acc) acc
def aA1{acc:av}(R:∀z∈acc,p z)(Q:∀z∈X,p z):∀z∈zG lt acc X,p z:=by
 induction X generalizing acc with
 |nil=>exact R
 |cons x X W=>
  refine W (acc:=fk lt x acc) (λz V=> ?_) (λz V=>Q z (by simp[V]));have fl:∀{X:av},z∈fk lt x X->z=x\/z∈X:=by
   intro X;induction X with
   |nil=>intro h;simpa[fk] using h
   |cons y r W=>
    intro h;simp only[fk] at h;split at h;simpa using h;rcases ey.1 h with h|h;exact .inr (by simp[h]);rcases W h with h|h;exact .inl h;exact .inr (by simp[h])
  rcases fl V with rfl|h;exact Q _ aw;exact R z h
def gz.fold(h:m7 lt p){O:av}(W:gz lt X O){acc:av}(M:∀z∈X,p z)(L:∀z∈acc,p z):zG lt acc O=zG lt acc X:=by
 induction W with
 |refl=>rfl
 | @step P Q x y H W G=>
  rw[<-G];have V:=λz(R:z∈P++x::y::Q)=>M z (W.perm.mem_iff.1 R)
  have N:∀z∈zG lt acc P,p z:=aA1 L λz R=>V z (by simp[R])
  simp only[zG,List.foldl_append,acr] at N⊢;rw[ap9 h (V x aw) (V y aw) H N]
def gU(lt:aE->aE->Bool)(l:av):Prop:=l.Pairwise λa b=>lt b a=E
def aqb{x:aE}:∀{l:av},(∀y∈l,lt x y=E)->fk lt x l=l++[x]
 |[],_=>rfl
 |y::r,h=>by
  have X:=h y aw;simp[fk,X,aqb (l:=r) λz W=>h z (by simp[W])]
def aA2:∀{acc:av},gU lt (acc++X)->zG lt acc X=acc++X:=by
 induction X with
 |nil=>intro acc _;simp[zG]
 |cons x X W=>
  intro acc h;have V:∀y∈acc,lt x y=false:=λy R=>(oD.1 h).2.2 y R x aw
  have e:acc++x::X=(acc++[x])++X:=aw;rw[e] at h⊢;rw[<-W h];simp only[zG,acr];rw[aqb V]
def Ya(h:gU lt X):bN lt X=X:=aA2 (acc:=[]) h
def Tg{x z:aE}:∀{l:av},z∈fk lt x l->z=x\/z∈l
 |[],h=>by simpa[fk] using h
 |y::r,h=>by
  simp only[fk] at h;split at h;simpa using h;rcases ey.1 h with h|h;exact .inr (by simp[h]);rcases Tg h with h|h;exact .inl h;exact .inr (by simp[h])
def gU.ins(h:m7 lt p){x:aE}(W:p x):∀{l:av},(∀z∈l,p z)->gU lt l->gU lt (fk lt x l)
 |[],_,_=>aI0 _ _
 |y::r,V,Q=>by
  have P:=V y aw;have R:=jS.1 Q;simp only[fk];cases O:lt x y;refine jS.2 ⟨λz X=> ?_,gU.ins h W (λz X=>V z (by simp[X])) R.2⟩;rcases Tg X with rfl|X;exact O;exact R.1 z X;refine jS.2 ⟨λz X=> ?_,Q⟩;have N:=h.asym W P O;rcases ey.1 X with rfl|X;exact N;exact h.nt z y x (V z (by simp[X])) P W (R.1 z X) N
def gU.fold(h:m7 lt p):∀{acc:av},(∀z∈acc,p z)->(∀z∈X,p z)->gU lt acc->gU lt (zG lt acc X):=by
 induction X with
 |nil=>intro acc _ _ h;exact h
 |cons x X Q=>
  intro acc R V P;refine Q (acc:=fk lt x acc) (λz W=> ?_) (λz W=>V z (by simp[W])) (P.ins h (V x aw) R);rcases Tg W with rfl|W;exact V _ aw;exact R z W
def KN(h:m7 lt p)(W:∀z∈X,p z):gU lt (bN lt X):=gU.fold h (acc:=[]) aw W vx
def gz.ins(h:m7 lt p){x:aE}(V:p x):∀{l:av},(∀z∈l,p z)->gU lt l->gz lt (l++[x]) (fk lt x l)
 |[],_,_=>.refl
 |y::r,W,P=>by
  have O:=W y aw;have R:=jS.1 P;simp only[fk];cases Q:lt x y;have:=(gz.ins h V (l:=r) (λz X=>W z (by simp[X])) R.2).Oe [y] [];simpa using this;have:=gz.one (lt:=lt) [] [] x (y::r) (λz X=>by
   rcases ey.1 X with rfl|X;exact Q;cases N:lt x z;have:=h.nt x z y V (W z (by simp[X])) O N (R.1 z X);rw[Q] at this;cases this;rfl)
  simpa using this
def gz.aA3(h:m7 lt p):∀{acc:av},(∀z∈acc,p z)->(∀z∈X,p z)->gU lt acc->gz lt (acc++X) (zG lt acc X):=by
 induction X with
 |nil=>intro acc _ _ _;simpa[zG] using gz.refl
 |cons x X P=>
  intro acc R V Q;have O:=(gz.ins h (V x aw) R Q).Oe [] X;have N:=P (acc:=fk lt x acc) (λz W=>by
   rcases Tg W with rfl|W;exact V _ aw;exact R z W) (λz W=>V z (by simp[W])) (Q.ins h (V x aw) R)
  have e:acc++x::X=[]++(acc++[x])++X:=aw;rw[e];refine O.trans ?_;rw[cX];exact N
def gz.Yb(h:m7 lt p)(W:∀z∈X,p z):gz lt X (bN lt X):=by
 exact gz.aA3 h (acc:=[]) aw W vx
def afP(h:m7 lt p){W:av}(V:∀z∈X,p z)(R:gz lt X W)(Q:gU lt W):bN lt X=W:=by
 rw[<-Ya Q];exact(R.fold h (acc:=[]) V aw).symm
def KO{z:aE}(h:z∈bN lt X):z∈X:=by
 have:∀(X acc:av),z∈zG lt acc X->z∈acc\/z∈X:=by
  intro X;induction X with
  |nil=>intro acc h;exact .inl h
  |cons x X W=>
   intro acc h;rcases W (fk lt x acc) h with h|h;rcases Tg h with rfl|h;exact .inr aw;exact .inl h;exact .inr (by simp[h])
 rcases this X [] h with h|h;cases h;exact h
def aA4(h:m7 lt p){x:aE}{W:av}(Q:∀z∈x::(X++W),p z)(N:gU lt (X++W))(O:∀y∈X,lt y x=J)(M:∀y∈W,lt y x=E):bN lt (x::(X++W))=X++x::W:=by
 refine afP h Q ?_ ?_;have:=gz.block (lt:=lt) W [x] X [] (λa V b R=>by simp at V;subst V;exact O b R);simpa using this;have P:=oD.1 N;refine oD.2 ⟨P.1,jS.2 ⟨M,P.2.1⟩,λa V b R=> ?_⟩;rcases ey.1 R with rfl|R;exact h.asym (Q a (by simp[V])) (Q b aw) (O a V);exact P.2.2 a V b R
def aA5(h:m7 lt p){y:aE}{W:av}(R:∀z∈X++W++[y],p z)(N:gU lt (X++W))(M:∀x∈X,lt y x=E)(P:∀x∈W,lt y x=J):bN lt (X++W++[y])=X++y::W:=by
 refine afP h R ?_ ?_;have:=gz.one (lt:=lt) X [] y W P;simpa using this;have Q:=oD.1 N;refine oD.2 ⟨Q.1,jS.2 ⟨λb V=>h.asym (R y aw) (R b (by simp[V])) (P b V),Q.2.1⟩,λa O b V=> ?_⟩;rcases ey.1 V with rfl|V;exact M a O;exact Q.2.2 a O b V
def aA6(h:m7 lt p){R Q P:av}(O:∀z∈X++R++(Q++P),p z)(D:gU lt (X++R))(B:gU lt (Q++P))(A:∀x∈X,∀y∈P,lt y x=E)(H:∀x∈R,∀y∈Q,lt y x=J):
  bN lt (X++R++(Q++P))=bN lt (X++Q)++bN lt (R++P):=by
 have w:=oD.1 D;have v:=oD.1 B;have N:∀z∈X++Q,p z:=λz M=>O z (by rcases fc.1 M with h|h<;>simp[h])
 have L:∀z∈R++P,p z:=λz M=>O z (by rcases fc.1 M with h|h<;>simp[h])
 refine afP h O ?_ ?_;have u:=gz.block (lt:=lt) P R Q X H;have G:=(gz.Yb h N).Oe [] (R++P);have F:=(gz.Yb h L).Oe (bN lt (X++Q)) [];simp only[cX,JC] at G F;exact(u.trans G).trans F;refine oD.2 ⟨KN h N,KN h L,λa V b W=> ?_⟩;have V:=KO V;have W:=KO W;have t:=N a V;have s:=L b W;rcases fc.1 V with V|V;rcases fc.1 W with W|W;exact w.2.2 a V b W;exact A a V b W;rcases fc.1 W with W|W;exact h.asym t s (H b W a V);exact v.2.2 a V b W
def aqc(h:m7 lt p){B:av}(W:∀z∈X,p z)(V:∀z∈B,p z):bN lt (bN lt X++bN lt B)=bN lt (X++B):=by
 have R:=(gz.Yb h W).Oe [] B;have Q:=(gz.Yb h V).Oe (bN lt X) [];simp only[cX,JC] at R Q;exact(R.trans Q).fold h (acc:=[]) (λz P=>by exact(fc.1 P).elim (W z) (V z)) aw
end
section
def aqd(d:Bool):∀(Q:ar)(x y z:aE),jI d Q x y=E->jI d Q y z=E->jI d Q x z=E
 |[],_,_,_,_,_=>rfl
 |c::Q,x,y,z,V,X=>by
  simp only[jI] at V X⊢;by_cases R:aI c x=aI c y;rw[aH R] at V;by_cases W:aI c y=aI c z;rw[aH W] at X;rw[aH (R.trans W)];exact aqd d Q x y z V X;rw[aJ W] at X;rw[aJ (by rw[R];exact W),R];exact X;rw[aJ R] at V;by_cases W:aI c y=aI c z;rw[aJ (by rw[<-W];exact R),<-W];exact V;rw[aJ W] at X;cases d;simp only[iZ,jE,decide_eq_false_iff_not] at V X⊢;rw[aJ ae];simp only[decide_eq_false_iff_not];omega;simp only[dP,decide_eq_false_iff_not] at V X⊢;rw[aJ ae];simp only[decide_eq_false_iff_not];omega
def aqe(d:Bool):∀(X:ar)(x:aE),jI d X x x=E
 |[],_=>rfl|c::X,x=>by simp[jI,aqe d X x]
def aqf(d:Bool):∀(Q:ar)(x y z:aE),jI d Q x y=J->jI d Q y z=J->jI d Q x z=J
 |[],_,_,_,h,_=>by simp[jI] at h
 |c::Q,x,y,z,V,X=>by
  simp only[jI] at V X⊢;by_cases R:aI c x=aI c y;rw[aH R] at V;by_cases W:aI c y=aI c z;rw[aH W] at X;rw[aH (R.trans W)];exact aqf d Q x y z V X;rw[aJ W] at X;rw[aJ (by rw[R];exact W),R];exact X;rw[aJ R] at V;by_cases W:aI c y=aI c z;rw[aJ (by rw[<-W];exact R),<-W];exact V;rw[aJ W] at X;cases d;simp only[iZ,jE,dq] at V X⊢;rw[aJ ae];simp only[dq];omega;simp only[dP,dq] at V X⊢;rw[aJ ae];simp only[dq];omega
def Yc(X:ar)(d:Bool):m7 (bu.lex X d).lt (λx=>(bu.lex X d).ok x=J):=
 ⟨λx _=>aqe d X x,λx y z _ _ _=>aqf d X x y z,λx y z _ _ _=>aqd d X x y z⟩
def Of{n d:Int}(h:mw n d=J):0<d:=by
 simp only[mw,aC,dq] at h;omega
def afQ(n d:Nat):m7 (bu.ratio n d).lt (λx=>(bu.ratio n d).ok x=J):=by
 refine⟨λx _=> ?_,λx y z V R Q X W=> ?_,λx y z V R Q X W=> ?_⟩;simp[bu.lt];have P:=Of V;have N:=Of R;have O:=Of Q;simp only[bu.lt,dq] at X W⊢;have M:=aIS X O;have L:=aIS W P;refine Int.lt_of_mul_lt_mul_left (a:=aI d y) ?_ ae;have H:aI n x*aI d y*aI d z=aI d y*(aI n x*aI d z):=by ac_rfl
 have G:aI n y*aI d x*aI d z=aI n y*aI d z*aI d x:=by ac_rfl
 have F:aI n z*aI d y*aI d x=aI d y*(aI n z*aI d x):=by ac_rfl
 omega;have P:=Of V;have N:=Of R;have O:=Of Q;simp only[bu.lt,decide_eq_false_iff_not,Int.not_lt] at X W⊢;have M:=aIR X (show 0<=aI d z from ae);have L:=aIR W (show 0<=aI d x from ae);refine Int.le_of_mul_le_mul_left (a:=aI d y) ?_ ae;have H:aI n x*aI d y*aI d z=aI d y*(aI n x*aI d z):=by ac_rfl
 have G:aI n y*aI d x*aI d z=aI n y*aI d z*aI d x:=by ac_rfl
 have F:aI n z*aI d y*aI d x=aI d y*(aI n z*aI d x):=by ac_rfl
 omega
end
section
variable{lt:aE->aE->Bool}{p:aE->Prop}
def qK(X:av){m b:Nat}(V:W<=m)(R:m<=b):bi X W b=bi X W m++bi X m b:=by
 simp only[bi];have e:b-W=(m-W)+(b-m):=ae;rw[e,List.take_add,Q7,show W+(m-W)=m from ae]
def Og(X:av){b:Nat}(V:W<=b):X.take W++(bi X W b++X.drop b)=X:=by
 simp only[bi];have e:X.drop b=(X.drop W).drop (b-W):=by rw[Q7];congr 1;omega
 rw[e,Jx,Jx]
def Th(X:av){a b i:Nat}(h:i<b-a):(bi X a b)[i]?=X[a+i]?:=by
 simp only[bi,pJ,h,dP,xj]
def se(X:av){b:Nat}(h:b<=Y X):(bi X W b).length=b-W:=by simp[bi];omega
def HG{b:Nat}{x:aE}(h:x∈bi X W b):∃i,W<=i/\i<b/\i<Y X/\X.getD i []=x:=by
 obtain⟨i,V⟩:=sP h;have R:=(du.1 V).1;simp only[bi,Mr,Cj] at R;rw[Th X ae] at V;exact⟨W+i,ae,ae,ae,by simp[di,V]⟩
def Oi{b:Nat}(V:b<=Y X)(h:gU lt (bi X W b)){i j:Nat}(Q:W<=i)(O:i<j)(P:j<b):lt (X.getD j []) (X.getD i [])=false:=by
 have:=aci.1 h (i-W) (j-W) (by rw[se X V];omega) (by rw[se X V];omega) ae;have e:∀k(R:k-W<(bi X W b).length),W<=k->k<b->(bi X W b)[k-W]=X.getD k []:=λk R N M=>by
  have q:=Th X (a:=W) (b:=b) (i:=k-W) ae;rw[dv R,show W+(k-W)=k from ae] at q;simp[di,<-q]
 rw[e i _ Q ae,e j _ ae P] at this;exact this
def aqg:zr lt X=J<->gU lt X:=by
 induction X with
 |nil=>exact⟨λ_=>vx,λ_=>rfl⟩
 |cons x r W=>
  simp only[zr,aC,W,gC,jT,gU,jS]
def aA7(h:m7 lt p)(L:∀z∈X,p z){s m e b:Nat}(H:W<=s)(G:s<=m)(F:m<=e)(D:e<=b)(u:b<=Y X)(B:gU lt (bi X W m))(A:gU lt (bi X m b))
  (w:∀i j,W<=i->i<s->e<=j->j<b->lt (X.getD j []) (X.getD i [])=E)(v:∀i j,s<=i->i<m->m<=j->j<e->lt (X.getD j []) (X.getD i [])=J):
  bN lt (bi X W b)=bN lt (bi X W s++bi X m e)++bN lt (bi X s m++bi X e b):=by
 rw[qK X (show W<=m from ae) (show m<=b from ae),qK X H G,qK X F D] at*;refine aA6 h (λz V=>L z ?_) B A (λx R y Q=> ?_) (λx R y Q=> ?_);simp only[fc] at V;rcases V with(V|V)|(V|V)<;>exact vU V;obtain⟨i,P,O,_,rfl⟩:=HG R;obtain⟨j,N,M,_,rfl⟩:=HG Q;exact w i j P O N M;obtain⟨i,P,O,_,rfl⟩:=HG R;obtain⟨j,N,M,_,rfl⟩:=HG Q;exact v i j P O N M
end
section
variable(a b c:Nat)(d e f g h i:K)(j k l m:T)(n o p q r s:BE)(t u:List C)(v w x y z:C)(A:RE)(B N D:LE)(M F:List LK)(G:Int)(H:RK)(O:List RK)(P:BinOp)(Q:bu)(L:Bool)
abbrev cL:=K.v 0
abbrev da:=K.v 1
abbrev gL:=K.v 2
abbrev fZ:=T.ret v [] []
abbrev wj:=fZ (.bool n)
abbrev eQ:=BE.cmp .leq d e
abbrev Ti:=wj (eQ cL gL)
abbrev gA:=BE.c E
abbrev kf:=C.bool gA
abbrev gm:=fZ kf
abbrev f8:=K.v 4
abbrev aW:=C.int I d
abbrev pP:=aW f8
abbrev cK:=K.c 1
abbrev dZ:=aW cK
abbrev Bn:=K.c 9
abbrev C5:List LK:=[.bool]
abbrev C6:=BE.v 0
abbrev pQ:=BE.not C6
abbrev iJ:=aW da
abbrev bK:=K.c 0
abbrev aM:=aW bK
abbrev kN:=K.v 14
abbrev sj:=BE.v 1
abbrev oN:=BE.not sj
abbrev gM:=aW gL
abbrev jL:=K.v 15
abbrev Bo:=BE.v 2
abbrev Fo:=BE.not Bo
abbrev iR:=K.v 3
abbrev lf:=aW iR
abbrev qL:=K.c 3
abbrev pu:=aW qL
abbrev zH:=BE.v 3
abbrev Fp:=BE.not zH
abbrev gV:=eQ bK d
abbrev Tj:=gV f8
abbrev KP:=K.c 10
abbrev kg:=RE.v 0
abbrev iK:=K.len kg
abbrev lZ:=K.v 5
abbrev oO:=aW lZ
abbrev ru:=K.c 2
abbrev tD:=aW ru
abbrev mD:=BE.not (.v a)
abbrev HH:=mD 4
abbrev jM:=K.v 6
abbrev eI:=aW jM
abbrev lB:=K.c 8
abbrev HI:=aW lB
abbrev em:=K.v 7
abbrev jy:=aW em
abbrev fm:=K.v 8
abbrev iS:=aW fm
abbrev dA:=K.v 9
abbrev kO:=aW dA
abbrev mE:=aW kN
abbrev gF:=K.v 10
abbrev jc:=aW gF
abbrev iu:=K.v 11
abbrev kh:=aW iu
abbrev dp:=LK.int I
abbrev xS:List LK:=[dp,dp]
abbrev iw:=K.v 17
abbrev lC:=BE.cmp .neq d e
abbrev fM:=lC d bK
abbrev KQ:=fM iw
abbrev jk:=K.v 16
abbrev dM:=K.v 12
abbrev lD:=K.v 13
abbrev gN:=aW dM
abbrev mF:=aW lD
abbrev l8:=K.v 19
abbrev Tk:=fM l8
abbrev iG:=K.v 18
abbrev pR:=K.v 21
abbrev ou:=K.v 20
abbrev lg:=BE.c J
abbrev lj:=C.bool lg
abbrev zI:=fZ lj
abbrev jW:=T.call a t [] [] M .any j
abbrev m8:=jW a j [v,w] M
abbrev Fq:=m8 a j v w xS
abbrev lF:=C.agg [v,w]
abbrev dF:=T.aK n j (.aK o k l)
abbrev gW:=BE.cmp .gtr d e
abbrev Bp:=dF j k l n (gW d e)
abbrev Bq:=Bp d e gm j k n
abbrev ij:=T.aK n (.aK o j k) l
abbrev eJ:=BE.cmp .eql d e
abbrev dR:=eJ d bK
abbrev Fs:=BE.and (eJ d e) n
abbrev C7:=Fs d e (eJ f g)
abbrev C8:=T.aK n gm j
abbrev afR:=Fq 89 (Bq ou bK gm (ij (C8 zI (C7 cK dM cK lD)) zI zI (dR ou) (C7 dM gF lD iu)) (fM pR)) (lF gN mF) (lF dZ dZ)
abbrev afS:=Fq 89 (Bq iG bK gm (ij (C8 afR (C7 dM dM lD lD)) afR afR (dR iG) (C7 gF gF iu iu)) Tk) (lF jc kh) (lF gN mF)
abbrev nW:=aW (.c G)
abbrev Ft:=nW 150
abbrev iA:=T.ret (.bI [v,w]) [] []
abbrev Yd:=iA aM Ft
abbrev afT:=gW cL lB
abbrev zJ:=K.c 7
abbrev Br:=K.bin P I d e
abbrev oP:=Br d e .add
abbrev afU:=oP cL da
abbrev Ye:=iA (.agg [aM,aM,aM]) Ft
abbrev tE:=K.c 841
abbrev sn:=Br d e .sub
abbrev Tl:=sn da ru
abbrev sq:=sn d cK
abbrev HJ:=sq cL
abbrev cN:=BE.cmp .lss d e
abbrev fu:=BE.and n (cN d e)
abbrev afV:=fu HJ lB (gV HJ)
abbrev xT:=RE.v 2
abbrev Tm:=K.len xT
abbrev afW:=fu HJ Tm (gV HJ)
abbrev C9:=K.c 29
abbrev iL:=K.cell A d 0
abbrev Tn:=iL HJ xT
abbrev uN:=K.cell A d 1
abbrev To:=uN HJ xT
abbrev Bs:=aW (Br d e P)
abbrev lG:=Bs d e .mul
abbrev Yf:=lG (.c 609) Tl
abbrev Da:=K.c 20
abbrev ki:=aW cL
abbrev Yg:=fM lZ
abbrev Tp:=fZ (nW 120)
abbrev KR:=K.c 1073741824
abbrev Yh:=K.c (-1073741824)
abbrev ov:=fZ aM
abbrev Yi:=fM iR
abbrev qM:=T.ret (.bI t) [] []
abbrev afX:=qM [aM,aM,dZ]
abbrev kE:=K.mm J d e
abbrev aqh:=K.bin .rem .u64 iR (kE f8 cK)
abbrev Oj:=K.c (-1)
abbrev HL:=aW Oj
abbrev Db:=fZ dZ
abbrev afY:=lC cL cL
abbrev Tq:=K.c (-1099511627776)
abbrev Ts:=K.c 1099511627776
abbrev iM:=C.agg [v,w,x,y]
abbrev Fu:=iM ki iJ gM lf
abbrev Tt:=iM aM aM aM aM
abbrev afZ:=iM pP oO eI jy
abbrev pw:List LK:=[dp,dp,dp,dp,dp]
abbrev Ol:=dR fm
abbrev aqi:=K.c (-2199023255552)
abbrev zK:=iA Tt v
abbrev KS:=zK tD
abbrev xU:=Bs d e .add
abbrev aqj:=iM (xU cL f8) (xU da f8) (xU gL lZ) (xU iR lZ)
abbrev HM:=K.c (-1048576)
abbrev zL:=iA aM tD
abbrev uO:=K.c 1048576
abbrev Fv:=K.c 4
abbrev wl:List LK:=[dp,dp,dp,dp]
abbrev Fw:=C.agg [v,w,x]
abbrev af0:=fZ (Fw lf pP oO)
abbrev aqk:=T.aK (dR da) (m8 139 af0 ki dZ wl) (m8 139 af0 ki iJ wl)
abbrev KT:=C.bool sj
abbrev Om:=K.conv .u64 d
abbrev KU:=K.conv I (.bin .shr .u64 (Om (oP gL iR)) cK)
abbrev KV:=sq gL
abbrev Fy:=C.ak kg
abbrev px:=RE.v 1
abbrev Bt:=C.ak px
abbrev HN:=C.ak xT
abbrev On:=iM ki Fy Bt HN
abbrev Yj:=fM jM
abbrev rz:List LK:=[dp,dp,dp]
abbrev xV:=C.ak (.v a)
abbrev HO:=xV 3
abbrev KW:=C.ak (.v 4)
abbrev jd:=C.agg [ki,iJ,gM,lf,pP,Fy,oO,Bt,HN,HO,KW]
abbrev Yk:=dR em
abbrev Dc:=Bs d e .sub
abbrev af3:=Dc lZ cK
abbrev oQ:=RE.v 5
abbrev zM:=C.ak oQ
abbrev af4:=C.agg [zM]
abbrev uP:=RE.v 6
abbrev qN:=C.ak uP
abbrev kj:=RE.v 7
abbrev wm:=C.ak kj
abbrev pS:=RE.v 8
abbrev wn:=C.ak pS
abbrev uQ:=RE.v 9
abbrev uR:=C.ak uQ
abbrev tG:=RE.v 10
abbrev qO:=C.ak tG
abbrev tH:=RE.v 11
abbrev xW:=C.ak tH
abbrev Yl:=C.agg [eI,wm,wn,uR,qO,xW]
abbrev HQ:=RE.v 12
abbrev zN:=K.len HQ
abbrev zO:=fZ tD
abbrev Dd:=K.len (.v 4)
abbrev De:=K.c 4096
abbrev KY:=iM oO Bt HN HO
abbrev KZ:=K.c 1000
abbrev Tu:=aW KZ
abbrev Tv:=fZ (nW G)
abbrev zP:=Tv 190
abbrev Bu:=fM em
abbrev zQ:List C:=[aM]
abbrev ln:=cN d iK
abbrev Ym:=ln fm
abbrev Dg:=gV fm
abbrev af5:=oP fm cK
abbrev Tw:=aW af5
abbrev py:=T.back 0 t
abbrev K1:=py [Tw]
abbrev Yn:=cN dA Dd
abbrev HR:=BE.and (gV dA) n
abbrev Oo:=HR Yn
abbrev HS:=iL dA A
abbrev af6:=HS (.v 4)
abbrev Tx:=aW af6
abbrev gG:=aW (.cell A d a)
abbrev zR:=gG a dA A
abbrev xX:=zR a (.v 4)
abbrev aql:List C:=[Tx,xX 1,xX 2,xX 3,xX 4,xX 5,xX 6,xX 7,xX 8,xX 9,xX 10,xX 11,xX 12,xX 13]
abbrev iB:=xU d cK
abbrev uS:=iB dA
abbrev Tz:=eQ iK bK
abbrev lH:=eQ d (.c 536870912)
abbrev Oq:=lH iK
abbrev Fz:=LE.lit []
abbrev TA:=LE.iC Fz (.ak kg)
abbrev af7:=RE.k (.slice Z 0 0)
abbrev cT:=C.ak af7
abbrev ss:=C.bool C6
abbrev su:=BE.and (gV d) n
abbrev aqm:=su pR (cN pR Dd)
abbrev Dh:=K.cell (.v 4) d a
abbrev K2:=Dh 1 pR
abbrev oR:=K.len oQ
abbrev aqn:=fu K2 oR (gV K2)
abbrev kF:=K.len pS
abbrev aqo:=fu K2 kF (gV K2)
abbrev uT:=RK.sl 96
abbrev HT:=py [iB pR]
abbrev K3:List LK:=[.bool,dp]
abbrev TC:=ln da
abbrev Ot:=BE.and (gV da) n
abbrev FA:=Ot TC
abbrev xY:=K.c 5
abbrev Ou:=iB da
abbrev Yo:=py [Ou]
abbrev Di:=fM fm
abbrev qP:=aW jL
abbrev pT:=aW jk
abbrev af8:List C:=[pT,dZ,pu]
abbrev Ov:=C.bool Bo
abbrev kP:=T.call a t [] [] M .any (.aK n j k)
abbrev m9:=kP a j k n t C5
abbrev FB:=jW a j t C5
abbrev aqp:=m9 133 (FB 133 (fZ Ov) af8) gm sj [qP,aM,HI]
abbrev Yq:=dR jL
abbrev HV:=T.aK n j gm
abbrev aqq:=HV (wj (dR jk)) Yq
abbrev af9:=ij (HV (FB 133 (fZ KT) af8) Yq) aqq aqq pQ (eJ f8 Bn)
abbrev aqr:=dF gm aqp af9 (lC kN cL) pQ
abbrev Ow:=aW xY
abbrev zS:=aW Fv
abbrev nc:=dF j k (.aK p l m) n o
abbrev jN:=kP a j k n t [dp]
abbrev qQ:=BE.cmp .geq d e
abbrev zT:=qQ d bK
abbrev aqs:=dF (fZ Ow) Db (nc Db Db Db (jN 128 (fZ zS) ov (zT da) [.ak (.k (.string ⟨#[123,125,40,41,59,44,61,58,46,60,62,33,43,45,42,47]⟩)),.int .u8 cL]) (eJ cL Bn) (eJ cL KP) (eJ cL (.c 13))) (eJ cL (.c 95)) (eJ cL (.c 32))
abbrev wq:=ij j k l n (eQ d e)
abbrev aqt:=wq cL (.c 57) (fZ pu) aqs aqs (qQ cL (.c 48))
abbrev aqu:=wq cL (.c 90) zO aqt aqt (qQ cL (.c 65))
abbrev HW:=zK (nW 290)
abbrev aga:=oP lZ cK
abbrev nX:=K.mm E d e
abbrev aqv:=kE bK (sn (nX fm aga) f8)
abbrev Yr:=fM lD
abbrev aqw:=kE bK (sn (nX af5 aga) f8)
abbrev qR:=aW iw
abbrev wt:=K.len px
abbrev qS:=aW l8
abbrev uU:=aW ou
abbrev HX:=aW pR
abbrev dS:=aW (.v a)
abbrev K4:=dS 22
abbrev Bv:=K.v 23
abbrev FC:=aW Bv
abbrev Ys:=bu.lex [0] E
abbrev TE:=ln cL
abbrev wu:=BE.and (gV cL) TE
abbrev wv:=K.len (.v a)
abbrev agb:=cN da (wv 3)
abbrev Yt:=iL cL kg
abbrev Ox:=Ot (cN da wt)
abbrev TF:=T.stuck ""
abbrev agc:=C.agg [ki,iJ,gM,lf,pP,oO,eI,jy,iS,kO,jc,kh,gN]
abbrev zU:=dS 29
abbrev sx:=aW iG
abbrev TG:=dS 24
abbrev TH:=dS 25
abbrev TJ:=dS 26
abbrev uV:=K.v 27
abbrev TK:=aW uV
abbrev zV:=dS 28
abbrev Oy:=dS 30
abbrev Bw:=dR gF
abbrev By:=dR dM
abbrev kQ:=Br d e .mul
abbrev Yu:=kQ C9 cL
abbrev Yv:=kQ tE jL
abbrev Yw:=sn Yu Yv
abbrev Yx:=oP Yu Yv
abbrev Yy:=kQ C9 da
abbrev Yz:=sn Yy Yv
abbrev YA:=oP Yy Yv
abbrev FD:=dS 31
abbrev FE:=K.v 33
abbrev Bz:=K.v 34
abbrev Oz:List C:=[kO,gM]
abbrev sC:=oP Yu (kQ d e)
abbrev YB:=nX Yw (sC l8 FE)
abbrev YC:=kE Yx (sC l8 FE)
abbrev sD:=oP Yy (kQ d e)
abbrev YD:=nX Yz (sD l8 Bz)
abbrev YE:=kE YA (sD l8 Bz)
abbrev tI:=K.v 37
abbrev Dj:=aW tI
abbrev nf:=K.v 39
abbrev YF:=sC ou nf
abbrev oS:=K.v 40
abbrev YG:=sD ou oS
abbrev ow:=iA (.agg t) aM
abbrev FF:=ow [aW d,aW e,aW f,aW g]
abbrev nY:=jW a (jW b j u F) t M
abbrev OA:=nY 138 139 j t [v,w] xS wl
abbrev FG:=OA j [kh,gM] v gN
abbrev OC:=aW (nX d e)
abbrev xZ:=aW (kE d e)
abbrev Dl:=ow [OC d e,xZ f g,OC h i,v]
abbrev aqx:=T.aK By (FF YB YC YD YE) (FG (Dl YB YF YC YF YD YG (xZ YE YG)) Dj)
abbrev OD:=sC l8 nf
abbrev OE:=sD l8 oS
abbrev zW:=dS 43
abbrev HY:=K.v 45
abbrev OF:=sC ou HY
abbrev HZ:=K.v 46
abbrev OG:=sD ou HZ
abbrev YI:=nX Yw (sC iG FE)
abbrev YJ:=kE Yx (sC iG FE)
abbrev YK:=nX Yz (sD iG Bz)
abbrev YL:=kE YA (sD iG Bz)
abbrev YM:=nX YI OD
abbrev YN:=kE YJ OD
abbrev YO:=nX YK OE
abbrev YP:=kE YL OE
abbrev aqy:=T.aK By (FF YM YN YO YP) (FG (Dl YM OF YN OF YO OG (xZ YP OG)) zW)
abbrev OH:=sC l8 HY
abbrev OI:=sD l8 HZ
abbrev H0:=K.v 49
abbrev FH:=aW H0
abbrev H3:=K.v 51
abbrev YQ:=sC ou H3
abbrev OJ:=K.v 52
abbrev YR:=sD ou OJ
abbrev qT:=kP a j k n [v,w] M
abbrev aqz:=ij (.aK By (FF YI YJ YK YL) (FG (Dl YI YF YJ YF YK YG (xZ YL YG)) Dj)) (OA aqy Oz Dj jc) (Fq 138 (qT 139 aqy (jW 138 (qT 139 (FF (nX YM OH) (kE YN OH) (nX YO OI) (kE YP OI)) (FG (Dl (nX YM OH) YQ (kE YN OH) YQ (nX YO OI) YR (xZ (kE YP OI) YR)) FH) By zW jc wl) Oz xS) Bw Dj iS wl) jy gM) Ol Bw
abbrev agd:=nX YI (sC iG nf)
abbrev age:=kE YJ (sC iG nf)
abbrev agf:=nX YK (sD iG oS)
abbrev agh:=kE YL (sD iG oS)
abbrev agi:=nX agd OH
abbrev agj:=kE age OH
abbrev agk:=nX agf OI
abbrev agl:=kE agh OI
abbrev aqA:=T.aK By (FF agi agj agk agl) (FG (Dl agi YQ agj YQ agk YR (xZ agl YR)) FH)
abbrev aqB:=nX agi (sC l8 H3)
abbrev aqC:=kE agj (sC l8 H3)
abbrev aqD:=nX agk (sD l8 OJ)
abbrev aqE:=kE agl (sD l8 OJ)
abbrev FI:=dS 55
abbrev BA:=Tv 260
abbrev aqF:=BE.not (Fs lZ bK (dR jM))
abbrev YS:=BE.not (.and n o)
abbrev agm:=YS Yk Ol
abbrev agn:List C:=[jy,aM,HI]
abbrev ago:List C:=[iS,dZ,pu]
abbrev BB:=dR dA
abbrev YT:=YS BB Bw
abbrev YU:List C:=[kO,aM,HI]
abbrev YV:List C:=[jc,dZ,pu]
abbrev TL:=YS (dR iu) By
abbrev TN:List C:=[kh,aM,HI]
abbrev TO:List C:=[gN,dZ,pu]
abbrev uW:=m9 46 j k n t
abbrev K5:=uW BA (uW BA j o u) n t
abbrev OK:=T.aK n (K5 j o p t u) k
abbrev aqG:=OK ov ov TL (mD 9) (mD 10) TN TO
abbrev aqH:=OK ov ov TL (mD 7) (mD 8) TN TO
abbrev aqI:=OK aqG aqH YT (mD 7) (mD 8) YU YV
abbrev aqJ:=OK ov ov TL (mD 5) (mD 6) TN TO
abbrev aqK:=OK aqH aqJ YT (mD 5) (mD 6) YU YV
abbrev aqL:=OK aqI aqK agm (mD 5) (mD 6) agn ago
abbrev OL:=kE fm (sn bK fm)
abbrev ON:=Tv 140
abbrev ww:=Tv 250
abbrev zX:=T.aS lg j
abbrev pU:=zX ww
abbrev OO:=K.c 16
abbrev jO:=iA cT v
abbrev YW:=jO jy
abbrev agp:=cN fm Dd
abbrev OP:=BE.and Dg agp
abbrev agq:=sq (Dh 9 fm)
abbrev YX:=Dh 1 fm
abbrev ik:=T.back a [v,w]
abbrev nZ:=ik 0 v w
abbrev agr:=nZ Tw zM
abbrev qU:=K.len kj
abbrev TP:=LE.ak kj
abbrev ya:=iB gF
abbrev YY:List C:=[jd,eI,jy]
abbrev n7:=LK.ak (.sl a)
abbrev H4:List LK:=[n7 89,dp]
abbrev qV:=K.len uP
abbrev ags:=fZ (nW 270)
abbrev YZ:=lH qV
abbrev Y0:=LE.ak uP
abbrev tJ:=cN d qV
abbrev Y1:=tJ dA
abbrev OQ:=HR Y1
abbrev OS:=cN gF kF
abbrev K6:=BE.and (gV gF) n
abbrev OT:=K6 OS
abbrev Y2:=iL gF pS
abbrev OU:=K6 (cN gF oR)
abbrev lI:=K.len tG
abbrev FJ:=lH lI
abbrev Dm:=LE.ak tG
abbrev K7:=C.agg [aM,aM,aM,aM,aM,aM,aM,aM,aM,aM,aM,aM,aM]
abbrev Y3:List C:=[iS,kO,jc,kh,gN,mF,mE,qP,pT,qR,sx,qS,uU]
abbrev pV:=K.v 38
abbrev OV:=aW nf
abbrev K8:=aW oS
abbrev zY:=K.v 41
abbrev Y4:=aW zY
abbrev FL:=K.v 42
abbrev OW:=aW FL
abbrev TQ:=K.v 44
abbrev TR:=aW TQ
abbrev OX:=aW HY
abbrev K9:=aW HZ
abbrev OY:=K.v 47
abbrev OZ:=aW OY
abbrev La:=K.v 48
abbrev TS:=aW La
abbrev H5:List LK:=[dp,dp,dp,dp,dp,dp,dp,dp,dp,dp,dp,dp,dp,dp]
abbrev O4:=dS 63
abbrev O5:=K.v 50
abbrev Lc:=aW O5
abbrev Ld:=aW H3
abbrev FM:=aW OJ
abbrev FN:=dS 53
abbrev FO:=dS 54
abbrev Lf:=K.v 56
abbrev Lg:=aW Lf
abbrev H6:=dS 57
abbrev H7:=dS 58
abbrev H8:=dS 59
abbrev H9:=dS 60
abbrev Ia:=dS 61
abbrev Ib:=dS 62
abbrev FP:=K.v 35
abbrev tK:=K.v 36
abbrev kS:=eJ d qL
abbrev Dn:=kS iw
abbrev jP:=eJ d Fv
abbrev Do:=jP iw
abbrev Dp:=eJ iw xY
abbrev Lh:=K.c 6
abbrev FQ:=eJ iw Lh
abbrev O6:=eJ iw zJ
abbrev O7:=eJ iw lB
abbrev O8:=eJ iw Bn
abbrev rB:=K.dw n d (.dw o e f)
abbrev aqM:=rB bK bK (rB bK cK bK O7 O8) FQ O6
abbrev mG:=rB d e (.dw p f bK) n o
abbrev Y5:=mG bK bK bK O6 O7 O8
abbrev aqN:=rB bK bK (.dw Dp bK (.dw FQ bK Y5)) Dn Do
abbrev aqO:=rB lB lB (.dw Dp lB (.dw FQ bK Y5)) Dn Do
abbrev BC:=aW (rB d e f n o)
abbrev gO:=eJ d cK
abbrev iT:=eJ d ru
abbrev Dq:=BC d e f (gO iw) (iT iw)
abbrev aqP:=Dq bK bK (rB cK cK (.dw Dp cK aqM) Dn Do)
abbrev aqQ:=Dq bK bK (rB qL qL (rB qL bK (mG bK bK qL O6 O7 O8) Dp FQ) Dn Do)
abbrev Ic:=iA K7 dZ
abbrev FR:=sq iG
abbrev Y6:=dR FR
abbrev Y7:=gO FR
abbrev Y8:=iT FR
abbrev Y9:=kS FR
abbrev aqR:=xU cL (kQ pR FE)
abbrev aqS:=xU da (kQ pR Bz)
abbrev pW:=aW (.dw n bK d)
abbrev aqT:=C.agg [aqR,aqS,gM,pW iR Y6,pW f8 Y6,pW lZ Y7,pW jM Y7,pW em Y8,pW fm Y8,pW dA Y9,pW gF Y9,pW iu (jP FR),pW dM (jP FR)]
abbrev aqU:=C.agg [aqR,aqS,gM,aM,aM,aM,aM,jy,iS,kO,jc,kh,gN]
abbrev Za:=C.agg [ki,iJ,gM,zV,zU,oO,eI,jy,iS,kO,jc,kh,gN]
abbrev Zb:=C.agg [ki,iJ,gM,lf,pP,zV,zU,jy,iS,kO,jc,kh,gN]
abbrev Zc:=C.agg [ki,iJ,gM,lf,pP,oO,eI,zV,zU,kO,jc,kh,gN]
abbrev Zd:=C.agg [ki,iJ,gM,lf,pP,oO,eI,jy,iS,zV,zU,kh,gN]
abbrev Dr:=oP iG cK
abbrev Ze:=dR Dr
abbrev Zf:=gO Dr
abbrev Zg:=iT Dr
abbrev Zh:=kS Dr
abbrev aqV:=C.agg [ki,iJ,gM,lf,pP,oO,eI,jy,iS,kO,jc,zV,zU]
abbrev aqW:=C.agg [ki,iJ,Bs (oP gL pR) lB .rem,lf,pP,oO,eI,jy,iS,kO,jc,kh,gN]
abbrev aqX:=C.agg [ki,iJ,gM,lf,pP,oO,eI,aM,aM,aM,aM,kh,gN]
abbrev aqY:=C.agg [ki,iJ,gM,aM,aM,aM,aM,jy,iS,kO,jc,kh,gN]
abbrev aqZ:=C.agg [ki,iJ,gM,pW iR Ze,pW f8 Ze,pW lZ Zf,pW jM Zf,pW em Zg,pW fm Zg,pW dA Zh,pW gF Zh,pW iu (jP Dr),pW dM (jP Dr)]
abbrev Ie:=T.stuck ""
abbrev jX:=iA v aM
abbrev eU:=T.aS n (.aS o j)
abbrev km:=fu e f (gV d)
abbrev O9:=eU j (km d e xY) n
abbrev yb:=BE.dw n o (.dw p q r)
abbrev FT:=yb n lg o lg p
abbrev Pa:=FT n o (.dw p lg gA)
abbrev Ds:=FT n o (Pa p q r)
abbrev agt:=jN a (iA K7 tD) (jX w) n [v]
abbrev wz:=fM (.v a)
abbrev yc:=agt 34 (wz 31) v w
abbrev aq0:=dF Ic Ic (dF (jX agc) (nY 138 274 (O9 FR FR (agt 34 (fM tK) aqT aqT) (Ds Y6 Y7 Y8 Y9 (jP FR))) [qS,gM] [FD] xS rz) (dF (nY 138 274 (agt 34 (fM tK) aqU aqU) [qS,gM] [FD] xS rz) (dF (yc Za Za) (yc Zb Zb) (dF (yc Zc Zc) (yc Zd Zd) (.stuck "") Y8 Y9) Y6 Y7) (dF (dF (yc Za Za) (yc Zb Zb) (dF (yc Zc Zc) (yc Zd Zd) (.stuck "") Zg Zh) Ze Zf) (yc aqV aqV) (dF (yc aqW aqW) (yc aqX aqX) (dF (yc aqY aqY) (O9 Dr Dr (yc aqZ aqZ) (Ds Ze Zf Zg Zh (jP Dr))) Ie O7 O8) FQ O6) Do Dp) (iT iw) Dn) C6 (gO iw)) (mD 7) (lC uV lD)
abbrev TU:=T.aK C6 Ic Ic
abbrev l9:=Tv 130
abbrev Dt:=iL da kg
abbrev agu:=cN f8 wt
abbrev agv:=iL f8 px
abbrev agw:=cN jM Tm
abbrev Zi:=gV jM
abbrev agx:=iL jM xT
abbrev Li:=C.agg [aM,cT,cT,cT,cT,cT]
abbrev ye:=K.len uQ
abbrev If:=iA Li (nW 310)
abbrev TV:=tJ fm
abbrev Ig:=BE.and Dg TV
abbrev Zj:=fu fm qU Dg
abbrev Pb:=fu fm kF Dg
abbrev FU:=C.ak (.cell A d a H)
abbrev FV:=FU a d A .str
abbrev kG:=gG a d uP
abbrev pX:=kG a fm
abbrev agy:List C:=[.agg [FV 0 fm uP,pX 1,pX 2,pX 3,pX 4,pX 5,pX 6,pX 7,pX 8,pX 9,pX 10,pX 11,pX 12,pX 13,pX 14,pX 15,pX 16]]
abbrev Lj:=gG a d pS
abbrev yf:=Lj a fm
abbrev aq1:List C:=[.agg [yf 0,yf 1,yf 2,yf 3,yf 4,yf 5,yf 6,yf 7,yf 8,yf 9,yf 10,yf 11,yf 12]]
abbrev agz:=BE.not (dR iu)
abbrev Du:=RK.sl 4
abbrev Ih:=RK.sl 108
abbrev Zk:List C:=[aM,cT,cT,cT]
abbrev yg:=cN d qU
abbrev Zl:=yg dA
abbrev Ii:=HR Zl
abbrev pz:=fu dA d (gV dA)
abbrev Zm:=pz ye
abbrev agA:=FU 0 dA uQ uT
abbrev rC:=RE.v 13
abbrev Lk:=K.len rC
abbrev Ij:=lH Lk
abbrev Ik:=LE.ak rC
abbrev pA:=xV 15
abbrev yi:=Lj a dA
abbrev Zn:List C:=[yi 0,yi 1,yi 2,yi 3,yi 4,yi 5,yi 6,yi 7,yi 8,yi 9,yi 10,yi 11,yi 12]
abbrev gP:=kG a dA
abbrev aq2:=C.agg [FV 0 dA uP,gP 1,gP 2,gP 3,gP 4,gP 5,gP 6,gP 7,gP 8,gP 9,gP 10,gP 11,gP 12,gP 13,gP 14,gP 15,gP 16]
abbrev yj:=lH zN
abbrev zZ:=LE.ak HQ
abbrev FW:=RE.v 14
abbrev TW:=K.len FW
abbrev yk:=lH TW
abbrev rD:=LE.ak FW
abbrev pB:=xV 17
abbrev Dv:=RE.v 16
abbrev mH:=C.ak Dv
abbrev Il:=RE.v 18
abbrev mI:=C.ak Il
abbrev Im:=T.back 1 t
abbrev aq3:=Im [uS,pB,mH,mI]
abbrev TX:=fM kN
abbrev ym:=C.ak HQ
abbrev wB:=C.ak rC
abbrev kU:=C.ak FW
abbrev wC:=K.len tH
abbrev wD:=jO (nW 310)
abbrev In:=BE.and Dg (cN fm lI)
abbrev tL:=HR (cN dA wC)
abbrev aq4:=iM (zR 0 tH) (zR 1 tH) (zR 2 tH) (zR 3 tH)
abbrev uX:=T.back a [v]
abbrev TY:=uX 1 uS
abbrev BD:=gV iu
abbrev agB:=FU 0 iu tG uT
abbrev TZ:=lH (wv a)
abbrev wE:=TZ 15
abbrev BF:=LE.ak (.v a)
abbrev wF:=BF 15
abbrev yo:=Lj a iu
abbrev Zo:List C:=[yo 0,yo 1,yo 2,yo 3,yo 4,yo 5,yo 6,yo 7,yo 8,yo 9,yo 10,yo 11,yo 12]
abbrev tN:=kG a iu
abbrev aq5:=C.agg [FV 0 iu uP,tN 1,tN 2,tN 3,tN 4,tN 5,tN 6,tN 7,tN 8,tN 9,tN 10,tN 11,tN 12,tN 13,tN 14,tN 15,tN 16]
abbrev Zp:=K.len Dv
abbrev Dw:=lH Zp
abbrev yp:=LE.ak Dv
abbrev Zq:=iB iu
abbrev wG:=RE.v 19
abbrev n8:=C.ak wG
abbrev Dx:=RE.v 20
abbrev pC:=C.ak Dx
abbrev Ll:=T.back 3 t
abbrev aq6:=Ll [Zq,n8,mI,pC]
abbrev Io:=fM jk
abbrev Pc:=jO pT
abbrev uY:=LE.lit [t]
abbrev aq7:=uY [gN,mF,mE,qP]
abbrev sF:=gV dM
abbrev Zr:=BE.and sF (cN dM ye)
abbrev agC:=iL dM uQ
abbrev FX:=BF 17
abbrev Zs:=fu dM Zp sF
abbrev Zt:=fu dM wC sF
abbrev FY:=iM v (gG a d A) w x
abbrev FZ:=gG a d tH
abbrev aq8:List C:=[FY 1 dM (gG 0 dM Dv) (gG 2 dM Dv) (gG 3 dM Dv) Dv,iM (FZ 0 dM) (FZ 1 dM) (FZ 2 dM) (FZ 3 dM)]
abbrev F0:=LE.ak Il
abbrev BG:=BE.cell A d 0
abbrev agD:=BG dM kj
abbrev agE:List C:=[jd,gN,eI]
abbrev Dy:=K.len Dx
abbrev agF:=cN jL Dy
abbrev T1:=gV jL
abbrev Pd:=BE.and T1 n
abbrev Zu:=Pd agF
abbrev oT:=RE.cell A d 0 H
abbrev Aa:=oT dM tG uT
abbrev Dz:=cN d (.len A)
abbrev Zv:=Dz jk Aa
abbrev Ip:=BE.and (gV jk) Zv
abbrev Zw:=iL jk Aa
abbrev Pe:=iL jL Dx
abbrev tO:=kG a dM
abbrev Pf:=C.agg [FV 0 dM uP,tO 1,tO 2,tO 3,tO 4,tO 5,tO 6,tO 7,tO 8,tO 9,tO 10,tO 11,tO 12,tO 13,tO 14,tO 15,tO 16]
abbrev Pg:List LK:=[.ak uT,dp]
abbrev Ph:=jO qR
abbrev pD:=xV 22
abbrev wH:=C.bool (.cell A d a)
abbrev agG:=FY 1 jk (aW Zw) (gG 2 jk Aa) (wH 3 jk Aa) Aa
abbrev DA:=RE.v 21
abbrev Pj:=LE.ak DA
abbrev DB:=xU cK d
abbrev aq9:=LE.ins Pj 3 [dZ,gN,DB Pe,lj]
abbrev agH:=K.cell Dx jL 4
abbrev Zx:=eJ agH zJ
abbrev Ac:=BE.not (.cell Aa jk 3)
abbrev Iq:=gG a jL A
abbrev uZ:=Iq a Dx
abbrev ara:List C:=[jd,Yl,.agg [aW Pe,uZ 1,uZ 2,uZ 3,aW agH,uZ 5,uZ 6,uZ 7,uZ 8,uZ 9,uZ 10,uZ 11,uZ 12,uZ 13]]
abbrev Pl:=RE.v 23
abbrev Pm:=LE.ak Pl
abbrev arb:List C:=[pu,gN,DB Pe,lj]
abbrev yq:=iB jL
abbrev BH:=xV 24
abbrev tQ:=C.ak Pl
abbrev Ir:=ik 5 yq tQ
abbrev DC:=m9 a j k Fo t
abbrev Is:=T.ah .aT B O j
abbrev tR:=Is j (.ins B a t) []
abbrev BJ:=tR a (ik b v w) t B
abbrev agI:=DC 147 (BJ 3 5 arb yq BH Pm) Ir ara
abbrev Zy:=eJ agH lB
abbrev qW:=C.ak DA
abbrev yr:=ik 5 yq qW
abbrev agJ:=DC 147 (tR 3 Ir arb Pj) yr ara
abbrev agK:=uX 6 (iB jk)
abbrev agL:=FY 1 Oj (gG 0 Oj Aa) (gG 2 Oj Aa) (wH 3 Oj Aa) Aa
abbrev Pn:=BE.not (.cell Aa Oj 3)
abbrev jz:=eU (.aK p j k) n o
abbrev arc:=jz agI Ir gA gA Pn
abbrev ard:=jz agJ yr gA gA Pn
abbrev yt:=Lj a dM
abbrev agM:List C:=[jd,gN,eI,.agg [yt 0,yt 1,yt 2,yt 3,yt 4,yt 5,yt 6,yt 7,yt 8,yt 9,yt 10,yt 11,yt 12],qN,.ak Aa]
abbrev agN:List LK:=[n7 292,dp]
abbrev agO:=cN iw (wv 22)
abbrev Ln:=gV iw
abbrev Lq:=iB iw
abbrev Lr:=iB dM
abbrev Ls:List C:=[aM,mI]
abbrev Po:=K.len wG
abbrev agP:=cN jL Po
abbrev Pp:=iL jL wG
abbrev Pq:=LE.ak Dx
abbrev are:=LE.ins Pq 3 [dZ,gN,DB Pp,lj]
abbrev agQ:=K.cell wG jL 4
abbrev Zz:=eJ agQ zJ
abbrev Ad:=Iq a wG
abbrev arf:List C:=[jd,Yl,.agg [aW Pp,Ad 1,Ad 2,Ad 3,aW agQ,Ad 5,Ad 6,Ad 7,Ad 8,Ad 9,Ad 10,Ad 11,Ad 12,Ad 13]]
abbrev T2:=BF 22
abbrev arh:List C:=[pu,gN,DB Pp,lj]
abbrev It:=ik 5 yq pD
abbrev agR:=DC 147 (tR 3 Ir arh T2) It arf
abbrev ZA:=eJ agQ lB
abbrev Pr:=ik 5 yq pC
abbrev agS:=DC 147 (tR 3 It arh Pq) Pr arf
abbrev ari:=jz agR It gA gA Pn
abbrev arj:=jz agS Pr gA gA Pn
abbrev agT:=cN iw (.len DA)
abbrev ZB:=BE.and Ln agT
abbrev jA:=T.loop a [] t (.aK n j k)
abbrev ng:=jA a (eU j o p) k n t
abbrev sG:=jA a j k n zQ
abbrev vc:=jz j k Ip Ip n
abbrev DD:=ik a Lr v
abbrev ark:=T.aK agD (kP 73 (jO mE) (ng 5 (sG 6 (vc (kP 145 Ph (eU (m8 146 (nc (Is (dF (vc agR It Ac) (vc agR It Ac) It Zz ZA) are []) (vc agS Pr Ac) (vc agS Pr Ac) Pr oN Zz ZA) qW agG C5) Ip Ip) KQ [jd,aW Pp,Pf] Pg) agK (eJ Zw Pp)) (kP 145 Ph (eU (m8 146 (nc (Is (dF ari ari It Zz ZA) are []) arj arj Pr oN Zz ZA) qW agL C5) gA gA) KQ [jd,aW Pp,Pf] Pg) Zv) (kP 148 Pc (ng 6 (BJ 3 6 [tD,gN,DB (uN iw DA),lj] Lq tQ T2) (DD 4 pD) agT ZB ZB [aM,pC]) Io agM agN) agP (Pd agP) (Pd agP) Ls) TX agE H4) (DD 4 mI)
abbrev T3:List C:=[aM,pB]
abbrev Lt:=K.len Il
abbrev agU:=cN jL Lt
abbrev Ps:=iL jL Il
abbrev Iu:=LE.ak wG
abbrev arl:=LE.ins Iu 3 [dZ,gN,DB Ps,lj]
abbrev agV:=K.cell Il jL 4
abbrev ZC:=eJ agV zJ
abbrev Ae:=Iq a Il
abbrev arm:List C:=[jd,Yl,.agg [aW Ps,Ae 1,Ae 2,Ae 3,aW agV,Ae 5,Ae 6,Ae 7,Ae 8,Ae 9,Ae 10,Ae 11,Ae 12,Ae 13]]
abbrev arn:List C:=[pu,gN,DB Ps,lj]
abbrev agW:=DC 147 (tR 3 It arn Pj) yr arm
abbrev ZD:=eJ agV lB
abbrev Pt:=ik 5 yq n8
abbrev agX:=DC 147 (tR 3 yr arn Iu) Pt arm
abbrev aro:=jz agW yr gA gA Pn
abbrev arp:=jz agX Pt gA gA Pn
abbrev agY:=cN iw Dy
abbrev agZ:=cN kN kF
abbrev Iv:=gV kN
abbrev ZE:=tJ kN
abbrev wI:=BE.and Iv ZE
abbrev T4:=lH Po
abbrev Iw:=iB kN
abbrev ag0:=cN jL ye
abbrev T5:=aW Lh
abbrev ag1:=cN iG Lt
abbrev T6:=gV iG
abbrev yu:=iL iG Il
abbrev arq:=fu yu Po (gV yu)
abbrev yv:=uN iG Il
abbrev ars:=fu yv Po (gV yv)
abbrev art:=fu yu Dy (gV yu)
abbrev aru:=fu yv Dy (gV yv)
abbrev T7:=aW Dr
abbrev T8:=xV 25
abbrev arv:=tR 3 (BJ 3 8 [T5,aW yv,aM,lj] T7 T8 (BF 24)) [T5,aW yu,aM,lj] Pm
abbrev Pu:=K.len Pl
abbrev Pv:=RE.v 26
abbrev T9:=K.len Pv
abbrev Ua:=iL (sq T9) Pv
abbrev Pw:=C.ak Pv
abbrev arw:=su l8 (cN l8 T9)
abbrev Ix:=jO (nW 290)
abbrev arx:List C:=[iM (zR 0 kj) (zR 1 kj) (zR 2 kj) (zR 3 kj)]
abbrev ag2:List C:=[aM,cT,cT]
abbrev ag3:=uN gF pS
abbrev oU:=cN d bK
abbrev Lu:=T.back 2 t
abbrev ag4:=eU (nc Ix Ix Ix (tR 2 (Lu [ya,uR,xW]) [aW Y2,aW ag3,lj] Dm) (oU Y2) (qQ Y2 ag3) (qQ ag3 iK)) OT OT
abbrev ag5:List C:=[aM,cT,uR]
abbrev Ub:=cN iu oR
abbrev ZF:=BE.and BD Ub
abbrev Iy:=gG a iu oQ
abbrev ary:=C.agg [Iy 0,Iy 1,Iy 2,Iy 3,Iy 4,Iy 5,Iy 6,Iy 7]
abbrev Lv:=lH wC
abbrev F1:=LE.ak tH
abbrev Iz:=T.aS n (.new a (.iC B N) [] [] j)
abbrev ag6:=eU (qT 43 Pc (Iz 0 (Ll [Zq,wB,ym]) Lv F1 aq7) Io ary eI pw) ZF ZF
abbrev F2:=iB lD
abbrev vd:=jA a (.aK o j k) l n t
abbrev BK:=BE.look A a d e bK b
abbrev ag7:=vd 5 TF (.back 5 [F2,kU]) (DD 4 kU) (ln lD) (.not (BK 2 2 dM lD tG)) [Lr,wB]
abbrev ZG:=tJ lD
abbrev ag8:=BE.not (BK 2 2 lD kN tG)
abbrev Px:=BE.and (gV lD) ZG
abbrev pY:=kG a kN
abbrev ZH:=iM (pY 0) (pY 1) (pY 2) (pY 3)
abbrev ag9:List C:=[iM (kG 0 lD) (kG 1 lD) (kG 2 lD) (kG 3 lD),ZH]
abbrev ZI:=ik 6 Iw mH
abbrev ko:=Iz 0 j n B (uY t)
abbrev aha:=ko ZI wE [dZ,mF,mE] wF
abbrev Py:=T.back 6 [Iw,pA]
abbrev ahb:=ik 5 F2 pA
abbrev ahc:=BE.not (BK 2 2 kN jL tG)
abbrev ZJ:=yg jL
abbrev Af:=Pd ZJ
abbrev ZK:=iM (Iq 0 kj) (Iq 1 kj) (Iq 2 kj) (Iq 3 kj)
abbrev ZL:=ik 7 yq pB
abbrev ahd:=ko ZL Dw [tD,mE,qP] yp
abbrev Pz:=T.back 7 [yq,mH]
abbrev ahe:=BE.not (BK 2 2 jL jk tG)
abbrev PA:=fu jk qV (gV jk)
abbrev ahf:List C:=[ZK,iM (kG 0 jk) (kG 1 jk) (kG 2 jk) (kG 3 jk)]
abbrev PB:=TZ 17
abbrev ZM:=ik 8 (iB jk) mI
abbrev ahg:=ko ZM PB [pu,qP,pT] FX
abbrev ZN:List C:=[iB jk,pB]
abbrev PD:=T.back 8 ZN
abbrev ZO:=yg jk
abbrev PE:=ln iw
abbrev ahh:=BE.not (BK 2 2 jk iw tG)
abbrev PF:=BE.and (gV jk) ZO
abbrev Ag:=fu iw qU Ln
abbrev tU:=gG a d kj
abbrev ZP:=iM (tU 0 iw) (tU 1 iw) (tU 2 iw) (tU 3 iw)
abbrev ahi:List C:=[iM (tU 0 jk) (tU 1 jk) (tU 2 jk) (tU 3 jk),ZP]
abbrev PH:=lH Lt
abbrev ZQ:=ik 9 Lq n8
abbrev ahj:=ko ZQ PH [zS,pT,qR] F0
abbrev PI:=ik 9 Lq mI
abbrev ZR:=cN iG wC
abbrev PJ:=BE.and T6 ZR
abbrev PK:=fu iw qV Ln
abbrev ZS:=iM (FZ 0 iG) (FZ 1 iG) (FZ 2 iG) (FZ 3 iG)
abbrev ahk:List C:=[iM (kG 0 iw) (kG 1 iw) (kG 2 iw) (kG 3 iw),ZS]
abbrev PL:=ko (ik 10 T7 pC) T4 [Ow,qR,sx] Iu
abbrev PM:=ik 10 T7 n8
abbrev PN:=fu iG qV T6
abbrev arz:=iM aM (lG tE cL) aM (lG tE da)
abbrev ahl:List C:=[iM (kG 0 iG) (kG 1 iG) (kG 2 iG) (kG 3 iG),arz]
abbrev PO:=fu iG qU T6
abbrev ahm:List C:=[iM (tU 0 iG) (tU 1 iG) (tU 2 iG) (tU 3 iG),arz]
abbrev PQ:=ko (ik 10 T7 pC) T4 [T5,sx,aM] Iu
abbrev oz:=jA a j k n [aM,v]
abbrev gH:=eU (eU j p q) n o
abbrev rF:=m9 184 j k n t
abbrev IA:=jW 118 j t K3
abbrev arA:=jA 2 ag4 (jA 3 ag6 (oz 4 ag7 (oz 5 (vd 6 (gH (rF aha Py Bo ag9) Px Px wI wI) Py ahb (ln kN) ag8 [F2,kU]) (oz 6 (vd 7 (gH (rF ahd Pz Bo [ZH,ZK]) wI wI Af Af) Pz ZI (ln jL) ahc [Iw,pA]) (oz 7 (vd 8 (gH (rF ahg PD Bo ahf) Af Af PA PA) PD ZL (ln jk) ahe [yq,mH]) (oz 8 (vd 9 (gH (rF ahj PI Bo ahi) PF PF Ag Ag) PI ZM PE ahh ZN) (jA 9 (jA 10 (gH (rF PL (eU (rF PL PM zH [ZP,ZS]) Ag Ag) Bo ahk) PJ PJ PK PK) ZQ ZR Ls) (ng 10 (IA (eU (IA (dF PQ PQ PM Fo Fp) ahm) PO PO) ahl) (jX n8) (ln iG) PN PN Ls) PE T3) ZO mH) ZJ pA) ZE kU) ZG wB) (oU dM) ym) Ub ag5) OS ag2
abbrev ahn:=lC (.v 26) cK
abbrev aho:=uY [eI,aM,aM,lj]
abbrev Ah:=T.aS lg (.new a B [] [] j)
abbrev F3:=Ah 0 (Iz a j n Fz N) B
abbrev arB:=T.aK ahn (F3 0 (jX wm) YZ aho Y0) (jX cT)
abbrev vf:=Ah 0 (Iz a j (.and n o) N D) B
abbrev ahp:=T.aK ahn (vf 0 (jX wn) YZ (lH qU) aho Y0 TP) (jX qN)
abbrev Ai:=Ah a j (uY t)
abbrev arC:=Ai 0 ahp [FC,aM,aM,kf]
abbrev ahq:=eQ nf lB
abbrev Uc:=dR zY
abbrev PS:=eJ oS (.v 30)
abbrev PU:=iB oS
abbrev arD:=Iz 0 (ik 1 PU uR) (.and (lH qU) (lH kF)) TP (.ak pS)
abbrev ahr:=Ai 0 arD [FC,OV,K8,kf,aW KR]
abbrev arE:=BE.not (Fs HY bK (Fs HZ bK (dR OY)))
abbrev Lw:=ik 1 PU wm
abbrev ahs:=Ai 0 arD [FC,OV,K8,kf,FH]
abbrev DE:=kQ (kQ d e) f
abbrev arF:=ij ahs Lw Lw arE (qQ (kQ H0 f8) (DE gL tE tE))
abbrev PV:=dF j (.aK p k l) m n o
abbrev aht:=nY 139 139 (Fq 276 (dF (.aK (eJ nf (.v 29)) (dF (PV ahr ahr Lw Lw PS arE (qQ (kQ KR f8) (DE gL tE tE))) ahs arF PS PS) arF) (dF (.aK PS ahr Lw) ahs Lw PS PS) Lw (YS Uc (Fs FL bK (dR (.v 43)))) (eJ nf (.v 29))) (Fw Y4 OW zW) (Fw OX K9 OZ)) [zU,Oy] [OV,K8] wl wl
abbrev ahu:=nZ (iB nf) wm
abbrev ZT:=gV oS
abbrev arG:=BE.and (lH kF) (lH ye)
abbrev arH:=LE.iC (.ak pS) (.ak uQ)
abbrev BL:=T.eG a b c Q L A [] j
abbrev wJ:=ng a j k n o p [aM,cT]
abbrev wK:=T.aS n (.new 0 B [] [] j)
abbrev ahv:=BL 0 0 0 (wJ 1 (Ai 0 (wK (ik 1 PU qO) arG arH) [tU 0 oS,tU 1 oS,tU 2 oS,wH 3 oS kj]) (zX (.aK ahn (Ah 0 (wK (jX qO) arG arH) aho) (jX wn))) (yg oS) (.and ZT (yg oS)) (.and ZT (yg oS))) uP (.lex [4] J) J
abbrev F4:=jW a j t [dp]
abbrev Aj:=jA a j k n [aM,cT]
abbrev arI:=F4 41 (nc (jO (aW pV)) (jO Dj) (dF (zX (.aK (gW (.v 31) gF) arB arC)) (zX (.aK (gW (.v 31) iu) arB arC)) (dF (Aj 0 (jA 1 aht ahu (eQ oS iG) [dZ,qN]) ahv ahq) (Aj 0 (jA 1 aht ahu (eQ oS l8) [dZ,qN]) ahv ahq) (dF (Aj 0 (jA 1 aht ahu (eQ oS ou) [dZ,qN]) ahv ahq) (Ai 0 ahp [FC,aM,OC (.v 30) l8,kf]) Ie (eJ uV xY) (eJ uV Bn)) (kS uV) (jP uV)) (gO uV) (iT uV)) (Ai 0 ahp [eI,aM,aM,kf]) (fM pV) (fM tI) (FT (gO uV) (iT uV) (FT (kS uV) (jP uV) (FT (eJ uV xY) (eJ uV Bn) gA)))) [.agg [zM,jy,iS,kO,jc,kh,gN,mF,mE,qP,pT,qR,sx,qS,uU,HX,K4]]
abbrev ahw:=cN oS wC
abbrev Lx:=C.bool zH
abbrev IB:=K.cell tH oS 4
abbrev ZU:=fu IB KP (gV IB)
abbrev ZV:=fu IB wt (gV IB)
abbrev nh:=C.bool (.v a)
abbrev arJ:List C:=[aM,Ov,Lx,nh 4,nh 5,nh 6]
abbrev Ly:=RK.sl 3
abbrev ZW:=Dz zY (oT IB px Ly)
abbrev ZX:=gV zY
abbrev Ak:=sq (oP (iL zY (oT IB px Ly)) (.cell tH oS 5))
abbrev ZY:=iB zY
abbrev IC:=gH j (.and n o) (.and p q) r s
abbrev DF:=C.bool (.dw n lg (.v a))
abbrev arK:=IC (Im [ZY,DF 7 (dR Ak),DF 8 (gO Ak),DF 9 (iT Ak),DF 10 (kS Ak),DF 11 (jP Ak)]) ZX ZW ZX ZW (km Ak Ak xY) (Ds (dR Ak) (gO Ak) (iT Ak) (kS Ak) (jP Ak))
abbrev arL:List C:=[aM,nh 7,nh 8,nh 9,nh 10,nh 11]
abbrev arM:=RE.cell px IB 1 Ly
abbrev ZZ:=Dz FL arM
abbrev Al:=iL FL arM
abbrev arN:=gH (Lu [iB FL,DF 12 (dR Al),DF 13 (gO Al),DF 14 (iT Al),DF 15 (kS Al),DF 16 (jP Al)]) (su FL ZZ) (su FL ZZ) (km Al Al xY) (Ds (dR Al) (gO Al) (iT Al) (kS Al) (jP Al))
abbrev Z0:=kQ tE Bv
abbrev ahx:=cN zY xY
abbrev ID:=Br zY ru .quo
abbrev Z1:=gO zY
abbrev Z2:=iT zY
abbrev Z3:=kS zY
abbrev Z4:=jP zY
abbrev Z5:=iM OW zW TR OX
abbrev Ud:=mG (.v 26) uV (.v 28) (dR ID) (gO ID) (iT ID)
abbrev Z6:=kQ tE Ud
abbrev arO:=m8 70 (Im [ZY,K9,OZ,TS,FH]) Z5 (iM (Dc bK Z6) (aW Z6) (Dc bK Z6) (aW Z6)) pw
abbrev ahy:=rB dM kN (mG jk iG ou Z2 Z3 Z4) Uc Z1
abbrev arP:=T.aK (fM ahy) (OA (m8 70 (Im [ZY,FM,FN,FO,FI]) Z5 (iM (lG Ud La) (lG Ud La) (lG Ud H0) (lG Ud H0)) pw) [BC iu lD (mG jL iw l8 Z2 Z3 Z4) Uc Z1,jc] K9 (aW ahy)) (Im [ZY,OW,zW,TR,OX])
abbrev arQ:=iM K9 OZ TS FH
abbrev arR:=su Lf (cN Lf wC)
abbrev Ue:=dS 64
abbrev PW:=dS 66
abbrev Lz:=dS 68
abbrev LA:=dS 69
abbrev LD:=dS 70
abbrev LF:=dS 71
abbrev LG:=dS 72
abbrev LH:=dS 73
abbrev ahz:=iM (dS 88) (dS 89) (dS 90) (dS 91)
abbrev LI:=dS 74
abbrev LJ:=dS 75
abbrev LL:=dS 76
abbrev LM:=dS 77
abbrev LN:=dS 78
abbrev Uf:=dS 79
abbrev PY:=K.v 86
abbrev arS:=T.aK (wz 87) (ow [dS 93,dS 94,dS 95,dS 96]) (Lu [iB Lf,dS 93,dS 94,dS 95,dS 96,LI,LJ,LL,LM,LN,Uf,dS 80,dS 81,dS 82,dS 83,dS 84,dS 85,aW PY,kf])
abbrev arT:=iM H6 H7 H8 H9
abbrev arU:=su FP (cN FP oR)
abbrev Z7:=fu jM oR Zi
abbrev arV:=su nf (cN nf kF)
abbrev PZ:=iL nf pS
abbrev tV:=K.cell pS d a
abbrev rG:=tV 4 nf
abbrev DG:=Lj a nf
abbrev Z8:=C.agg [aW PZ,DG 1,DG 2,DG 3,aW rG,aW (tV 5 nf),DG 6,DG 7,aW (tV 8 nf),DG 9,DG 10,DG 11,DG 12,DG 13]
abbrev IF:=K.look A a d bK e b
abbrev arW:=aW (IF 1 2 PZ bK kj)
abbrev Ug:=IF 1 3 PZ bK kj
abbrev arX:=BK 1 4 PZ bK kj
abbrev F5:List C:=[K8,FO,FI,Lg,H6,H7,H8,H9,Ia,Ib,O4,Ue,dS 65,PW,uR,cT]
abbrev F6:=BE.not (.has tH 1 (.v 82) bK bK)
abbrev F7:=LE.ins F1 1 [dS 82]
abbrev P0:=iL (sq zN) HQ
abbrev P1:=dR P0
abbrev nj:=Ll [Lz,LA,LD,LF,LG,LH,LI,LJ,LL,LM,LN,Uf,dS 80,dS 81,qO,ym]
abbrev P2:=gO P0
abbrev BM:=iT P0
abbrev LO:=kS P0
abbrev arY:=BC cK ru (rB qL Fv bK BM LO) P1 P2
abbrev F8:=ko (Ll [Lz,LA,LD,LF,LG,LH,LI,LJ,LL,LM,LN,Uf,dS 80,dS 81,wB,ym]) FJ [arY,aW PZ] Dm
abbrev ahA:=T.aK LO nj Ie
abbrev F9:=Lu [iB nf,Lz,LA,LD,LF,LG,LH,LI,LJ,LL,LM,LN,Uf,dS 80,dS 81,qO]
abbrev pZ:=sq (tV 5 nf)
abbrev Uh:=Br pZ ru .quo
abbrev ahB:=km Uh Uh qL
abbrev Z9:=dR Uh
abbrev aaa:=gO Uh
abbrev aab:=iT Uh
abbrev ahC:=Pa Z9 aaa aab
abbrev IG:=K.cell A jM a
abbrev iU:=IG a oQ
abbrev P3:=iU 14
abbrev ahD:=lF arW (aW Ug)
abbrev P4:=kE (kE d e) (sn bK f)
abbrev Am:=sn (.v a) d
abbrev ahE:=P4 (P4 (P4 bK (Am 83 PY) (Am 83 PY)) (Am 84 (.v 87)) (Am 84 (.v 87))) (Am 85 (.v 88)) (Am 85 (.v 88))
abbrev P5:=iU 11
abbrev Ui:=T.aK BM nj ahA
abbrev p7:=oP (tV 5 nf) cK
abbrev Uj:=Br p7 ru .quo
abbrev ahF:=km Uj Uj qL
abbrev aac:=dR Uj
abbrev aad:=gO Uj
abbrev aae:=iT Uj
abbrev ahG:=Pa aac aad aae
abbrev wL:=jz j k n o (gW d e)
abbrev arZ:=wL Ug (mG (iU 12) (iU 13) P3 aac aad aae) F8 nj ahF ahG
abbrev ahH:=eJ rG xY
abbrev ahI:=eJ rG Lh
abbrev ahJ:=eJ rG zJ
abbrev Uk:=sq (tV 9 nf)
abbrev ar0:=wL (uN Uk oQ) (iU 2) F8 nj (km Uk Uk oR) (km Uk Uk oR)
abbrev ar1:=BE.dw (eJ rG Bn) gA gA
abbrev ar2:=BL 0 0 0 (zX (jX qO)) uQ (.lex [1,0] E) E
abbrev ar3:=su pV (cN pV kF)
abbrev P6:=iL pV pS
abbrev rH:=tV 4 pV
abbrev DH:=Lj a pV
abbrev aaf:=C.agg [aW P6,DH 1,DH 2,DH 3,aW rH,aW (tV 5 pV),DH 6,DH 7,aW (tV 8 pV),DH 9,DH 10,DH 11,DH 12,DH 13]
abbrev ar4:=aW (IF 1 2 P6 bK kj)
abbrev Ul:=IF 1 3 P6 bK kj
abbrev ar5:=BK 1 4 P6 bK kj
abbrev Ga:List C:=[FM,FN,FO,FI,Lg,H6,H7,H8,H9,Ia,Ib,O4,Ue,uR,cT]
abbrev Gb:=BE.not (.has tH 1 (.v 79) bK bK)
abbrev Gc:=LE.ins F1 1 [Uf]
abbrev nq:=Ll [PW,dS 67,Lz,LA,LD,LF,LG,LH,LI,LJ,LL,LM,LN,qO,ym]
abbrev Ge:=ko (Ll [PW,dS 67,Lz,LA,LD,LF,LG,LH,LI,LJ,LL,LM,LN,wB,ym]) FJ [arY,aW P6] Dm
abbrev ahK:=T.aK LO nq Ie
abbrev Gf:=Lu [iB pV,PW,dS 67,Lz,LA,LD,LF,LG,LH,LI,LJ,LL,LM,LN,qO]
abbrev p8:=sq (tV 5 pV)
abbrev Um:=Br p8 ru .quo
abbrev ahL:=km Um Um qL
abbrev aag:=dR Um
abbrev aah:=gO Um
abbrev aai:=iT Um
abbrev ahM:=Pa aag aah aai
abbrev ahN:=lF ar4 (aW Ul)
abbrev ahO:=P4 (P4 (P4 bK (Am 80 (.v 83)) (Am 80 (.v 83))) (Am 81 (.v 84)) (Am 81 (.v 84))) (Am 82 (.v 85)) (Am 82 (.v 85))
abbrev Un:=T.aK BM nq ahK
abbrev p9:=oP (tV 5 pV) cK
abbrev Uo:=Br p9 ru .quo
abbrev ahP:=km Uo Uo qL
abbrev aaj:=dR Uo
abbrev aak:=gO Uo
abbrev aal:=iT Uo
abbrev ahQ:=Pa aaj aak aal
abbrev ar6:=wL Ul (mG (iU 12) (iU 13) P3 aaj aak aal) Ge nq ahP ahQ
abbrev ahR:=eJ rH xY
abbrev ahS:=eJ rH Lh
abbrev ahT:=eJ rH zJ
abbrev Uq:=sq (tV 9 pV)
abbrev ar7:=wL (uN Uq oQ) (iU 2) Ge nq (km Uq Uq oR) (km Uq Uq oR)
abbrev ar8:=BE.dw (eJ rH Bn) gA gA
abbrev ahU:=C.agg [aM,aM,aM,aM,aM,aM,aM,aM,aM,aM,aM,aM,aM,aM]
abbrev LP:=K.conv I (.bin .shr .u64 (Om (oP fm dA)) cK)
abbrev ahV:=cN dA oR
abbrev ahW:=bu.lex [] E
abbrev ar9:=iL (uN dA oQ) uQ
abbrev Ur:=kE (iL (HS oQ) pS) ar9
abbrev P7:=K.c 50
abbrev aam:=BE.and Zi (yg jM)
abbrev ahX:=oT jM kj Ly
abbrev aan:=cN em kF
abbrev yw:=gV em
abbrev P8:=BE.and yw aan
abbrev P9:=RK.sl 100
abbrev ahY:=oT em pS P9
abbrev II:=iB em
abbrev tW:=ng a j k n o p zQ
abbrev asa:=C8 (sG 0 (wL (.len ahX) Da gm (py [iB jM]) aam aam) (tW 1 (m9 51 gm (uX 1 II) pQ [.ak ahY]) (FB 52 (fZ ss) [jd]) aan P8 P8) (yg jM)) (gW oR KP)
abbrev asb:=Bq oR ru (C8 asa (eQ oR lB)) asa (gW qU KP)
abbrev asc:=Bq qU qL (C8 asb (eQ qU lB)) asb (gW qV Da)
abbrev LQ:=gW d (.c G)
abbrev asd:=Bq qV Lh (C8 asc (eQ qV OO)) asc (LQ kF 70)
abbrev ase:=Bq kF Lh (C8 asd (eQ kF (.c 64))) asd (gW iK Da)
abbrev Us:=RK.sl 101
abbrev ahZ:=RE.cell kg cL 1 Us
abbrev ah0:=Dz da ahZ
abbrev Qa:=K.len (oT d A H)
abbrev IJ:=T.loop a [] t j
abbrev asf:=C8 (sG 0 (wL (Qa cL kg Du) Da gm (wL (.len ahZ) Da gm (IJ 1 (jz (eU (wL (Qa da ahZ uT) P7 gm (uX 1 Ou) (Ot ah0) (Ot ah0)) wu wu) (py [iB cL]) wu wu ah0) zQ) wu wu) wu wu) zI TE) (LQ iK 12)
abbrev qa:=C.agg [ki,iJ,gM,lf,pP,Fy,oO,Bt,HN,HO,KW,zM,qN,wm,wn,uR]
abbrev An:=C.agg [v,w,x,y,z]
abbrev wM:=An qO eI xW ym ss
abbrev Gg:List C:=[qa,wM]
abbrev Qb:=An cT aM cT cT kf
abbrev LR:=iA Qb dZ
abbrev aao:=iL fm tG
abbrev ah1:=eQ lI bK
abbrev Qc:=eQ wC bK
abbrev tX:=fu em zN yw
abbrev IK:=lC (iL em HQ) (oP cK fm)
abbrev asg:=ow [kU,eI,mH,mI,ss]
abbrev aap:=oT em tH Ih
abbrev DJ:=Dz bK aap
abbrev IL:=fu em Zp yw
abbrev yz:=gG a bK aap
abbrev aaq:=uY [yz 0,yz 1,yz 2,yz 3,yz 4,yz 5,yz 6,yz 7,yz 8,yz 9,yz 10,yz 11,yz 12]
abbrev IM:=wK j n (.set B d 0 t)
abbrev Ao:=eU (.new a B [] [] j) n o
abbrev ash:=IM em (Ao 0 (ow [kU,eI,pC,qW,ss]) (fu em Lt yw) (fu em Lt yw) (.set F0 em 0 zQ)) IL [n8] yp
abbrev DK:=Dz cK aap
abbrev yA:=gG a cK aap
abbrev aar:=uY [yA 0,yA 1,yA 2,yA 3,yA 4,yA 5,yA 6,yA 7,yA 8,yA 9,yA 10,yA 11,yA 12]
abbrev asi:=ow [kU,eI,mH,cT,ss]
abbrev asj:=T.stuck ""
abbrev asl:=IM em asj IL [pB] yp
abbrev aas:=BE.and wE yj
abbrev aat:=LE.iC wF zZ
abbrev asm:=ow [kU,eI,cT,mH,ss]
abbrev ah2:=gH j (fu em wC yw) (fu em wC yw) n o
abbrev aau:=ah2 TF DJ DJ
abbrev aav:=ah2 TF DK DK
abbrev ah3:=An kU eI cT cT ss
abbrev asn:=ow [cT,eI,kU,mH,ss]
abbrev Qd:=fu em TW yw
abbrev aso:=IM em (Ao 0 (ow [cT,eI,mI,n8,ss]) IL IL (.set yp em 0 zQ)) Qd [pB] rD
abbrev asp:=ow [cT,eI,kU,cT,ss]
abbrev asq:=IM em asj Qd [pA] rD
abbrev asr:=ow [cT,eI,cT,kU,ss]
abbrev ast:=ow [cT,eI,cT,cT,ss]
abbrev nu:=fZ (nW 500)
abbrev LS:=oT dA tH Ih
abbrev IN:=K.len LS
abbrev aaw:=pz zN
abbrev ah4:=cN gF IN
abbrev Ut:=sq (HS HQ)
abbrev asu:=su Ut (cN Ut lI)
abbrev Qe:=jN a j k n [.agg t]
abbrev yB:=gG a gF LS
abbrev DL:=eU (dF j k l p q) n o
abbrev LU:=jz j k n o (.not p)
abbrev asv:=tW 2 (Qe 34 nu (uX 2 ya) agz [yB 0,yB 1,yB 2,yB 3,yB 4,yB 5,yB 6,yB 7,yB 8,yB 9,yB 10,yB 11,yB 12]) (DL TY (.aK (cN Ut lI) (LU nu TY asu asu (fM (iL Ut tG))) nu) nu aaw aaw (gO IN) (zT Ut)) ah4 (K6 ah4) (K6 ah4)
abbrev DM:=cN bK IN
abbrev ah5:=iL bK LS
abbrev Gh:=Fs d (.cell A e a) n
abbrev Qf:=Gh a d e (Gh b f g n LS) LS
abbrev jl:=K.cell LS bK a
abbrev asw:=T.aK (iT IN) (eU (LU nu asv (cN cK IN) (cN cK IN) (.not (Qf 0 1 ah5 cK (jl 1) cK (Qf 2 3 (jl 2) cK (jl 3) cK (Qf 4 5 (jl 4) cK (jl 5) cK (Qf 6 7 (jl 6) cK (jl 7) cK (Qf 8 9 (jl 8) cK (jl 9) cK (Qf 10 11 (jl 10) cK (jl 11) cK (eJ (jl 12) (.cell LS cK 12)))))))))) DM DM) nu
abbrev yC:=LK.ak Ly
abbrev ah6:=oT gF pS P9
abbrev ah7:=Dz lD ah6
abbrev Uu:=oT lD ah6 Du
abbrev aax:=RE.cell ah6 lD 1 Us
abbrev ah8:=cN kN (.len Uu)
abbrev ah9:=iL kN tG
abbrev asx:=km ah9 ah9 (.len Uu)
abbrev aia:=BG kN Uu
abbrev aay:=fu kN (.len aax) Iv
abbrev DN:=T.aK (.not n) j k
abbrev asy:=DN (uX 6 Iw) (eU (jN 45 nu (uX 6 Iw) (.not Yq) [jd,mE,jc,.ak (oT kN aax uT)]) aay aay) aia
abbrev aib:=cN iu Dd
abbrev asz:=km (sq dM) (sq dM) ye
def ny:=T.stuck ""
abbrev DO:=uY zQ
abbrev IP:List C:=[qa,wM,jy]
abbrev asA:=qM [Qb,cT,nW 500]
abbrev aic:List C:=[qa,wM,wB]
abbrev IQ:=uY [jy]
abbrev asB:=RE.cell rC bK 1 Du
abbrev Uv:=Dz dA asB
abbrev IR:=HR Uv
abbrev aaz:=BE.not (BG dA asB)
abbrev aaA:=aW lI
abbrev aaB:=uY [aaA,kO,aaA,jy]
abbrev DP:=RE.cell rC bK 3 Ih
abbrev IS:=pz (.len DP)
abbrev Uw:=Gh a d e (Gh b f g n DP) DP
abbrev aaC:=BE.not (Uw 0 1 ah5 dA (jl 1) dA (Uw 2 3 (jl 2) dA (jl 3) dA (Uw 4 5 (jl 4) dA (jl 5) dA (Uw 6 7 (jl 6) dA (jl 7) dA (Uw 8 9 (jl 8) dA (jl 9) dA (Fs (jl 10) (.cell DP dA 10) (C7 (jl 11) (.cell DP dA 11) (jl 12) (.cell DP dA 12))))))))
abbrev DQ:=zR a DP
abbrev aaD:=LE.lit [[aW ah5,aW (jl 1),aW (jl 2),aW (jl 3),aW (jl 4),aW (jl 5),aW (jl 6),aW (jl 7),aW (jl 8),aW (jl 9),aW (jl 10),aW (jl 11),aW (jl 12)],[DQ 0,DQ 1,DQ 2,DQ 3,DQ 4,DQ 5,DQ 6,DQ 7,DQ 8,DQ 9,aW (.cell DP dA 10),aW (.cell DP dA 11),aW (.cell DP dA 12)]]
abbrev aaE:List C:=[DB lI]
abbrev Ap:=py [uS,v,w,x]
abbrev LV:=eU j (cN bK Lk) (cN bK Lk)
abbrev BN:=qM [An v eI w x ss,y,aM]
abbrev aid:=T.aK Uv (jz (Ap pC qW pD) (vf 0 (gH (LV (jz (Ao 0 (IM dA (Ao 0 (Ap BH Pw (xV 27)) (pz (wv 22)) (pz (wv 22)) (.set T2 dA 0 aaE)) (pz (.len DA)) [T8] Pj) (pz (.len DA)) lg aaD) (Ap BH qW pD) IS IS aaC)) tL tL DM DM) (lH Dy) (lH Pu) aaB Pq Pm) IR IR aaz) (BN n8 qW pD pC)
abbrev aie:=T.aK Uv (jz (Ap mI n8 pC) (vf 0 (gH (LV (jz (Ao 0 (IM dA (Ao 0 (Ap pD BH T8) (pz Dy) (pz Dy) (.set Pq dA 0 aaE)) (pz Po) [tQ] Iu) (pz Po) lg aaD) (Ap pD n8 pC) IS IS aaC)) tL tL DM DM) PH (lH (.len DA)) aaB F0 Pj) IR IR aaz) (BN pB n8 pC mI)
abbrev aaF:=cN dA Lk
abbrev Qg:=HR aaF
abbrev aaG:=nZ uS pA
abbrev aif:=Dz em ahX
abbrev Qh:=iL em ahX
abbrev aig:=cN em Lk
abbrev aaH:=BE.and yw aig
abbrev asC:=wj (.not (zT em))
abbrev Qi:=fu lI kF (gV lI)
abbrev Ux:=oT lI pS P9
abbrev aih:=cN gF Lk
abbrev aaI:=K6 aih
abbrev Uy:=sq em
abbrev aaJ:=km Uy Uy (.len Ux)
abbrev asD:=fu gF (.len (oT Uy Ux Du)) (gV gF)
abbrev aaK:=iL gF rC
abbrev asE:=RE.cell Ux Uy 1 Us
abbrev asF:=km aaK aaK (.len asE)
abbrev aii:=oT aaK asE uT
abbrev aij:=Dz dM aii
abbrev asG:=fZ (OC fm (.c 4097))
abbrev IT:=K.conv I (.bin .shr .u64 (Om (oP da gL)) cK)
abbrev aik:=iL IT kg
abbrev asH:=T.aK (cN aik cL) (nZ (iB IT) gM) (nZ iJ (aW IT))
abbrev aaL:List LK:=[yC,dp,n7 111,yC,.bool,dp]
abbrev Qj:List LK:=[yC,dp,dp,dp]
def ail:List LK:=[.ak Du,.ak Us]
def asI:=fu cL wt (gV cL)
abbrev aim:List LK:=[yC,dp,n7 111,yC,.bool,n7 79,dp]
abbrev ain:=cN gF Zp
abbrev asJ:=An pB kh mI n8 Ov
abbrev asK:=qM [cT,aM,aM,dZ]
abbrev asL:=kQ gF (oP cK (Qa dA rC P9))
abbrev aio:List LK:=[dp,yC,dp]
abbrev aaM:=C.agg [gM,lf,pP,oO,eI,KW,jy,zM,qN,wm,wn,uR,qO,xW,ym,wB]
abbrev asM:=An Fy ki Bt HN ss
abbrev aip:List C:=[aaM,asM,gN]
abbrev asN:=py [Lr,F2,mI,mE]
abbrev asO:List LK:=[yC,dp,n7 111,yC,.bool]
abbrev asP:=An kU iS pA mH KT
abbrev aiq:=jW 20 (Iz 0 (jW 308 (iA pT (lF tQ qR)) [An n8 qP pC qW Ov,pD,xU da bK,aaM,asP,kO,mF,lF mI mE] aio) (lH (wv 3)) (BF 3) DO) [aaM,asM,aM] asO
abbrev aaN:List C:=[qa,An kU kO pA mH KT,gG 0 em rC]
abbrev IU:=iA aM kf
abbrev air:=cN dM Dy
abbrev vg:=Bp f g j k l (cN d e)
abbrev tY:=T.gr lg n j k
abbrev DR:=gG a d kg
abbrev Gi:=C.int .u64 d
abbrev sH:=tU a Bv
abbrev sI:=FZ a Lf
abbrev Uz:=Is (.aS (.and (.and (eQ cK zN) yj) (km P0 P0 Fv)) j) B O
abbrev tZ:=gG a FP oQ
abbrev Gj:=BE.not (eQ d e)
abbrev Aq:=kP a (iA v w) j n t M
abbrev DT:=vf a j n o Fz B N
abbrev t6:=kG a jL
abbrev t7:=kG a Qh
abbrev mJ:=DR a cL
abbrev yD:=Iq a uQ
abbrev wN:=gG a fm (.v 4)
abbrev yE:=zR a uQ
abbrev yF:=Lj a kN
abbrev UA:=tY j k (eQ zN bK)
abbrev t8:=eJ d iK
abbrev DU:=FB a (dF j k l n o) t
abbrev DV:=F4 a (dF j k l n o) t
abbrev LW:=eJ (Dh a d) e
abbrev BO:=Gh b (.cell uQ dM a) d n FW
abbrev UB:=m9 a gm (m9 b gm j o u) n t
abbrev IW:=UA (DT a j n o B N) k
abbrev Ar:=gG a d px
abbrev Qk:=K.cell A f8 a
abbrev IX:=ah2 (Ao a j p lg B) n o
abbrev IY:=vg d e f g j k (eU (zX l) lg lg)
abbrev Gk:=gG a d Dx
abbrev UC:=IJ 3 (.pick Fv n (eQ Fv wC) j k) t
abbrev wO:=UC (Uz (dF j k l P1 P2) B []) m n t
abbrev wP:=gG a gF oQ
abbrev IZ:=T.new a B [] O j
abbrev Ql:=LV (IJ a j t)
abbrev Gl:=m9 a j k pQ t
abbrev I0:=jz j k In In (eJ dA aao)
abbrev UD:=fZ (Gi d)
def T82:T:=HV Ti (qQ cL da)
def T84:T:=UB 61 61 (UB 61 61 (eU (UB 88 88 (UB 88 88 (m9 88 gm (Fq 89 (Bq jk bK gm (ij (C8 afS (C7 gF dM iu lD)) afS afS (dR jk) (C7 bK gF cK iu)) KQ) (lF aM dZ) (lF jc kh)) (mD 8) [kO,wH 2 f8 kg,dZ,mE]) (mD 6) (mD 7) [jy,.bool (gW (Qk 4 kg) bK),dZ,DR 4 f8] [iS,.bool (gW (Qk 5 kg) bK),dZ,DR 5 f8]) HH (mD 5) [oO,wH 0 f8 kg,dZ,tD] [eI,wH 1 f8 kg,DR 3 f8,HI]) (fu f8 KP Tj) (fu f8 iK Tj)) Fo Fp [gM,aM,Dc jL cK] [lf,dZ,pu]) pQ oN [pP,dZ,aW Bn] [iJ,aM,Dc kN cK]
def aiu:T:=HV Ti (eQ da cL)
def aiv:T:=dF Yd Yd (Bp da zJ Yd Yd (Bp afU lB (jX aM) (jX (Dc afU lB)) (jX (aW afU)) (dR cL)) (oU da)) (oU cL) afT
def aiw:T:=dF Ye Ye (Bp da qL Ye Ye (.aK (dR cL) (ow [aM,aM,lG tE Tl]) (DL (.aK (dR Tl) (zX (ow [lG C9 Tn,lG C9 To,Yf])) (zX (ow [lG C9 Tn,lG Da To,Yf]))) (zX (ow [lG Da Tn,lG C9 To,Yf])) (zX (ow [lG Da Tn,lG Da To,Yf])) afV afW (dR Tl) (dR Tl))) (cN da cK)) (oU cL) afT
def aix:T:=dF (qM [aM,aM,Ft]) (qM [aM,aM,Ft]) (gH (qM [aW Tn,aW To,aM]) afV afW afV afW) (cN cL cK) afT
def aaO:T:=jN 127 (iA aM (nW 120)) (jN 127 (iA aM (nW 120)) (m8 106 (jX eI) (aW (kQ cL iR)) (lG gL da) [dp]) Yg [lF gM lf]) (fM f8) [lF ki iJ]
def aaP:T:=Bp da KR Tp Tp (vg cL Yh cL KR Tp Tp (jW 157 (qT 156 Tp ov (lC iR cK) (Gi gL) (Gi (Om da)) [.int .u64]) [ki] [.int .u64])) (cN da cK)
def aaQ:T:=.aK (oU cL) (UD (.bin .sub .u64 bK (Om cL))) (UD (Om cL))
def aiy:T:=eU (.aS (fM da) (fZ (Bs (sn cL (Br (oP (Br cL da .rem) da) da .rem)) da .quo))) (fM da) (fM da)
def aaR:T:=F4 127 (nc (qM [aM,aM,lf]) afX afX (nY 280 280 (qM [pP,Dc bK lZ,aM]) [lG cL gL,iJ] [lG (sn bK cL) gL,iJ] [dp] [dp]) Yi (cN gL Yh) (gW gL KR)) [lF ki iJ]
def aaS:T:=.aK (dR da) (UD cL) (jA 0 (.aS (fM (kE f8 cK)) (.aK (dR aqh) (UD f8) (py [Gi iR,Gi f8,Gi aqh]))) (UD gL) Yi [Gi da,Gi cL,Gi da])
def aaT:T:=nY 76 76 (dF (.aK sj ov (fZ HL)) Db (vg cL da cL da (fZ HL) Db ov) C6 sj) [ki] [iJ] C5 C5
def aaU:T:=wj afY
def T66:T:=vg cL Tq cL Ts gm gm (vg da Tq da Ts gm gm (vg gL Tq gL Ts gm gm (vg iR Tq iR Ts gm gm (HV (wj (eQ gL iR)) (eQ cL da)))))
def T72:T:=Gl 99 (zK Ft) (m9 99 (zK Ft) (Dl cL f8 da lZ gL jM (xZ iR em)) oN [afZ]) [Fu]
def T69:T:=m8 70 (wj Ol) Fu Fu pw
def aiC:T:=DU 99 (zK Ft) KS (nc KS KS KS (m9 99 KS (jX aqj) oN [aqj]) (gW f8 (.c 2199023255552)) (cN lZ aqi) (gW lZ (.c 2199023255552))) pQ (cN f8 aqi) [Fu]
def T24:T:=Gl 99 (iA kf Ft) (DU 99 (iA kf Ft) (ij (jX (.bool (eQ iR em))) (jX kf) (jX kf) (eQ da lZ) (qQ gL jM)) (jX kf) oN (qQ cL f8) [afZ]) [Fu]
def aiE:T:=vg cL HM cL uO zL zL (vg da HM da uO zL zL (vg gL HM gL uO zL zL (vg iR HM iR uO zL zL (vg f8 HM f8 uO zL zL (vg lZ HM lZ uO zL zL (jX (xU (oP (kQ cL iR) (kQ da f8)) (kQ gL lZ))))))))
def aiF:T:=ij (m8 139 af0 ki pu wl) aqk aqk (dR da) (jP gL)
def aiG:T:=.aK pQ (wj (dR cL)) (FB 61 (fZ KT) [ki,iJ,gM])
def aiH:T:=HV Ti (eQ da cL)
def aiI:T:=jA 0 (LU (nZ (iB KU) lf) (nZ gM (aW KU)) (km KU KU iK) (km KU KU iK) (gW (iL KU kg) da)) (eU (.aS (km KV KV iK) (fZ (xU (uN KV kg) (kQ (sn da (iL KV kg)) (.cell kg KV 2))))) lg (km KV KV iK)) (cN gL iR) [aM,aW iK]
def aiJ:T:=jN 60 (iA aM gM) (Gl 124 (iA aM dZ) (m8 125 (jX lf) On iJ [dp]) [iJ,aM,aW HJ]) (fM gL) [On]
def aiK:T:=qT 272 (qM [aM,aM,oO]) (jN 127 (qM [aM,aM,eI]) (Gl 124 afX (m8 273 (qM [jy,iS,kO]) (lF gM lf) pP rz) [gM,aM,lf]) Yj [lF gM lf]) Yg On iJ xS
def aiL:T:=nY 255 255 (fZ (xZ bK (sn jL l8))) [On,lf,lF mF mE] [On,lf,lF kh gN] rz rz
def T70:T:=HV Ti (eQ da cL)
def T65:T:=jN 40 (Gl 68 Db (fZ jy) [eI,aM,af3]) (fZ jy) Yk [jd]
def T18:T:=Aq 84 (iA kf jy) Yk [jd,af4,qN,Yl] (.bool (dR zN)) jy [n7 252,dp]
def T37:T:=Bp Dd De zO zO (jN 60 (fZ eI) (Gl 61 zP (m9 61 zP (DV 62 zP zP (dF zP zP (tW 0 (DC 61 zP (m9 61 zP (m9 61 zP K1 HH [DR 3 fm,aM,aW zJ]) Fp [DR 2 fm,aM,iJ]) [DR 1 fm,aM,ki]) (ng 1 (Bp af6 uO zP zP (DC 63 zP (ik 1 uS Tx) [.agg aql,aW iK,oO]) (eQ af6 gF)) ov Yn Oo Oo [aM,HL]) Ym (.and Dg Ym) (.and Dg Ym)) (oU iR) (dR iK)) Bu (oU gL) [Fw gM lf pP]) oN [iJ,dZ,Tu]) [ki,dZ,Tu]) Yj [KY]) (LQ iK 64)
def T86:T:=tY (wK (fZ Bt) Oq TA) (fZ cT) Tz
def T87:T:=tY (wK (fZ Bt) Oq TA) (fZ cT) Tz
def T88:T:=tY (wK (fZ Bt) Oq TA) (fZ cT) Tz
def aiQ:T:=m8 176 (wj (zT iR)) Fy (.agg [ki,iJ,gM,ss]) [dp]
def aiR:T:=sG 0 (jz (fZ lf) (py [iB iR]) (su iR (ln iR)) (su iR (ln iR)) (Gh 0 cL iR (Gh 1 da iR (Gh 2 gL iR (.beq C6 (.cell kg iR 3)) kg) kg) kg)) (fZ HL) (ln iR)
def aiS:T:=tW 0 (ij (ij (ij (jz (eU (Gl 146 zI HT [FU 0 K2 pS uT,iM (gG 0 pR (.v 4)) aM aM lj]) aqo aqo) HT aqn aqn (BG K2 oQ)) HT HT (C7 (Dh 10 pR) iw (Dh 11 pR) iG) (C7 (Dh 12 pR) l8 (Dh 13 pR) ou)) HT HT (LW 4 pR (sn (.c 15) iu)) (LW 9 pR af5)) HT HT (LW 2 pR dA) (eJ K2 (sq jk))) gm (cN pR Dd) aqm aqm
def aiT:T:=m8 151 (wj pQ) Fu afZ K3
def aiU:T:=Bq iK (.c 32) gm (.aS (ln bK) (jN 90 gm (sG 0 (.aS FA (jN 90 (ij gm Yo Yo (lC gL qL) (lC gL xY)) Yo (lC gL ru) [.int .u8 (.oZ kg da)])) zI TC) (lC cL ru) [.int .u8 (.oZ kg bK)])) (.seq kg (.k (.string ⟨#[]⟩)))
def T77:T:=jN 40 (jO iS) (Gl 61 (jO dZ) (m9 61 (jO dZ) (wJ 0 (ij (ko (nZ uS qN) (lH oR) aql (.ak oQ)) (nZ uS zM) (nZ uS zM) (LW 1 dA jM) (LW 2 dA em)) (BL 0 0 0 (jX qN) oQ (.ratio 10 11) J) Yn Oo Oo) oN [jy,aM,af3]) [eI,aM,Dc iK cK]) Di [jd]
def aiW:T:=dF aqr aqr (PV gm aqp af9 af9 (lC kN cL) pQ (eJ f8 xY)) (kS f8) (jP f8)
def aiX:T:=HV Ti (qQ cL da)
def aiY:T:=wq cL (.c 122) zO aqu aqu (qQ cL (.c 97))
def T25:T:=DU 67 HW (nc HW HW (dF HW (dF HW (DN (zK dZ) (kP 98 KS (ko (kP 98 KS (ko (gH (m8 70 (iA (.agg [qS,uU,HX,K4]) FC) (FY 1 bK (Ar 0 bK) (Ar 2 bK) (Ar 3 bK) px) (FY 1 cK (Ar 0 cK) (Ar 2 cK) (Ar 3 cK) px) pw) (cN bK wt) (cN bK wt) (cN cK wt) (cN cK wt)) Oq [mE,qP,pT,qR] (.ak kg)) (fM iG) [Fu,lG aqw jM,lG aqw em] pw) lg [kO,jc,kh,gN] Fz) Yr [Fu,lG aqv jM,lG aqv em] pw) (eQ fm (.c 4095))) (zK dZ) (Gj em uO) Dg) HW (Gj jM uO) (eQ HM em)) HW (Gj f8 lZ) (qQ lZ De) (eQ HM jM)) HW pQ Tj [Fu]
def aaV:T:=.aK (lC iK wt) (jO kf) (tY (wK (BL 0 0 0 (wJ 0 (oz 1 (jz (eU (m9 107 (eU (ko (nZ (iB cL) qN) (lH oR) [aW Yt,mJ 1,mJ 2,mJ 3,mJ 4,mJ 5,mJ 6,mJ 7,mJ 8,mJ 9,mJ 10,mJ 11,mJ 12,mJ 13,Ar 0 da,Ar 1 da,Ar 2 da,wH 3 da px] (.ak oQ)) Ox Ox) (ik 1 Ou zM) C6 [.agg [aW Yt,mJ 1,mJ 2,mJ 3,mJ 4,mJ 5,mJ 6,mJ 7,mJ 8,mJ 9,mJ 10,mJ 11,mJ 12,mJ 13],iM (Ar 0 da) (Ar 1 da) (Ar 2 da) (wH 3 da px)]) Ox Ox) (ik 1 Ou zM) (Ot agb) (Ot agb) (eJ (iL da (.v 3)) Yt)) (jO kf) agb KW) (iA KW lj) TE wu wu) xT Ys E) Oq TA) (BL 0 0 0 (wJ 0 (oz 1 TF (jO kf) (oU da) HO) (iA HO lj) TE wu wu) af7 Ys E) Tz)
def T27:T:=jN 34 (zK zU) (DV 41 (zK Oy) (ij (ij (FF Yw Yx Yz YA) (FG (Dl Yw (sC ou FE) Yx (sC ou FE) Yz (sD ou Bz) (xZ YA (sD ou Bz))) FD) (OA aqx Oz FD jc) Bw By) (Fq 138 (qT 139 aqx (jW 138 (qT 139 (FF (nX YB OD) (kE YC OD) (nX YD OE) (kE YE OE)) (FG (Dl (nX YB OD) OF (kE YC OD) OF (nX YD OE) OG (xZ (kE YE OE) OG)) zW) By Dj jc wl) Oz xS) Bw FD iS wl) jy gM) (OA aqz [oO,gM] FD eI) (dR jM) Ol) (Fq 138 (qT 139 aqz (Fq 138 (qT 139 (ij (FF agd age agf agh) (FG (Dl agd OF age OF agf OG (xZ agh OG)) zW) (OA aqA Oz zW jc) Bw By) (Fq 138 (qT 139 aqA (jW 138 (qT 139 (FF aqB aqC aqD aqE) (FG (Dl aqB (sC ou (.v 57)) aqC (sC ou (.v 57)) aqD (sD ou (.v 58)) (xZ aqE (sD ou (.v 58)))) FI) By FH jc wl) Oz xS) Bw zW iS wl) jy gM) Ol Dj eI wl) oO gM) (dR jM) FD pP wl) lf gM) (wz 30) (dR f8) [.agg [Fy,mF,mE,qP,pT,qR,sx,qS,uU,HX,K4,FC,TG,TH,TJ,TK,zV]]) (wz 29) [agc]
def T74:T:=K5 (DU 46 BA (uW BA (DU 46 BA (uW BA (DU 46 BA (uW BA (DU 46 BA (uW BA (DU 46 BA (K5 ov (mD 11) (mD 12) TN TO) ov (mD 10) TL YV) (mD 9) YU) aqG (mD 8) YT ago) (mD 7) agn) aqI (mD 6) agm [eI,dZ,pu]) (mD 5) [oO,aM,HI]) aqL HH aqF [pP,dZ,pu]) Fp [lf,aM,HI]) (dF (K5 aqL Fp HH [oO,aM,HI] [eI,dZ,pu]) (K5 aqK Fp HH agn ago) (dF (K5 aqJ Fp HH YU YV) (K5 ov Fp HH TN TO) ov YT TL) aqF agm) Fo (.not (Fs iR bK (dR f8))) [gM,aM,aW zJ]) pQ oN [ki,aW Yh,aW KR] [iJ,aW Yh,aW KR]
def ai2:T:=jA 0 (.aS Yi (nZ (Bs f8 iR .rem) lf)) (jA 1 (.aS Yg (ik 1 (Bs jM lZ .rem) oO)) (jA 2 (.aS Bu (ik 2 (Bs fm em .rem) jy)) (eU (.aS (fM OL) (fZ (Fw (Bs cL OL .quo) (Bs da OL .quo) (Bs gL OL .quo)))) (fM OL) (fM OL)) Bu [gM,eI]) Yg [iJ,pP]) Yi [ki,aM]
def T83:T:=Bp gL (.c 32768) ON ON (vg (nX cL da) (sn bK gL) (kE cL da) gL ON ON (.aK (lC (oP (kQ cL cL) (kQ da da)) (kQ gL gL)) ON (kP 87 ON ov (.not (Fs iR cL (C7 f8 da lZ gL))) [Fw ki iJ gM] rz))) (cN gL cK)
def T75:T:=DU 64 ww ww (dF ww ww (dF ww ww (dF ww ww (dF ww ww (nc ww ww ww (eU (IY iu cK iu qL pU pU (IY dM cK dM qL pU pU (IY lD cK lD qL pU pU (IY fm cK fm uO pU pU (IY dA cK dA uO pU pU (IY gF cK gF uO pU pU (IY iR cK iR OO pU pU (IY f8 bK f8 OO pU pU (Bp da (.c 500) pU pU (eU (zX (vg kN bK kN uO pU pU (zX ov))) lg lg) (oU da)))))))))) lg lg) (gW em lB) (oU jL) (gW jL uO)) (gW jM lB) (cN em cK)) (gW lZ lB) (cN jM cK)) (gW gL Fv) (cN lZ cK)) (LQ cL 500) (cN gL cK)) pQ (cN cL cK) [Fy]
def T23:T:=jN 100 YW (wJ 0 (ij (.aK (lC agq YX) (BJ 2 0 [OC YX agq,xZ YX agq,lj] Tw qN (.ak oQ)) agr) agr agr (LW 2 fm jM) (LW 4 fm zJ)) (Aj 1 (vd 2 (ko (ik 2 ya wn) (lH qU) [kO,jc] TP) (ik 2 ya wm) (ik 1 uS wm) (ln gF) (BK 2 2 dA gF oQ) [aM,qN]) (jX qN) (ln dA)) agp OP OP) Bu [jd,eI]
def UE:T:=jW 73 (dF (fZ iS) ags (tY (Iz 0 (BL 0 0 0 (wJ 0 (oz 1 (jz (eU (m9 107 (eU (ko (nZ uS xW) FJ [gP 0,gP 1,gP 2,gP 3,gP 4,gP 5,gP 6,gP 7,gP 8,gP 9,gP 10,gP 11,gP 12,gP 13,wP 0,wP 1,wP 2,wH 3 gF oQ] Dm) OU OU) (ik 1 ya qO) C6 [.agg [gP 0,gP 1,gP 2,gP 3,gP 4,gP 5,gP 6,gP 7,gP 8,gP 9,gP 10,gP 11,gP 12,gP 13],iM (wP 0) (wP 1) (wP 2) (wH 3 gF oQ)]) OU OU) (ik 1 ya qO) OT OT (eJ Y2 (HS uP))) ags OS uR) ov Y1 OQ OQ) kj Ys E) YZ Fz Y0) (BL 0 0 0 (wJ 0 (oz 1 TF ags (oU gF) wn) ov Y1 OQ OQ) af7 Ys E) (eQ qV bK)) Di (lC qV oR)) YY H4
def T89:T:=Aq 73 (Qe 34 (iA K7 K4) (Aq 74 (ng 0 (jW 171 (dF (iA K7 O4) (ow [Lc,Ld,FM,FN,FO,FI,Lg,H6,H7,H8,H9,Ia,Ib]) (py [iB Bv,Lc,Ld,FM,FN,FO,FI,Lg,H6,H7,H8,H9,Ia,Ib,Lc,Ld,FM,FN,FO,FI,Lg,H6,H7,H8,H9,Ia,Ib]) (wz 63) (wz 63)) [.agg [Dj,aW pV,OV,K8,Y4,OW,zW,TR,OX,K9,OZ,TS,FH],.agg [sH 0,sH 1,sH 2,sH 3,sH 4,sH 5,sH 6,sH 7,sH 8,sH 9,sH 10,sH 11,sH 12,sH 13],iM (sH 14) (sH 15) (sH 16) (wH 17 Bv kj)] H5) (ow [TG,TH,TJ,TK,zV,zU,Oy,FD,dS 32,aW FE,aW Bz,aW FP,aW tK]) (yg Bv) (su Bv (yg Bv)) (su Bv (yg Bv)) [aM,iS,kO,jc,kh,gN,mF,mE,qP,pT,qR,sx,qS,uU,iS,kO,jc,kh,gN,mF,mE,qP,pT,qR,sx,qS,uU]) pQ [qN,zM] K7 (nW 270) [n7 227,.bool]) (wz 22) Y3) (fM pR) YY K7 HX H4
def aaY:T:=DV 34 (iA K7 Oy) (uW (uW (uW (uW (DU 46 (.aK (.v 5) (uW (FB 46 aq0 [zU,aM,aM]) Ic (.v 6) [zV,aM,aM]) Ic) (uW (FB 46 aq0 [zU,aqP,aqQ]) Ic (.v 6) [zV,Dq bK bK aqN,Dq bK bK aqO]) Ic C6 (.v 5) [HX,Dq cK cK (rB bK bK (rB bK cK Y5 Dp FQ) Dn Do),Dq OO OO (rB bK bK (rB bK zJ Y5 Dp FQ) Dn Do)]) TU (.v 4) [uU,aqP,aqQ]) TU zH [qS,Dq cK cK aqN,Dq lB lB aqO]) TU Bo [sx,Dq cK bK (rB cK cK (.dw Dp bK aqM) Dn Do),Dq ru bK (rB ru ru (rB bK bK (mG bK bK ru O6 O7 O8) Dp FQ) Dn Do)]) TU sj af8) TU (wz 30) (FT (gO iw) (iT iw) (FT Dn Do (Ds Dp FQ O6 O7 O8))) [agc]
def T81:T:=.aK (eQ (kE iK wt) De) (dF zO (ij (LU l9 (ng 0 (wq Dt HJ (wq (uN da kg) (.c 65536) (ij l9 (nZ Ou (aW Dt)) l9 (eQ (.c (-65536)) (.cell kg da 2)) (Gj (.cell kg da 2) (.c 65536))) l9 l9 (eQ (.c (-65536)) (uN da kg))) l9 l9 (eQ (oP gL cK) Dt)) (sG 1 (jN 125 (DN l9 (Im [iB iR]) (eQ f8 (.c 65536))) l9 (eQ cK f8) [On,lf]) (ng 2 (wq agv (sn cL ru) (wq (uN f8 px) ru (wq (Qk 2 px) (Qk 3 px) (DN l9 (ik 2 (iB f8) (aW agv)) (eQ (Qk 3 px) uO)) l9 l9 (gV (Qk 2 px))) l9 l9 (eQ cK (uN f8 px))) l9 l9 (eQ aga agv)) (tW 3 (wq agx cL (wq (IG 1 xT) cL (wq Tq (IG 2 xT) (ij l9 (Ll [iB jM]) l9 (eQ (IG 2 xT) (IG 3 xT)) (Gj (IG 3 xT) Ts)) l9 l9 (lC agx (IG 1 xT))) l9 l9 (gV (IG 1 xT))) l9 l9 (gV agx)) ov agw (.and Zi agw) (.and Zi agw)) agu (.and Tj agu) (.and Tj agu) [aM,HL]) (cN iR cL)) TC FA FA [aM,HL]) (ln bK) (ln bK) (dR (iL bK kg))) l9 l9 (eQ cL De) (gW iK bK)) l9 (Gj Tm (.c 256)) (eQ cK cL)) zO
def T13:T:=DV 40 (iA Li jy) (iA Li dZ) (dF (iA Li dZ) (ij (DN If (sG 0 (gH (gH (jN 41 (F4 34 (nc If (jN 45 If K1 agz [jd,iS,eI,.ak (oT fm uQ uT)]) If K1 (.not Bw) (BG fm kj) (.not (dR (.len (oT fm uQ uT))))) aq1) If BB agy) Pb Pb (fu fm ye Dg) (fu fm ye Dg)) Ig Ig Zj Zj) (nY 110 111 (jA 1 (gH (gH (jW 112 (ko (.aK (BG dA kj) (Aq 113 (Aq 114 (ko (ko aq3 yk [TG,TH,TJ,TK] rD) yj [jc,kh,gN,mF,mE,qP,pT,qR,sx,qS,uU,HX,K4] zZ) (wz 28) [jd,kO,eI,.agg Zn,aq2,agA] Li zV pw) (fM Bv) [jd,kO,eI,.agg Zn,agA] Li FC H5) (Aq 115 (ko (ko aq3 yk [jc,kh,gN,mF] rD) yj Zn zZ) TX [.agg Zn,aq2] Li mE pw)) Ij [pA] Ik) [agA] [.ak uT]) (pz kF) (pz kF) Zm Zm) OQ OQ Ii Ii) (ow [eI,qO,xW,ym,wB,kU]) Y1 Zk) [wm] [wn] [.ak Du] [.ak Ih]) TV) (t8 ye)) If If (t8 qU) (t8 kF)) If (qQ jM lZ) (t8 qV)) Bu (oU jM) [jd]
def qb:T:=DV 40 YW (jO tD) (ij (.aK (t8 ye) (dF wD (ij (DN wD (sG 0 (gH (gH (jN 41 (F4 34 (nc wD (jN 45 wD K1 agz [jd,iS,eI,.ak (oT fm tG uT)]) wD K1 (.not Bw) (BG fm kj) (.not (dR (.len (oT fm tG uT))))) aq1) wD BB agy) Pb Pb In In) Ig Ig Zj Zj) (sG 1 (gH (qT 70 (eU (Qe 34 wD TY (.not Yq) [yE 0,yE 1,yE 2,yE 3,yE 4,yE 5,yE 6,yE 7,yE 8,yE 9,yE 10,yE 11,yE 12]) Zm Zm) wD (dR kN) aq4 aq4 pw) tL tL tL tL) (tW 2 (qT 43 (jO qP) (uX 2 ya) (fM jL) (.agg [wP 0,wP 1,wP 2,wP 3,wP 4,wP 5,wP 6,wP 7]) eI pw) (nY 110 111 (jA 3 (IC (gH (jW 112 (ko (.aK (BG iu kj) (kP 113 (jO TH) (kP 114 (jO Oy) (ko (ko aq6 Dw [TJ,TK,zV,zU] yp) yk [gN,mF,mE,qP,pT,qR,sx,qS,uU,HX,K4,FC,TG] rD) (wz 30) [jd,kh,eI,.agg Zo,aq5,agB] pw) (wz 25) [jd,kh,eI,.agg Zo,agB] H5) (qT 115 Pc (ko (Iz 0 aq6 Dw yp aq7) yk Zo rD) Io (.agg Zo) aq5 pw)) wE [pB] wF) [agB] [.ak uT]) (fu iu kF BD) (fu iu kF BD) (fu iu lI BD) (fu iu lI BD)) BD (tJ iu) BD (tJ iu) (fu iu qU BD) (fu iu qU BD)) (Aj 4 (IC (gH (eU (LU (tR 3 (gH (IA (dF (jO mF) (tR 3 (.aK agD (kP 73 (jO mE) (ng 5 (sG 6 (vc (kP 145 Ph (eU (m8 146 (nc (Is (dF (vc agI Ir Ac) (vc agI Ir Ac) Ir Zx Zy) aq9 []) (vc agJ yr Ac) (vc agJ yr Ac) yr oN Zx Zy) pD agG C5) Ip Ip) KQ [jd,aW Pe,Pf] Pg) agK (eJ Zw Pe)) (kP 145 Ph (eU (m8 146 (nc (Is (dF arc arc Ir Zx Zy) aq9 []) ard ard yr oN Zx Zy) pD agL C5) gA gA) KQ [jd,aW Pe,Pf] Pg) Zv) (kP 148 Pc (ng 6 (BJ 3 6 [tD,gN,DB (uN iw (.v 22)),lj] Lq BH Pm) (DD 4 tQ) agO (.and Ln agO) (.and Ln agO) [aM,qW]) Io agM agN) agF Zu Zu [aM,n8]) TX agE H4) (DD 4 n8)) [Ow,gN,aM,lj] F0) ark Yr pQ) aq8) Zs Zs Zt Zt) [zS,gN,aM,lj] FX) (gH (IA (nc (jO mF) (tR 3 ark [Ow,gN,aM,lj] FX) (kP 73 (jO mE) (ng 5 (sG 6 (vc (kP 145 Ph (eU (m8 146 (nc (Is (dF (vc agW yr Ac) (vc agW yr Ac) yr ZC ZD) arl []) (vc agX Pt Ac) (vc agX Pt Ac) Pt oN ZC ZD) pC agG C5) Ip Ip) KQ [jd,aW Ps,Pf] Pg) agK (eJ Zw Ps)) (kP 145 Ph (eU (m8 146 (nc (Is (dF aro aro yr ZC ZD) arl []) arp arp Pt oN ZC ZD) pC agL C5) gA gA) KQ [jd,aW Ps,Pf] Pg) Zv) (kP 148 Pc (ng 6 (BJ 3 6 [tD,gN,DB (uN iw Dx),lj] Lq pD Pj) (DD 4 qW) agY (.and Ln agY) (.and Ln agY) [aM,n8]) Io agM agN) agU (Pd agU) (Pd agU) T3) TX agE H4) (DD 4 pB) Yr pQ agD) aq8) Zs Zs Zt Zt) (fu dM TW sF) (fu dM TW sF) (Gh 0 agC dM (BO 1 1 dM (BO 2 2 dM (BO 3 3 dM (BO 4 4 dM (BO 5 5 dM (BO 6 6 dM (BO 7 7 dM (BO 8 8 dM (BO 9 9 dM (BO 10 10 dM (BO 11 11 dM (eJ (.cell uQ dM 12) (.cell FW dM 12))))))))))))) FW)) Zr Zr) (fu dM kF sF) (fu dM kF sF) (fu dM lI sF) (fu dM lI sF)) sF (tJ dM) sF (tJ dM) (fu dM qU sF) (fu dM qU sF)) (kP 71 (jO mF) (Aj 5 (IC (qT 115 (jO qS) (ko (ik 5 Iw pC) T4 [qP,pT,qR,sx] Iu) Tk (.agg [yF 0,yF 1,yF 2,yF 3,yF 4,yF 5,yF 6,yF 7,yF 8,yF 9,yF 10,yF 11,yF 12]) (.agg [FV 0 kN uP,pY 1,pY 2,pY 3,pY 4,pY 5,pY 6,pY 7,pY 8,pY 9,pY 10,pY 11,pY 12,pY 13,pY 14,pY 15,pY 16]) pw) Iv agZ Iv agZ wI wI) (Aj 6 (IC (qT 115 (jO uU) (ko (ik 6 yq qW) (lH Dy) [pT,qR,sx,qS] Pq) (fM ou) (.agg [yD 0,yD 1,yD 2,yD 3,yD 4,yD 5,yD 6,yD 7,yD 8,yD 9,yD 10,yD 11,yD 12]) (.agg [FV 0 jL uP,t6 1,t6 2,t6 3,t6 4,t6 5,t6 6,t6 7,t6 8,t6 9,t6 10,t6 11,t6 12,t6 13,t6 14,t6 15,t6 16]) pw) T1 ag0 T1 ag0 (fu jL qV T1) (fu jL qV T1)) (eU (kP 150 Pc (ng 7 (tR 3 (.aK (eQ (iL iw DA) Fv) (BJ 3 7 [T5,gG 2 iw DA,aM,lj] Lq BH Pm) (ik 7 Lq tQ)) [T5,gG 1 iw DA,aM,lj] T2) (oz 8 (IC (eU (qT 151 (jO qS) (gH (m8 151 (nc (jO uU) arv arv (ik 8 T7 tQ) (fM ou) pQ oN) (FY 1 yu (Gk 0 yu) (Gk 2 yu) (Gk 3 yu) Dx) (FY 1 yv (Gk 0 yv) (Gk 2 yv) (Gk 3 yv) Dx) K3) art art aru aru) Tk (FY 1 yu (gG 0 yu wG) (gG 2 yu wG) (gG 3 yu wG) wG) (FY 1 yv (gG 0 yv wG) (gG 2 yv wG) (gG 3 yv wG) wG) K3) ars ars) T6 ag1 T6 ag1 arq arq) (IJ 9 (.pick Pu (.not (.has (.v 25) 1 l8 bK bK)) (eQ Pu (wv 25)) (tR 1 (Ao 0 (ik 9 (xV 27) Pw) (.and (.and (eQ cK T9) (lH T9)) (km Ua Ua Pu)) (TZ 24) (.iC (BF 24) (uY [gG 0 Ua Pl,gG 1 Ua Pl,gG 2 Ua Pl]))) [qS] (BF 25)) (BL 0 0 0 (wJ 10 (ko (ik 10 (iB l8) (xV 28)) (TZ 27) [gG 0 l8 Pv,gG 1 l8 Pv,gG 2 l8 Pv] (BF 27)) (jX (xV 27)) (cN l8 T9) arw arw) (.v 24) (.lex [0,1,2] E) E)) [cT,cT]) ag1 pD) agT ZB ZB T3) Io [jd,af4,eI,xW,n8,mI] [n7 298,dp]) lg lg) ag0) agZ) Yr [jd,eI] [n7 188,dp]) (tJ dM)) (tJ iu) Zk) [wm] [wn] [.ak Du] [.ak Ih]) (cN gF oR) OU OU) (ln dA)) TV) (t8 lI)) wD wD (t8 qU) (t8 kF)) wD (.not (t8 wC)) (t8 qV)) wD) wD wD (zT jM) (cN jM lZ)) Bu (gW oR lB) [jd]
def ai7:T:=DV 40 YW (jO tD) (FB 68 (nc (jO dZ) Ix Ix (tW 0 (m9 67 (.aK (zT fm) Ix (tW 1 (DC 67 (.aK (zT dA) Ix (jA 2 ag4 (jA 3 ag6 (oz 4 ag7 (oz 5 (vd 6 (gH (rF aha Py zH ag9) Px Px wI wI) Py ahb (ln kN) ag8 [F2,kU]) (oz 6 (vd 7 (gH (rF ahd Pz zH [ZH,ZK]) wI wI Af Af) Pz ZI (ln jL) ahc [Iw,pA]) (oz 7 (vd 8 (gH (rF ahg PD zH ahf) Af Af PA PA) PD ZL (ln jk) ahe [yq,mH]) (oz 8 (vd 9 (gH (rF ahj PI zH ahi) PF PF Ag Ag) PI ZM PE ahh ZN) (jA 9 (jA 10 (gH (rF PL (eU (rF PL PM (.v 4) [ZP,ZS]) Ag Ag) zH ahk) PJ PJ PK PK) ZQ ZR Ls) (ng 10 (IA (eU (IA (dF PQ PQ PM Fp HH) ahm) PO PO) ahl) (jX n8) (ln iG) PN PN Ls) PE T3) ZO mH) ZJ pA) ZE kU) ZG wB) (oU dM) ym) Ub ag5) OS ag2)) TY arx) arA Zl Ii Ii)) K1 oN [iM (pX 0) (pX 1) (pX 2) (pX 3)]) (tW 1 (m9 67 (.aK (zT dA) Ix arA) TY oN arx) (jA 2 ag4 (jA 3 ag6 (oz 4 ag7 (oz 5 (vd 6 (gH (rF aha Py sj ag9) Px Px wI wI) Py ahb (ln kN) ag8 [F2,kU]) (oz 6 (vd 7 (gH (rF ahd Pz sj [ZH,ZK]) wI wI Af Af) Pz ZI (ln jL) ahc [Iw,pA]) (oz 7 (vd 8 (gH (rF ahg PD sj ahf) Af Af PA PA) PD ZL (ln jk) ahe [yq,mH]) (oz 8 (vd 9 (gH (rF ahj PI sj ahi) PF PF Ag Ag) PI ZM PE ahh ZN) (jA 9 (jA 10 (gH (rF PL (eU (rF PL PM Bo [ZP,ZS]) Ag Ag) sj ahk) PJ PJ PK PK) ZQ ZR Ls) (ng 10 (IA (eU (IA (dF PQ PQ PM oN Fo) ahm) PO PO) ahl) (jX n8) (ln iG) PN PN Ls) PE T3) ZO mH) ZJ pA) ZE kU) ZG wB) (oU dM) ym) Ub ag5) OS ag2) Zl Ii Ii) TV Ig Ig) pQ (lC qV iK) (lC qU iK)) [eI,aM,af3]) Bu (gW oR lB) [jd]
def BP:T:=kP 174 (.aK (lC tI (.c 300)) (jO Dj) arI) arI (fM tI) [jd,eI] [dp,dp,dp,dp,dp,dp,dp,dp,dp,dp,dp,dp,dp,dp,dp]
def T90:T:=Aq 73 (Qe 34 (zK (aW pV)) (Qe 41 (zK OV) (Aq 74 (ng 0 (dF (py [PU,KT,Ov,Lx,nh 4,nh 5,nh 6]) (eU (jA 1 arK (eU (jA 2 arN (py [PU,lj,nh 12,nh 13,nh 14,nh 15,nh 16]) ZZ arL) ZU ZV) ZW arJ) ZU ZV) (eU (jA 1 arK (eU (jA 2 arN (py [PU,.bool (eJ IB Lh),nh 12,nh 13,nh 14,nh 15,nh 16]) ZZ arL) ZU ZV) ZW arJ) ZU ZV) (.cell tH oS 17) sj) (jA 1 (gH (.aS (Ds Uc Z1 Z2 Z3 Z4) (PV arO arO arP arP (yb Uc Bo Z1 zH (yb Z2 (.v 4) Z3 (.v 5) (.dw Z4 (.v 6) gA))) sj (fM ahy))) (.and ZX ahx) (km ID ID qL) (Pa (dR ID) (gO ID) (iT ID)) (.and ZX ahx)) (Aq 98 (m8 70 (ng 2 (Aq 171 (jW 98 (dF (zK (dS 92)) (m8 70 arS ahz ahz pw) (m8 70 arS arT ahz pw) (wz 92) (.v 7)) [Z5,lG C9 (.v 74),lG C9 (.v 75)] pw) (wz 87) [.agg [Ia,Ib,O4,Ue,dS 65,PW,dS 67,Lz,LA,LD,LF,LG,LH],.agg [sI 0,sI 1,sI 2,sI 3,sI 4,sI 5,sI 6,sI 7,sI 8,sI 9,sI 10,sI 11,sI 12,sI 13],iM (sI 14) (sI 15) (sI 16) (wH 17 Lf tH)] Tt (dS 87) H5) (jX arT) (cN Lf wC) arR arR [aM,Ld,FM,FN,FO,iS,kO,jc,kh,gN,mF,mE,qP,pT,qR,sx,qS,uU,kf]) arQ arQ pw) (fM O5) [Z5,lG C9 fm,lG C9 dA] Tt Lc pw) ahx [aM,Dc bK Z0,aW Z0,Dc bK Z0,aW Z0]) ahw (.and ZT ahw) (.and ZT ahw) [aM,kf,kf,kf,kf,kf,kf]) pQ [qO,uR] Tt (nW 270) [n7 227,.bool]) (fM nf) [wn,HX,K4,FC,TG,TH,TJ,TK,zV,zU,Oy,FD,dS 32,aW FE,aW Bz,aW FP,aW tK]) (fM pV) Y3) (fM tI) [.agg [ki,iJ,gM,lf,pP,HO,oO,KW,zM,qN,wm],eI,jy] Tt Dj H4
def fw:T:=jW 113 (dF (jO (aW Bz)) (tW 0 (Qe 41 (DN (jO (nW 280)) (wJ 1 (BJ 1 1 [kG 0 tI,kG 0 tI,kG 1 tI,kG 2 tI,wH 3 tI uP] (iB tI) wn TP) (jW 73 (eU (ng 2 (jW 171 (dF (Lu [iB nf,K8,FO,FI,Lg,H6,H7,H8,H9,Ia,Ib,O4,Ue,dS 65,PW,uR]) (wO nj nj (ij F8 nj ahA BM (gW (tV 8 nf) (iU 4))) F9 F6 F5 F7) (dF (wO nj nj (ij F8 nj ahA BM (gW (tV 8 nf) (iU 5))) F9 F6 F5 F7) (wO (wL Ug (mG (iU 12) (iU 13) P3 Z9 aaa aab) F8 nj ahB ahC) (O9 pZ pZ (nY 219 219 (gH (jN 220 F8 nj (gW (DE KZ (mG (iU 6) (iU 7) (iU 8) Z9 aaa aab) ahE) (DE tE (mG (iU 9) (iU 10) P5 Z9 aaa aab) (.v 89))) [KY,Z8]) ahB ahC ahB ahC) [ahD,aW pZ] [lF (BC TQ HZ (mG La O5 OJ (iT pZ) (kS pZ) (jP pZ)) (dR pZ) (gO pZ)) (BC HY OY (mG H0 H3 (.v 53) (iT pZ) (kS pZ) (jP pZ)) (dR pZ) (gO pZ)),aW pZ] rz rz) (Ds (dR pZ) (gO pZ) (iT pZ) (kS pZ) (jP pZ))) Ui F9 F6 F5 F7) (dF (wO arZ (O9 p7 p7 (nY 219 219 (gH (jN 220 F8 nj (gW (DE KZ (mG (iU 6) (iU 7) (iU 8) aac aad aae) ahE) (DE tE (mG (iU 9) (iU 10) P5 aac aad aae) (.v 89))) [KY,Z8]) ahF ahG ahF ahG) [ahD,aW p7] [lF (BC TQ HZ (mG La O5 OJ (iT p7) (kS p7) (jP p7)) (dR p7) (gO p7)) (BC HY OY (mG H0 H3 (.v 53) (iT p7) (kS p7) (jP p7)) (dR p7) (gO p7)),aW p7] rz rz) (Ds (dR p7) (gO p7) (iT p7) (kS p7) (jP p7))) Ui F9 F6 F5 F7) (wO (.aK (gW Ug P3) F8 nj) (nY 219 219 (jN 220 F8 nj (gW (kQ (kQ KZ (iU 8)) ahE) (kQ (kQ tE P5) (.v 89))) [KY,Z8]) [ahD,zS] [lF FM FN,zS] rz rz) Ui F9 F6 F5 F7) (nc (UC (Uz (.aK P1 nj (.aK P2 nj Ui)) F7 []) F9 F6 F5) (wO nj nj (dF nj ar0 Ie BM LO) F9 F6 F5 F7) (UC (Uz (.aK P1 arZ (.aK P2 nj Ui)) F7 []) F9 F6 F5) (wO nj (DN nj (.stuck "") (yb (gO rG) gA (iT rG) gA (FT (kS rG) (jP rG) (yb ahH lg ahI gA (.dw ahJ gA ar1))))) (PV nj ar0 nj Ie BM LO (yb (gO rG) gA (iT rG) gA (yb (kS rG) gA (jP rG) gA (yb ahH gA ahI gA (.dw ahJ lg ar1))))) F9 F6 F5 F7) ahI ahJ (eJ rG Bn)) (jP rG) ahH) (iT rG) (kS rG)) arX (gO rG)) [.agg [Y4,OW,zW,TR,OX,K9,OZ,TS,FH,Lc,Ld,FM,FN],Z8,iM (aW (IF 1 1 PZ bK kj)) arW (aW Ug) (.bool arX)] H5) ar2 (cN nf kF) arV arV [aM,jy,iS,kO,jc,kh,gN,mF,mE,qP,pT,qR,sx,qS,uU,cT]) Z7 Z7) YY H4) (tJ tI) (su tI (tJ tI)) (su tI (tJ tI))) (.not (zT FP))) (py [iB FP]) (fM tK) [FV 0 FP oQ,tZ 1,tZ 2,tZ 3,tZ 4,tZ 5,tZ 6,tZ 7,tZ 8,tZ 9,tZ 10,tZ 11,tZ 12,tZ 13,tZ 14,tZ 15,tZ 16]) (wJ 1 (BJ 1 1 [kG 0 tK,kG 0 tK,kG 1 tK,kG 2 tK,wH 3 tK uP] (iB tK) wn TP) (jW 73 (eU (ng 2 (jW 171 (dF (Lu [iB pV,FM,FN,FO,FI,Lg,H6,H7,H8,H9,Ia,Ib,O4,Ue,uR]) (wO nq nq (ij Ge nq ahK BM (gW (tV 8 pV) (iU 4))) Gf Gb Ga Gc) (dF (wO nq nq (ij Ge nq ahK BM (gW (tV 8 pV) (iU 5))) Gf Gb Ga Gc) (wO (wL Ul (mG (iU 12) (iU 13) P3 aag aah aai) Ge nq ahL ahM) (O9 p8 p8 (nY 219 219 (gH (jN 220 Ge nq (gW (DE KZ (mG (iU 6) (iU 7) (iU 8) aag aah aai) ahO) (DE tE (mG (iU 9) (iU 10) P5 aag aah aai) PY)) [KY,aaf]) ahL ahM ahL ahM) [ahN,aW p8] [lF (BC FL TQ (mG HZ La O5 (iT p8) (kS p8) (jP p8)) (dR p8) (gO p8)) (BC (.v 43) HY (mG OY H0 H3 (iT p8) (kS p8) (jP p8)) (dR p8) (gO p8)),aW p8] rz rz) (Ds (dR p8) (gO p8) (iT p8) (kS p8) (jP p8))) Un Gf Gb Ga Gc) (dF (wO ar6 (O9 p9 p9 (nY 219 219 (gH (jN 220 Ge nq (gW (DE KZ (mG (iU 6) (iU 7) (iU 8) aaj aak aal) ahO) (DE tE (mG (iU 9) (iU 10) P5 aaj aak aal) PY)) [KY,aaf]) ahP ahQ ahP ahQ) [ahN,aW p9] [lF (BC FL TQ (mG HZ La O5 (iT p9) (kS p9) (jP p9)) (dR p9) (gO p9)) (BC (.v 43) HY (mG OY H0 H3 (iT p9) (kS p9) (jP p9)) (dR p9) (gO p9)),aW p9] rz rz) (Ds (dR p9) (gO p9) (iT p9) (kS p9) (jP p9))) Un Gf Gb Ga Gc) (wO (.aK (gW Ul P3) Ge nq) (nY 219 219 (jN 220 Ge nq (gW (kQ (kQ KZ (iU 8)) ahO) (kQ (kQ tE P5) PY)) [KY,aaf]) [ahN,zS] [lF Lc Ld,zS] rz rz) Un Gf Gb Ga Gc) (nc (UC (Uz (.aK P1 nq (.aK P2 nq Un)) Gc []) Gf Gb Ga) (wO nq nq (dF nq ar7 Ie BM LO) Gf Gb Ga Gc) (UC (Uz (.aK P1 ar6 (.aK P2 nq Un)) Gc []) Gf Gb Ga) (wO nq (DN nq (.stuck "") (yb (gO rH) gA (iT rH) gA (FT (kS rH) (jP rH) (yb ahR lg ahS gA (.dw ahT gA ar8))))) (PV nq ar7 nq Ie BM LO (yb (gO rH) gA (iT rH) gA (yb (kS rH) gA (jP rH) gA (yb ahR gA ahS gA (.dw ahT lg ar8))))) Gf Gb Ga Gc) ahS ahT (eJ rH Bn)) (jP rH) ahR) (iT rH) (kS rH)) ar5 (gO rH)) [.agg [OV,K8,Y4,OW,zW,TR,OX,K9,OZ,TS,FH,Lc,Ld],aaf,iM (aW (IF 1 1 P6 bK kj)) ar4 (aW Ul) (.bool ar5)] H5) ar2 (cN pV kF) ar3 ar3 [aM,iS,kO,jc,kh,gN,mF,mE,qP,pT,qR,sx,qS,uU,cT]) Z7 Z7) YY H4) (tJ tK) (su tK (tJ tK)) (su tK (tJ tK))) (cN FP oR) arU arU) (jO (nW 280)) (fM Bz) (t8 oR)) [jd,eI,jy,.agg Y3,qN] H5
def ai9:T:=jN 40 (iA ahU jy) (IJ 0 (dF (eU (jN 106 (nZ (iB LP) kO) (nZ iS (aW LP)) (oU gF) [gG 0 LP (.v 4),eI]) (km LP LP Dd) (km LP LP Dd)) (eU (jN 106 (iA ahU (nW 300)) (eU (ow [wN 0,aW YX,wN 2,wN 3,wN 4,wN 5,wN 6,wN 7,wN 8,wN 9,wN 10,wN 11,wN 12,wN 13]) OP OP) (.not Bw) [wN 0,eI]) OP OP) (iA ahU (nW 300)) (cN fm dA) agp) [aM,aW Dd]) Bu [jd]
def T63:T:=kP 71 YW (Aj 0 (ko (nZ Tw wm) YZ [iS] Y0) (ng 1 (BL 0 0 0 (BL 0 0 0 (gH (IZ 0 (ik 1 uS qO) (.set (.ak uQ) Ur 0 [OC (iL (HS oQ) pS) ar9]) []) lg lg (km Ur Ur ye) (km Ur Ur ye)) pS (.dE 0 ahW [uN dA oQ]) J) kj (.dE 0 ahW [HS oQ]) J) (oz 2 (BL 0 0 0 (ik 2 ya uR) pS (.dE 0 ahW [gF]) J) (jX wn) (yg gF) wm) ahV (HR ahV) (HR ahV) [aM,qN]) Ym) Bu [jd,eI] [n7 188,dp]
def I1:T:=Bq ye P7 gm (ij gm ase ase (gW iK Fv) (eQ iK (.c 12))) (LQ Dd 40)
def UF:T:=wq iK lB gm asf asf (gW iK qL)
def ajb:T:=wq Tm P7 (wj (eQ (wv 3) P7)) gm gm (eQ wt P7)
def ajc:T:=tY (wK (fZ Bt) Oq TA) (fZ cT) Tz
def ajd:T:=wJ 0 (nc gm gm gm (BJ 1 0 [aW Dt,lj] Ou HN (.ak px)) (oU Dt) (qQ Dt cL) (BK 1 1 Dt bK px)) zI TC FA FA
def aje:T:=DV 15 (iA Qb jc) LR (nc LR LR LR (eU (nc LR LR LR (tY (DT 0 (tY (DT 0 (IW 0 (DL asg (IX 0 ash DJ DJ IL aaq) (I0 (IX 0 ash DK DK IL aar) asg) tX tX IK BB) (DL asi (IX 0 asl DJ DJ IL aaq) (I0 (IX 0 asl DK DK IL aar) asi) tX tX IK BB) PB yj FX zZ) wE Lv wF F1) (UA (Ah 0 (wK (DL asm aau (I0 aav asm) tX tX IK BB) aas aat) Fz) (DL (jX ah3) aau (I0 aav (jX ah3)) tX tX IK BB)) Qc) Ij FJ Ik Dm) (tY (DT 0 (UA (Ah 0 (wK (DL asn (IX 0 aso DJ DJ Qd aaq) (I0 (IX 0 aso DK DK Qd aar) asn) tX tX IK BB) aas aat) Fz) (DL asp (IX 0 asq DJ DJ Qd aaq) (I0 (IX 0 asq DK DK Qd aar) asp) tX tX IK BB)) Ij Lv Ik F1) (IW 0 (DL asr aau (I0 aav asr) tX tX IK BB) (DL ast aau (I0 aav ast) tX tX IK BB) Ij yj Ik zZ) Qc) ah1) (dR aao) (oU dA) (gW dA lB)) In In) (qQ em zN) (oU fm) (qQ fm lI)) (fM gF) (oU em) Gg
def aaZ:T:=DV 26 (fZ jy) (ij (ij nu (sG 0 (jz (jz nu K1 Pb Pb (Gj aao (Qa fm pS P9))) nu In In (zT aao)) (sG 1 (jz (jz asv asw aaw aaw (dR (HS HQ))) asw tL tL (gO IN)) ov (cN dA wC)) (cN fm lI)) nu (t8 wC) (.not (t8 zN))) nu nu (zT jM) (yg jM)) nu Bu (eQ lI kF) [qa]
def ajf:T:=DV 40 (fZ eI) (ij (ij zO (sG 0 (jz zO (py [II]) P8 P8 (Gj (.len ahY) lB)) (IJ 1 (Bp qU bK (eU (jN 41 (fZ kO) (uX 1 Tw) (fM dA) agy) Ig Ig) (DN nu (sG 2 (jz (Gl 42 nu (uX 2 uS) [.ak (oT dA kj Ly),aW qV]) nu Ii Ii (t8 (.len (oT dA kj Ly)))) (tW 3 (tW 4 (qT 43 nu (uX 4 Zq) (.not (dR jk)) ary jc pw) (m8 44 (tW 5 (ij nu (sG 6 (IC (eU (ij asy (LU nu asy aay aay (dR (.len (oT kN aax uT)))) nu (.beq aia (BG ah9 Uu)) aia) asx asx) Iv ah8 Iv ah8 (fu kN lI Iv) (fu kN lI Iv)) (uX 5 F2) ah8) nu (t8 (.len Uu)) (.not (t8 (.len aax)))) (uX 3 ya) ah7 (.and (gV lD) ah7) (.and (gV lD) ah7)) jd jc [yC,dp]) Ub ZF ZF) (wJ 4 (BJ 1 4 [gG 0 iu (.v 4),.bool (lC (Dh 3 iu) cK)] Zq xW Dm) (tW 5 (ij (uX 5 Lr) (LU nu (uX 5 Lr) asz asz (gW agC (iL (sq dM) uQ))) nu (BK 1 1 agC bK tG) By) ov (cN dM ye) Zr Zr) aib (.and BD aib) (.and BD aib)) OS OT OT) Zl) (eJ kF lZ)) nu TV) zQ) aan) zO (eQ qU lB) (Gj lZ (.c 64))) zO zO (eQ iK (.c 12)) (eQ qV OO)) zO Yj (eQ oR lB) [jd]
def asT:T:=jN 26 ny (wJ 0 (jW 27 (Ai 0 (vf 0 (nZ II wB) FJ yj (uY [xW]) Dm zZ) Y3) [iM (FV 0 em kg) (DR 1 em) (DR 2 em) (DR 3 em)] H5) (wK (ow [cT,aM,qO,xW,kf]) (.and (gV lI) FJ) (.xo lI zQ)) (ln em) (.and yw (ln em)) (.and yw (ln em))) Yj [qa]
def asU:T:=uW ny (uW ny (uW ny (ow [aW Yu,aW Yy,gM,aM,aM,aM,aM,aM,aM,aM,aM,aM,aM]) Fo [gM,aM,aW zJ]) oN [iJ,aM,Tu]) pQ [ki,aM,Tu]
def UG:T:=.aK Yk (DV 15 (qM [Qb,cT,iS]) (qM [Qb,cT,dZ]) (tY (DT 0 (tY (DT 0 (IW 0 (vf 0 (BN pC mH mI cT) yk T4 DO rD Iu) (vf 0 (BN mI mH cT cT) yk PB DO rD FX) PB yj FX zZ) wE Lv wF F1) (UA (Ah 0 (wK (vf 0 (BN mI cT mH cT) yk PB DO rD FX) aas aat) Fz) (vf 0 (BN mH cT cT cT) yk wE DO rD wF)) Qc) Ij FJ Ik Dm) (tY (DT 0 (UA (Ah 0 (wK (F3 0 (BN mI kU mH cT) PB DO FX) aas aat) Fz) (F3 0 (BN mH kU cT cT) wE DO wF)) Ij Lv Ik F1) (IW 0 (F3 0 (BN mH cT kU cT) wE DO wF) (F3 0 (qM [ah3,cT,aM]) Ij DO Ik) Ij yj Ik zZ) Qc) ah1) Di (qQ lI kF) Gg) (jW 37 (dF (qM [Qb,cT,iS]) asA (m9 38 asA (tY (DT 0 (tY (DT 0 (IW 0 (vf 0 (LV (jA 0 (jz (Ap pD tQ BH) (vf 0 (gH (LV (jz (Ao 0 (IM dA (Ao 0 (Ap Pw (xV 28) (xV 29)) (pz (wv 24)) (pz (wv 24)) (.set (BF 24) dA 0 aaE)) (pz Pu) [xV 27] Pm) (pz Pu) lg aaD) (Ap Pw tQ BH) IS IS aaC)) tL tL DM DM) (lH (wv 22)) (TZ 25) aaB T2 (BF 25)) IR IR aaz) (BN qW tQ BH pD) Uv [aM,cT,pB,n8])) wE (lH Dy) IQ wF Pq) (vf 0 (Ql 0 aid [aM,cT,pB,cT]) wE PH IQ wF F0) PH yj F0 zZ) Dw Lv yp F1) (IW 0 (vf 0 (Ql 0 aid [aM,cT,cT,pB]) wE PH IQ wF F0) (vf 0 (Ql 0 aie Zk) wE Dw IQ wF yp) Dw yj yp zZ) Qc) yk FJ rD Dm) (tY (DT 0 (IW 0 (F3 0 (Ql 0 aid [aM,cT,pA,pB]) PH IQ F0) (F3 0 (Ql 0 aie [aM,cT,pA,cT]) Dw IQ yp) Dw yj yp zZ) yk Lv rD F1) (IW 0 (F3 0 (Ql 0 aie [aM,cT,cT,pA]) Dw IQ yp) (F3 0 (LV (jA 0 (jz (Ap mH pB mI) (vf 0 (gH (LV (jz (Ao 0 (IM dA (Ao 0 (Ap pC pD tQ) (pz Lt) (pz Lt) (.set F0 dA 0 aaE)) (pz (wv 17)) [qW] FX) (pz (wv 17)) lg aaD) (Ap pC pB mI) IS IS aaC)) tL tL DM DM) Dw T4 aaB yp Iu) IR IR aaz) (BN pA pB mI mH) Uv Zk)) yk IQ rD) yk yj rD zZ) Qc) ah1) oN aic) Di C6) IP [n7 132,dp])
def aa0:T:=jN 47 (jO iS) (jW 48 (Aj 0 (jz (ko aaG yk [kO] rD) (nZ uS kU) Qg Qg (BG dA rC)) (jX kU) aaF) IP [.ak Du]) Di IP
def ajg:T:=eU (Aj 0 (IC (ko (nZ II xW) FJ [FV 0 Qh uP,t7 1,t7 2,t7 3,t7 4,t7 5,t7 6,t7 7,t7 8,t7 9,t7 10,t7 11,t7 12,t7 13,t7 14,t7 15,t7 16] Dm) yw aif yw aif (km Qh Qh qV) (km Qh Qh qV)) (fZ qO) aif) aam aam
def ajh:T:=tW 0 (nY 55 58 (dF asC asC (py [II]) oN Di) [qa,eI] [jd,af4,kU,.agg [gG 0 em rC,FU 1 em rC Du,FU 2 em rC Ih,FU 3 em rC Ih,FU 4 em rC Us,FU 5 em rC (.sl 139)]] [n7 85] K3) zI aig aaH aaH
def aa1:T:=F4 15 (nc (fZ iS) Db Db (wL em (.len Ux) Db ov Qi Qi) Di (qQ lI kF) (cN em cK)) Gg
def aji:T:=m8 44 (Aj 0 (wL IN cK (eU (tR 1 aaG [zR 0 rC,iB (IF 1 1 (HS rC) bK FW)] rD) Qg Qg) (nZ uS kU) tL tL) (Aj 1 (gH (eU (jz (ko (ik 1 ya mH) wE [.bool (dR (IF 1 1 aaK bK FW))] wF) (ko (ik 1 ya mH) wE [kf] wF) asD asD (BG gF (oT Uy Ux Du))) aaJ aaJ) aaI aaI Qi Qi) (fZ pA) aih) aaF) jd aaA [yC,dp]
def aa2:T:=UB 30 31 (jN 16 zI (F4 16 (wj (gW fm De)) Gg) (eQ em (.c 40)) Gg) oN Fo [qa] [wM]
def aa3:T:=Aq 28 (wJ 0 (qT 29 (tR 1 aaG [Tx,lj] rD) (tR 1 aaG [Tx,.bool (gO (Dh 3 dA))] rD) sj uR Tx [dp,.bool]) (gH (oz 1 (gH (ng 2 (ij (DD 2 F2) (DD 2 mF) (DD 2 mF) (BK 1 1 (iL dM aii) bK FW) (.not (.cell aii dM 3))) (ik 1 ya mF) aij (.and sF aij) (.and sF aij) [aM,kh]) aaI aaI asF asF) (jX kh) aih aM) Qi Qi aaJ aaJ) Yn Oo Oo) Di IP aM iS [yC,dp]
def ajj:T:=Bq wt (.c 40) gm (C8 (sG 0 (wL (Qa da px Ih) KP gm Yo Ox Ox) zI (cN da wt)) (LQ Tm 40)) (LQ iK 100)
def aa4:T:=vd 0 (eU (nZ II (lG fm (oP cK (.len ahY)))) P8 P8) asG asG aan (eQ fm De) [aaA,dZ]
def ajk:T:=IJ 0 (dF (eU (ij (nZ (iB IT) gM) asH asH (lC aik aik) (.not afY)) (km IT IT iK) (km IT IT iK)) (jz (iA iJ lj) (jz (iA iJ (.bool afY)) (iA iJ kf) FA FA (lC Dt Dt)) FA FA (eJ Dt cL)) (iA iJ kf) (cN da gL) TC) [aM,aW iK]
def asV:T:=nY 10 11 (nY 12 12 (nY 12 8 (nY 8 8 (nY 8 8 (dF ny ny (dF ny ny (dF ny ny (dF ny ny (PV ny (Ah 0 (m9 13 (ij (Ah 0 (m9 13 (ij (Ah 0 (m9 13 (.aK (gO ou) (wj (gO pR)) ny) ny zH [pA,pC]) (.lit [[dZ],zQ])) ny ny (dR iw) (dR iG)) ny Bo [kU,n8]) (.lit [zQ,zQ])) ny ny (gO kN) (eJ jL xY)) ny sj [wB,mI]) (.lit [[dZ],zQ])) ny ny (dR (.v 28)) (gO fm) Bw) (wz 22) (lC (.v 25) cK)) Io Tk) (fM iu) (lC lD cK)) Bu (fM dA)) [qa,wM,HL] [.agg [aM,aM,aM,aM,aM,cT,aM,cT,cT,cT,cT,cT,cT,cT,cT,cT],wM,aM] Qj Qj) [qa,wM,aM] [qa,wM,dZ] Qj Qj) [qa,wM,aM] [qa,wM,aW Bn] xS Qj) [qa,wM,dZ] [qa,wM,tD] xS xS) [] [qa] [dp,dp,dp,dp,dp,n7 92,dp,n7 94,n7 255,n7 257,n7 89,n7 141,n7 85,n7 39,n7 63,yC] aaL
def asW:T:=Ai 0 (Ai 0 (Ah 0 (nY 25 25 (jW 25 (IZ 0 (IZ 0 (IZ 0 (IZ 0 (IZ 0 (IZ 0 (IZ 0 (fZ (.agg [aW Da,aW KP,dZ,aM,dZ,Fy,tD,Bt,cT,cT,HN,cT,uR,xW,kU,pA])) (uY [pu]) []) (.lit [[ym],[wB]]) []) (uY [wm,wn]) []) (.lit [[HO,KW],[zM,qN]]) []) (uY [qO]) []) DO []) (uY [.ak (.k (.string ⟨#[98]⟩)),aW P7,nW 60,dZ,zS,tD,dZ,dZ,dZ,nW 90,nW 90,nW 90,pu,pu,pu,nW 100,nW 30]) []) [iM zS aM aM kf] ail) [iM pu aM aM kf] [iM pu aM aM lj] ail ail) (.lit [[pu,aM,aM,tD,dZ,dZ,dZ,aM,zS,aM,aM,dZ,dZ,dZ],[zS,aM,dZ,dZ,dZ,dZ,dZ,aM,zS,aM,aM,dZ,dZ,dZ]])) [aM,Tu,aM]) [.ak (.k (.string ⟨#[97]⟩)),Ow,Ow,aM]
def asX:T:=Ai 0 (Ai 0 (Ai 0 (fZ (lF Fy HN)) [Bt]) [ki,iJ,gM,ss]) [lj]
def asY:T:=.aK (lC iK wt) ny (tW 0 (jz ny (py [iB cL]) asI asI (lC Yt (iL cL px))) zI TE wu wu)
def ajl:T:=jW 22 (ng 0 (jW 23 (py [ya,pC,gN,qW,pD,Lx]) [qa,asJ,Fw (gG 1 gF Dv) (gG 2 gF Dv) (gG 3 gF Dv)] aaL) (fZ asJ) ain (K6 ain) (K6 ain) [aM,wB,iS,kU,pA,KT]) IP aim
def ajm:T:=F4 15 (nc (qM [cT,aM,aM,iS]) asK asK (wK (oz 0 (wL asL De (qM [cT,aM,aM,tD]) (nZ uS (aW asL)) Qg Qg) (jW 308 (qM [kU,gN,kh,aM]) [wM,cT,aM,qa,wM,jy,aM,lF cT HL] aio) aaF dZ) (.and (gV lI) (eQ lI kF)) (.sub (.ak pS) lI kF)) Di (oU em) (gW em De)) Gg
def aa5:T:=ij (jW 35 (iA jc (lF mI iJ)) [HO] [yC]) (iA jc (lF pB kh)) (IJ 0 (eU (ij (.aK pQ (jW 21 (dF asN asN (nY 12 20 (ko (jW 308 (py [Lr,qS,tQ,uU]) [An n8 sx pC qW Lx,pD,xU da jk,aaM,asP,kO,F2,lF mI mE] aio) (lH (wv 3)) [gN] (BF 3)) aip aip xS asO) Fo (fM jL)) aip K3) aiq) aiq aiq (eQ dM (Qa iK HQ P9)) (cN lD dA)) (km iK iK zN) (km iK iK zN)) [dZ,jc,pB,kh]) (eJ iK zN) (gW da iu)
def aa6:T:=Aq 37 (FB 38 (jX KT) aic) Di IP kf iS [n7 132,dp]
def ajn:T:=jA 0 (jz (nY 21 12 (dF IU IU (dF IU IU (kP 22 IU (ng 1 (kP 23 IU (Im [yq,pT,BH,sx,T8,Pw,nh 5]) Tk [qa,An qW qR pD tQ (nh 4),Fw (uZ 1) (uZ 2) (uZ 3)] aaL) (py [II,pT,qW,qR,pD,tQ,nh 4]) agF Zu Zu [aM,xU fm iu,pB,mF,mI,n8,Lx]) TX aaN aim) (fM gF) (fM dM)) sj Fo) aaN aaN K3 xS) (kP 22 IU (ng 1 (kP 23 IU (Im [Lr,mF,BH,qP,T8,Pw,nh 4]) Io [qa,An qW mE pD tQ Lx,Fw (Gk 1 dM) (Gk 2 dM) (Gk 3 dM)] aaL) (py [II,mF,qW,mE,pD,tQ,Lx]) air (.and sF air) (.and sF air) [aM,iS,pB,jc,mI,n8,Ov]) (fM iu) aaN aim) aaH aaH (fM (iL em rC))) (iA iS (.bool (eJ TW kF))) aig [aM,aM,qO,eI,xW,ym,ss]
def ajo:T:=m9 14 (jN 15 (wq em De (F4 16 (wj (eQ dA De)) Gg) gm gm (zT em)) gm Ol Gg) gm sj Gg
def ajp:T:=m9 6 gm (DC 7 zI (jW 8 (dF gm gm (Bq dA em gm (kP 9 (wj (eJ iu fm)) gm zH aic [dp,.bool]) (oU dA)) (fM gF) (lC Lk (sn kF lI))) IP Qj) IP) oN []
end
def vj:Nat->Nat
 |0=>11|d+1=>18+3*d
def I2(j:Nat):List C:=(dj 13).map λq=>.int I (.cell (.cell (.v (vj j)) (.c 0) 0 (.sl 108)) (.v (12+j)) q)
def UH:Nat->T->T
 |0,t=>t|n+1,t=>.aS (.c J) (UH n t)
def Qm:List C:=[(.int I (.v 0)),(.int I (.v 1)),(.int I (.v 2)),(.int I (.v 3)),(.int I (.v 4)),(.ak (.v 0)),(.int I (.v 5)),(.ak (.v 1)),(.ak (.v 2)),(.ak (.v 3)),(.ak (.v 4))]
def acT(d:Nat):T:=
 .call 55 [(.agg (Qm++[(.ak (.v 5)),(.ak (.v 6)),(.ak (.v 7)),(.ak (.v 8)),(.ak (.v 9))])),(.int I (.v 6))] [] [] [(.ak (.sl 85))] .any
  (.call 54 [(.agg Qm),(.agg [(.ak (.v 5))]),(.ak (.v (21+5*d))),(.int I (.len (.v 10))),(.ak (.v 13)),(.ak (.v (20+5*d))),(.ak (.v (17+3*d)))] [] [] [(.int I),(.ak (.sl 4)),(.ak (.sl 108)),(.ak (.sl 108)),(.ak (.sl 101)),(.ak (.sl 139)),(.int I)] .any
  (.aK (.cmp .neq (.v (14+d)) (.c 0))
  (UH (d+1) (.ret (.bI [(.ak (.k (.slice Z 0 0))),(.int I (.v (14+d)))]) [] []))
  (.aS (.c J)
   (.new 0 (.lit [[(.int I (.v (13+d))),(.ak (.v (22+5*d))),(.ak (.v (23+5*d))),(.ak (.v (24+5*d))),(.ak (.v (25+5*d))),(.ak (.v (26+5*d)))]]) [] []
   (.aS (.and (.cmp .leq (.len (.v (16+3*d))) (.c 536870912)) (.cmp .leq (.len (.v (27+5*d))) (.c 536870912)))
   (.new 0 (.iC (.ak (.v (16+3*d))) (.ak (.v (27+5*d)))) [] []
   (UH (d+1) (.back (2+d) [(.int I (.bin .add I (.v (12+d)) (.c 1))),(.ak (.v (28+5*d))),(.ak (.v (17+3*d)))]))))))))
def UI(d:Nat):Nat->Nat->T
 |0,_=>acT d
 |j+1,m=>.aS (.c J)
  (.new 0 (.lit [I2 j]) [] []
  (.aS (.and (.cmp .leq (.len (.v (19+3*d+2*m))) (.c 536870912)) (.cmp .leq (.len (.v (18+3*d+2*m))) (.c 536870912)))
  (.new 0 (.iC (.ak (.v (19+3*d+2*m))) (.ak (.v (18+3*d+2*m)))) [] []
  (UI d j (m+1)))))
def acI:Nat->List C
 |0=>[(.int I (.c 0)),(.ak (.k (.slice Z 0 0))),(.ak (.v 15))]|d+1=>[(.int I (.c 0)),(.ak (.v (16+3*d))),(.ak (.v (17+3*d)))]
def acE:Nat->T
 |0=>.ret (.bI [(.ak (.v 16)),(.int I (.c 0))]) [] []|d+1=>.back (2+d) [(.int I (.bin .add I (.v (12+d)) (.c 1))),(.ak (.v (19+3*d))),(.ak (.v (20+3*d)))]
def acL:Nat->Nat->T
 |0,d=>.loop (2+d) [] (acI d) (.stuck "fuel")
 |n+1,d=>.loop (2+d) [] (acI d)
  (.aK (.cmp .lss (.v (12+d)) (.len (.cell (.v (vj d)) (.c 0) 0 (.sl 108))))
   (.aS (.and (.cmp .leq (.c 0) (.v (12+d))) (.cmp .lss (.v (12+d)) (.len (.cell (.v (vj d)) (.c 0) 0 (.sl 108)))))
   (.aS (.and (.cmp .leq (.c 0) (.v (12+d))) (.cmp .lss (.v (12+d)) (.len (.cell (.v (vj d)) (.c 0) 0 (.sl 108)))))
   (.aS (.cmp .leq (.c 1) (.len (.v (vj d))))
   (.new 0 (.sub (.ak (.v (vj d))) (.c 1) (.len (.v (vj d)))) [] []
   (.aK (.cmp .eql (.len (.v (18+3*d))) (.c 0))
   (.aS (.c J)
   (.new 0 (.lit [I2 d]) [] []
   (.aS (.cmp .leq (.len (.v (19+3*d))) (.c 536870912))
   (.new 0 (.iC (.ak (.v (19+3*d))) (.lit [])) [] []
   (UI d d 1)))))
   (.aS (.cmp .lss (.c 0) (.len (.v (18+3*d))))
   (.aS (.cmp .lss (.c 0) (.len (.v (18+3*d))))
   (acL n (d+1)))))))))
   (acE d))
def ajr:T:=(.call 47 [(.agg [(.int I (.v 0)),(.int I (.v 1)),(.int I (.v 2)),(.int I (.v 3)),(.int I (.v 4)),(.ak (.v 0)),(.int I (.v 5)),(.ak (.v 1)),(.ak (.v 2)),(.ak (.v 3)),(.ak (.v 4)),(.ak (.v 5)),(.ak (.v 6)),(.ak (.v 7)),(.ak (.v 8)),(.ak (.v 9))]),(.agg [(.ak (.v 10)),(.int I (.v 6)),(.ak (.v 11)),(.ak (.v 12)),(.bool (.v 0))]),(.int I (.v 7))] [] [] [.int I] .any (.aK (.cmp .neq (.v 8) (.c 0)) (.ret (.bI [(.ak (.k (.slice Z 0 0))),(.int I (.v 8))]) [] []) (.loop 0 [] [(.int I (.c 0)),(.int I (.c 1))] (.aK (.cmp .lss (.v 9) (.len (.v 11))) (.aS (.and (.cmp .leq (.c 0) (.v 9)) (.cmp .lss (.v 9) (.len (.v 11)))) (.aS (.and (.cmp .leq (.c 0) (.v 9)) (.cmp .lss (.v 9) (.len (.v 11)))) (.aK (.cmp .gtr (.bin .mul I (.v 10) (.len (.cell (.v 11) (.v 9) 0 (.sl 108)))) (.c 256)) (.ret (.bI [(.ak (.k (.slice Z 0 0))),(.int I (.c 2))]) [] []) (.back 0 [(.int I (.bin .add I (.v 9) (.c 1))),(.int I (.bin .mul I (.v 10) (.len (.cell (.v 11) (.v 9) 0 (.sl 108)))))])))) (.call 48 [(.agg [(.int I (.v 0)),(.int I (.v 1)),(.int I (.v 2)),(.int I (.v 3)),(.int I (.v 4)),(.ak (.v 0)),(.int I (.v 5)),(.ak (.v 1)),(.ak (.v 2)),(.ak (.v 3)),(.ak (.v 4)),(.ak (.v 5)),(.ak (.v 6)),(.ak (.v 7)),(.ak (.v 8)),(.ak (.v 9))]),(.agg [(.ak (.v 10)),(.int I (.v 6)),(.ak (.v 11)),(.ak (.v 12)),(.bool (.v 0))]),(.int I (.v 7))] [] [] [.ak (.sl 4)] .any (.aS (.and (.cmp .leq (.c 0) (.len (.v 13))) (.cmp .leq (.len (.v 13)) (.c 536870912))) (.new 0 (.xo (.len (.v 13)) [(.ak (.k (.slice Z 0 0)))]) [] [] (.loop 1 [] [(.int I (.c 0)),(.ak (.v 14))] (.aK (.cmp .lss (.v 11) (.len (.v 13))) (.aS (.and (.cmp .leq (.c 0) (.v 11)) (.cmp .lss (.v 11) (.len (.v 13)))) (.aS (.and (.cmp .leq (.c 0) (.v 11)) (.cmp .lss (.v 11) (.len (.v 13)))) (.aK (.cell (.v 13) (.v 11) 0) (.aS (.and (.cmp .leq (.c 0) (.len (.v 10))) (.cmp .lss (.len (.v 10)) (.len (.v 8)))) (.aS (.and (.cmp .leq (.c 0) (.len (.v 10))) (.cmp .lss (.len (.v 10)) (.len (.v 8)))) (.aS (.and (.cmp .leq (.c 0) (.bin .sub I (.v 7) (.c 1))) (.cmp .lss (.bin .sub I (.v 7) (.c 1)) (.len (.cell (.v 8) (.len (.v 10)) 0 (.sl 100))))) (.aS (.and (.cmp .leq (.c 0) (.bin .sub I (.v 7) (.c 1))) (.cmp .lss (.bin .sub I (.v 7) (.c 1)) (.len (.cell (.v 8) (.len (.v 10)) 0 (.sl 100))))) (.aS (.and (.cmp .leq (.c 0) (.v 11)) (.cmp .lss (.v 11) (.len (.cell (.cell (.v 8) (.len (.v 10)) 0 (.sl 100)) (.bin .sub I (.v 7) (.c 1)) 1 (.sl 101))))) (.aS (.and (.cmp .leq (.c 0) (.v 11)) (.cmp .lss (.v 11) (.len (.cell (.cell (.v 8) (.len (.v 10)) 0 (.sl 100)) (.bin .sub I (.v 7) (.c 1)) 1 (.sl 101))))) (.aS (.and (.cmp .leq (.c 0) (.v 11)) (.cmp .lss (.v 11) (.len (.v 15)))) (.aS (.and (.cmp .leq (.c 0) (.v 11)) (.cmp .lss (.v 11) (.len (.v 15)))) (.new 0 (.set (.ak (.v 15)) (.v 11) 0 [(.ak (.cell (.cell (.cell (.v 8) (.len (.v 10)) 0 (.sl 100)) (.bin .sub I (.v 7) (.c 1)) 1 (.sl 101)) (.v 11) 0 (.sl 96)))]) [] [] (.back 1 [(.int I (.bin .add I (.v 11) (.c 1))),(.ak (.v 16))])))))))))) (.back 1 [(.int I (.bin .add I (.v 11) (.c 1))),(.ak (.v 15))])))) (.aK (.cmp .eql (.len (.v 11)) (.c 0)) (.call 55 [(.agg [(.int I (.v 0)),(.int I (.v 1)),(.int I (.v 2)),(.int I (.v 3)),(.int I (.v 4)),(.ak (.v 0)),(.int I (.v 5)),(.ak (.v 1)),(.ak (.v 2)),(.ak (.v 3)),(.ak (.v 4)),(.ak (.v 5)),(.ak (.v 6)),(.ak (.v 7)),(.ak (.v 8)),(.ak (.v 9))]),(.int I (.v 6))] [] [] [.ak (.sl 85)] .any (.call 54 [(.agg [(.int I (.v 0)),(.int I (.v 1)),(.int I (.v 2)),(.int I (.v 3)),(.int I (.v 4)),(.ak (.v 0)),(.int I (.v 5)),(.ak (.v 1)),(.ak (.v 2)),(.ak (.v 3)),(.ak (.v 4))]),(.agg [(.ak (.v 5))]),(.ak (.v 16)),(.int I (.len (.v 10))),(.ak (.v 13)),(.ak (.k (.slice Z 0 0))),(.ak (.v 15))] [] [] [.int I,.ak (.sl 4),.ak (.sl 108),.ak (.sl 108),.ak (.sl 101),.ak (.sl 139),.int I] .any (.aK (.cmp .neq (.v 13) (.c 0)) (.ret (.bI [(.ak (.k (.slice Z 0 0))),(.int I (.v 13))]) [] []) (.aS (.c J) (.new 0 (.lit [[(.int I (.v 12)),(.ak (.v 17)),(.ak (.v 18)),(.ak (.v 19)),(.ak (.v 20)),(.ak (.v 21))]]) [] [] (.aS (.cmp .leq (.len (.v 22)) (.c 536870912)) (.new 0 (.iC (.lit []) (.ak (.v 22))) [] [] (.ret (.bI [(.ak (.v 23)),(.int I (.c 0))]) [] [])))))))) (.aS (.cmp .lss (.c 0) (.len (.v 11))) (.aS (.cmp .lss (.c 0) (.len (.v 11))) (acL 12 0)))))))))))))
section
def eF(a b c d:Int):Bool:=decide (-1099511627776<=a)&&decide (a<=1099511627776)&&decide (-1099511627776<=b)&&decide (b<=1099511627776)&&decide (-1099511627776<=c)&&decide (c<=1099511627776)&&decide (-1099511627776<=d)&&decide (d<=1099511627776)&&decide (a<=b)&&decide (c<=d)
def BQ(a b c d X W V Q:Int):Bool:= !(decide (a<=W)&&decide (X<=b)&&decide (c<=Q)&&decide (V<=d))
def aba:aZ->jV
 |[.i a,.i b,.i c,.i d,.i X,.i W,.i V,.i Q]=>U (.ret (if eF a b c d&&eF X W V Q then[.b (BQ a b c d X W V Q),.i 0] else[.b E,.i 150]))|_=>Z
def I3:Nat->List UInt8->UInt8->Int
 |_,[],_=>-1|k,x::l,b=>if x==b then k else I3 (k+1) l b
def abb:aZ->jV
 |[.r s,.i b]=>match s.val with|.string t=>U (.ret [.i (I3 0 t.toList (UInt8.ofNat b.toNat))])|_=>U (.ret [.i (-1)])
 |_=>Z
def LX:mA:=λf X=>if f=151 then aba X else if f=128 then abb X else Z
def I4:FuncId->Option Fn
 |61=>U ⟨T82,E,E⟩|63=>U ⟨T84,J,E⟩|46=>U ⟨aiu,E,E⟩|138=>U ⟨aiv,E,E⟩|139=>U ⟨aiw,J,E⟩|274=>U ⟨aix,J,E⟩|89=>U ⟨aaO,E,E⟩|127=>U ⟨aaP,E,E⟩|157=>U ⟨aaQ,E,E⟩|280=>U ⟨aiy,E,E⟩|273=>U ⟨aaR,E,E⟩|156=>U ⟨aaS,E,E⟩|106=>U ⟨aaT,E,E⟩|76=>U ⟨aaU,E,E⟩|99=>U ⟨T66,E,E⟩|70=>U ⟨T72,E,E⟩|67=>U ⟨T69,E,E⟩|98=>U ⟨aiC,E,E⟩|118=>U ⟨T24,E,E⟩|276=>U ⟨aiE,E,E⟩|219=>U ⟨aiF,E,E⟩|88=>U ⟨aiG,E,E⟩|124=>U ⟨aiH,E,E⟩|125=>U ⟨aiI,E,E⟩|272=>U ⟨aiJ,E,E⟩|255=>U ⟨aiK,E,E⟩|220=>U ⟨aiL,E,E⟩|68=>U ⟨T70,E,E⟩|100=>U ⟨T65,E,E⟩|58=>U ⟨T18,E,E⟩|40=>U ⟨T37,E,E⟩|110=>U ⟨T86,E,E⟩|111=>U ⟨T87,E,E⟩|112=>U ⟨T88,E,E⟩|146=>U ⟨aiQ,E,E⟩|176=>U ⟨aiR,E,E⟩|147=>U ⟨aiS,E,E⟩|184=>U ⟨aiT,E,E⟩|64=>U ⟨aiU,E,E⟩|73=>U ⟨T77,E,E⟩|107=>U ⟨aiW,E,E⟩|133=>U ⟨aiX,E,E⟩|90=>U ⟨aiY,E,E⟩|43=>U ⟨T25,E,E⟩|74=>U ⟨aaV,E,E⟩|115=>U ⟨T27,E,E⟩|34=>U ⟨T74,E,E⟩|87=>U ⟨ai2,E,E⟩|62=>U ⟨T83,E,E⟩|41=>U ⟨T75,E,E⟩|71=>U ⟨T23,E,E⟩|45=>U ⟨UE,E,E⟩|113=>U ⟨T89,E,E⟩|171=>U ⟨aaY,E,E⟩|60=>U ⟨T81,E,J⟩|54=>U ⟨T13,E,J⟩|84=>U ⟨qb,E,J⟩|150=>U ⟨ai7,E,E⟩|145=>U ⟨BP,E,E⟩|114=>U ⟨T90,J,E⟩|148=>U ⟨fw,E,E⟩|174=>U ⟨ai9,E,E⟩|44=>U ⟨T63,E,E⟩|30=>U ⟨I1,E,E⟩|23=>U ⟨aje,E,E⟩|15=>U ⟨aaZ,E,J⟩|11=>U ⟨asT,E,E⟩|22=>U ⟨UG,E,E⟩|21=>U ⟨aa6,E,E⟩|28=>U ⟨aa0,E,E⟩|37=>U ⟨ajr,E,E⟩|26=>U ⟨ajf,E,J⟩|51=>U ⟨UF,E,E⟩|52=>U ⟨ajb,E,E⟩|27=>U ⟨asU,E,E⟩|55=>U ⟨ajg,E,E⟩|38=>U ⟨ajh,E,E⟩|47=>U ⟨aa1,E,E⟩|48=>U ⟨aji,E,E⟩|42=>U ⟨ajd,E,E⟩|35=>U ⟨ajc,E,E⟩|6=>U ⟨asV,E,E⟩|14=>U ⟨aa2,E,E⟩|12=>U ⟨aa3,E,E⟩|10=>U ⟨asW,E,E⟩|8=>U ⟨ajm,E,E⟩|13=>U ⟨asY,E,E⟩|31=>U ⟨ajj,E,E⟩|16=>U ⟨aa4,E,E⟩|29=>U ⟨ajk,E,E⟩|25=>U ⟨asX,E,E⟩|20=>U ⟨ajl,E,E⟩|308=>U ⟨aa5,E,J⟩|3=>U ⟨ajp,E,E⟩|7=>U ⟨ajo,E,E⟩|9=>U ⟨ajn,E,E⟩|_=>Z
def TB:lY:=⟨I4,LX⟩
def gX(p:FuncId->aZ->aX->Prop)(R:aX->Prop)(f:FuncId)(W:aZ)(V:aN)(t:T)(O:aj)(L:ck):Prop:=∃o,p f W o/\(match o with|.ret X=>fC V X=J/\t.wp p R (O.ext X) L|.bp v=>R (.bp v))
def im(p:FuncId->aZ->aX->Prop)(R:aX->Prop)(o:aX)(W:aN)(t:T)(O:aj)(L:ck):Prop:=match o with|.ret X=>fC W X=J/\t.wp p R (O.ext X) L|.bp v=>R (.bp v)
def I5(c:Option PC)(X:aZ):Prop:=match c with|U c=>c.I X/\c.μ X<c.m|none=>False
section
variable{p:FuncId->aZ->aX->Prop}{R:aX->Prop}{O:aj}{L:ck}
def aA8{X W:aZ}{Q:aN}{t:T}(h:X=W):gX p R V X Q t O L=gX p R V W Q t O L:=by rw[h]
def aA9{o X:aX}{W:aN}{t:T}(h:o=X):im p R o W t O L=im p R X W t O L:=by rw[h]
def aBa{t:T}{X:aj}(h:O=X):T.wp p R t O L=T.wp p R t X L:=by rw[h]
def Qn(b:BE)(t f:T):T.wp p R (.aK b t f) O L=(if b.ai O=J then t.wp p R O L else f.wp p R O L):=by
 simp only[T.wp,T.nV];cases b.ai O<;>simp
def yG(b:BE)(t:T):T.wp p R (.aS b t) O L=(b.ai O=J/\t.wp p R O L):=by simp only[T.wp,T.nV]
def UJ(v:C)(X:bm)(W:bo):T.wp p R (.ret v X W) O L=R (.ret ((zD v).map (C.xv O))):=by simp only[T.wp,T.nV]
def ajs(f:FuncId)(X:aq)(V:bm)(Q:bo)(W:aN)(fA:C)(t:T):T.wp p R (.call f X V Q W fA t) O L=gX p R f ((pN X).map (C.xv O)) W t O L:=by simp only[T.wp,T.nV,gX];rfl
def I6(e:TypeId)(x:LE)(X W:bo)(t:T):T.wp p R (.new e x X W t) O L=t.wp p R (O.add (.r (gu x O))) L:=by simp only[T.wp,T.nV]
def aBb(k:RK)(x:LE)(X:bo)(t:T):T.wp p R (.ah k x X t) O L=t.wp p R (O.add (.r (gu x O))) L:=by simp only[T.wp,T.nV]
def ajt(X:aZ)(W:aN)(t:T):im p R (.ret X) W t O L=(fC W X=J/\t.wp p R (O.ext X) L):=rfl
def aBc(v:Value)(X:aN)(t:T):im p R (.bp v) X t O L=R (.bp v):=rfl
def aju(ax:Nat)(x:aq):T.wp p R (.back ax x) O L=I5 (Bm ax L) (x.map (C.xv O)):=by
 simp only[T.wp,T.nV,I5];cases Bm ax L<;>rfl
def BR(c:PC)(X:aZ):I5 (U c) X=(c.I X/\c.μ X<c.m):=rfl
def Gm(g h:BE)(t f:T):T.wp p R (.gr g h t f) O L=((g.ai O=J\/h.ai O=J)/\(g.ai O=J->t.wp p R O L)/\(h.ai O=J->f.wp p R O L)/\(g.ai O=J->h.ai O=J->KL R)):=rfl
def aBd(f g:FuncId)(e:TypeId)(X:bu)(W:Bool)(r:RE)(Q:bo)(t:T):T.wp p R (.eG f g e X W r Q t) O L=(∃V,oK O X W (r.rv O).ah=U V/\t.wp p R (O.add (.r (.mk (r.rv O).val V))) L):=rfl
def wQ(f g:FuncId)(e:TypeId)(X:ar)(d:Bool)(W:Bool)(r:RE)(Q:bo)(t:T):T.wp p R (.eG f g e (.lex X d) W r Q t) O L=(∃V,iq (.lex X d) W (r.rv O).ah=U V/\t.wp p R (O.add (.r (.mk (r.rv O).val V))) L):=rfl
def wU(f g:FuncId)(e:TypeId)(n d:Nat)(X:Bool)(r:RE)(V:bo)(t:T):T.wp p R (.eG f g e (.ratio n d) X r V t) O L=(∃W,iq (.ratio n d) X (r.rv O).ah=U W/\t.wp p R (O.add (.r (.mk (r.rv O).val W))) L):=rfl
def asZ(n:K)(g h:BE)(t f:T):T.wp p R (.pick n g h t f) O L=(KL R/\xN n g h O≠[]/\(∀j:Int,0<=j->j<n.ai O->g.ai (O.add (.i j))=J->t.wp p R (O.add (.i j)) L)/\(h.ai O=J->f.wp p R O L)):=rfl
def As{N:aN}{P:aq}{t:T}(X:aZ->Prop)(V:aZ->Nat)(M:X (P.map (C.xv O)))(h:∀Q,X Q->t.wp p R (O.ext Q) (⟨W,X,V,V Q⟩::L)):T.wp p R (.loop W N P t) O L:=by
 simp only[T.wp,T.nV];exact⟨R,L,.inl ⟨rfl,rfl⟩,X,V,M,h⟩
def as1{M:aN}{N:aq}{t:T}(V:aX->Prop)(H:∀o,V o->R o)(X:aZ->Prop)(Q:aZ->Nat)(G:X (N.map (C.xv O)))(h:∀P,X P->t.wp p V (O.ext P) [⟨W,X,Q,Q P⟩]):T.wp p R (.loop W M N t) O L:=by
 simp only[T.wp,T.nV];exact⟨V,[],.inr ⟨H,rfl⟩,X,Q,G,h⟩
end
def aY{X:lY}{R:aX->Prop}{Q:aZ}{P:aN}{t:T}{O:aj}{L:ck}{o:aX}(h:X.Ev V Q o):gX X.Ev R V Q P t O L=im X.Ev R o P t O L:=by
 refine propext ⟨λ⟨M,N,W⟩=> ?_,λW=>⟨o,h,W⟩⟩;rw[Od h N];exact W
attribute[congr] aA8 aA9 aBa
def has{X:Fn}(h:I4 V=U X)(W:V≠151)(Q:V≠128):Oc TB V X:=⟨h,λP=>by simp[TB,LX,W,Q]⟩
def single{o:aX}(h:Bh o o=J):KL (· =o):=λa b X W=>by subst X;exact⟨W.symm,h⟩
def evo{X:Fn}{Q:aZ}{o:aX}(P:I4 V=U X)(W:(V !=151&&V !=128)=J)(N:X.d=E\/∀v,o≠ .bp v)(h:X.t.wp TB.Ev (· =o) (dJ (mC X.g) Q) []):TB.Ev V Q o:=by
 simp only[aC,bne_iff_ne,ne_eq] at W;exact KM (has P W.1 W.2) N h
def Qo{X:Fn}{Q:aZ}{R:aX->Prop}(P:I4 V=U X)(W:(V !=151&&V !=128)=J)(N:X.d=E\/∀v,¬R (.bp v))(h:X.t.wp TB.Ev R (dJ (mC X.g) Q) []):∃o,TB.Ev V Q o/\R o:=by
 simp only[aC,bne_iff_ne,ne_eq] at W;exact ap1 (has P W.1 W.2) N h
def kq{X:Fn}{W:aZ}{o:aX}(h:X.t.wp TB.Ev (· =o) (dJ (mC X.g) W) [])(Q:I4 V=U X:=by exact rfl)(P:(V !=151&&V !=128)=true:=by exact rfl)(N:X.d=false:=by exact rfl):TB.Ev V W o:=evo Q P (.inl N) h
def eL{X:Fn}{W:aZ}{R:aX->Prop}(h:X.t.wp TB.Ev R (dJ (mC X.g) W) [])(Q:I4 V=U X:=by exact rfl)(P:(V !=151&&V !=128)=true:=by exact rfl)(N:X.d=false:=by exact rfl):∃o,TB.Ev V W o/\R o:=Qo Q P (.inl N) h
end
section
attribute[simp] K.ai BE.ai RE.rv RE.ai fp aj.rv dJ aj.ext aj.add pN zD KG C.xv mC Bm fC NZ Qn yG UJ ajs I6 aBb ajt aBc aju
def out(f:FuncId)(X:aZ):aZ:=by classical exact if h:∃W,TB.Ev f X (.ret W) then h.choose else[]
def xi(X:aZ)(k:Nat):Int:=match X.getD k (.i 0) with|.i n=>n|_=>0
def xb(X:aZ)(k:Nat):Bool:=match X.getD k (.i 0) with|.b x=>x|_=>E
def xr(X:aZ)(k:Nat):RV:=match X.getD k (.i 0) with|.r x=>x|_=>default
def oi(f:FuncId)(X:aZ)(k:Nat):Int:=xi (out f X) k
def ob(f:FuncId)(X:aZ)(k:Nat):Bool:=xb (out f X) k
def or(f:FuncId)(X:aZ)(k:Nat):RV:=xr (out f X) k
def DW{W X:aZ}(h:TB.Ev V W (.ret X)):out V W=X:=by
 have Q:∃X,TB.Ev V W (.ret X):=⟨X,h⟩;have:out V W=Q.choose:=by unfold out;rw[dif_pos Q]
 rw[this];have:=Od Q.choose_spec h;injection this
def aBe{X:aZ}{P:aZ->Prop}(h:∃o,TB.Ev V X o/\∃W,o=.ret W/\P W):TB.Ev V X (.ret (out V X))/\P (out V X):=by
 obtain⟨o,Q,W,rfl,N⟩:=h;rw[DW Q];exact⟨Q,N⟩
def ua(X:aZ):aN->Nat->aZ
 |[],_=>[]|.int _::G,n=>.i (xi X n)::ua X G (n+1)|.bool::G,n=>.b (xb X n)::ua X G (n+1)|.ak _::G,n=>.r (xr X n)::ua X G (n+1)
def as2(W:aZ):∀(G:aN)(X:aZ),fC G X=J->ua (W++X) G (Y W)=X
 |[],[],_=>rfl|[],_::_,h=>by simp at h|k::G,[],h=>by cases k<;>simp at h
 |k::G,y::X,h=>by
  have V:=as2 (W++[y]) G X;simp only[fC,aC] at h;have V:=V h.2;simp only[Ci,List.singleton_append,fT,Vy] at V;have Q:(W++y::X).getD (Y W) (.i 0)=y:=by simp[List.getD]
  cases k<;>cases y<;>simp at h<;>simp only[ua,V,xi,xb,xr,Q]
def shp{X:aZ}(G:aN){P:aZ->Prop}(h:∃o,TB.Ev V X o/\∃W,o=.ret W/\fC G W=J/\P W):TB.Ev V X (.ret (ua (out V X) G 0))/\P (out V X):=by
 obtain⟨Q,N,M⟩:=aBe h;rw[show ua (out V X) G 0=out V X from as2 [] G _ N];exact⟨Q,M⟩
def jf(n X W:Int):Bool:=decide (X<=n)&&decide (n<=W)
@[simp] def aJz (n X W:Int):jf n X W=J<->X<=n/\n<=W:=by simp[jf]
def DX(a b:Int):Int:=if a<b then-1 else if b<a then 1 else 0
def abd(a b c d:Int):Int:=if mw a b&&mw c d then DX (IntKind.i64.wrap (a*d)) (IntKind.i64.wrap (c*b)) else 0
def Gn:FuncId->Option Fn
 |89=>U ⟨aaO,E,E⟩|127=>U ⟨aaP,E,E⟩|157=>U ⟨aaQ,E,E⟩|156=>U ⟨aaS,E,E⟩|106=>U ⟨aaT,E,E⟩|76=>U ⟨aaU,E,E⟩|_=>Z
section
variable{p:lY}(H:∀f fn,Gn f=U fn->Oc p f fn)
include H
def aBg(a b:Nat):p.Ev 156 [.i a,.i b] (.ret [.i (acx a b)]):=by
 refine KM (H _ _ rfl) (.inl rfl) ?_;simp[aaS];split;rename_i W;simp[W];rename_i W;refine As (λX=>∃d x y:Nat,X=[.i d,.i x,.i y]/\y≠0/\acx x y=acx a b/\(x=0->d=acx a b)) (λX=>(xi X 2).toNat) ⟨b,a,b,aw,W,rfl,λV=>by subst V;simp⟩ ?_;rintro X ⟨d,x,y,rfl,P,Q,V⟩;have N:max (y:Int) 1=y:=ae;have M:be .rem .u64 (x:Int) (y:Int)=((x%y:Nat):Int):=by
  simp only[be];rw[Int.tmod_eq_emod_of_nonneg ae];exact(Int.natCast_emod x y).symm
 simp[xi,N,M,BR];split;rename_i G;simp[V G];refine⟨ae, ?_⟩;split;rename_i D;rw[<-Q,awy,Nat.gcd_rec,show x%y=0 from ae];simp;refine⟨⟨x,y,x%y,⟨rfl,rfl,ae⟩,ae, ?_,λF=>bB F P⟩, ?_⟩;rw[<-Q,awy x y,Nat.gcd_rec y x,awy];have:=Ra x (show 0<y from ae);omega
def aBh(n:Int)(W:-1073741824<=n)(V:n<=1073741824):p.Ev 157 [.i n] (.ret [.i n.natAbs]):=by
 refine KM (H _ _ rfl) (.inl rfl) ?_;simp[aaQ,be];have X:∀x:Int,IntKind.u64.wrap x=x%18446744073709551616:=λx=>rfl
 rw[X,X];split<;>omega
def as3(n:Int):p.Ev 76 [.i n] (.ret [.b E]):=by
 refine KM (H _ _ rfl) (.inl rfl) ?_;simp[aaU]
def ajv(a b:Int):p.Ev 106 [.i a,.i b] (.ret [.i (DX a b)]):=by
 refine KM (H _ _ rfl) (.inl rfl) ?_;simp[aaT,DX,aY (as3 H _)]
 grind
def as4(n d:Int):p.Ev 127 [.i n,.i d] (.ret [.i (if mw n d then 0 else 120)]):=by
 refine KM (H _ _ rfl) (.inl rfl) ?_;simp[aaP]
 repeat' split
 any_goals(simp[mw];omega)
 all_goals
  rw[aY (aBh H n ae ae)];have X:IntKind.u64.wrap d=(d.toNat:Int):=by
   have:IntKind.u64.wrap d=d%18446744073709551616:=rfl;omega
  have W:max d 0=(d.toNat:Int):=ae;simp[X];rw[W,aY (aBg H n.natAbs d.toNat)];simp[mw] at*;omega
def as5(a b c d:Int):p.Ev 89 [.i a,.i b,.i c,.i d] (.ret [.i (abd a b c d),.i (if mw a b&&mw c d then 0 else 120)]):=by
 refine KM (H _ _ rfl) (.inl rfl) ?_;simp[aaO,abd,be,aY (as4 H _ _),aY (ajv H _ _)]
 grind
end
def hTB(f:FuncId)(fn:Fn)(h:Gn f=U fn):Oc TB f fn:=by
 unfold Gn at h;split at h<;>cases h<;>exact has rfl ez ez
section
variable{R:aX->Prop}{G:aN}{t:T}{O:aj}{L:ck}
def e82(n X W:Int):TB.Ev 61 [.i n,.i X,.i W] (.ret [.b (jf n X W)]):=by
 refine kq ?_;simp[T82,jf]
 grind
@[simp] def c82 (n X W:Int):gX TB.Ev R 61 [.i n,.i X,.i W] G t O L=im TB.Ev R (.ret [.b (jf n X W)]) G t O L:=aY (e82 n X W)
def aBj(n X W:Int):TB.Ev 46 [.i n,.i X,.i W] (.ret [.b (jf n X W)]):=by
 refine kq ?_;simp[aiu,jf]
 grind
@[simp] def aJB (n X W:Int):gX TB.Ev R 46 [.i n,.i X,.i W] G t O L=im TB.Ev R (.ret [.b (jf n X W)]) G t O L:=aY (aBj n X W)
def aBk(n X W:Int):TB.Ev 124 [.i n,.i X,.i W] (.ret [.b (jf n X W)]):=by
 refine kq ?_;simp[aiH,jf]
 grind
@[simp] def aJC (n X W:Int):gX TB.Ev R 124 [.i n,.i X,.i W] G t O L=im TB.Ev R (.ret [.b (jf n X W)]) G t O L:=aY (aBk n X W)
def e70(n X W:Int):TB.Ev 68 [.i n,.i X,.i W] (.ret [.b (jf n X W)]):=by
 refine kq ?_;simp[T70,jf]
 grind
@[simp] def c70 (n X W:Int):gX TB.Ev R 68 [.i n,.i X,.i W] G t O L=im TB.Ev R (.ret [.b (jf n X W)]) G t O L:=aY (e70 n X W)
def aBm(n X W:Int):TB.Ev 133 [.i n,.i X,.i W] (.ret [.b (jf n X W)]):=by
 refine kq ?_;simp[aiX,jf]
 grind
@[simp] def aJE (n X W:Int):gX TB.Ev R 133 [.i n,.i X,.i W] G t O L=im TB.Ev R (.ret [.b (jf n X W)]) G t O L:=aY (aBm n X W)
def Gp(n:Int)(u:Bool)(X W:Int):Bool:=if u then jf n X W else n==0
def aBn(n X W:Int)(u:Bool):TB.Ev 88 [.i n,.b u,.i X,.i W] (.ret [.b (Gp n u X W)]):=by
 refine kq ?_;simp[aiG,Gp]
 grind
@[simp] def aJF (n X W:Int) (u:Bool):gX TB.Ev R 88 [.i n,.b u,.i X,.i W] G t O L=im TB.Ev R (.ret [.b (Gp n u X W)]) G t O L:=aY (aBn n X W u)
@[simp] def aJG (n:Int):gX TB.Ev R 76 [.i n] G t O L=im TB.Ev R (.ret [.b E]) G t O L:=aY (as3 hTB n)
@[simp] def aJH (a b:Int):gX TB.Ev R 106 [.i a,.i b] G t O L=im TB.Ev R (.ret [.i (DX a b)]) G t O L:=aY (ajv hTB a b)
@[simp] def aJI (n d:Int):gX TB.Ev R 127 [.i n,.i d] G t O L=im TB.Ev R (.ret [.i (if mw n d then 0 else 120)]) G t O L:=aY (as4 hTB n d)
@[simp] def aJJ (a b c d:Int):gX TB.Ev R 89 [.i a,.i b,.i c,.i d] G t O L=im TB.Ev R (.ret [.i (abd a b c d),.i (if mw a b&&mw c d then 0 else 120)]) G t O L:=aY (as5 hTB a b c d)
def e66(a b c d:Int):TB.Ev 99 [.i a,.i b,.i c,.i d] (.ret [.b (eF a b c d)]):=by
 refine kq ?_;simp[T66,eF]
 grind
@[simp] def c66 (a b c d:Int):gX TB.Ev R 99 [.i a,.i b,.i c,.i d] G t O L=im TB.Ev R (.ret [.b (eF a b c d)]) G t O L:=aY (e66 a b c d)
def jn(X:Bool)(x:Int):Int:=if X then x else 0
def e72(a b c d X W V Q:Int):TB.Ev 70 [.i a,.i b,.i c,.i d,.i X,.i W,.i V,.i Q] (.ret [.i (jn (eF a b c d&&eF X W V Q) (min a X)),.i (jn (eF a b c d&&eF X W V Q) (max b W)),.i (jn (eF a b c d&&eF X W V Q) (min c V)),.i (jn (eF a b c d&&eF X W V Q) (max d Q)),.i (if eF a b c d&&eF X W V Q then 0 else 150)]):=by
 refine kq ?_;simp[T72,jn]
 grind
@[simp] def c72 (a b c d X W V Q:Int):gX TB.Ev R 70 [.i a,.i b,.i c,.i d,.i X,.i W,.i V,.i Q] G t O L=im TB.Ev R (.ret [.i (jn (eF a b c d&&eF X W V Q) (min a X)),.i (jn (eF a b c d&&eF X W V Q) (max b W)),.i (jn (eF a b c d&&eF X W V Q) (min c V)),.i (jn (eF a b c d&&eF X W V Q) (max d Q)),.i (if eF a b c d&&eF X W V Q then 0 else 150)]) G t O L:=aY (e72 a b c d X W V Q)
def e69(a b c d:Int):TB.Ev 67 [.i a,.i b,.i c,.i d] (.ret [.b (eF a b c d)]):=by
 refine kq ?_;simp[T69]
 grind
@[simp] def c69 (a b c d:Int):gX TB.Ev R 67 [.i a,.i b,.i c,.i d] G t O L=im TB.Ev R (.ret [.b (eF a b c d)]) G t O L:=aY (e69 a b c d)
def I7(a b c d X W V Q:Int):Bool:=decide (X<=a)&&decide (b<=W)&&decide (V<=c)&&decide (d<=Q)
def e24(a b c d X W V Q:Int):TB.Ev 118 [.i a,.i b,.i c,.i d,.i X,.i W,.i V,.i Q] (.ret [.b (eF a b c d&&eF X W V Q&&I7 a b c d X W V Q),.i (if eF a b c d&&eF X W V Q then 0 else 150)]):=by
 refine kq ?_;simp[T24,I7]
 grind
@[simp] def c24 (a b c d X W V Q:Int):gX TB.Ev R 118 [.i a,.i b,.i c,.i d,.i X,.i W,.i V,.i Q] G t O L=im TB.Ev R (.ret [.b (eF a b c d&&eF X W V Q&&I7 a b c d X W V Q),.i (if eF a b c d&&eF X W V Q then 0 else 150)]) G t O L:=aY (e24 a b c d X W V Q)
def e26(a b c d X W V Q:Int):TB.Ev 151 [.i a,.i b,.i c,.i d,.i X,.i W,.i V,.i Q] (.ret [.b (eF a b c d&&eF X W V Q&&BQ a b c d X W V Q),.i (if eF a b c d&&eF X W V Q then 0 else 150)]):=by
 refine afK ?_;simp only[TB,LX,aba,dP];cases P:eF a b c d&&eF X W V Q<;>simp
@[simp] def c26 (a b c d X W V Q:Int):gX TB.Ev R 151 [.i a,.i b,.i c,.i d,.i X,.i W,.i V,.i Q] G t O L=im TB.Ev R (.ret [.b (eF a b c d&&eF X W V Q&&BQ a b c d X W V Q),.i (if eF a b c d&&eF X W V Q then 0 else 150)]) G t O L:=aY (e26 a b c d X W V Q)
def aBt(a b c d X W V Q:Int):TB.Ev 184 [.i a,.i b,.i c,.i d,.i X,.i W,.i V,.i Q] (.ret [.b (!(eF a b c d&&eF X W V Q&&BQ a b c d X W V Q))]):=by
 refine kq ?_;simp[aiT]
@[simp] def aJP (a b c d X W V Q:Int):gX TB.Ev R 184 [.i a,.i b,.i c,.i d,.i X,.i W,.i V,.i Q] G t O L=im TB.Ev R (.ret [.b (!(eF a b c d&&eF X W V Q&&BQ a b c d X W V Q))]) G t O L:=aY (aBt a b c d X W V Q)
def BS(a b c d x y:Int):Int:=if !eF a b c d then 150 else if !(decide (-2199023255552<=x)&&decide (x<=2199023255552)&&decide (-2199023255552<=y)&&decide (y<=2199023255552)) then 2 else if eF (IntKind.i64.wrap (a+x)) (IntKind.i64.wrap (b+x)) (IntKind.i64.wrap (c+y)) (IntKind.i64.wrap (d+y)) then 0 else 2
def aBu(a b c d x y:Int):TB.Ev 98 [.i a,.i b,.i c,.i d,.i x,.i y] (.ret [.i (jn (BS a b c d x y==0) (IntKind.i64.wrap (a+x))),.i (jn (BS a b c d x y==0) (IntKind.i64.wrap (b+x))),.i (jn (BS a b c d x y==0) (IntKind.i64.wrap (c+y))),.i (jn (BS a b c d x y==0) (IntKind.i64.wrap (d+y))),.i (BS a b c d x y)]):=by
 refine kq ?_;simp[aiC,jn,be]
 repeat' split
 all_goals(simp_all[BS])
 all_goals grind
@[simp] def aJQ (a b c d x y:Int):gX TB.Ev R 98 [.i a,.i b,.i c,.i d,.i x,.i y] G t O L=im TB.Ev R (.ret [.i (jn (BS a b c d x y==0) (IntKind.i64.wrap (a+x))),.i (jn (BS a b c d x y==0) (IntKind.i64.wrap (b+x))),.i (jn (BS a b c d x y==0) (IntKind.i64.wrap (c+y))),.i (jn (BS a b c d x y==0) (IntKind.i64.wrap (d+y))),.i (BS a b c d x y)]) G t O L:=aY (aBu a b c d x y)
end
structure Sl(v:RV):Prop where
 sl:∃a n c,v.val=.slice a n c
 len:lenOf v.val=Y v.ah
 sm:Y v.ah<=140737488355328
def ci(v:RV)(i j:Nat):Int:=bn (aQ v.ah i j).val
def cb(v:RV)(i j:Nat):Bool:=jw (aQ v.ah i j).val
def DY(n:Nat)(X:Nat->aZ->Prop):aZ->Prop
 |.i j::W=>∃i:Nat,j=i/\i<=n/\X i W|_=>False
def BT(n:Nat):aZ->Nat
 |.i j::_=>n-j.toNat|_=>0
section
variable{e:FuncId->aZ->aX->Prop}{R:aX->Prop}{O:aj}{L:ck}
def bQ{G:aN}{P:aq}{t:T}(n:Nat)(X:Nat->aZ->Prop)(N:DY n X (P.map (C.xv O)))(h:∀(i:Nat) V,i<=n->X i V->t.wp e R (O.ext (.i i::V)) (⟨W,DY n X,BT n,n-i⟩::L)):T.wp e R (.loop W G P t) O L:=by
 refine As (DY n X) (BT n) N λM Q=> ?_
 match M,Q with
 |.i j::V,Q=>
  obtain⟨i,rfl,F,D⟩:=Q;have:=h i V F D;simpa[BT] using this
theorem iW{n:Int}(X:-9223372036854775808<=n)(W:n<9223372036854775808):IntKind.i64.wrap n=n:=by
 rw[IntKind.wrap_i64];omega
def wV{i:Nat}(h:i<=140737488355328):be .add I (i:Int) 1=((i+1:Nat):Int):=by
 simp only[be];rw[iW ae ae];omega
theorem bD{n:Nat}{X:Nat->aZ->Prop}{i:Nat}{V:aZ}(Q:i<n)(P:n<=140737488355328):I5 (U ⟨W,DY n X,BT n,n-i⟩) (.i (be .add I (i:Int) 1)::V)=X (i+1) V:=by
 rw[wV ae];refine propext ⟨λh=> ?_,λh=>⟨⟨i+1,rfl,ae,h⟩, ?_⟩⟩;obtain⟨⟨k,N,_,h⟩,_⟩:=h;have:k=i+1:=ae;exact this▸h;simp only[BT];omega
end
end
inductive KX where
 |i
 |b
 |r
 deriving DecidableEq
def isTrue:BE->Bool
 |.c b=>b|_=>E
def I8{X:aZ}{P:Int->Prop}(h:∃o,TB.Ev V X o/\∃e,o=.ret [.i e]/\P e):TB.Ev V X (.ret [.i (oi V X 0)])/\P (oi V X 0):=by
 obtain⟨o,W,e,rfl,Q⟩:=h;have:oi V X 0=e:=by simp only[oi,DW W];rfl
 rw[this];exact⟨W,Q⟩
def mkb{X:aZ}{P:Bool->Prop}(h:∃o,TB.Ev V X o/\∃e,o=.ret [.b e]/\P e):TB.Ev V X (.ret [.b (ob V X 0)])/\P (ob V X 0):=by
 obtain⟨o,W,e,rfl,Q⟩:=h;have:ob V X 0=e:=by simp only[ob,DW W];rfl
 rw[this];exact⟨W,Q⟩
structure BU(roles bars:Int)(c:Nat->Int):Prop where
 kind:1<=c 4/\c 4<=9
 bw:0<=c 1/\c 1<roles
 ap:0<=c 2/\c 2<bars
 mark:1<=c 3/\c 3<=3
 side:if c 4=1\/c 4=3\/c 4=4\/c 4=9 then 1<=c 5/\c 5<=2 else c 5=0
 dir:if c 4=1\/c 4=2 then 1<=c 6/\c 6<=8 else if c 4=3\/c 4=4\/c 4=5 then 0<=c 6/\c 6<=8 else c 6=0
 aBv:if c 4=3\/c 4=4\/c 4=5\/c 4=9 then 1<=c 7/\c 7<=3 else c 7=0
 size:if c 4=1\/c 4=2 then 1<=c 8/\c 8<=16 else if c 4=6 then 1<=c 8/\c 8<=7 else c 8=0
 wth:if c 4=7\/c 4=8 then 1<=c 9/\c 9<=roles else c 9=0
 from_:mw (c 10) (c 11)=J
 to:mw (c 12) (c 13)=J
section
variable{R:aX->Prop}{G:aN}{t:T}{O:aj}{L:ck}
def ma(c:Nat->Int):aZ:=[.i (c 0),.i (c 1),.i (c 2),.i (c 3),.i (c 4),.i (c 5),.i (c 6),.i (c 7),.i (c 8),.i (c 9),.i (c 10),.i (c 11),.i (c 12),.i (c 13)]
def kT(k:Int)(j:Nat):RV:=aQ (wh[0]?.getD default).ah k j
def aBw{c:Nat->Int}{X W:Int}(H:1<=c 4/\c 4<=9)(G:0<=c 1/\c 1<=X-1)(F:0<=c 2/\c 2<=W-1)(D:1<=c 3/\c 3<=3)(V:Gp (c 5) (jw (kT (c 4) 0).val) 1 2=J)(Q:Gp (c 6) (jw (kT (c 4) 1).val) (bn (kT (c 4) 3).val) 8=J)(P:Gp (c 7) (decide (0<bn (kT (c 4) 4).val)) 1 (bn (kT (c 4) 4).val)=J)(N:Gp (c 8) (decide (0<bn (kT (c 4) 5).val)) 1 (bn (kT (c 4) 5).val)=J)(M:Gp (c 9) (jw (kT (c 4) 2).val) 1 X=J)
  (B:mw (c 10) (c 11)=J)(A:mw (c 12) (c 13)=J):BU X W c:=by
 have:c 4=1\/c 4=2\/c 4=3\/c 4=4\/c 4=5\/c 4=6\/c 4=7\/c 4=8\/c 4=9:=ae;rcases this with h|h|h|h|h|h|h|h|h
 all_goals
  simp[h,kT,wh,Bl,bV,iV,aQ,Gp,jw,bn] at V Q P N M;constructor<;>(first|omega|assumption|(simp[h];done)|(simp[h];omega))
def t84(c:Nat->Int)(X W:Int)(N:-1000<=X/\X<=1000000)(M:-1000<=W/\W<=1000000):∃o,TB.Ev 63 (ma c++[.i X,.i W]) o/\∃b,o=.ret [.b b]/\(b=J->BU X W c):=by
 refine eL ?_;have V:be .sub I X 1=X-1:=by simp only[be];rw[iW ae ae]
 have Q:be .sub I W 1=W-1:=by simp only[be];rw[iW ae ae]
 have P:lenOf (wh[0]?.getD default).val=10:=rfl;simp[T84,ma,V,Q,P]
 repeat' split
 all_goals(try simp)
 all_goals(intros;refine⟨ae, ?_⟩;intros;apply aBw<;>(first|assumption|omega|grind))
def f84(c:Nat->Int)(X W:Int)(V:-1000<=X/\X<=1000000)(Q:-1000<=W/\W<=1000000):TB.Ev 63 (ma c++[.i X,.i W]) (.ret [.b (ob 63 (ma c++[.i X,.i W]) 0)])/\(ob 63 (ma c++[.i X,.i W]) 0=J->BU X W c):=mkb (t84 c X W V Q)
def ajw{a b:Int}(h:b≠0):(a.tmod b).natAbs<b.natAbs:=by
 rw[ak9];exact Ra _ ae
def aBz(a b c:Int)(N:1<=c)(M:c<=32768)(H:-c<=a/\a<=c)(G:-c<=b/\b<=c):∃o,TB.Ev 87 [.i a,.i b,.i c] o/\∃x y z,o=.ret [.i x,.i y,.i z]:=by
 refine eL ?_;simp[ai2];refine As (λX=>∃n d:Int,X=[.i n,.i d]∧-c<=n/\n<=c∧-c<=d/\d<=c) (λX=>(xi X 0).natAbs) ⟨a,0,rfl,ae,ae,ae,ae⟩ ?_;rintro _ ⟨n,d,rfl,W,V,Q,P⟩;simp[xi,BR,be];split
 case isFalse h=>
  have:=ajw (a:=d) h;refine⟨h,⟨_,_,⟨rfl,rfl⟩, ?_⟩,by rw[<-ak9];exact this⟩;omega
 refine As (λX=>∃n d:Int,X=[.i n,.i d]∧-c<=n/\n<=c∧-c<=d/\d<=c) (λX=>(xi X 0).natAbs) ⟨b,d,rfl,ae,ae,ae,ae⟩ ?_;rintro _ ⟨n,d,rfl,W,V,Q,P⟩;simp[xi,BR,be];split
 case isFalse h=>
  have:=ajw (a:=d) h;refine⟨h,⟨_,_,⟨rfl,rfl⟩, ?_⟩,by rw[<-ak9];exact this⟩;omega
 refine As (λX=>∃n d:Int,X=[.i n,.i d]∧-c<=n/\n<=c∧-c<=d/\d<=c/\(n≠0\/d≠0)) (λX=>(xi X 0).natAbs) ⟨c,d,rfl,ae,ae,ae,ae,ae⟩ ?_;rintro _ ⟨n,d,rfl,W,V,Q,P,F⟩;simp[xi,BR,be];split
 case isFalse h=>
  have:=ajw (a:=d) h;refine⟨h,⟨_,_,⟨rfl,rfl⟩, ?_⟩,by rw[<-ak9];exact this⟩;omega
 have:IntKind.i64.wrap (-d)=-d:=iW ae ae;simp[this];omega
def t83(a b c:Int):∃o,TB.Ev 62 [.i a,.i b,.i c] o/\∃e,o=.ret [.i e]/\True:=by
 refine eL ?_;simp[T83];intro V Q X P N;have W:be .sub I 0 c=-c:=by simp only[be];rw[iW ae ae];omega
 rw[W] at X;obtain⟨o,h,x,y,z,rfl⟩:=aBz a b c ae ae ae ae;rw[aY h];simp
@[simp] def c83 (a b c:Int):gX TB.Ev R 62 [.i a,.i b,.i c] G t O L=im TB.Ev R (.ret [.i (oi 62 [.i a,.i b,.i c] 0)]) G t O L:=aY (I8 (t83 a b c)).1
structure Qp(tp:RV):Prop where
 sl:Sl tp
 pos:0<Y tp.ah
 zero:ci tp 0 0=0
def ajx{j:Nat}(h:j<=140737488355328)(V:W<=j):IntKind.i64.wrap (be .shr .u64 (IntKind.u64.wrap (be .add I (W:Int) (j:Int))) 1)=(((W+j)/2:Nat):Int):=by
 simp only[be];rw[iW (n:=(W:Int)+j) ae ae];rw[show IntKind.u64.wrap ((W:Int)+j)=(W:Int)+j by rw[IntKind.wrap_u64];omega];have:((W:Int)+j).fdiv (2^min (1:Int).toNat IntKind.u64.bits)=(((W+j)/2:Nat):Int):=by
  have X:(2:Int)^min (1:Int).toNat IntKind.u64.bits=2:=rfl;rw[X,aIU _ ae];omega
 rw[this,iW ae ae]
def aBB(P ap:Int)(X N M:RV)(h:Qp X)(A:0<=ap):∃o,TB.Ev 125 [.i P,.r X,.r N,.r M,.i ap] o/\∃e,o=.ret [.i e]/\True:=by
 refine eL ?_;simp[aiI];have z:=h.pos;have y:=h.sl.sm;refine As (λW=>∃i j:Nat,W=[.i i,.i j]/\i<=j/\j<=Y X.ah/\(j=Y X.ah\/ap<ci X j 0)) (λW=>(xi W 1-xi W 0).toNat) ⟨0,Y X.ah,by simp[h.sl.len],ae,ae,.inl rfl⟩ ?_;rintro _ ⟨i,j,rfl,H,x,V⟩;simp[xi,BR,h.sl.len,ajx (show j<=140737488355328 from ae) H];split;rename_i G;refine⟨ae, ?_⟩;have F:((i:Int)+j)/2=(((i+j)/2:Nat):Int):=ae;have D:=wV (i:=(i+j)/2) ae;rw[F,D];split;refine⟨⟨(i+j)/2+1,j,⟨rfl,rfl⟩,ae,ae,V⟩,ae⟩;rename_i Q;refine⟨⟨i,(i+j)/2,⟨rfl,rfl⟩,ae,ae,.inr ?_⟩,ae⟩;simp only[ci];omega;rename_i G;have B:i=j:=ae;subst B;have:1<=i:=by
  rcases Jz i with rfl|Q;have:=h.zero;rcases V with V|V<;>omega;exact Q
 rw[show be .sub I (i:Int) 1=(i:Int)-1 by simp only[be];rw[iW ae ae]];omega
def as8(W ap:Int)(X V Q:RV)(h:Qp X)(P:0<=ap):gX TB.Ev R 125 [.i W,.r X,.r V,.r Q,.i ap] G t O L=im TB.Ev R (.ret [.i (oi 125 [.i W,.r X,.r V,.r Q,.i ap] 0)]) G t O L:=aY (I8 (aBB W ap X V Q h P)).1
end
section
def ao(X:av):RV:=.mk (.slice Z (Y X) (Y X)) X
@[simp] def LY (x:LE) (O:aj):gu x O=ao (x.ah O):=rfl
@[simp] theorem nz (r:av):(ao r).ah=r:=rfl
@[simp] def Qq (r:av):lenOf (ao r).val=Y r:=rfl
@[simp] def as9:RV.mk (.slice Z 0 0) []=ao []:=rfl
def lJ(h:Y X<=140737488355328):Sl (ao X):=⟨⟨_,_,_,rfl⟩,rfl,h⟩
attribute[simp] LE.ah C.cj
def Qr(c:Nat->Int):aE:=[.mk (.int I (c 0)) [],.mk (.int I (c 1)) [],.mk (.int I (c 2)) [],.mk (.int I (c 3)) [],.mk (.int I (c 4)) [],.mk (.int I (c 5)) [],.mk (.int I (c 6)) [],.mk (.int I (c 7)) [],.mk (.int I (c 8)) [],.mk (.int I (c 9)) [],.mk (.int I (c 10)) [],.mk (.int I (c 11)) [],.mk (.int I (c 12)) [],.mk (.int I (c 13)) []]
def ata{lt:aE->aE->Bool}{x:aE}:∀{l:av},(fk lt x l).Perm (x::l)
 |[]=>alb _
 |y::r=>by
  simp only[fk];split;exact alb _;exact((ata (l:=r)).cons y).trans (aJr x y r)
def atb{lt:aE->aE->Bool}:∀(l acc:av),(l.foldl (λacc x=>fk lt x acc) acc).Perm (acc++l)
 |[],acc=>aw
 |x::l,acc=>by
  simp only[acr];refine(atb l _).trans ?_;refine(List.Perm.append_right l ata).trans ?_;rw[cG];exact List.perm_middle.symm
def BV{lt:aE->aE->Bool}(l:av):(bN lt l).Perm l:=by
 have:=atb (lt:=lt) l [];simpa[bN] using this
def wW(X:av):Prop:=X.Pairwise λx y=>aI 0 x≠aI 0 y
def wW.perm{W:av}(h:wW X)(V:W.Perm X):wW W:=(V.symm.pairwise_iff (λ{x y} h=>h.symm)).1 h
def atc:∀{X:av},wW X->vP (bu.lex [0] E).lt X=J
 |[],_=>rfl
 |x::r,h=>by
  simp only[wW,jS] at h;simp only[vP,aC,gC,lq];refine⟨λy V=> ?_,atc h.2⟩;have W:¬aI 0 x=aI 0 y:=h.1 y V;have Q:¬aI 0 y=aI 0 x:=λe=>W e.symm
  simp only[bu.lt,jI,aJ W,aJ Q,iZ,jE,dq];omega
def atd{W:Bool}(V:Y X<=1099511627776)(h:wW X):iq (.lex [0] E) W X=U (bN (bu.lex [0] E).lt X):=by
 simp only[iq];rw[aH (by simp[V,atc h,bu.ok])]
def aBC{rows:av}(X:Y rows<=1099511627776)(h:∀x∈rows,mw (aI 10 x) (aI 11 x)=J):iq (.ratio 10 11) J rows=U (bN (bu.ratio 10 11).lt rows):=by
 simp only[iq];rw[aH (by simp only[aC,dq,Bool.true_or,and_true];exact⟨X,gC.2 h⟩)]
structure cm where
 cW:Int
 cD:Int
 cA:Int
 cB:Int
 cC:Int
 cO:Int
 cr0:RV
 ct0:RV
 cp0:RV
 gK:RV
 cg0:RV
section
variable[Inhabited cm]
def mK:Int:=(default:cm).cW
def mL:Int:=(default:cm).cD
def wX:Int:=(default:cm).cA
def I9:Int:=(default:cm).cB
def Ja:Int:=(default:cm).cC
def eV:Int:=(default:cm).cO
def ay:RV:=(default:cm).cr0
def mb:RV:=(default:cm).ct0
def nA:RV:=(default:cm).cp0
def nC:RV:=(default:cm).gK
def dh:RV:=(default:cm).cg0
end
structure BW[Inhabited cm]:Prop where
 nr:1<=Y ay.ah/\Y ay.ah<=64
 ns:Y dh.ah<=4096
 br:1<=eV/\eV<=4096
 wd:1<=mK/\mK<=1000/\1<=mL/\mL<=1000
 tp:Qp mb
 UK:∀i<Y dh.ah,BU (Y ay.ah) eV (ci dh i)
 id:∀i<Y dh.ah,0<=ci dh i 0/\ci dh i 0<=1048576
 ids:∀i j,i<j->j<Y dh.ah->ci dh i 0<ci dh j 0
structure dU[Inhabited cm]:Prop where
 rl:Sl ay
 tp:Sl mb
 ps:Sl nA
 sp:Sl nC
 sg:Sl dh
section
variable{R:aX->Prop}{G:aN}{t:T}{O:aj}{L:ck}
variable[Inhabited cm]
def wk:aZ:=[.i mK,.i mL,.i wX,.i I9,.i Ja,.r ay,.i eV,.r mb,.r nA,.r nC,.r dh]
def At:Prop:=∀(eV:Int)(mb nA nC:RV),Sl mb->Sl nA->Sl nC->TB.Ev 60 [.i eV,.r mb,.r nA,.r nC] (.ret [.i (oi 60 [.i eV,.r mb,.r nA,.r nC] 0)])/\(oi 60 [.i eV,.r mb,.r nA,.r nC] 0=0->Qp mb/\1<=eV/\eV<=4096)
def t37(F:At)(h:dU):∃o,TB.Ev 40 wk o/\∃e,o=.ret [.i e]/\(e=0->BW):=by
 refine eL ?_;obtain⟨D,B⟩:=F eV mb nA nC h.tp h.ps h.sp;simp[T37,wk,h.rl.len,h.sg.len,aY D]
 repeat'(first|intro _|split)
 any_goals(exfalso;omega)
 obtain⟨A,q,p⟩:=B mh;refine bQ (Y ay.ah) (λ_ P=>P=[]) ⟨0,rfl,ae,rfl⟩ ?_;rintro i _ X rfl;simp[h.rl.len];split;rename_i X;simp[bD X h.rl.sm,X];refine bQ (Y dh.ah) (λi P=>∃V:Int,P=[.i V]∧-1<=V/\(∀k<i,BU (Y ay.ah) eV (ci dh k)/\0<=ci dh k 0/\ci dh k 0<=V/\ci dh k 0<=1048576)/\∀j k,j<k->k<i->ci dh j 0<ci dh k 0) ⟨0,rfl,ae,-1,rfl,ae,ae,ae⟩ ?_;rintro j _ N ⟨V,rfl,n,W,M⟩;simp[h.rl.len,h.sg.len];split;rename_i N;refine⟨N,λm l=> ?_⟩;obtain⟨H,Q⟩:=f84 (ci dh j) (Y ay.ah) eV ae ae;simp only[ma,ci,cG,cX] at H Q;rw[aY H];simp[bD N h.sg.sm];intro z;have Q:=Q z;refine⟨ae,λk g=> ?_,λa b G f=> ?_⟩;by_cases y:k=j;subst y;refine⟨Q, ?_, ?_, ?_⟩<;>simp only[ci]<;>omega;obtain⟨x,w,v,u⟩:=W k ae;exact⟨x,w,by simp only[ci] at v⊢;omega,u⟩;by_cases s:b=j;subst s;have:=(W a G).2.2.1;simp only[ci] at this⊢;omega;exact M a b G ae;have r:j=Y dh.ah:=ae;subst r;have d:Y ay.ah≠0:=λe=>bB (yS.1 e) mh
 exact⟨ae,ae,ae,ae,A,λi X=>(W i X).1,λi X=>⟨(W i X).2.1,(W i X).2.2.2⟩,M⟩
end
end
section
variable{R:aX->Prop}{G:aN}{t:T}{O:aj}{L:ck}
variable[Inhabited cm]
@[simp] def Qs (c:Nat->Int) (j:Nat) (h:j<14):aI j (Qr c)=c j:=by
 match j,h with|0,_|1,_|2,_|3,_|4,_|5,_|6,_|7,_|8,_|9,_|10,_|11,_|12,_|13,_=>rfl
def wY(bw ap:Int):Nat->av
 |0=>[]|i+1=>wY bw ap i++(if ci dh i 1=bw/\ci dh i 2=ap then[Qr (ci dh i)] else[])
def UL{bw ap:Int}:∀i,(wY bw ap i).length<=i
 |0=>by simp[wY]
 |i+1=>by
  have:=UL (bw:=bw) (ap:=ap) i;simp only[wY,fT];split<;>simp<;>omega
def abf{bw ap:Int}{x:aE}:∀{i},x∈wY bw ap i<->∃k<i,x=Qr (ci dh k)/\ci dh k 1=bw/\ci dh k 2=ap
 |0=>by simp[wY]
 |i+1=>by
  simp only[wY,fc,abf (i:=i)];constructor;rintro(⟨k,V,X⟩|h);exact⟨k,ae,X⟩;split at h;rename_i Q;simp at h;exact⟨i,ae,h,Q⟩;simp at h;rintro⟨k,V,X,W⟩;by_cases P:k=i;subst P;right;rw[aH W];simp[X];exact .inl ⟨k,ae,X,W⟩
def ate{bw ap:Int}(h:∀i j,i<j->j<Y dh.ah->ci dh i 0<ci dh j 0):∀{i},i<=Y dh.ah->wW (wY bw ap i)
 |0,_=>vx
 |i+1,Q=>by
  simp only[wY,wW,oD];refine⟨ate h ae,by split<;>simp,λx W y X=> ?_⟩;obtain⟨k,V,rfl,-⟩:=(abf).1 W;split at X;simp at X;subst X;rw[Qs _ _ ae,Qs _ _ ae];have:=h k i V ae;omega;simp at X
def jY:Int:=oi 40 wk 0
def mc(bw ap:Int):Int:=if jY=0 then(if jf bw 0 (Y ay.ah-1)&&jf ap 0 (eV-1) then 0 else 1) else jY
def dV(bw ap:Int):av:=if mc bw ap=0 then bN (bu.ratio 10 11).lt (wY bw ap (Y dh.ah)) else[]
def yH(X:At)(h:dU):TB.Ev 40 wk (.ret [.i jY])/\(jY=0->BW):=I8 (t37 X h)
def Jb(G:At)(h:dU)(bw ap:Int):TB.Ev 73 (wk++[.i bw,.i ap]) (.ret [.r (ao (dV bw ap)),.i (mc bw ap)]):=by
 refine kq ?_;obtain⟨W,F⟩:=yH G h;simp only[wk] at W;simp[T77,wk,h.rl.len,aY W];split
 case isFalse X=>
  simp[dV,mc,X]
 rename_i X;have V:=F X;have w:=V.nr;have v:=V.br;rw[show be .sub I (Y ay.ah:Int) 1=Y ay.ah-1 by simp only[be];rw[iW ae ae],show be .sub I eV 1=eV-1 by simp only[be];rw[iW ae ae]];split
 case isFalse Q=>
  simp[dV,mc,X,Q]
 rename_i Q;split
 case isFalse N=>
  simp[dV,mc,X,Q,N]
 rename_i N;refine bQ (Y dh.ah) (λi D=>D=[.r (ao (wY bw ap i))]) ⟨0,rfl,ae,rfl⟩ ?_;rintro i _ M rfl;have bq:=UL (bw:=bw) (ap:=ap) i;have u:=V.ns;simp[h.sg.len];split;rename_i M;simp[bD M h.sg.sm,wY,ci,M];have s:(wY bw ap i).length<=536870912:=ae;split;rename_i P;split;rename_i H;simp[P,H,Qr,ci];omega;rename_i H;simp[P,H];rename_i P;simp[P];have B:i=Y dh.ah:=ae;subst B;have A:=aBC (rows:=wY bw ap (Y dh.ah)) (by have:=UL (bw:=bw) (ap:=ap) (Y dh.ah);have:=h.sg.sm;omega) (λx z=>by
  obtain⟨k,W,rfl,-⟩:=(abf).1 z;rw[Qs _ _ ae,Qs _ _ ae];exact(V.UK k W).from_)
 simp only[wQ,wU];refine⟨_,A, ?_⟩;have y:mc bw ap=0:=by simp[mc,X,Q,N]
 simp[dV,y,ao,pM]
def atf{bw ap:Int}(Q:jY=0->BW){x:aE}(X:x∈dV bw ap):∃k<Y dh.ah,x=Qr (ci dh k)/\ci dh k 1=bw/\ci dh k 2=ap/\BU (Y ay.ah) eV (ci dh k):=by
 unfold dV at X;split at X;rename_i W;have P:jY=0:=by
  unfold mc at W;split at W;assumption;exact W
 obtain⟨k,V,N,M,H⟩:=(abf).1 ((BV _).mem_iff.1 X);exact⟨k,V,N,M,H,(Q P).UK k V⟩;simp at X
def abg{bw ap:Int}(W:jY=0->BW):wW (dV bw ap):=by
 unfold dV;split;rename_i X;have V:jY=0:=by
  unfold mc at X;split at X;assumption;exact X
 exact(ate (W V).ids (cd _)).perm (BV _);exact vx
def UM{bw ap:Int}(W:jY=0->BW):(dV bw ap).length<=4096:=by
 unfold dV;split;rename_i X;have V:jY=0:=by
  unfold mc at X;split at X;assumption;exact X
 rw[pM];have:=UL (bw:=bw) (ap:=ap) (Y dh.ah);have:=(W V).ns;omega;simp
end
section
variable{R:aX->Prop}{G:aN}{t:T}{O:aj}{L:ck}
def aBI(c:Nat->Int)(x y z:Int)(b:Bool):∃o,TB.Ev 107 (ma c++[.i x,.i y,.i z,.b b]) o/\∃e,o=.ret [.b e]/\(e=J->x=c 0):=by
 refine eL ?_;simp[aiW,ma]
 repeat' split
 all_goals(intros;grind [jf])
def f225(c:Nat->Int)(x y z:Int)(b:Bool):TB.Ev 107 (ma c++[.i x,.i y,.i z,.b b]) (.ret [.b (ob 107 (ma c++[.i x,.i y,.i z,.b b]) 0)])/\(ob 107 (ma c++[.i x,.i y,.i z,.b b]) 0=J->x=c 0):=mkb (aBI c x y z b)
def ajy(c:Nat->Int)(r:RV)(k:Nat):aE:=Qr c++[.mk (.int I (ci r k 0)) [],.mk (.int I (ci r k 1)) [],.mk (.int I (ci r k 2)) [],.mk (.bool (cb r k 3)) []]
def bY(X:av)(i j:Nat):Int:=bn (aQ X i j).val
def Au(l:av)(r:RV)(n:Nat)(out:av):Prop:=Y out=n/\∀i<n,∃k<Y r.ah,out[i]?=U (ajy (bY l i) r k)/\ci r k 0=bY l i 0
theorem Au.add{r:RV}{out:av}(h:Au X r W out){k:Nat}(V:k<Y r.ah)(hid:ci r k 0=bY X W 0):Au X r (W+1) (out++[ajy (bY X W) r k]):=by
 refine⟨by simp[h.1],λi G=> ?_⟩;by_cases Q:i=W;subst Q;refine⟨k,V, ?_,hid⟩;rw[jo (by rw[h.1];omega),h.1];simp;obtain⟨P,N,M,H⟩:=h.2 i ae;exact⟨P,N,by rw[fO (by rw[h.1];omega)];exact M,H⟩
def aBJ(l:av)(r:RV)(W:Sl r)(B:Y l<=4096)(G:wW l)(N:0<Y l):∃o,TB.Ev 74 [.r (ao l),.r r] o/\∃v b,o=.ret [.r (ao v),.b b]/\(b=E->v=[])/\(b=J->Au l r (Y l) v):=by
 refine eL ?_;simp[aaV,W.len];intro F;simp only[Gm];refine⟨.inl rfl,λ_=> ?_,λh=> ?_,λ_ h=> ?_⟩;simp;refine⟨ae, ?_⟩;simp only[wQ,wU];refine⟨_,atd bS (by simpa using G), ?_⟩;simp;have A:(bN (bu.lex [0] E).lt l).length=Y l:=pM;refine bQ (Y l) (λi V=>∃v,V=[.r (ao v)]/\Au l r i v) ⟨0,rfl,ae,[],rfl,rfl,ae⟩ ?_;rintro i _ Q ⟨v,rfl,P⟩;simp;split;rename_i Q;refine⟨Q, ?_⟩;refine bQ (Y l) (λj V=>V=[.r (ao v)]) ⟨0,rfl,ae,rfl⟩ ?_;rintro j _ X rfl;simp[W.len];intro X;have z:=P.1;simp[bD X (show Y l<=140737488355328 from ae)];refine⟨X,λy=>⟨ae, ?_⟩⟩;obtain⟨M,H⟩:=f225 (bY l i) (ci r j 0) (ci r j 1) (ci r j 2) (cb r j 3);simp only[ma,bY,ci,cb,cG,cX] at M H;rw[aY M];simp[bD X (show Y l<=140737488355328 from ae),bD Q (show Y l<=140737488355328 from ae),<-F,W.len];intro D;refine⟨X,ae, ?_⟩;have:=P.add (k:=j) ae (H D);exact⟨_,rfl,this⟩;have:i=Y l:=ae;subst this;exact⟨_,rfl,P⟩;simp at h;simp[h] at N;simp at h;simp[h] at N
def aBK(r:RV)(Q:Sl r):TB.Ev 74 [.r (ao []),.r r] (.ret [.r (ao []),.b (Y r.ah==0)]):=by
 refine kq ?_;simp[aaV,Q.len];split
 case isFalse h=>
  intro e;simp[e] at h
 rename_i h;have W:Y r.ah=0:=ae;have V:iq (bu.lex [0] E) E []=U []:=rfl;simp only[Gm,wQ,wU];refine⟨.inl rfl,λ_=> ?_,λ_=> ?_,λ_ _=>single (HA _)⟩
 ·try simp
  try simp only[wQ,wU]
  refine⟨_,by simpa using V, ?_⟩;refine bQ 0 (λi X=>X=[.r (ao [])]) ⟨0,rfl,ae,rfl⟩ ?_;rintro i _ P rfl;have:i=0:=ae;simp[W,this]
 ·try simp
  try simp only[wQ,wU]
  refine⟨_,by simpa using V, ?_⟩;refine bQ 0 (λi X=>X=[.r (ao [])]) ⟨0,rfl,ae,rfl⟩ ?_;rintro i _ P rfl;have:i=0:=ae;simp[W,this]
def atg(l:av)(r:RV)(X:Sl r)(W:Y l<=4096)(V:wW l):∃o,TB.Ev 74 [.r (ao l),.r r] o/\∃v b,o=.ret [.r (ao v),.b b]/\(b=E->v=[])/\(b=J->Au l r (Y l) v):=by
 cases l with|nil=>exact⟨_,aBK r X,[],Y r.ah==0,rfl,λ_=>rfl,λ_=>⟨rfl,aw⟩⟩|cons x l=>exact aBJ (x::l) r X W V aw
def nD{W:aZ}(G:aN)(h:∃o,TB.Ev V W o/\∃X,o=.ret X/\fC G X=J):TB.Ev V W (.ret (ua (out V W) G 0)):=by
 obtain⟨o,Q,X,N,M⟩:=h;exact(shp G (P:=λ_=>True) ⟨o,Q,X,N,M,trivial⟩).1
def kI:Nat->aN
 |0=>[]|n+1=>.int I::kI n
@[simp] def Qt:kI 0=[]:=rfl
@[simp] def Jc (n:Nat):kI (n+1)=.int I::kI n:=rfl
def aBL(a b:Int):∃o,TB.Ev 138 [.i a,.i b] o/\∃X,o=.ret X/\fC (kI 2) X=true:=by
 refine eL ?_;simp[aiv]
@[simp] def aJS (a b:Int):gX TB.Ev R 138 [.i a,.i b] G t O L=im TB.Ev R (.ret [.i (oi 138 [.i a,.i b] 0),.i (oi 138 [.i a,.i b] 1)]) G t O L:=aY (nD _ (aBL a b))
def aBM(a b:Int):∃o,TB.Ev 139 [.i a,.i b] o/\∃X,o=.ret X/\fC (kI 4) X=true:=by
 refine eL ?_;simp[aiw]
 repeat'(first|intro _|split)
 have W:lenOf (wh[2]?.getD default).val=8:=rfl;rw[show be .sub I a 1=a-1 by simp only[be];exact iW ae ae,W];omega
@[simp] def aJT (a b:Int):gX TB.Ev R 139 [.i a,.i b] G t O L=im TB.Ev R (.ret [.i (oi 139 [.i a,.i b] 0),.i (oi 139 [.i a,.i b] 1),.i (oi 139 [.i a,.i b] 2),.i (oi 139 [.i a,.i b] 3)]) G t O L:=aY (nD _ (aBM a b))
def aBN(a:Int):∃o,TB.Ev 274 [.i a] o/\∃X,o=.ret X/\fC (kI 3) X=true:=by
 refine eL ?_;simp[aix]
 repeat'(first|intro _|split)
 have W:lenOf (wh[2]?.getD default).val=8:=rfl;rw[show be .sub I a 1=a-1 by simp only[be];exact iW ae ae,W];omega
@[simp] def aJU (a:Int):gX TB.Ev R 274 [.i a] G t O L=im TB.Ev R (.ret [.i (oi 274 [.i a] 0),.i (oi 274 [.i a] 1),.i (oi 274 [.i a] 2)]) G t O L:=aY (nD _ (aBN a))
def aBO(a b c d e f:Int):∃o,TB.Ev 276 [.i a,.i b,.i c,.i d,.i e,.i f] o/\∃X,o=.ret X/\fC (kI 2) X=true:=by
 refine eL ?_;simp[aiE]
@[simp] def aJV (a b c d e f:Int):gX TB.Ev R 276 [.i a,.i b,.i c,.i d,.i e,.i f] G t O L=im TB.Ev R (.ret [.i (oi 276 [.i a,.i b,.i c,.i d,.i e,.i f] 0),.i (oi 276 [.i a,.i b,.i c,.i d,.i e,.i f] 1)]) G t O L:=aY (nD _ (aBO a b c d e f))
def aBP(a b c:Int):∃o,TB.Ev 219 [.i a,.i b,.i c] o/\∃X,o=.ret X/\fC (kI 3) X=true:=by
 refine eL ?_;simp[aiF]
@[simp] def aJW (a b c:Int):gX TB.Ev R 219 [.i a,.i b,.i c] G t O L=im TB.Ev R (.ret [.i (oi 219 [.i a,.i b,.i c] 0),.i (oi 219 [.i a,.i b,.i c] 1),.i (oi 219 [.i a,.i b,.i c] 2)]) G t O L:=aY (nD _ (aBP a b c))
def aBQ(s:RV)(b:Int):∃o,TB.Ev 128 [.r s,.i b] o/\∃X,o=.ret X/\fC (kI 1) X=true:=by
 cases W:s.val with|string u=>exact⟨_,afK (by simp only[TB,LX,abb,W];rfl),_,rfl,rfl⟩|_=>exact⟨_,afK (by simp only[TB,LX,abb,W];rfl),_,rfl,rfl⟩
@[simp] def aJX (s:RV) (b:Int):gX TB.Ev R 128 [.r s,.i b] G t O L=im TB.Ev R (.ret [.i (oi 128 [.r s,.i b] 0)]) G t O L:=aY (nD _ (aBQ s b))
def aBR(a:Int):∃o,TB.Ev 90 [.i a] o/\∃X,o=.ret X/\fC (kI 1) X=true:=by
 refine eL ?_;simp[aiY]
@[simp] def aJY (a:Int):gX TB.Ev R 90 [.i a] G t O L=im TB.Ev R (.ret [.i (oi 90 [.i a] 0)]) G t O L:=aY (nD _ (aBR a))
def DZ(v:RV):Prop:=∃s,v.val=.string s
def UN(v:RV):DZ (cJ .str v):=by
 simp only[cJ];split<;>exact⟨_,rfl⟩
def aBS(s:RV)(Q:DZ s):∃o,TB.Ev 64 [.r s] o/\∃W,o=.ret W/\fC [.bool] W=true:=by
 refine eL ?_;obtain⟨u,V⟩:=Q;simp[aiU,V,xA,lenOf];intro P G;have N:0<u.size:=by
  rcases Jz u.size with h|h;exfalso;apply P;have M:u=ByteArray.empty:=by simpa using h
  rw[M,ByteArray.toList,ByteArray.toList.loop];simp;exact h
 refine⟨N,λ_=> ?_⟩;refine bQ u.size (λ_ H=>H=[]) ⟨0,rfl,ae,rfl⟩ ?_;rintro i _ X rfl;simp[V,lenOf];intro X;simp[bD X (show u.size<=140737488355328 from ae),X]
def aBT(s:RV)(X:DZ s):gX TB.Ev R 64 [.r s] G t O L=im TB.Ev R (.ret [.b (ob 64 [.r s] 0)]) G t O L:=aY (nD [.bool] (aBS s X))
def t74(W V a2 Q P a5 a6 a7 a8 N M mM mN:Int):∃o,TB.Ev 34 [.i W,.i V,.i a2,.i Q,.i P,.i a5,.i a6,.i a7,.i a8,.i N,.i M,.i mM,.i mN] o/\∃X,o=.ret X/\fC (kI 1) X=true:=by
 refine eL ?_;simp[T74]
def o74(X W a2 V Q a5 a6 a7 a8 P N mM mN:Int):Int:=oi 34 [.i X,.i W,.i a2,.i V,.i Q,.i a5,.i a6,.i a7,.i a8,.i P,.i N,.i mM,.i mN] 0
@[simp] def c74 (X W a2 V Q a5 a6 a7 a8 P N mM mN:Int):gX TB.Ev R 34 [.i X,.i W,.i a2,.i V,.i Q,.i a5,.i a6,.i a7,.i a8,.i P,.i N,.i mM,.i mN] G t O L=im TB.Ev R (.ret [.i (o74 X W a2 V Q a5 a6 a7 a8 P N mM mN)]) G t O L:=aY (nD _ (t74 X W a2 V Q a5 a6 a7 a8 P N mM mN))
def t75(s:RV)(X:DZ s)(W V a2 Q P a5 a6 a7 a8 N M mM mN pE H G:Int):∃o,TB.Ev 41 [.r s,.i W,.i V,.i a2,.i Q,.i P,.i a5,.i a6,.i a7,.i a8,.i N,.i M,.i mM,.i mN,.i pE,.i H,.i G] o/\∃e,o=.ret [.i e]/\(e=0->(1<=mM/\mM<=3)/\(1<=mN/\mN<=3)/\1<=pE/\pE<=3):=by
 refine eL ?_;simp[T75,aBT s X];intros;omega
def Qu(s:RV)(X W a2 V Q a5 a6 a7 a8 P N mM mN pE M H:Int):Int:=oi 41 [.r s,.i X,.i W,.i a2,.i V,.i Q,.i a5,.i a6,.i a7,.i a8,.i P,.i N,.i mM,.i mN,.i pE,.i M,.i H] 0
def f75(s:RV)(G:DZ s)(X W a2 V Q a5 a6 a7 a8 P N mM mN pE M H:Int):TB.Ev 41 [.r s,.i X,.i W,.i a2,.i V,.i Q,.i a5,.i a6,.i a7,.i a8,.i P,.i N,.i mM,.i mN,.i pE,.i M,.i H] (.ret [.i (Qu s X W a2 V Q a5 a6 a7 a8 P N mM mN pE M H)])/\(Qu s X W a2 V Q a5 a6 a7 a8 P N mM mN pE M H=0->(1<=mM/\mM<=3)/\(1<=mN/\mN<=3)/\1<=pE/\pE<=3):=I8 (t75 s G X W a2 V Q a5 a6 a7 a8 P N mM mN pE M H)
def c75(s:RV)(F:DZ s)(X W a2 V Q a5 a6 a7 a8 P N mM mN pE M H:Int):gX TB.Ev R 41 [.r s,.i X,.i W,.i a2,.i V,.i Q,.i a5,.i a6,.i a7,.i a8,.i P,.i N,.i mM,.i mN,.i pE,.i M,.i H] G t O L=im TB.Ev R (.ret [.i (Qu s X W a2 V Q a5 a6 a7 a8 P N mM mN pE M H)]) G t O L:=aY (f75 s F X W a2 V Q a5 a6 a7 a8 P N mM mN pE M H).1
def t27(W V Q P N M H G F D B A z:Int)(s:RV)(y:DZ s)(x w a2 v u a5 a6 a7 a8 q p mM mN pE n m:Int):∃o,TB.Ev 115 [.i W,.i V,.i Q,.i P,.i N,.i M,.i H,.i G,.i F,.i D,.i B,.i A,.i z,.r s,.i x,.i w,.i a2,.i v,.i u,.i a5,.i a6,.i a7,.i a8,.i q,.i p,.i mM,.i mN,.i pE,.i n,.i m] o/\∃X,o=.ret X/\fC (kI 5) X=true:=by
 refine eL ?_;simp(maxSteps:=9999999) [T27,c75 s y]

variable[Inhabited cm]
def cr(e:TypeId)(v:RV)(i:Nat):RV:=cJ (.sl e) (aQ v.ah i 0)
def e65(V:At)(h:dU)(ap:Int):TB.Ev 100 (wk++[.i ap]) (.ret [.i (if jY=0 then(if jf ap 0 (eV-1) then 0 else 1) else jY)]):=by
 refine kq ?_;obtain⟨W,Q⟩:=yH V h;simp only[wk] at W;simp[T65,wk,aY W];split;rename_i X;have:=(Q X).br;rw[show be .sub I eV 1=eV-1 by simp only[be];rw[iW ae ae]];split<;>simp_all;rename_i X;simp[X]
def LZ(c:Nat->Int):aZ:=[.i (c 0),.i (c 1),.i (c 2),.i (c 3),.i (c 4),.i (c 5),.i (c 6),.i (c 7)]
def t25(c:Nat->Int)(ap:Int):∃o,TB.Ev 43 (LZ c++[.i ap]) o/\∃X,o=.ret X/\fC (kI 5) X=true:=by
 refine eL ?_;simp[T25,LZ]
def mO(c:Nat->Int)(ap:Int)(k:Nat):Int:=oi 43 (LZ c++[.i ap]) k
def f25(c:Nat->Int)(ap:Int):TB.Ev 43 (LZ c++[.i ap]) (.ret [.i (mO c ap 0),.i (mO c ap 1),.i (mO c ap 2),.i (mO c ap 3),.i (mO c ap 4)]):=nD _ (t25 c ap)
def atj(n:Nat)(v:av):Prop:=Y v<=4096/\∀x∈v,(0<=aI 0 x/\aI 0 x<n)/\0<=aI 1 x/\aI 1 x<n
def t23(H:At)(h:dU)(ap:Int):∃o,TB.Ev 71 (wk++[.i ap]) o/\∃v e,o=.ret [.r (ao v),.i e]/\(e≠0->v=[])/\atj (Y ay.ah) v/\(e=0->jY=0/\jf ap 0 (eV-1)=J):=by
 refine eL ?_;have M:=e65 H h ap;obtain⟨-,F⟩:=yH H h;simp only[wk,cG,cX] at M;obtain⟨e,P⟩:∃e,e=(if jY=0 then(if jf ap 0 (eV-1) then 0 else 1) else jY):=⟨_,rfl⟩;rw[<-P] at M;simp[T23,wk,aY M];split
 case isFalse D=>
  exact⟨[],e,⟨rfl,rfl⟩,λ_=>rfl,⟨aw,aw⟩,λh=>bB h D⟩
 rename_i B;have X:jY=0/\jf ap 0 (eV-1)=true:=by
  subst B;by_cases X:jY=0;rw[aH X] at P;refine⟨X, ?_⟩;cases A:jf ap 0 (eV-1);simp[A] at P;rfl;rw[aJ X] at P;exact bB P.symm X
 have z:=F X.1;have w:=z.nr;refine bQ (Y dh.ah) (λi N=>∃v,N=[.r v]) ⟨0,rfl,ae,_,rfl⟩ ?_;rintro i _ W ⟨m,rfl⟩;simp[h.sg.len];split;rename_i W;simp[bD W h.sg.sm,W];refine bQ (Y ay.ah) (λi N=>∃v,N=[.r (ao v)]/\Y v<=i*64/\∀x∈v,(0<=aI 0 x/\aI 0 x<Y ay.ah)/\0<=aI 1 x/\aI 1 x<Y ay.ah) ⟨0,rfl,ae,[],rfl,aw,aw⟩ ?_;rintro i _ W ⟨v,rfl,y,V⟩;simp[h.rl.len];split;rename_i W;refine bQ (Y ay.ah) (λj N=>∃v,N=[.r (ao v)]/\Y v<=i*64+j/\∀x∈v,(0<=aI 0 x/\aI 0 x<Y ay.ah)/\0<=aI 1 x/\aI 1 x<Y ay.ah) ⟨0,rfl,ae,v,rfl,ae,V⟩ ?_;rintro j _ G ⟨v,rfl,y,V⟩;simp[h.rl.len];split
 ·rename_i G;simp[bD G h.rl.sm]
  repeat' split
  all_goals first
   |exact⟨v,rfl,ae,V⟩
   |(refine⟨ae,_,rfl,bS,λx Q=> ?_⟩
     rcases fc.1 Q with Q|Q;exact V x Q;simp at Q;subst Q;simp[aI,bn];omega)
 simp[bD W h.rl.sm];exact⟨v,rfl,ae,V⟩;exact⟨v,0,⟨rfl,rfl⟩,aw,⟨ae,V⟩,λ_=>by simpa using X⟩

def aBY(M:At)(h:dU)(bw ap:Int)(r:RV)(V:Sl r)(H:0<(dV bw ap).length):∃o,TB.Ev 45 (wk++[.i bw,.i ap,.r r]) o/\∃e,o=.ret [.i e]/\(e=0->mc bw ap=0/\∃v,Au (dV bw ap) r (dV bw ap).length v):=by
 refine eL ?_;have G:=Jb M h bw ap;have F:=(yH M h).2;have x:=UM (bw:=bw) (ap:=ap) F;have A:=abg (bw:=bw) (ap:=ap) F;simp only[wk,cG,cX] at G;generalize dV bw ap=l at*;generalize mc bw ap=e at*;simp[UE,wk,aY G,V.len];split
 case isFalse W=>simp[W]
 rename_i W;intro z;rw[Gm];refine⟨.inl rfl,λ_=> ?_,λh=> ?_,λ_ h=> ?_⟩;simp;refine⟨ae, ?_⟩
 first|rw[wQ]|rw[wU]
 refine⟨_,atd bS (by simpa using A), ?_⟩;simp;have w:(bN (bu.lex [0] E).lt l).length=Y l:=pM;refine bQ (Y l) (λi Q=>∃v,Q=[.r (ao v)]/\Au l r i v) ⟨0,rfl,ae,[],rfl,rfl,ae⟩ ?_;rintro i _ P ⟨v,rfl,N⟩;simp;split;rename_i P;refine⟨P, ?_⟩;refine bQ (Y l) (λj Q=>Q=[.r (ao v)]) ⟨0,rfl,ae,rfl⟩ ?_;rintro j _ X rfl;simp[V.len];intro X;have u:=N.1;simp[bD X (show Y l<=140737488355328 from ae)];refine⟨X,λW=>⟨ae, ?_⟩⟩;obtain⟨D,B⟩:=f225 (bY l i) (ci r j 0) (ci r j 1) (ci r j 2) (cb r j 3);simp only[ma,bY,ci,cb,cG,cX] at D B;rw[aY D];simp[bD X (show Y l<=140737488355328 from ae),bD P (show Y l<=140737488355328 from ae),<-z,V.len];intro y;refine⟨X,ae, ?_⟩;have:=N.add (k:=j) ae (B y);exact⟨_,rfl,this⟩;have:i=Y l:=ae;subst this;exact⟨W,v,N⟩;simp at h;simp[h] at H;simp at h;simp[h] at H
def aBZ(N:At)(h:dU)(bw ap:Int)(r:RV)(M:Sl r)(H:dV bw ap=[]):TB.Ev 45 (wk++[.i bw,.i ap,.r r]) (.ret [.i (if mc bw ap≠0 then mc bw ap else if Y r.ah=0 then 0 else 270)]):=by
 refine kq ?_;have W:=Jb N h bw ap;rw[H] at W;simp only[wk,cG,cX] at W;generalize mc bw ap=e at*;simp[UE,wk,aY W,M.len];split
 case isFalse X=>simp[X]
 rename_i X;split
 case isFalse h=>
  simp;intro e;simp[e] at h
 rename_i h;have Q:r.ah=[]:=yS.1 ae;have P:iq (bu.lex [0] E) E []=U []:=rfl;simp only[Gm,wQ,wU];refine⟨.inl rfl,λ_=> ?_,λ_=> ?_,λ_ _=>single (HA _)⟩
 ·try simp
  try simp only[wQ,wU]
  refine⟨_,by simpa using P, ?_⟩;refine bQ 0 (λi V=>V=[.r (ao [])]) ⟨0,rfl,ae,rfl⟩ ?_;rintro i _ G rfl;have:i=0:=ae;simp[Q,X,this]
 ·try simp
  try simp only[wQ,wU]
  refine⟨_,by simpa using P, ?_⟩;refine bQ 0 (λi V=>V=[.r (ao [])]) ⟨0,rfl,ae,rfl⟩ ?_;rintro i _ G rfl;have:i=0:=ae;simp[Q,X,this]
def t85(W:At)(h:dU)(bw ap:Int)(r:RV)(V:Sl r):∃o,TB.Ev 45 (wk++[.i bw,.i ap,.r r]) o/\∃e,o=.ret [.i e]/\(e=0->mc bw ap=0/\∃v,Au (dV bw ap) r (dV bw ap).length v):=by
 by_cases X:dV bw ap=[];refine⟨_,aBZ W h bw ap r V X,_,rfl,λQ=> ?_⟩;split at Q;rename_i P;exact bB Q P;rename_i P;exact⟨ae,[],by rw[X];exact⟨rfl,aw⟩⟩;exact aBY W h bw ap r V (av4.2 X)
end
def aU{c:Prop}[Decidable c]{A B:Prop}(X:c->A)(W:¬c->B):if c then A else B:=by
 by_cases h:c;rw[aH h];exact X h;rw[aJ h];exact W h
section
variable{R:aX->Prop}{G:aN}{t:T}{O:aj}{L:ck}
variable[Inhabited cm]
end
section
variable{R:aX->Prop}{G:aN}{t:T}{O:aj}{L:ck}
def t81(W:Int)(Q N M:RV)(P:Sl Q)(H:Sl N)(G:Sl M):∃o,TB.Ev 60 [.i W,.r Q,.r N,.r M] o/\∃e,o=.ret [.i e]/\(e=0->Qp Q/\1<=W/\W<=4096):=by
 refine Qo rfl rfl (.inr λv D=>by obtain⟨_,h,_⟩:=D;cases h) ?_;simp[T81,P.len,H.len,G.len]
 repeat'(first|intro _|split)
 refine⟨mh, ?_⟩;intro B;have A:0<Y Q.ah:=mh;have F:Qp Q:=⟨P,A,by simpa[ci] using B⟩;have z:1<=W/\W<=4096:=ae;refine bQ (Y Q.ah) (λ_ V=>∃n:Int,V=[.i n]) ⟨0,rfl,ae,_,rfl⟩ ?_;rintro i _ X ⟨n,rfl⟩;simp[P.len];split;rename_i X;simp[bD X P.sm,X];refine bQ W.toNat (λ_ V=>V=[]) ⟨0,rfl,ae,rfl⟩ ?_;rintro i _ X rfl;simp;split;rename_i X;have y:i<W.toNat:=ae;rw[as8 _ _ _ _ _ F ae];simp[bD y (show W.toNat<=140737488355328 from ae)];refine bQ (Y N.ah) (λ_ V=>∃n:Int,V=[.i n]) ⟨0,rfl,ae,_,rfl⟩ ?_;rintro i _ X ⟨n,rfl⟩;simp[H.len];split;rename_i X;simp[bD X H.sm,X];refine bQ (Y M.ah) (λ_ V=>V=[]) ⟨0,rfl,ae,rfl⟩ ?_;rintro i _ X rfl;simp[G.len];split;rename_i X;simp[bD X G.sm,X];exact⟨F,z⟩
def oV:At:=λX W V Q P N M=>I8 (t81 X W V Q P N M)

def Aft:Prop:=∀(W V Q P N M H G F D B A z:Int)(c:Nat->Int)(p q r:Int)(b:Bool),∃o,TB.Ev 171 ([.i W,.i V,.i Q,.i P,.i N,.i M,.i H,.i G,.i F,.i D,.i B,.i A,.i z]++ma c++[.i p,.i q,.i r,.b b]) o/\∃X,o=.ret X/\fC (kI 14) X=J
def ajB:Aft:=by
 intro A z y x w v u s o n m l k c p q r b;refine eL ?_;by_cases X:c 4=1\/c 4=2\/c 4=3\/c 4=4\/c 4=5\/c 4=6\/c 4=7\/c 4=8\/c 4=9
 ·rcases X with h|h|h|h|h|h|h|h|h
  all_goals
   simp(maxSteps:=9999999) [aaY,ma,h]
   try
    (repeat'(first|intro _|split)
     all_goals
      have W:be .sub I (c 5) 1=c 5-1:=by simp only[be];exact iW ae ae
      have V:be .add I (c 5) 1=c 5+1:=by simp only[be];exact iW ae ae
      simp only[W,V] at*
      first|omega|(exfalso;omega))
 simp only[not_or] at X;obtain⟨Q,P,N,M,H,G,F,D,B⟩:=X;simp(maxSteps:=9999999) [aaY,ma,Q,P,N,M,H,G,F,D,B]
variable[Inhabited cm]
def Qv:∀{n:Nat}{ys:aZ},fC (kI n) ys=J->∃f:Nat->Int,ys=(dj n).map λk=>.i (f k)
 |0,[],_=>⟨λ_=>0,rfl⟩|0,_::_,h=>by simp at h|n+1,[],h=>by simp at h
 |n+1,y::ys,h=>by
  simp only[Jc,fC,aC] at h;obtain⟨f,X⟩:=Qv (n:=n) (ys:=ys) h.2;cases y<;>simp only[NZ,iZ,false_and] at h;rename_i x;refine⟨λk=>match k with|0=>x|k+1=>f k, ?_⟩
  rw[X,avX];simp
def t89(h:dU)(bw ap:Int)(x:Nat->Int)(r:RV)(M:Sl r):∃o,TB.Ev 113 (wk++[.i bw,.i ap,.i (x 0),.i (x 1),.i (x 2),.i (x 3),.i (x 4),.i (x 5),.i (x 6),.i (x 7),.i (x 8),.i (x 9),.i (x 10),.i (x 11),.i (x 12),.r r]) o/\∃X,o=.ret X/\fC (kI 14) X=true:=by
 refine eL ?_;have Q:=Jb oV h bw ap;have P:=(yH oV h).2;have H:=UM (bw:=bw) (ap:=ap) P;have G:=abg (bw:=bw) (ap:=ap) P;simp only[wk,cG,cX] at Q;generalize dV bw ap=l at*;generalize mc bw ap=e at*;obtain⟨o,F,v,b,rfl,y,D⟩:=atg l r M H G;simp[T89,wk,aY Q,aY F];intro _ _ B;have w:Y v<=4096:=by have:=(D B).1;omega
 refine bQ (Y v) (λi N=>fC (kI 26) N=J) ⟨0,rfl,ae,rfl⟩ ?_;rintro i N W A;obtain⟨f,rfl⟩:=Qv A;rw[show dj 26=[0,1,2,3,4,5,6,7,8,9,10,11,12,13,14,15,16,17,18,19,20,21,22,23,24,25] from rfl];simp;intro W;obtain⟨o,V,X,rfl,z⟩:=ajB (f 13) (f 14) (f 15) (f 16) (f 17) (f 18) (f 19) (f 20) (f 21) (f 22) (f 23) (f 24) (f 25) (bY v i) (bY v i 14) (bY v i 15) (bY v i 16) (jw (aQ v i 17).val);obtain⟨g,rfl⟩:=Qv z;rw[show dj 14=[0,1,2,3,4,5,6,7,8,9,10,11,12,13] from rfl] at V;simp only[ma,bY,cG,cX,dH,oE] at V;simp[aY V,bD W (show Y v<=140737488355328 from ae),W]
end
section
variable{R:aX->Prop}{G:aN}{t:T}{O:aj}{L:ck}
variable[Inhabited cm]
def ajD{v:RV}{X:T}{e:TypeId}{W Q P:bo}(V:Sl v)(M:Y v.ah<=536870912)(N:X=.gr (.c J) (.cmp .leq (.len (.v 0)) (.c 0)) (.aS (.cmp .leq (.len (.v 0)) (.c 536870912)) (.new e (.iC (.lit []) (.ak (.v 0))) W Q (.ret (.ak (.v 1)) [] P))) (.ret (.ak (.k (.slice Z 0 0))) [] W)):T.wp TB.Ev (· =.ret [.r (ao v.ah)]) X (dJ [] [.r v]) []:=by
 subst N;rw[Gm];refine⟨.inl rfl,λ_=> ?_,λh=> ?_,λ_ h=> ?_⟩;simp[zD,V.len];omega
 all_goals
  have h:v.ah=[]:=by
   simp[V.len] at h;exact h
 simp[zD,h];exact single (HA _)
def e86(v:RV)(X:Sl v)(h:Y v.ah<=536870912):TB.Ev 110 [.r v] (.ret [.r (ao v.ah)]):=kq (ajD X h rfl)
def e87(v:RV)(X:Sl v)(h:Y v.ah<=536870912):TB.Ev 111 [.r v] (.ret [.r (ao v.ah)]):=kq (ajD X h rfl)
def e88(v:RV)(X:Sl v)(h:Y v.ah<=536870912):TB.Ev 112 [.r v] (.ret [.r (ao v.ah)]):=kq (ajD X h rfl)
def aB2(v:RV)(W:Sl v)(a b c:Int)(d:Bool):∃o,TB.Ev 176 [.r v,.i a,.i b,.i c,.b d] o/\∃V,o=.ret V/\fC (kI 1) V=true:=by
 refine eL ?_;simp[aiR];refine bQ (Y v.ah) (λ_ Q=>Q=[]) ⟨0,rfl,ae,rfl⟩ ?_;rintro i _ X rfl;simp[W.len];intro X;simp[bD X W.sm,X]
def aB3(v:RV)(W:Sl v)(a b c:Int)(d:Bool):∃o,TB.Ev 146 [.r v,.i a,.i b,.i c,.b d] o/\∃X,o=.ret X/\fC [.bool] X=true:=by
 refine eL ?_;have h:=nD _ (aB2 v W a b c d);simp[aiQ,aY h,ua]
def atn(v:RV)(X:Sl v)(a b c:Int)(d:Bool):gX TB.Ev R 146 [.r v,.i a,.i b,.i c,.b d] G t O L=im TB.Ev R (.ret [.b (ob 146 [.r v,.i a,.i b,.i c,.b d] 0)]) G t O L:=aY (nD [.bool] (aB3 v X a b c d))
def aB4(Q:At)(h:dU)(id:Int):∃o,TB.Ev 174 (wk++[.i id]) o/\∃W,o=.ret W/\fC (kI 15) W=true:=by
 refine eL ?_;obtain⟨V,H⟩:=yH Q h;simp only[wk] at V;simp[ai9,wk,aY V];intro G;have F:=h.sg.sm;refine As (λX=>∃i j:Nat,X=[.i i,.i j]/\i<=j/\j<=Y dh.ah) (λX=>(xi X 1-xi X 0).toNat) ⟨0,Y dh.ah,by simp[h.sg.len],ae,ae⟩ ?_;rintro _ ⟨i,j,rfl,P,D⟩;simp[xi,BR,h.sg.len,ajx (show j<=140737488355328 from ae) P];split;rename_i B;refine⟨ae, ?_⟩;have N:((i:Int)+j)/2=(((i+j)/2:Nat):Int):=ae;have M:=wV (i:=(i+j)/2) ae;rw[N,M];split;exact⟨⟨(i+j)/2+1,j,⟨rfl,rfl⟩,ae,ae⟩,ae⟩;exact⟨⟨i,(i+j)/2,⟨rfl,rfl⟩,ae,ae⟩,ae⟩;intro A;omega
def aB5(N:BW)(h:dU)(ap:Int)(V M H X G:RV)(c:Nat->Int)(F:Sl V)(D:Sl X)(y:Y V.ah=Y ay.ah)(x:Y X.ah=Y ay.ah)(bZ:∀i<Y X.ah,Sl (cr 96 X i)):∃o,TB.Ev 147 (wk++[.i ap,.r V,.r M,.r H,.r X,.r G]++ma c) o/\∃P,o=.ret P/\fC [.bool] P=true:=by
 refine eL ?_;simp[aiS,wk,ma];refine bQ (Y dh.ah) (λ_ B=>B=[]) ⟨0,rfl,ae,rfl⟩ ?_;rintro i _ W rfl;simp[h.sg.len,F.len,D.len];intro W;simp[bD W h.sg.sm,W];intros;have A:=(N.UK i W).bw;simp only[ci] at A;refine⟨ae,λ_=>⟨ae, ?_⟩⟩;have z:(bn (aQ dh.ah (i:Int) 1).val).toNat<Y X.ah:=ae;have Q:=bZ _ z;simp only[cr] at Q;rw[show(((bn (aQ dh.ah (i:Int) 1).val).toNat:Nat):Int)=bn (aQ dh.ah (i:Int) 1).val from ae] at Q;rw[atn _ Q];simp[bD W h.sg.sm]

def gl0:RV:=wh[0]?.getD default
def L4:RV:=wh[1]?.getD default
def gl2:RV:=wh[2]?.getD default
def aB8:wh=[gl0,L4,gl2]:=rfl
def ato:lenOf L4.val=10:=rfl
def rI(k:Int)(j:Nat):RV:=cJ (.sl 3) (aQ L4.ah k j)
def aB9{k s:Int}(Q:1<=k/\k<=9)(W:if k=1\/k=3\/k=4\/k=9 then 1<=s/\s<=2 else s=0):
  (lenOf (rI k 0).val=(rI k 0).ah.length/\(rI k 0).ah.length<=2/\∀i:Nat,i<(rI k 0).ah.length->0<=bn (aQ (rI k 0).ah i 0).val/\bn (aQ (rI k 0).ah i 0).val<=2/\1<=s/\s<=2)/\
  (lenOf (rI k 1).val=(rI k 1).ah.length/\(rI k 1).ah.length<=2/\∀i:Nat,i<(rI k 1).ah.length->0<=bn (aQ (rI k 1).ah i 0).val/\bn (aQ (rI k 1).ah i 0).val<=4):=by
 have:k=1\/k=2\/k=3\/k=4\/k=5\/k=6\/k=7\/k=8\/k=9:=ae;rcases this with rfl|rfl|rfl|rfl|rfl|rfl|rfl|rfl|rfl
 all_goals
  simp at W;refine⟨⟨rfl,ez,λi X=> ?_⟩,rfl,ez,λi X=> ?_⟩
  all_goals
   simp[rI,L4,wh,Bl,sV,iV,aQ,cJ,-as9] at X
   try
    have V:i=0\/i=1:=ae;rcases V with rfl|rfl
    all_goals simp[rI,L4,wh,Bl,sV,iV,aQ,cJ,bn,-as9] at X⊢
    all_goals(try omega)
def aCa{bw ap:Int}{v:av}{r:RV}(Q:jY=0->BW)(h:Au (dV bw ap) r (dV bw ap).length v){i:Nat}(W:i<Y v):∃c,BU (Y ay.ah) eV c/\∀j<14,bn (aQ v (i:Int) j).val=c j:=by
 rw[h.1] at W;obtain⟨k,F,P,D⟩:=h.2 i W;obtain⟨x,V⟩:∃x,(dV bw ap)[i]?=U x:=⟨_,dv W⟩;obtain⟨m,B,N,A,z,M⟩:=atf Q (jD V);refine⟨ci dh m,M,λj X=> ?_⟩;have H:∀j<14,bY (dV bw ap) i j=ci dh m j:=λj X=>by
  have:=Qs (ci dh m) j X;simp only[bY,aQ,rN,di,V,N];simpa[aI] using this
 have G:∀j<14,bn ((ajy (bY (dV bw ap) i) r k).getD j default).val=bY (dV bw ap) i j:=λj X=>by
  match j,X with|0,_|1,_|2,_|3,_|4,_|5,_|6,_|7,_|8,_|9,_|10,_|11,_|12,_|13,_=>rfl
 rw[<-H j X,<-G j X];simp only[aQ,rN,di,P];rfl
def kB:Nat->aN
 |0=>[]|n+1=>.bool::kB n
@[simp] def kB0:kB 0=[]:=rfl
@[simp] def kBs (n:Nat):kB (n+1)=.bool::kB n:=rfl
def abi:∀{n:Nat}{ys:aZ},fC (kB n) ys=J->∃f:Nat->Bool,ys=(dj n).map λk=>.b (f k)
 |0,[],_=>⟨λ_=>E,rfl⟩|0,_::_,h=>by simp at h|n+1,[],h=>by simp at h
 |n+1,y::ys,h=>by
  simp only[kBs,fC,aC] at h;obtain⟨f,X⟩:=abi (n:=n) (ys:=ys) h.2;cases y<;>simp only[NZ,iZ,false_and] at h;rename_i x;refine⟨λk=>match k with|0=>x|k+1=>f k, ?_⟩
  rw[X,avX];simp
def atp:∀{n:Nat}{ys:aZ},fC (kI n++[.bool]) ys=J->∃(f:Nat->Int)(b:Bool),ys=(dj n).map (λk=>.i (f k))++[.b b]
 |0,[],h=>by simp at h|0,[.b b],_=>⟨λ_=>0,b,rfl⟩|0,[.i _],h=>by simp at h|0,[.r _],h=>by simp at h|0,_::_::_,h=>by simp at h|n+1,[],h=>by simp at h
 |n+1,y::ys,h=>by
  simp only[Jc,cG,fC,aC] at h;obtain⟨f,b,X⟩:=atp (n:=n) (ys:=ys) h.2;cases y<;>simp only[NZ,iZ,false_and] at h;rename_i x;refine⟨λk=>match k with|0=>x|k+1=>f k,b, ?_⟩
  rw[X,avX];simp
def t90(h:dU)(bw ap:Int)(x:Nat->Int)(N:RV)(ac:DZ N)(y:Nat->Int)(r:RV)(hr:Sl r):∃o,TB.Ev 114 (wk++[.i bw,.i ap,.i (x 0),.i (x 1),.i (x 2),.i (x 3),.i (x 4),.i (x 5),.i (x 6),.i (x 7),.i (x 8),.i (x 9),.i (x 10),.i (x 11),.i (x 12),.r N,.i (y 1),.i (y 2),.i (y 3),.i (y 4),.i (y 5),.i (y 6),.i (y 7),.i (y 8),.i (y 9),.i (y 10),.i (y 11),.i (y 12),.i (y 13),.i (y 14),.i (y 15),.i (y 16),.r r]) o/\∃M,o=.ret M/\fC (kI 5) M=true:=by
 refine eL ?_;have m:=Jb oV h bw ap;have H:=(yH oV h).2;have hl:=UM (bw:=bw) (ap:=ap) H;have hk:=abg (bw:=bw) (ap:=ap) H;have fH:= @aCa _ bw ap;simp only[wk,cG,cX] at m;generalize dV bw ap=l at*;generalize mc bw ap=e at*;obtain⟨o,h2,v,b,rfl,h3,h4⟩:=atg l r hr hl hk;simp[T90,wk,aB8,aY m,aY h2,c75 N ac];intro _ _ _ hb;have j:=h4 hb;have hv:Y v<=4096:=by have:=j.1;omega
 have G:Y v<=140737488355328:=ae;refine bQ (Y v) (λi X=>fC (kB 6) X=J) ⟨0,rfl,ae,rfl⟩ ?_;rintro i X W V;obtain⟨f,rfl⟩:=abi V;rw[show dj 6=[0,1,2,3,4,5] from rfl];simp;split
 ·rename_i W;obtain⟨c,F,d⟩:=fH H j W;have D:=d 4 ae;have af:=d 5 ae;obtain⟨B,A⟩:=aB9 F.kind F.side;have ag:=F.kind;have aa:cJ (.sl 3) (aQ L4.ah (c 4) 0)=rI (c 4) 0:=rfl;have ab:cJ (.sl 3) (aQ L4.ah (c 4) 1)=rI (c 4) 1:=rfl;generalize rI (c 4) 0=z at B aa;generalize rI (c 4) 1=w at A ab;simp[bD W G,W,D,ato];intro _;split
  all_goals
   refine⟨ae, ?_⟩;refine bQ (Y z.ah) (λ_ X=>fC (kB 5) X=J) ⟨0,rfl,ae,rfl⟩ ?_;rintro a X Q V;obtain⟨g,rfl⟩:=abi V;rw[show dj 5=[0,1,2,3,4] from rfl];simp[D,af,aa,B.1,ato];split;rename_i Q;have s:=B.2.2 a Q;generalize bn (aQ z.ah (a:Int) 0).val=x at s;rw[show be .sub I (be .add I x (c 5)) 1=x+c 5-1 by simp only[be];rw[iW (n:=x+c 5) ae ae,iW ae ae]];simp[bD Q (show Y z.ah<=140737488355328 from ae),Q];omega;refine⟨ae, ?_⟩;refine bQ (Y w.ah) (λ_ X=>fC (kB 5) X=J) ⟨0,rfl,ae,rfl⟩ ?_;rintro a' X P V;obtain⟨g',rfl⟩:=abi V;rw[show dj 5=[0,1,2,3,4] from rfl];simp[D,ab,A.1];split;rename_i P;have s:=A.2.2 a' P;generalize bn (aQ w.ah (a':Int) 0).val=x at s;simp[bD P (show Y w.ah<=140737488355328 from ae),P];omega;simp[bD W G]
 refine bQ 5 (λ_ X=>fC (kI 4) X=J) ⟨0,rfl,ae,rfl⟩ ?_;rintro k X q V;obtain⟨g,rfl⟩:=Qv V;rw[show dj 4=[0,1,2,3] from rfl];have hq:be .quo I (k:Int) 2=((k/2:Nat):Int):=by
  simp only[be];rw[show(k:Int).tdiv 2=((k/2:Nat):Int) by rw[Int.tdiv_eq_ediv_of_nonneg ae];omega];exact iW ae ae
 simp[hq];split;rename_i q;have q:k<5:=ae;simp[bD q (show 5<=140737488355328 from ae)];omega;intro _;refine bQ (Y v) (λ_ X=>fC (kI 17++[.bool]) X=J) ⟨0,rfl,ae,rfl⟩ ?_;rintro i X W V;obtain⟨f,b',rfl⟩:=atp V;rw[show dj 17=[0,1,2,3,4,5,6,7,8,9,10,11,12,13,14,15,16] from rfl];simp;intro W;obtain⟨o,p,M,rfl,q2⟩:=ajB (f 4) (f 5) (f 6) (f 7) (f 8) (f 9) (f 10) (f 11) (f 12) (f 13) (f 14) (f 15) (f 16) (bY v i) (bY v i 14) (bY v i 15) (bY v i 16) (jw (aQ v i 17).val);obtain⟨u,rfl⟩:=Qv q2;rw[show dj 14=[0,1,2,3,4,5,6,7,8,9,10,11,12,13] from rfl] at p;simp only[ma,bY,cG,cX,dH,oE] at p;refine⟨W, ?_⟩;rw[aY p];simp[bD W G]
end
section
variable{R:aX->Prop}{G:aN}{t:T}{O:aj}{L:ck}
def aft(x:Nat->Int)(v:av)(i:Nat):Nat->Int:=xi (out 171 ([.i (x 0),.i (x 1),.i (x 2),.i (x 3),.i (x 4),.i (x 5),.i (x 6),.i (x 7),.i (x 8),.i (x 9),.i (x 10),.i (x 11),.i (x 12)]++ma (bY v i)++[.i (bY v i 14),.i (bY v i 15),.i (bY v i 16),.b (jw (aQ v i 17).val)]))

variable[Inhabited cm]

end
def jQ(v:av):Prop:=∀x∈v,jw (x.getD 3 default).val=E
def jQ.nil:jQ []:=λx X=>by simp at X
def jQ.iC{x:aE}(h:jQ X)(V:jw (x.getD 3 default).val=E):jQ (X++[x]):=λy W=>by
 rcases fc.1 W with W|W;exact h y W;simp at W;subst W;exact V
theorem jQ.at(h:jQ X)(V:W<Y X):jw (X[W].getD 3 default).val=false:=h _ (sQ V)
def jQ.cell(h:jQ X)(V:W<Y X):jw (aQ X (W:Int) 3).val=false:=by
 have:=h.at V;simpa[aQ,V] using this
section
variable{R:aX->Prop}{G:aN}{t:T}{O:aj}{L:ck}
variable[Inhabited cm]
def ajE{W:ar}{d:Bool}(V:Y X<=1099511627776):iq (.lex W d) J X=U (bN (bu.lex W d).lt X):=by
 simp only[iq];rw[aH (by simp[V,bu.ok])]
def aCc(hc:At)(h:dU)(id:Int)(l:RV)(a0:DZ l)(f d c b a y5 y6 y7 y8 y9 aa F D B ab ac:Int):∃o,TB.Ev 145 (wk++[.i id,.r l,.i f,.i d,.i c,.i b,.i a,.i y5,.i y6,.i y7,.i y8,.i y9,.i aa,.i F,.i D,.i B,.i ab,.i ac]) o/\∃v e,o=.ret [.r (ao v),.i e]/\(xi (out 174 (wk++[.i id])) 3=1->jQ v)/\Y v<=100:=by
 refine eL ?_;have Q:=nD _ (aB4 hc h id);have P:=f75 l a0 f d c b a y5 y6 y7 y8 y9 aa F D B ab ac;simp only[wk,cG,cX,Jc,Qt,ua] at Q;simp only[wk,cG,cX];generalize xi (out 174 [XV.i mK,XV.i mL,XV.i wX,XV.i I9,XV.i Ja,XV.r ay,XV.i eV,XV.r mb,XV.r nA,XV.r nC,XV.r dh,XV.i id])=g at Q⊢;generalize Qu l f d c b a y5 y6 y7 y8 y9 aa F D B ab ac=a1 at P;by_cases N:g 14=0;by_cases M:a1=0;have ht:=P.2 M;have V:g 4=1\/g 4=2\/g 4=9\/g 4=3\/g 4=4\/g 4=5\/(g 4≠1/\g 4≠2/\g 4≠9/\g 4≠3/\g 4≠4/\g 4≠5):=ae;rcases V with V|V|V|V|V|V|⟨k1,k2,k3,k4,k5,k6⟩
 ·simp(maxSteps:=9999999) [BP,wk,aY Q,aY P.1,N,M,V]
  repeat' split
  all_goals first|exact⟨_,rfl,λe=>bB e mh,aw⟩|exact⟨_,rfl,λ_=>by simp[jQ,jw],aw⟩
 ·simp(maxSteps:=9999999) [BP,wk,aY Q,aY P.1,N,M,V]
  repeat' split
  all_goals first|exact⟨_,rfl,λe=>bB e mh,aw⟩|exact⟨_,rfl,λ_=>by simp[jQ,jw],aw⟩
 ·simp(maxSteps:=9999999) [BP,wk,aY Q,aY P.1,N,M,V]
  repeat' split
  all_goals first|exact⟨_,rfl,λe=>bB e mh,aw⟩|exact⟨_,rfl,λ_=>by simp[jQ,jw],aw⟩
 simp(maxSteps:=9999999) [BP,wk,aY Q,aY P.1,N,M,V];have hT:1<=F/\F<=3:=ht.1;obtain⟨eP,A⟩:∃n:Nat,F=n:=⟨F.toNat,ae⟩;subst A;refine bQ 9 (λi W=>∃v,W=[.r (ao v)]/\jQ v/\Y v<=3*i) ⟨0,rfl,ae,[],rfl,jQ.nil,aw⟩ ?_;rintro i _ hi ⟨v,rfl,X,z⟩;simp;split;rename_i af;have y:i<9:=ae;refine bQ (eP+1) (λj W=>1<=j/\∃v,W=[.r (ao v)]/\jQ v/\Y v+1<=3*i+j) ⟨1,rfl,ae,ae,v,rfl,X,ae⟩ ?_;rintro j _ hj ⟨ag,v,rfl,X,z⟩;simp;split
 ·rename_i al;have w:j<eP+1:=ae;simp[bD w (show eP+1<=140737488355328 from ae)]
  repeat'(first|intro _|split)
  all_goals first
   |exact⟨v,rfl,X,ae⟩
   |(refine⟨ae,_,rfl,X.iC rfl,bS⟩)
   |(refine⟨⟨ae,ae⟩,_,rfl,X.iC rfl,bS⟩)
 simp[bD y (show 9<=140737488355328 from ae)];exact⟨v,rfl,X,ae⟩
 first|rw[wQ]|rw[wU]
 refine⟨_,ajE bS, ?_⟩;have s:(bN (bu.lex [4] J).lt v).length=Y v:=pM;simp;have H:jQ (bN (bu.lex [4] J).lt v):=λx p=>X x ((BV v).mem_iff.1 p)
 generalize hq:bN (bu.lex [4] J).lt v=q at s H;refine bQ (Y q) (λi W=>∃u,W=[.r (ao u)]/\jQ u/\Y u=i) ⟨0,rfl,ae,[],rfl,jQ.nil,rfl⟩ ?_;rintro k _ an ⟨u,rfl,G,hu⟩;simp;split;rename_i m;refine⟨m,ae, ?_⟩;rw[bD (show k<Y q from ae) (show Y q<=140737488355328 from ae)];exact⟨_,rfl,G.iC (H.cell (show k<Y q from ae)),bS⟩
 ·repeat'(first|intro _|split)
  all_goals first
   |exact⟨u,rfl,λ_=>G,ae⟩|(refine⟨ae,_,rfl,λe=>bB e mh, ?_⟩;simp;omega)|(refine⟨⟨ae,ae⟩,_,rfl,λe=>bB e mh, ?_⟩;simp;omega)
 simp(maxSteps:=9999999) [BP,wk,aY Q,aY P.1,N,M,V];have hT:1<=D/\D<=3:=ht.2.1;obtain⟨eP,A⟩:∃n:Nat,D=n:=⟨D.toNat,ae⟩;subst A;refine bQ 9 (λi W=>∃v,W=[.r (ao v)]/\jQ v/\Y v<=3*i) ⟨0,rfl,ae,[],rfl,jQ.nil,aw⟩ ?_;rintro i _ hi ⟨v,rfl,X,z⟩;simp;split;rename_i af;have y:i<9:=ae;refine bQ (eP+1) (λj W=>1<=j/\∃v,W=[.r (ao v)]/\jQ v/\Y v+1<=3*i+j) ⟨1,rfl,ae,ae,v,rfl,X,ae⟩ ?_;rintro j _ hj ⟨ag,v,rfl,X,z⟩;simp;split
 ·rename_i al;have w:j<eP+1:=ae;simp[bD w (show eP+1<=140737488355328 from ae)]
  repeat'(first|intro _|split)
  all_goals first
   |exact⟨v,rfl,X,ae⟩
   |(refine⟨ae,_,rfl,X.iC rfl,bS⟩)
   |(refine⟨⟨ae,ae⟩,_,rfl,X.iC rfl,bS⟩)
 simp[bD y (show 9<=140737488355328 from ae)];exact⟨v,rfl,X,ae⟩
 first|rw[wQ]|rw[wU]
 refine⟨_,ajE bS, ?_⟩;have s:(bN (bu.lex [4] J).lt v).length=Y v:=pM;simp;have H:jQ (bN (bu.lex [4] J).lt v):=λx p=>X x ((BV v).mem_iff.1 p)
 generalize hq:bN (bu.lex [4] J).lt v=q at s H;refine bQ (Y q) (λi W=>∃u,W=[.r (ao u)]/\jQ u/\Y u=i) ⟨0,rfl,ae,[],rfl,jQ.nil,rfl⟩ ?_;rintro k _ an ⟨u,rfl,G,hu⟩;simp;split;rename_i m;refine⟨m,ae, ?_⟩;rw[bD (show k<Y q from ae) (show Y q<=140737488355328 from ae)];exact⟨_,rfl,G.iC (H.cell (show k<Y q from ae)),bS⟩
 ·repeat'(first|intro _|split)
  all_goals first
   |exact⟨u,rfl,λ_=>G,ae⟩|(refine⟨ae,_,rfl,λe=>bB e mh, ?_⟩;simp;omega)|(refine⟨⟨ae,ae⟩,_,rfl,λe=>bB e mh, ?_⟩;simp;omega)
 simp(maxSteps:=9999999) [BP,wk,aY Q,aY P.1,N,M,V];have hT:1<=B/\B<=3:=ht.2.2;obtain⟨eP,A⟩:∃n:Nat,B=n:=⟨B.toNat,ae⟩;subst A;refine bQ 9 (λi W=>∃v,W=[.r (ao v)]/\jQ v/\Y v<=3*i) ⟨0,rfl,ae,[],rfl,jQ.nil,aw⟩ ?_;rintro i _ hi ⟨v,rfl,X,z⟩;simp;split;rename_i af;have y:i<9:=ae;refine bQ (eP+1) (λj W=>1<=j/\∃v,W=[.r (ao v)]/\jQ v/\Y v+1<=3*i+j) ⟨1,rfl,ae,ae,v,rfl,X,ae⟩ ?_;rintro j _ hj ⟨ag,v,rfl,X,z⟩;simp;split
 ·rename_i al;have w:j<eP+1:=ae;simp[bD w (show eP+1<=140737488355328 from ae)]
  repeat'(first|intro _|split)
  all_goals first
   |exact⟨v,rfl,X,ae⟩
   |(refine⟨ae,_,rfl,X.iC rfl,bS⟩)
   |(refine⟨⟨ae,ae⟩,_,rfl,X.iC rfl,bS⟩)
 simp[bD y (show 9<=140737488355328 from ae)];exact⟨v,rfl,X,ae⟩
 first|rw[wQ]|rw[wU]
 refine⟨_,ajE bS, ?_⟩;have s:(bN (bu.lex [4] J).lt v).length=Y v:=pM;simp;have H:jQ (bN (bu.lex [4] J).lt v):=λx p=>X x ((BV v).mem_iff.1 p)
 generalize hq:bN (bu.lex [4] J).lt v=q at s H;refine bQ (Y q) (λi W=>∃u,W=[.r (ao u)]/\jQ u/\Y u=i) ⟨0,rfl,ae,[],rfl,jQ.nil,rfl⟩ ?_;rintro k _ an ⟨u,rfl,G,hu⟩;simp;split;rename_i m;refine⟨m,ae, ?_⟩;rw[bD (show k<Y q from ae) (show Y q<=140737488355328 from ae)];exact⟨_,rfl,G.iC (H.cell (show k<Y q from ae)),bS⟩
 ·repeat'(first|intro _|split)
  all_goals first
   |exact⟨u,rfl,λ_=>G,ae⟩|(refine⟨ae,_,rfl,λe=>bB e mh, ?_⟩;simp;omega)|(refine⟨⟨ae,ae⟩,_,rfl,λe=>bB e mh, ?_⟩;simp;omega)
 ·simp(maxSteps:=9999999) [BP,wk,aY Q,aY P.1,N,M,k1,k2,k3,k4,k5,k6]
  repeat' split
  all_goals first|exact⟨_,rfl,λe=>bB e mh,aw⟩|exact⟨_,rfl,λ_=>by simp[jQ,jw],aw⟩
 simp(maxSteps:=9999999) [BP,wk,aY Q,aY P.1,N,M]
 first|exact⟨_,rfl,λe=>bB e mh,aw⟩|exact⟨_,rfl,λ_=>by simp[jQ,jw],aw⟩
 ·simp(maxSteps:=9999999) [BP,wk,aY Q,aY P.1,N]
  repeat'(first|intro _|split)
  all_goals first|exact⟨_,rfl,λe=>bB e mh,aw⟩|exact⟨_,rfl,λ_=>by simp[jQ,jw],aw⟩
def t78(u:At)(h:dU)(id:Int)(X:RV)(s:DZ X)(W V Q P N M H G F D B A z y x w:Int):∃o,TB.Ev 145 (wk++[.i id,.r X,.i W,.i V,.i Q,.i P,.i N,.i M,.i H,.i G,.i F,.i D,.i B,.i A,.i z,.i y,.i x,.i w]) o/\∃v e,o=.ret [.r (ao v),.i e]/\Y v<=100:=by
 obtain⟨o,g,v,e,q,_,p⟩:=aCc u h id X s W V Q P N M H G F D B A z y x w;exact⟨o,g,v,e,q,p⟩

def vB(v:RV)(i:Nat):Bool:=eF (ci v i 0) (ci v i 1) (ci v i 2) (ci v i 3)
def iX(u:RV)(i:Nat)(w:RV)(k:Nat):Bool:=vB u i&&vB w k&&BQ (ci u i 0) (ci u i 1) (ci u i 2) (ci u i 3) (ci w k 0) (ci w k 1) (ci w k 2) (ci w k 3)
def wZ(mK mL:Int)(u:RV)(i:Nat):Bool:=vB u i&&eF 0 (be .mul I 841 mK) 0 (be .mul I 841 mL)&&I7 (ci u i 0) (ci u i 1) (ci u i 2) (ci u i 3) 0 (be .mul I 841 mK) 0 (be .mul I 841 mL)
def kV(X:RV):Nat->av
 |0=>[]|i+1=>iF 2 [.mk (.int I (ci X i 0)) [],.mk (.int I (ci X i 1)) [],.mk (.bool J) []] (kV X i)
def jm(X:av)(a b:Nat):Bool:=BE.ai ⟨[(a:Int),(b:Int)],[],[ao X],[]⟩ (.look (.v 0) 2 (.v 0) (.v 1) (.c 0) 2)
def Jd(X:RV)(ap:Int):Nat->av
 |0=>[]|i+1=>Jd X ap i++[[.mk (.int I (mO (ci X i) ap 0)) [],.mk (.int I (mO (ci X i) ap 1)) [],.mk (.int I (mO (ci X i) ap 2)) [],.mk (.int I (mO (ci X i) ap 3)) []]]
def Qw(X:RV)(ap:Int):∀i,(Jd X ap i).length=i
 |0=>rfl|i+1=>by simp[Jd,Qw X ap i]
def ats(X:RV)(ap:Int){k:Nat}:∀{i},k<i->(Jd X ap i)[k]?=U [.mk (.int I (mO (ci X k) ap 0)) [],.mk (.int I (mO (ci X k) ap 1)) [],.mk (.int I (mO (ci X k) ap 2)) [],.mk (.int I (mO (ci X k) ap 3)) []]
 |0,h=>ae
 |i+1,h=>by
  by_cases W:k=i;subst W;rw[Jd,jo (by rw[Qw];omega),Qw];simp;rw[Jd,fO (by rw[Qw];omega)];exact ats X ap ae
def qc(u:RV)(i:Nat)(X:RV)(ap:Int)(g:Nat):Bool:=vB u i&&eF (mO (ci X g) ap 0) (mO (ci X g) ap 1) (mO (ci X g) ap 2) (mO (ci X g) ap 3)&&BQ (ci u i 0) (ci u i 1) (ci u i 2) (ci u i 3) (mO (ci X g) ap 0) (mO (ci X g) ap 1) (mO (ci X g) ap 2) (mO (ci X g) ap 3)
def ptC(X:RV)(ap:Int){k:Nat}(h:k<W)(j:Nat)(V:j<4):bn (aQ (Jd X ap W) (k:Int) j).val=mO (ci X k) ap j:=by
 simp only[aQ,rN,di,ats X ap h]
 match j,V with|0,_|1,_|2,_|3,_=>rfl
def abk{M:Type}{v:List M}{Q:Prop}{P:Nat->Prop}(h:v=[]<->Q/\∀X<W,P X)(H:P W):v=[]<->Q/\∀X<W+1,P X:=by
 rw[h];refine⟨λ⟨V,N⟩=>⟨V,λX G=> ?_⟩,λ⟨V,N⟩=>⟨V,λX G=>N X ae⟩⟩;by_cases F:X=W;subst F;exact H;exact N X ae
def abl{X:Type}{v:List X}{x:X}{Q:Prop}{P:Nat->Prop}(V:¬P W):v++[x]=[]<->Q/\∀N<W+1,P N:=
 ⟨λh=>by simp at h,λ⟨_,M⟩=>bB (M W ae) V⟩
def aCe{G:Type}{v:List G}{Q:Prop}{P:Nat->Nat->Prop}{n:Nat}(h:v=[]<->(Q/\∀X<W,∀b<n,P X b)/\∀F<n,P W F):v=[]<->Q/\∀X<W+1,∀b<n,P X b:=by
 rw[h];refine⟨λ⟨⟨N,V⟩,M⟩=>⟨N,λX B b H=> ?_⟩,λ⟨N,V⟩=>⟨⟨N,λX M=>V X ae⟩,V W ae⟩⟩;by_cases D:X=W;subst D;exact M b H;exact V X ae b H
structure ClE(wg:RV)(ap:Int)(mv hd pr:RV):Prop where
 wk:jY=0
 nw:Y wg.ah<=8
 inb:jf ap 0 (eV-1)=J
 lm:Y mv.ah=Y ay.ah
 lh:Y hd.ah=Y ay.ah
 vm:∀i<Y mv.ah,vB mv i=J
 vh:∀i<Y hd.ah,vB hd i=J
 UO:∀i<Y pr.ah,0<=ci pr i 0/\ci pr i 0<ci pr i 1/\ci pr i 1<Y ay.ah
 pth:∀g<Y wg.ah,mO (ci wg g) ap 4=0
structure ClN(mK mL:Int)(ay:RV)(wg:RV)(ap:Int)(mv hd pr:RV):Prop where
 n1:∀a<Y ay.ah,∀b,a<b->b<Y ay.ah->jm (kV pr (Y pr.ah)) a b=J\/iX mv a mv b=J
 n2:∀a<Y ay.ah,∀b,a<b->b<Y ay.ah->jm (kV pr (Y pr.ah)) a b=J\/iX mv a hd b=J
 n3:∀a<Y ay.ah,∀b,a<b->b<Y ay.ah->jm (kV pr (Y pr.ah)) a b=J\/iX hd a mv b=J
 n4:∀a<Y ay.ah,∀b,a<b->b<Y ay.ah->jm (kV pr (Y pr.ah)) a b=J\/iX hd a hd b=J
 wgs:∀a<Y ay.ah,∀g<Y wg.ah,qc mv a wg ap g=J/\qc hd a wg ap g=J
 aCg:∀a<Y ay.ah,wZ mK mL mv a=J/\wZ mK mL hd a=J
structure abm(wg:RV)(ap:Int)(mv hd pr:RV):Prop extends ClE wg ap mv hd pr,ClN mK mL ay wg ap mv hd pr
def w4{P:Nat->Prop}(h:∀k<W,P k)(X:P W):∀k<W+1,P k:=λk Q=>by
 by_cases V:k=W;subst V;exact X;exact h k ae
def Je{wX Q:Prop}{P:Nat->Prop}(h:wX<->Q):wX<->Q/\∀X<0,P X:=by simp[h]
def abn{wX Q:Prop}{P:Nat->Prop}(h:wX<->Q):wX<->Q/\∀X,W<X->X<W+1->P X:=by
 rw[h];exact⟨λh=>⟨h,λX V N=>ae⟩,λh=>h.1⟩
def Jf{H:Type}{v:List H}{Q:Prop}{P:Nat->Prop}{b:Nat}(h:v=[]<->Q/\∀X,W<X->X<b->P X)(G:P b):v=[]<->Q/\∀X,W<X->X<b+1->P X:=by
 rw[h];refine⟨λ⟨V,N⟩=>⟨V,λX M F=> ?_⟩,λ⟨V,N⟩=>⟨V,λX M F=>N X M ae⟩⟩;by_cases D:X=b;subst D;exact G;exact N X M ae
def abo{V:Type}{v:List V}{x:V}{Q:Prop}{P:Nat->Prop}{b:Nat}(N:W<b)(M:¬P b):v++[x]=[]<->Q/\∀X,W<X->X<b+1->P X:=by
 refine⟨λh=>by simp at h,λ⟨G,H⟩=>bB (H b N ae) M⟩
def abp{D:Type}{v:List D}{Q:Prop}{P:Nat->Nat->Prop}{n:Nat}(h:v=[]<->(Q/\∀X<W,∀b,X<b->b<n->P X b)/\∀N,W<N->N<n->P W N):v=[]<->Q/\∀X<W+1,∀b,X<b->b<n->P X b:=by
 rw[h];refine⟨λ⟨⟨M,V⟩,H⟩=>⟨M,λX A b G F=> ?_⟩,λ⟨M,V⟩=>⟨⟨M,λX H=>V X ae⟩,V W ae⟩⟩;by_cases B:X=W;subst B;exact H b G F;exact V X ae b G F
def BX{e:Int}{X N:Prop}(V:e≠0)(Q:¬X):∃v W,(ao []=ao v/\e=W)/\(¬W=0->v=[])/\Y v<=1000000/\(W=0<->X)/\(W=0->(v=[]<->N)):=⟨[],e,⟨rfl,rfl⟩,λ_=>rfl,aw,by simp[V,Q],λh=>bB h V⟩
def aCh(h:dU)(G:RV)(ap:Int)(N M V:RV)(al:Sl G)(af:Sl N)(ag:Sl M)(bb:Sl V):∃o,TB.Ev 150 (wk++[.r G,.i ap,.r N,.r M,.r V]) o/\∃v e,o=.ret [.r (ao v),.i e]/\(e≠0->v=[])/\Y v<=1000000/\(e=0<->ClE G ap N M V)/\(e=0->(v=[]<->ClN mK mL ay G ap N M V)):=by
 refine eL ?_;obtain⟨h1,h2⟩:=yH oV h;simp only[wk] at h1;simp(maxSteps:=9999999) [ai7,wk,h.rl.len,al.len,af.len,ag.len,aY h1];split
 case isFalse bc=>exact BX bc λX=>bc X.wk
 rename_i h0;have hw:=h2 h0;have hn:=hw.nr;have b3:=hw.br;split
 case isTrue h8=>exact BX ae λX=>by have:=X.nw;omega
 rename_i h8;rw[show be .sub I eV 1=eV-1 by simp only[be];exact iW ae ae];split
 case isFalse hb=>exact BX ae λX=>hb (by simpa using X.inb)
 rename_i hb;split
 case isFalse hl=>exact BX ae λX=>by have:=X.lm;omega
 rename_i bt;split
 case isFalse hl=>exact BX ae λX=>by have:=X.lh;omega
 rename_i bx;refine bQ (Y N.ah) (λi F=>F=[]/\∀k<i,vB N k=J) ⟨0,rfl,ae,rfl,ae⟩ ?_;rintro i _ x ⟨rfl,bd⟩;simp[af.len];split;rename_i x;simp[bD x af.sm,x];split;rename_i u;exact w4 bd u;rename_i u;exact BX ae λX=>u (X.vm i x)
 rename_i an;have f:i=Y N.ah:=ae;subst f;refine bQ (Y M.ah) (λi F=>F=[]/\∀k<i,vB M k=J) ⟨0,rfl,ae,rfl,ae⟩ ?_;rintro i _ x ⟨rfl,bf⟩;simp[ag.len];split;rename_i x;simp[bD x ag.sm,x];split;rename_i u;exact w4 bf u;rename_i u;exact BX ae λX=>u (X.vh i x)
 rename_i an;have f:i=Y M.ah:=ae;subst f;refine bQ (Y V.ah) (λi F=>F=[.r (ao []),.r (ao (kV V i))]/\∀k<i,0<=ci V k 0/\ci V k 0<ci V k 1/\ci V k 1<Y ay.ah) ⟨0,rfl,ae,rfl,ae⟩ ?_;rintro i _ x ⟨rfl,bg⟩;simp[h.rl.len,bb.len];split;rename_i x;simp[bD x bb.sm,x];split;rename_i u;exact BX ae λX=>by have:=X.UO i x;simp only[ci] at this;omega
 split;rename_i u;exact BX ae λX=>by have:=X.UO i x;simp only[ci] at this;omega
 split;rename_i u;exact BX ae λX=>by have:=X.UO i x;simp only[ci] at this;omega
 exact⟨rfl,w4 bg (by simp only[ci];omega)⟩;rename_i an;have f:i=Y V.ah:=ae;subst f;refine bQ (Y G.ah) (λi F=>F=[.r (ao (Jd G ap i)),.r (ao [])]/\∀k<i,mO (ci G k) ap 4=0) ⟨0,rfl,ae,rfl,ae⟩ ?_;rintro i _ x ⟨rfl,bk⟩;simp[al.len];split;rename_i x;have bl:=f25 (ci G i) ap;simp only[LZ,ci,cG,cX] at bl;simp[bD x al.sm,x,aY bl];split;rename_i u;exact⟨by rw[Qw];omega,rfl,w4 bk u⟩;rename_i u;exact BX u λX=>u (X.pth i x)
 rename_i an;have f:i=Y G.ah:=ae;subst f;have d:lenOf N.val=(Y ay.ah:Int):=by rw[af.len];exact bt
 have c:lenOf M.val=(Y ay.ah:Int):=by rw[ag.len];exact bx
 have b0:=Qw G ap (Y G.ah);have p:Y ay.ah<=140737488355328:=ae;obtain⟨Q1,bs⟩:∃Q:Prop,Q:=⟨True,trivial⟩;refine bQ 0 (λi F=>F=[.r (ao [])]) ⟨0,rfl,ae,rfl⟩ ?_;rintro z _ hz rfl;have b1:z=0:=ae;subst b1;simp;refine bQ (Y ay.ah) (λa F=>∃v,F=[.r (ao v)]/\Y v<=0+64*a/\(v=[]<->Q1/\∀W<a,∀b,W<b->b<Y ay.ah->jm (kV V (Y V.ah)) W b=J\/iX N W N b=J)) ⟨0,rfl,ae,_,rfl,aw,Je (by simp[bs]:([]:av)=[]<->Q1)⟩ ?_;rintro a _ A ⟨v,rfl,n,H⟩;simp[d];split;rename_i A;refine bQ (Y ay.ah) (λb F=>a<b/\∃v,F=[.r (ao v)]/\Y v<=0+64*a+b/\(v=[]<->(Q1/\∀W<a,∀b,W<b->b<Y ay.ah->jm (kV V (Y V.ah)) W b=J\/iX N W N b=J)/\∀D,a<D->D<b->jm (kV V (Y V.ah)) a D=J\/iX N a N D=J)) ⟨a+1,wV ae,ae,ae,v,rfl,ae,abn H⟩ ?_;rintro b _ a0 ⟨aa,v,rfl,n,H⟩;simp[h.rl.len,d];split;rename_i s;simp[bD s p];by_cases w:jm (kV V (Y V.ah)) a b=J;have y:=w;simp[jm] at y;rw[aH y];exact⟨ae,v,rfl,ae,Jf H (.inl w)⟩;have y:=w;simp[jm] at y;rw[y,aJ aw];refine⟨A,s, ?_⟩;by_cases B:iX N a N b=J;have dB:=B;simp[iX,vB,ci] at dB;rw[aJ (by simp[dB])];exact⟨ae,v,rfl,ae,Jf H (.inr B)⟩;have dB:=B;simp[iX,vB,ci] at dB;rw[aH (by grind)];exact⟨ae,ae,_,rfl,bS,abo (P:=λD=>jm (kV V (Y V.ah)) a D=J\/iX N a N D=J) aa (by simp[w,B])⟩;rename_i s;have ab:b=Y ay.ah:=ae;subst ab;simp[bD A p];exact⟨v,rfl,ae,abp H⟩;rename_i ac;have q:a=Y ay.ah:=ae;subst q;obtain⟨Q2,a1⟩:∃Q:Prop,Q<->(Q1/\∀W<Y ay.ah,∀b,W<b->b<Y ay.ah->jm (kV V (Y V.ah)) W b=J\/iX N W N b=J):=⟨_,Iff.rfl⟩;rw[<-a1] at H;refine bQ (Y ay.ah) (λa F=>∃v,F=[.r (ao v)]/\Y v<=5000+64*a/\(v=[]<->Q2/\∀W<a,∀b,W<b->b<Y ay.ah->jm (kV V (Y V.ah)) W b=J\/iX N W M b=J)) ⟨0,rfl,ae,_,rfl,ae,Je H⟩ ?_;rintro a _ A ⟨v,rfl,n,H⟩;simp[d];split;rename_i A;refine bQ (Y ay.ah) (λb F=>a<b/\∃v,F=[.r (ao v)]/\Y v<=5000+64*a+b/\(v=[]<->(Q2/\∀W<a,∀b,W<b->b<Y ay.ah->jm (kV V (Y V.ah)) W b=J\/iX N W M b=J)/\∀D,a<D->D<b->jm (kV V (Y V.ah)) a D=J\/iX N a M D=J)) ⟨a+1,wV ae,ae,ae,v,rfl,ae,abn H⟩ ?_;rintro b _ a0 ⟨aa,v,rfl,n,H⟩;simp[h.rl.len,d,c];split;rename_i s;simp[bD s p];by_cases w:jm (kV V (Y V.ah)) a b=J;have y:=w;simp[jm] at y;rw[aH y];exact⟨ae,v,rfl,ae,Jf H (.inl w)⟩;have y:=w;simp[jm] at y;rw[y,aJ aw];refine⟨A,s, ?_⟩;by_cases B:iX N a M b=J;have dB:=B;simp[iX,vB,ci] at dB;rw[aJ (by simp[dB])];exact⟨ae,v,rfl,ae,Jf H (.inr B)⟩;have dB:=B;simp[iX,vB,ci] at dB;rw[aH (by grind)];exact⟨ae,ae,_,rfl,bS,abo (P:=λD=>jm (kV V (Y V.ah)) a D=J\/iX N a M D=J) aa (by simp[w,B])⟩;rename_i s;have ab:b=Y ay.ah:=ae;subst ab;simp[bD A p];exact⟨v,rfl,ae,abp H⟩;rename_i ac;have q:a=Y ay.ah:=ae;subst q;obtain⟨Q3,a3⟩:∃Q:Prop,Q<->(Q2/\∀W<Y ay.ah,∀b,W<b->b<Y ay.ah->jm (kV V (Y V.ah)) W b=J\/iX N W M b=J):=⟨_,Iff.rfl⟩;rw[<-a3] at H;refine bQ (Y ay.ah) (λa F=>∃v,F=[.r (ao v)]/\Y v<=10000+64*a/\(v=[]<->Q3/\∀W<a,∀b,W<b->b<Y ay.ah->jm (kV V (Y V.ah)) W b=J\/iX M W N b=J)) ⟨0,rfl,ae,_,rfl,ae,Je H⟩ ?_;rintro a _ A ⟨v,rfl,n,H⟩;simp[c];split;rename_i A;refine bQ (Y ay.ah) (λb F=>a<b/\∃v,F=[.r (ao v)]/\Y v<=10000+64*a+b/\(v=[]<->(Q3/\∀W<a,∀b,W<b->b<Y ay.ah->jm (kV V (Y V.ah)) W b=J\/iX M W N b=J)/\∀D,a<D->D<b->jm (kV V (Y V.ah)) a D=J\/iX M a N D=J)) ⟨a+1,wV ae,ae,ae,v,rfl,ae,abn H⟩ ?_;rintro b _ a0 ⟨aa,v,rfl,n,H⟩;simp[h.rl.len,d,c];split;rename_i s;simp[bD s p];by_cases w:jm (kV V (Y V.ah)) a b=J;have y:=w;simp[jm] at y;rw[aH y];exact⟨ae,v,rfl,ae,Jf H (.inl w)⟩;have y:=w;simp[jm] at y;rw[y,aJ aw];refine⟨A,s, ?_⟩;by_cases B:iX M a N b=J;have dB:=B;simp[iX,vB,ci] at dB;rw[aJ (by simp[dB])];exact⟨ae,v,rfl,ae,Jf H (.inr B)⟩;have dB:=B;simp[iX,vB,ci] at dB;rw[aH (by grind)];exact⟨ae,ae,_,rfl,bS,abo (P:=λD=>jm (kV V (Y V.ah)) a D=J\/iX M a N D=J) aa (by simp[w,B])⟩;rename_i s;have ab:b=Y ay.ah:=ae;subst ab;simp[bD A p];exact⟨v,rfl,ae,abp H⟩;rename_i ac;have q:a=Y ay.ah:=ae;subst q;obtain⟨Q4,a4⟩:∃Q:Prop,Q<->(Q3/\∀W<Y ay.ah,∀b,W<b->b<Y ay.ah->jm (kV V (Y V.ah)) W b=J\/iX M W N b=J):=⟨_,Iff.rfl⟩;rw[<-a4] at H;refine bQ (Y ay.ah) (λa F=>∃v,F=[.r (ao v)]/\Y v<=15000+64*a/\(v=[]<->Q4/\∀W<a,∀b,W<b->b<Y ay.ah->jm (kV V (Y V.ah)) W b=J\/iX M W M b=J)) ⟨0,rfl,ae,_,rfl,ae,Je H⟩ ?_;rintro a _ A ⟨v,rfl,n,H⟩;simp[c];split;rename_i A;refine bQ (Y ay.ah) (λb F=>a<b/\∃v,F=[.r (ao v)]/\Y v<=15000+64*a+b/\(v=[]<->(Q4/\∀W<a,∀b,W<b->b<Y ay.ah->jm (kV V (Y V.ah)) W b=J\/iX M W M b=J)/\∀D,a<D->D<b->jm (kV V (Y V.ah)) a D=J\/iX M a M D=J)) ⟨a+1,wV ae,ae,ae,v,rfl,ae,abn H⟩ ?_;rintro b _ a0 ⟨aa,v,rfl,n,H⟩;simp[h.rl.len,c];split;rename_i s;simp[bD s p];by_cases w:jm (kV V (Y V.ah)) a b=J;have y:=w;simp[jm] at y;rw[aH y];exact⟨ae,v,rfl,ae,Jf H (.inl w)⟩;have y:=w;simp[jm] at y;rw[y,aJ aw];refine⟨A,s, ?_⟩;by_cases B:iX M a M b=J;have dB:=B;simp[iX,vB,ci] at dB;rw[aJ (by simp[dB])];exact⟨ae,v,rfl,ae,Jf H (.inr B)⟩;have dB:=B;simp[iX,vB,ci] at dB;rw[aH (by grind)];exact⟨ae,ae,_,rfl,bS,abo (P:=λD=>jm (kV V (Y V.ah)) a D=J\/iX M a M D=J) aa (by simp[w,B])⟩;rename_i s;have ab:b=Y ay.ah:=ae;subst ab;simp[bD A p];exact⟨v,rfl,ae,abp H⟩;rename_i ac;have q:a=Y ay.ah:=ae;subst q;obtain⟨Q5,a9⟩:∃Q:Prop,Q<->(Q4/\∀W<Y ay.ah,∀b,W<b->b<Y ay.ah->jm (kV V (Y V.ah)) W b=J\/iX M W M b=J):=⟨_,Iff.rfl⟩;rw[<-a9] at H;have b4:Y G.ah<=8:=ae;refine bQ (Y ay.ah) (λa F=>∃v,F=[.r (ao v)]/\Y v<=20000+64*a/\(v=[]<->Q5/\∀W<a,∀g<Y G.ah,qc N W G ap g=J/\qc M W G ap g=J)) ⟨0,rfl,ae,_,rfl,ae,Je H⟩ ?_;rintro a _ A ⟨v,rfl,n,H⟩;simp[h.rl.len];split;rename_i A;refine bQ (Y G.ah) (λg F=>∃v,F=[.r (ao v)]/\Y v<=20000+64*a+g/\(v=[]<->(Q5/\∀W<a,∀g<Y G.ah,qc N W G ap g=J/\qc M W G ap g=J)/\∀j<g,qc N a G ap j=J/\qc M a G ap j=J)) ⟨0,rfl,ae,v,rfl,ae,Je H⟩ ?_;rintro g _ hg ⟨v,rfl,n,H⟩;simp[d,c,b0];split;rename_i hg;have c0:=ptC G ap hg 0 ae;have c1:=ptC G ap hg 1 ae;have c2:=ptC G ap hg 2 ae;have c3:=ptC G ap hg 3 ae;simp[bD hg (show Y G.ah<=140737488355328 from ae),c0,c1,c2,c3];refine⟨hg,A, ?_⟩;by_cases B:qc N a G ap g=J;have dB:=B;simp[qc,vB,ci] at dB;rw[aJ (by simp[dB])];refine⟨A, ?_⟩;by_cases m:qc M a G ap g=J;have l:=m;simp[qc,vB,ci] at l;rw[aJ (by simp[l])];exact⟨v,rfl,ae,abk H ⟨B,m⟩⟩;have l:=m;simp[qc,vB,ci] at l;rw[aH (by grind)];exact⟨ae,_,rfl,bS,abl (P:=λj=>qc N a G ap j=J/\qc M a G ap j=J) (by simp[m])⟩;have dB:=B;simp[qc,vB,ci] at dB;rw[aH (by grind)];exact⟨ae,_,rfl,bS,abl (P:=λj=>qc N a G ap j=J/\qc M a G ap j=J) (by simp[B])⟩;rename_i b5;have b2:g=Y G.ah:=ae;subst b2;simp[bD A p];exact⟨v,rfl,ae,aCe H⟩;rename_i ac;have q:a=Y ay.ah:=ae;subst q;obtain⟨Q6,ba⟩:∃Q:Prop,Q<->(Q5/\∀W<Y ay.ah,∀g<Y G.ah,qc N W G ap g=J/\qc M W G ap g=J):=⟨_,Iff.rfl⟩;rw[<-ba] at H;refine bQ (Y ay.ah) (λa F=>∃v,F=[.r (ao v)]/\Y v<=30000+a/\(v=[]<->Q6/\∀W<a,wZ mK mL N W=J/\wZ mK mL M W=J)) ⟨0,rfl,ae,_,rfl,ae,Je H⟩ ?_;rintro a _ A ⟨v,rfl,n,H⟩;simp[h.rl.len,d,c];split;rename_i A;simp[bD A p];refine⟨A, ?_⟩;by_cases B:wZ mK mL N a=J;have dB:=B;simp[wZ,vB,ci] at dB;by_cases m:wZ mK mL M a=J;have l:=m;simp[wZ,vB,ci] at l;simp[dB,l];exact⟨v,rfl,ae,abk H ⟨B,m⟩⟩;have l:=m;simp[wZ,vB,ci] at l;rw[aJ (by simp[dB]),aH (by grind)];exact⟨ae,_,rfl,bS,abl (P:=λW=>wZ mK mL N W=J/\wZ mK mL M W=J) (by simp[m])⟩;have dB:=B;simp[wZ,vB,ci] at dB;rw[aH (by grind)];exact⟨ae,_,rfl,bS,abl (P:=λW=>wZ mK mL N W=J/\wZ mK mL M W=J) (by simp[B])⟩;rename_i ac;have q:a=Y ay.ah:=ae;subst q;refine⟨v,0,⟨rfl,rfl⟩,aw,ae,⟨λ_=>⟨h0,ae,by simpa using hb,ae,ae,bd,bf,bg,bk⟩,λ_=>rfl⟩,λ_=> ?_⟩;rw[H];refine⟨λ⟨q6,ed⟩=> ?_,λX=>⟨ba.2 ⟨a9.2 ⟨a4.2 ⟨a3.2 ⟨a1.2 ⟨bs,X.n1⟩,X.n2⟩,X.n3⟩,X.n4⟩,X.wgs⟩,X.aCg⟩⟩;obtain⟨q5,w1⟩:=ba.1 q6;obtain⟨q4,n4⟩:=a9.1 q5;obtain⟨q3,n3⟩:=a4.1 q4;obtain⟨q2,n2⟩:=a3.1 q3;obtain⟨_,n1⟩:=a1.1 q2;exact⟨n1,n2,n3,n4,w1,ed⟩
def aCi(h:dU)(W:RV)(ap:Int)(V Q P:RV)(H:Sl W)(G:Sl V)(F:Sl Q)(D:Sl P):∃o,TB.Ev 150 (wk++[.r W,.i ap,.r V,.r Q,.r P]) o/\∃v e,o=.ret [.r (ao v),.i e]/\(e≠0->v=[])/\Y v<=1000000/\((e=0/\v=[])<->abm W ap V Q P):=by
 obtain⟨o,B,v,e,A,z,y,N,M⟩:=aCh h W ap V Q P H G F D;exact⟨o,B,v,e,A,z,y,λk=>{toClE:=N.1 k.1,toClN:=(M k.1).1 k.2},λX=>⟨N.2 X.toClE,(M (N.2 X.toClE)).2 X.toClN⟩⟩
end
section
variable{lt:aE->aE->Bool}
def D0(lt:aE->aE->Bool)(l:av):Prop:=l.Pairwise λx y=>lt x y=J
theorem D0.eq(R:∀x,lt x x=E)(Q:∀x y z,lt x y=J->lt y z=J->lt x z=J):∀{l X:av},D0 lt l->D0 lt X->l.Perm X->l=X
 |[],X,_,_,h=>(List.Perm.nil_eq h)|x::l,[],_,_,h=>(by have:=h.length_eq;simp at this)
 |x::l,y::X,N,M,h=>by
  have P:=jS.1 N;have O:=jS.1 M;have L:x=y:=by
   have W:x∈y::X:=h.mem_iff.1 aw;have V:y∈x::l:=h.mem_iff.2 aw;rcases ey.1 W with W|W;exact W;rcases ey.1 V with V|V;exact V.symm;have:=Q _ _ _ (P.1 y V) (O.1 x W);rw[R] at this;cases this
  subst L;rw[D0.eq R Q P.2 O.2 (List.perm_cons x|>.1 h)]
def atv(V:∀x y z,lt x y=J->lt y z=J->lt x z=J){x:aE}:∀{l:av},D0 lt l->(∀y∈l,lt x y=J\/lt y x=J)->D0 lt (fk lt x l)
 |[],_,_=>aI0 _ _
 |y::r,h,R=>by
  have g:=jS.1 h;simp only[fk];split;rename_i W;refine jS.2 ⟨λz X=> ?_,h⟩;rcases ey.1 X with rfl|X;exact W;exact V _ _ _ W (g.1 z X);rename_i W;have Q:lt y x=true:=(R y aw).resolve_left W;refine jS.2 ⟨λz X=> ?_,atv V g.2 λz X=>R z (by simp[X])⟩;rcases WT.1 X with rfl|X;exact Q;exact g.1 z X
def atw(W:∀x y z,lt x y=J->lt y z=J->lt x z=J):∀(l acc:av),D0 lt acc->(∀x∈l,∀y∈acc,lt x y=J\/lt y x=J)->l.Pairwise (λx y=>lt x y=J\/lt y x=J)->D0 lt (l.foldl (λacc x=>fk lt x acc) acc)
 |[],acc,h,_,_=>h
 |x::l,acc,h,V,Q=>by
  have g:=jS.1 Q;refine atw W l _ (atv W h λy X=>V x aw y X) (λz R y X=> ?_) g.2;rcases WT.1 X with rfl|X;exact(g.1 z R).symm;exact V z (by simp[R]) y X
def atx(W:∀x y z,lt x y=J->lt y z=J->lt x z=J)(h:X.Pairwise (λx y=>lt x y=J\/lt y x=J)):D0 lt (bN lt X):=atw W X [] vx aw h
def aty(Q:∀x,lt x x=E)(V:∀x y z,lt x y=J->lt y z=J->lt x z=J){W:av}(R:W.Perm X)(h:X.Pairwise (λx y=>lt x y=J\/lt y x=J)):bN lt W=bN lt X:=by
 have P:W.Pairwise (λx y=>lt x y=J\/lt y x=J):=(R.symm.pairwise_iff (λ{x y} h=>h.symm)).1 h;exact D0.eq Q V (atx V P) (atx V h) (((BV W).trans R).trans (BV X).symm)
end
def ajH(d:Bool):∀(X:ar)(x:aE),jI d X x x=E
 |[],_=>rfl|c::X,x=>by simp[jI,ajH d X x]
def ajI(d:Bool):∀(Q:ar)(x y z:aE),jI d Q x y=J->jI d Q y z=J->jI d Q x z=J
 |[],_,_,_,h,_=>by simp[jI] at h
 |c::Q,x,y,z,V,X=>by
  simp only[jI] at V X⊢;by_cases R:aI c x=aI c y;by_cases W:aI c y=aI c z;rw[aH R] at V;rw[aH W] at X;rw[aH (R.trans W)];exact ajI d Q x y z V X;rw[aJ W] at X;rw[aJ (by rw[R];exact W),R];exact X;rw[aJ R] at V;by_cases W:aI c y=aI c z;rw[aJ (by rw[<-W];exact R),<-W];exact V;rw[aJ W] at X;cases d;simp at V X;rw[aJ ae];simp;omega;simp at V X;rw[aJ ae];simp;omega
def ajJ(d:Bool):∀(X:ar)(x y:aE),(∃c∈X,aI c x≠aI c y)->jI d X x y=J\/jI d X y x=J
 |[],_,_,⟨_,h,_⟩=>by cases h
 |c::X,x,y,h=>by
  simp only[jI];by_cases e:aI c x=aI c y;rw[aH e,aH e.symm];obtain⟨R,W,V⟩:=h;rcases ey.1 W with rfl|W;exact bB e V;exact ajJ d X x y ⟨R,W,V⟩;clear h;have Q:¬aI c y=aI c x:=λP=>e P.symm
  rw[aJ e,aJ Q];cases d<;>simp<;>omega
def BY(X:ar)(W:av):Prop:=W.Pairwise λx y=>∃c∈X,aI c x≠aI c y
def atz{X:ar}{d:Bool}:∀{W:av},BY X W->vP (bu.lex X d).lt W=J
 |[],_=>rfl
 |x::r,h=>by
  have g:=jS.1 h;simp only[vP,aC,gC,lq];exact⟨λy V=>ajJ d X x y (g.1 y V),atz g.2⟩
def atA{W:ar}{d R:Bool}{aF:av}(Q:Y X<=1099511627776)(h:BY W X)(V:aF.Perm X):iq (.lex W d) R aF=U (bN (bu.lex W d).lt X):=by
 have P:BY W aF:=(V.symm.pairwise_iff (λ{x y} h=>by obtain⟨c,O,N⟩:=h;exact⟨c,O,λe=>N e.symm⟩)).1 h;have M:Y aF<=1099511627776:=by rw[V.length_eq];exact Q
 simp only[iq];rw[aH (by simp[M,atz P,bu.ok])];exact j7 U (aty (ajH d W) (ajI d W) V (h.imp λL=>ajJ d W _ _ L))
def aCj(n:Nat)(X:aE)(m:av):iF n X m≠[]:=by
 cases m with|nil=>simp[iF]|cons r W=>simp only[iF];split<;>simp
def vk(n:Nat)(X:aE):∀m:av,(iF n X m).length<=Y m+1
 |[]=>by simp[iF]
 |r::W=>by
  have:=vk n X W;simp only[iF];split<;>simp<;>omega
def abq{n:Nat}{X y:aE}:∀{m:av},y∈iF n X m->y=X\/y∈m
 |[],h=>by simp[iF] at h;exact .inl h
 |r::W,h=>by
  simp only[iF] at h;split at h;rcases ey.1 h with h|h;exact .inl h;exact .inr (by simp[h]);rcases ey.1 h with h|h;exact .inr (by simp[h]);rcases abq h with h|h;exact .inl h;exact .inr (by simp[h])
def aCk{X r:aE}(W:Y X=4)(V:Y r=4):mq 3 ((X.take 3).map λc=>bn c.val) r=J<->∀c∈[0,1,2],aI c r=aI c X:=by
 match X,W,r,V with|[a,b,c,d],_,[R,Q,P,O],_=>simp[mq,aI]
structure ku(m:av):Prop where
 keys:BY [0,1,2] m
 four:∀x∈m,Y x=4
def ku.nil:ku []:=⟨vx,aw⟩
def ku.ins{O:aE}(R:Y O=4):∀{m:av},ku m->ku (iF 3 O m)
 |[],_=>⟨by simp[iF,BY],by simp[iF,R]⟩
 |r::M,h=>by
  have g:=jS.1 h.keys;have bZ:ku M:=⟨g.2,λx X=>h.four x (by simp[X])⟩;have L:=ku.ins R bZ;have N:=aCk R (h.four r aw);refine⟨?_,λx X=> ?_⟩;simp only[iF];split;rename_i W;have W:=N.1 W;refine jS.2 ⟨λy V=> ?_,g.2⟩;obtain⟨c,Q,P⟩:=g.1 y V;exact⟨c,Q,by rw[<-W c Q];exact P⟩;rename_i W;refine jS.2 ⟨λy V=> ?_,L.keys⟩;rcases abq V with rfl|V;have:¬∀c∈[0,1,2],aI c r=aI c y:=λH=>W (N.2 H)
  simp only[Classical.not_forall] at this;obtain⟨c,Q,P⟩:=this;exact⟨c,Q,P⟩;exact g.1 y V;rcases abq X with rfl|X;exact R;exact h.four x X
section
variable{R:aX->Prop}{G:aN}{t:T}{O:aj}{L:ck}
variable[Inhabited cm]
@[simp] def aJ1 (v:RV) (X W V Q P N M H F D B A z y x w:Int):gX TB.Ev R 41 [.r (cJ .str v),.i X,.i W,.i V,.i Q,.i P,.i N,.i M,.i H,.i F,.i D,.i B,.i A,.i z,.i y,.i x,.i w] G t O L=im TB.Ev R (.ret [.i (Qu (cJ .str v) X W V Q P N M H F D B A z y x w)]) G t O L:=c75 _ (UN v) X W V Q P N M H F D B A z y x w
def Qx(X W V Q P N M H G F D B A:Int)(s:RV)(z y x w v u q p o n m l j h g f:Int)(k:Nat):Int:=oi 115 [.i X,.i W,.i V,.i Q,.i P,.i N,.i M,.i H,.i G,.i F,.i D,.i B,.i A,.r s,.i z,.i y,.i x,.i w,.i v,.i u,.i q,.i p,.i o,.i n,.i m,.i l,.i j,.i h,.i g,.i f] k
@[simp] def c27 (X W V Q P N M H F D B A z:Int) (v:RV) (y x w u s q p o n m l k j h g f:Int):gX TB.Ev R 115 [.i X,.i W,.i V,.i Q,.i P,.i N,.i M,.i H,.i F,.i D,.i B,.i A,.i z,.r (cJ .str v),.i y,.i x,.i w,.i u,.i s,.i q,.i p,.i o,.i n,.i m,.i l,.i k,.i j,.i h,.i g,.i f] G t O L=im TB.Ev R (.ret [.i (Qx X W V Q P N M H F D B A z (cJ .str v) y x w u s q p o n m l k j h g f 0),.i (Qx X W V Q P N M H F D B A z (cJ .str v) y x w u s q p o n m l k j h g f 1),.i (Qx X W V Q P N M H F D B A z (cJ .str v) y x w u s q p o n m l k j h g f 2),.i (Qx X W V Q P N M H F D B A z (cJ .str v) y x w u s q p o n m l k j h g f 3),.i (Qx X W V Q P N M H F D B A z (cJ .str v) y x w u s q p o n m l k j h g f 4)]) G t O L:=aY (nD (kI 5) (t27 X W V Q P N M H F D B A z _ (UN v) y x w u s q p o n m l k j h g f))
def Qy(X:RV)(i:Nat):Int:=Qu (cJ .str (aQ X.ah (i:Int) 0)) (ci X i 1) (ci X i 2) (ci X i 3) (ci X i 4) (ci X i 5) (ci X i 6) (ci X i 7) (ci X i 8) (ci X i 9) (ci X i 10) (ci X i 11) (ci X i 12) (ci X i 13) (ci X i 14) (ci X i 15) (ci X i 16)
def L5(v:RV)(i:Nat):Int:=o74 (ci v i 0) (ci v i 1) (ci v i 2) (ci v i 3) (ci v i 4) (ci v i 5) (ci v i 6) (ci v i 7) (ci v i 8) (ci v i 9) (ci v i 10) (ci v i 11) (ci v i 12)
def iN(v X:RV)(i k:Nat):Int:=Qx (ci v i 0) (ci v i 1) (ci v i 2) (ci v i 3) (ci v i 4) (ci v i 5) (ci v i 6) (ci v i 7) (ci v i 8) (ci v i 9) (ci v i 10) (ci v i 11) (ci v i 12) (cJ .str (aQ X.ah (i:Int) 0)) (ci X i 1) (ci X i 2) (ci X i 3) (ci X i 4) (ci X i 5) (ci X i 6) (ci X i 7) (ci X i 8) (ci X i 9) (ci X i 10) (ci X i 11) (ci X i 12) (ci X i 13) (ci X i 14) (ci X i 15) (ci X i 16) k
def m85(ap:Int)(X:RV)(i:Nat):Int:=oi 45 (wk++[.i i,.i ap,.r (cr 96 X i)]) 0
def m89(ap:Int)(X W:RV)(i k:Nat):Int:=oi 113 (wk++[.i i,.i ap,.i (ci X i 0),.i (ci X i 1),.i (ci X i 2),.i (ci X i 3),.i (ci X i 4),.i (ci X i 5),.i (ci X i 6),.i (ci X i 7),.i (ci X i 8),.i (ci X i 9),.i (ci X i 10),.i (ci X i 11),.i (ci X i 12),.r (cr 96 W i)]) k
def m90(ap:Int)(W X V:RV)(i k:Nat):Int:=oi 114 (wk++[.i i,.i ap,.i (ci W i 0),.i (ci W i 1),.i (ci W i 2),.i (ci W i 3),.i (ci W i 4),.i (ci W i 5),.i (ci W i 6),.i (ci W i 7),.i (ci W i 8),.i (ci W i 9),.i (ci W i 10),.i (ci W i 11),.i (ci W i 12),.r (cJ .str (aQ X.ah (i:Int) 0)),.i (ci X i 1),.i (ci X i 2),.i (ci X i 3),.i (ci X i 4),.i (ci X i 5),.i (ci X i 6),.i (ci X i 7),.i (ci X i 8),.i (ci X i 9),.i (ci X i 10),.i (ci X i 11),.i (ci X i 12),.i (ci X i 13),.i (ci X i 14),.i (ci X i 15),.i (ci X i 16),.r (cr 96 V i)]) k
def gS(ap:Int)(W X V:RV)(i k:Nat):Int:=if cb W i 0 then m89 ap X V i k else ci X i k
def gB(ap:Int)(V X W Q:RV)(i k:Nat):Int:=if cb V i 0 then m90 ap X W Q i k else iN X W i k
structure Gq(ay wg bd mv bf af re bx:RV):Prop where
 wg:Sl wg
 bd:Sl bd
 mv:Sl mv
 bf:Sl bf
 af:Sl af
 Qz:Sl re
 bx:Sl bx
 fA:∀i<Y re.ah,Sl (cr 96 re i)/\(cr 96 re i).ah.length<=100
structure atD(ap:Int)(wg bd mv bf af re bx:RV):Prop where
 wk:jY=0
 nw:Y wg.ah<=8
 br:0<=ap/\ap<eV
 Jg:Y af.ah=Y ay.ah
 UP:Y bx.ah=Y ay.ah
 BZ:Y bd.ah=Y ay.ah
 Jh:Y mv.ah=Y ay.ah
 D4:Y bf.ah=Y ay.ah
 Gr:Y re.ah=Y ay.ah
 gw:∀i<Y ay.ah,Qy bd i=0/\L5 bf i=0/\(if cb mv i 0 then m85 ap re i=0 else(cr 96 re i).ah=[])
 box:∀i<Y ay.ah,vB bx i=J/\L5 af i=0
 pth:∀g<Y wg.ah,mO (ci wg g) ap 4=0
def B3(ap:Int)(Q X W V:RV)(i:Nat):Prop:=if cb Q i 0 then m89 ap X V i 13=0/\m90 ap X W V i 4=0 else iN X W i 4=0
def Fst(v:RV)(id:Int)(m:Nat):Prop:=m<Y v.ah/\ci v m 0=id/\∀X<m,ci v X 0≠id
def m78(X:RV)(id:Int)(i:Nat):aZ:=out 145 (wk++[.i id,.r (cJ .str (aQ X.ah (i:Int) 0)),.i (ci X i 1),.i (ci X i 2),.i (ci X i 3),.i (ci X i 4),.i (ci X i 5),.i (ci X i 6),.i (ci X i 7),.i (ci X i 8),.i (ci X i 9),.i (ci X i 10),.i (ci X i 11),.i (ci X i 12),.i (ci X i 13),.i (ci X i 14),.i (ci X i 15),.i (ci X i 16)])
def abs(ap:Int)(X W V Q P:RV)(c:Nat->Int):Bool:=ob 147 (wk++[.i ap,.r X,.r W,.r V,.r Q,.r P]++ma c) 0
def abt(ap:Int)(W V Q P X N:RV)(i k:Nat):Prop:=∀m,Fst (cr 96 X i) (bY (dV i ap) k 0) m->
 xi (m78 W (bY (dV i ap) k 0) i) 1=0/\
 ob 146 [.r (xr (m78 W (bY (dV i ap) k 0) i) 0),.i (ci (cr 96 X i) m 0),.i (ci (cr 96 X i) m 1),.i (ci (cr 96 X i) m 2),.b (cb (cr 96 X i) m 3)] 0=J/\
 (bY (dV i ap) k 4=7\/bY (dV i ap) k 4=8->cb (cr 96 X i) m 3=J\/abs ap V Q P X N (bY (dV i ap) k)=J)
def UQ(ap:Int)(X W V:RV)(i:Nat):aZ:=out 148 (wk++[.i i,.i ap,.i (ci X i 0),.i (ci X i 1),.i (ci X i 2),.i (ci X i 3),.i (ci X i 4),.i (ci X i 5),.i (ci X i 6),.i (ci X i 7),.i (ci X i 8),.i (ci X i 9),.i (ci X i 10),.i (ci X i 11),.i (ci X i 12),.r W,.r (cr 96 V i)])
structure L6(ap:Int)(bd mv bf af re bx:RV)(i:Nat):Prop where
 aft:∀j<13,ci af i j=gS ap mv bf re i j
 inb:eF (gB ap mv bf bd re i 0) (gB ap mv bf bd re i 1) (gB ap mv bf bd re i 2) (gB ap mv bf bd re i 3)=J/\vB bx i=J
 ins:I7 (gB ap mv bf bd re i 0) (gB ap mv bf bd re i 1) (gB ap mv bf bd re i 2) (gB ap mv bf bd re i 3) (ci bx i 0) (ci bx i 1) (ci bx i 2) (ci bx i 3)=J
 UK:cb mv i 0=J->(∀k<(dV i ap).length,abt ap bd mv bf af re bx i k)/\xi (UQ ap bf bd re i) 1=0/\(xr (UQ ap bf bd re i) 0).ah=[]
def vl(ap:Int):aZ:=out 71 (wk++[.i ap])
def yI(v X:RV):Nat->av
 |0=>[]|i+1=>yI v X i++[[.mk (.int I (iN v X i 0)) [],.mk (.int I (iN v X i 1)) [],.mk (.int I (iN v X i 2)) [],.mk (.int I (iN v X i 3)) []]]
def Gs(v X:RV)(i k:Nat):Bool:=eF (iN v X i 0) (iN v X i 1) (iN v X i 2) (iN v X i 3)&&eF (iN v X k 0) (iN v X k 1) (iN v X k 2) (iN v X k 3)&&BQ (iN v X i 0) (iN v X i 1) (iN v X i 2) (iN v X i 3) (iN v X k 0) (iN v X k 1) (iN v X k 2) (iN v X k 3)
structure Ji(ap:Int)(wg bd mv bf af re bx:RV):Prop where
 ex:atD ap wg bd mv bf af re bx
 bld:∀i<Y ay.ah,B3 ap mv bf bd re i
 ro:∀i<Y ay.ah,L6 ap bd mv bf af re bx i
 UO:xi (vl ap) 1=0
 st1:∀i<Y ay.ah,iN bf bd i 4=0
 st2:∀i<Y ay.ah,iN af bd i 4=0
 cl:abm wg ap bx (ao (yI bf bd (Y ay.ah))) (xr (vl ap) 0)
 iX:∀p<(xr (vl ap) 0).ah.length,Gs bf bd (ci (xr (vl ap) 0) p 0).toNat (ci (xr (vl ap) 0) p 1).toNat=J/\Gs af bd (ci (xr (vl ap) 0) p 0).toNat (ci (xr (vl ap) 0) p 1).toNat=J
def Brc:Prop:=∀(_:dU)(bw ap:Int)(x:Nat->Int)(X r:RV)(_:Sl X)(_:Sl r),∃o,TB.Ev 148 (wk++[.i bw,.i ap,.i (x 0),.i (x 1),.i (x 2),.i (x 3),.i (x 4),.i (x 5),.i (x 6),.i (x 7),.i (x 8),.i (x 9),.i (x 10),.i (x 11),.i (x 12),.r X,.r r]) o/\∃v e,o=.ret [.r (ao v),.i e]/\Y v<=100000
def Av{V:aE}{j:Nat}(h:Y X=W):aQ (X++[V]) (W:Int) j=V.getD j default:=by
 subst h;simp[aQ]
def D5{w:av}{j:Nat}(h:W<Y X):aQ (X++w) (W:Int) j=aQ X (W:Int) j:=by
 simp[aQ,fO h]
def D6{V:aE}{Q:Prop}(h:¬Q):iF W V X=[]<->Q:=⟨λe=>bB e (aCj W V X),λq=>bB q h⟩
def aCl{P:Nat->Prop}:(∀k<W+1,P k)<->(∀k<W,P k)/\P W:=⟨λh=>⟨λk X=>h k ae,h W ae⟩,λh=>w4 h.1 h.2⟩
def Jj{a b:Bool}(h:a=J->b=E):¬(a=J/\b=J):=by cases a<;>cases b<;>simp_all
def atF{a b:Bool}(h:¬(a=J->b=E)):a=J/\b=true:=by cases a<;>cases b<;>simp_all
def aCm{a b c:Bool}(h:¬(a=J->b=E))(X:(a=E\/b=E)\/c=E):¬c=true:=by cases a<;>cases b<;>cases c<;>simp_all
def aCn{a b c:Bool}(h:¬(a=J->b=E))(X:¬((a=E\/b=E)\/c=E)):c=true:=by cases a<;>cases b<;>cases c<;>simp_all
def atG{P:Nat->Prop}(X:P 0)(W:P 1)(V:P 2)(Q:P 3)(N:P 4)(M:P 5)(H:P 6)(G:P 7)(F:P 8)(D:P 9)(B:P 10)(A:P 11)(z:P 12):∀j<13,P j:=λj y=>by
 match j,y with|0,_=>exact X|1,_=>exact W|2,_=>exact V|3,_=>exact Q|4,_=>exact N|5,_=>exact M|6,_=>exact H|7,_=>exact G|8,_=>exact F|9,_=>exact D|10,_=>exact B|11,_=>exact A|12,_=>exact z
def Jk(v X:RV):∀i,(yI v X i).length=i
 |0=>rfl|i+1=>by simp[yI,Jk v X i]
def atH(v X:RV){k:Nat}:∀{i},k<i->(yI v X i)[k]?=U [.mk (.int I (iN v X k 0)) [],.mk (.int I (iN v X k 1)) [],.mk (.int I (iN v X k 2)) [],.mk (.int I (iN v X k 3)) []]
 |0,h=>ae
 |i+1,h=>by
  by_cases W:k=i;subst W;rw[yI,jo (by rw[Jk];omega),Jk];simp;rw[yI,fO (by rw[Jk];omega)];exact atH v X ae
def ub(v X:RV){z:Int}(h:z.toNat<W)(j:Nat)(V:j<4):bn (aQ (yI v X W) z j).val=iN v X z.toNat j:=by
 simp only[aQ,di,atH v X h]
 match j,V with|0,_|1,_|2,_|3,_=>rfl
end
def T.at:ar->T->T
 |[],t=>t|0::p,.aK _ t _=>t.at p|_::p,.aK _ _ f=>f.at p|_::p,.aS _ t=>t.at p|_::p,.call _ _ _ _ _ _ t=>t.at p|_::p,.loop _ _ _ t=>t.at p|_::p,.new _ _ _ _ t=>t.at p|_::p,.ah _ _ _ t=>t.at p|0::p,.gr _ _ t _=>t.at p|_::p,.gr _ _ _ f=>f.at p|0::p,.pick _ _ _ t _=>t.at p|_::p,.pick _ _ _ _ f=>f.at p|_::p,.eG _ _ _ _ _ _ _ t=>t.at p|_,t=>t
section
variable[Inhabited cm]
section
def vn(x:aE):aE:=[iV (aI 0 x),iV (aI 1 x),iV (aI 2 x)]
def mP(js:ar):av:=js.map λ(j:Nat)=>[iV (j:Int)]
def UR(js:ar):(mP js).length=Y js:=by simp[mP]
def abv{js:ar}{j:Nat}:(mu 1 [(j:Int),0,0] (mP js)).isSome=decide (j∈js):=by
 induction js with
 |nil=>rfl
 |cons a l X=>
  simp only[mP,dH,mu,awi] at X⊢;by_cases h:a=j;subst h;simp[mq,iV,bn];have W:¬j=a:=λe=>h e.symm
  have:mq 1 [(j:Int),0,0] [iV a]=false:=by simp[mq,iV,bn];omega
  rw[this];simp only[X,ey,W,false_or]
def atI{js:ar}{j:Nat}(h:j∉js):iF 1 [iV j] (mP js)=mP (js++[j]):=by
 induction js with
 |nil=>rfl
 |cons a l X=>
  simp only[ey,not_or] at h;have:¬mq 1 (([iV j].take 1).map λc=>bn c.val) [iV a]=true:=by simp[mq,iV,bn];omega
  simp only[mP,dH,iF,cG] at X⊢;rw[aJ this,X h.2]
def US{X:Type}[DecidableEq X]:∀{a b:List X},a.Nodup->(∀x∈a,x∈b)->Y a<=Y b
 |[],_,_,_=>rP _
 |x::a,b,Q,W=>by
  have g:=Eu.1 Q;have V:x∈b:=W x aw;have:=US (a:=a) (b:=b.erase x) g.2 λy R=>(av1 (λe=>g.1 (by rw[<-e];exact R))).2 (W y (by simp[R]))
  rw[aIZ V] at this;have P:0<Y b:=List.length_pos_of_mem V;simp only[n9];omega
def atJ{W:Type}[DecidableEq W]:∀{a b:List W},a.Nodup->(∀x∈a,x∈b)->Y b<=Y a->a.Perm b
 |[],b,_,_,X=>by
  have:b=[]:=yS.1 (Nat.le_zero.1 X);rw[this]
 |x::a,b,P,V,X=>by
  have g:=Eu.1 P;have R:x∈b:=V x aw;have:=atJ (a:=a) (b:=b.erase x) g.2 (λy Q=>(av1 (λe=>g.1 (by rw[<-e];exact Q))).2 (V y (by simp[Q]))) (by rw[aIZ R];simp only[n9] at X;omega);exact(this.cons x).trans (List.perm_cons_erase R).symm
structure Pk(n:Nat)(js:ar):Prop where
 nd:js.Nodup
 lt:∀j∈js,j<n
def Pk.nil(n:Nat):Pk n []:=⟨List.nodup_nil,aw⟩
theorem Pk.add{j:Nat}{js:ar}(h:Pk W js)(R:j∉js)(P:j<W):Pk W (js++[j]):=⟨xk.2 ⟨h.nd,aw,by intro a Q b V e;simp at V;subst V;subst e;exact R Q⟩,by
 intro k X;rcases fc.1 X with X|X;exact h.lt k X;simp at X;omega⟩
theorem Pk.len{js:ar}(h:Pk W js):Y js<=W:=by
 have:=US (b:=dj W) h.nd λj X=>rO.2 (h.lt j X)
 simpa using this
def Pk.perm{js:ar}(h:Pk W js)(X:W<=Y js):js.Perm (dj W):=atJ h.nd (λj V=>rO.2 (h.lt j V)) (by simpa using X)
def Pk.more{js:ar}(Q:¬W<=Y js):∃j<W,j∉js:=by
 apply Classical.byContradiction;intro X;have:∀x∈dj W,x∈js:=λx V=>Classical.byContradiction λR=>X ⟨x,rO.1 V,R⟩
 have:=US List.nodup_range this;simp at this;omega
def L7(M:av)(js:ar):av:=js.map λj=>vn (M.getD j [])
def atK(M:av)(js:ar):(L7 M js).length=Y js:=by simp[L7]
def aCo(M:av):(dj (Y M)).map (λj=>vn (M.getD j []))=M.map vn:=by
 apply awg;simp;intro i X W;simp at X;simp[X]
def aCp{js:ar}(h:Pk (Y X) js)(W:Y X<=Y js):(L7 X js).Perm (X.map vn):=by
 rw[<-aCo];exact(h.perm W).map _
def atL{x:aE}:∀c∈[0,1,2],aI c (vn x)=aI c x:=by
 intro c X;simp at X;rcases X with rfl|rfl|rfl<;>simp[vn,aI,iV,bn]
def BY.aCq(h:BY [0,1,2] X):BY [0,1,2] (X.map vn):=by
 refine ak5.2 (h.imp λ{x y} V=> ?_);obtain⟨c,W,R⟩:=V;exact⟨c,W,by rw[atL c W,atL c W];exact R⟩
def UT(M:av):av:=(bN (bu.lex [0,1,2] E).lt (M.map vn)).map vn
def aCr:UT X=[]<->X=[]:=by
 rw[UT,List.map_eq_nil_iff];constructor;intro h;have:=(BV (lt:=(bu.lex [0,1,2] E).lt) (X.map vn)).length_eq;rw[h] at this;simp at this;exact yS.1 this.symm;rintro rfl;rfl
end
section
variable{L:ck}
def atM:ar:=[0,1,1,0,0,0,1,0,0,0,1,0,1,0,1,0,1,0,0,0,1,0,1,0,1,0,1,0,1,0,0,0,1,0,1,0,1]
def aCs(R:aX->Prop)(G D B A z y x w u t s q p w5 n m l g f:Int)(e d c a r4 r5 r6 r7 r8 r9 aa ab ac af UU ag al an a0 a1 a3 a4 a9:RV)(M:av)(ba:ku M)(hl:Y M<=536870912)(hR:R (.ret [.r (ao (UT M)),.i 0])):
  T.wp TB.Ev R (qb.at atM) ⟨[G,D,B,A,z,y,x,w,u,t,s,q,p,w5,n,m,l,g,f],[],[e,d,c,a,r4,r5,r6,r7,r8,r9,aa,ab,ac,af,UU,ag,al,an,a0,a1,a3,a4,a9,ao M],[]⟩ L:=by
 rw[show qb.at atM=T.loop _ _ _ _ from rfl];refine as1 (· =.ret [.r (ao (UT M)),.i 0]) (λo h=>h▸hR) (λQ=>∃js,Q=[.r (ao (L7 M js)),.r (ao (mP js))]/\Pk (Y M) js) (λQ=>match Q with|[_,.r v]=>Y M-Y v.ah|_=>0) ⟨[],rfl,Pk.nil _⟩ ?_;rintro _ ⟨js,rfl,V⟩;have bf:=V.len;rw[asZ];refine⟨single ?_, ?_, ?_, ?_⟩;exact HA _;by_cases hn:Y M<=Y js;exact ak3 (afl (by simp[UR];omega));obtain⟨j,X,W⟩:=Pk.more hn;refine ak3 (afk (j:=(j:Int)) ae bS ?_);simp[abv,W];intro j h0 X W;obtain⟨j,rfl⟩:∃k:Nat,j=k:=⟨j.toNat,ae⟩;have X:j<Y M:=by simp at X;omega
 have W:j∉js:=by simp[abv] at W;exact W
 have P:=US (b:=dj (Y M)) (V.add W X).nd λj P=>rO.2 ((V.add W X).lt j P)
 simp at P;have fl:iF 1 [RV.mk (Value.int I (j:Int)) []] (mP js)=mP (js++[j]):=atI W;have dY:(mP (js++[j])).length=Y js+1:=by simp[mP]
 have dB:be BinOp.sub I ((Y js:Int)+1) 1=(Y js:Int):=by
  simp only[be];rw[iW ae ae];omega
 have bq:bn (aQ (mP (js++[j])) (Y js:Int) 0).val=(j:Int):=by
  rw[mP,GJ];rw[show Co (λ(j:Nat)=>[iV (j:Int)]) [j]=[[iV (j:Int)]] from rfl,Av aw];rfl
 simp[UR,atK,fl,dB,bq];rw[BR];refine⟨⟨ae,X⟩,ae,⟨js++[j], ?_,V.add W X⟩, ?_⟩;have:L7 M (js++[j])=L7 M js++[vn (M.getD j [])]:=by simp[L7]
 rw[this];simp[vn,aI,aQ,iV];simp[ao,mP];omega;intro X;have X:Y M<=Y js:=by simp[UR] at X;omega
 have bb:=aCp V X
 first|rw[wQ]|rw[wU]
 refine⟨_,atA bS (BY.aCq ba.keys) (by simpa using bb), ?_⟩;generalize O:bN (bu.lex [0,1,2] E).lt (M.map vn)=F;have bg:Y F=Y M:=by rw[<-O,(BV _).length_eq];simp
 have bc:=atK M js;refine bQ (Y M) (λi bd=>bd=[.r (ao ((F.take i).map vn))]) ⟨0,rfl,rP _,rfl⟩ ?_;rintro i _ N rfl;simp[bc];refine aU (λN=>⟨N,ae, ?_⟩) (λbk=> ?_);have H:i<Y F:=ae;rw[bD ae ae,awd,ep,dv H];simp[vn,aI,aQ,iV,H];have:Y F<=i:=ae;rw[Jv (by simpa using this),UT,O]
end
end
section
variable{R:aX->Prop}{G:aN}{t:T}{O:aj}{L:ck}
def aCt(a b:Int)(h:b≠0):∃o,TB.Ev 280 [.i a,.i b] o/\∃X,o=.ret X/\fC (kI 1) X=true:=by
 refine eL ?_;simp[aiy,h]
def aCu(a b:Int)(h:b≠0):gX TB.Ev R 280 [.i a,.i b] G t O L=im TB.Ev R (.ret [.i (oi 280 [.i a,.i b] 0)]) G t O L:=aY (nD _ (aCt a b h))
def aCv{a b:Int}(h:mw a b=J):b≠0:=by
 simp[mw] at h;omega
def aCw(a b c:Int):∃o,TB.Ev 273 [.i a,.i b,.i c] o/\∃X,o=.ret X/\fC (kI 3) X=true:=by
 refine eL ?_;by_cases h:mw a b=J;simp[aaR,h,aCu _ _ (aCv h)];simp[aaR,h]
@[simp] def aJ3 (a b c:Int):gX TB.Ev R 273 [.i a,.i b,.i c] G t O L=im TB.Ev R (.ret [.i (oi 273 [.i a,.i b,.i c] 0),.i (oi 273 [.i a,.i b,.i c] 1),.i (oi 273 [.i a,.i b,.i c] 2)]) G t O L:=aY (nD _ (aCw a b c))
def aCx(Q:Int)(X W V:RV)(N:Sl X)(M:Sl W)(H:Sl V)(ap:Int):∃o,TB.Ev 272 [.i Q,.r X,.r W,.r V,.i ap] o/\∃P,o=.ret P/\fC (kI 2) P=true:=by
 refine eL ?_;obtain⟨G,F⟩:=oV Q X W V N M H;simp[aiJ,aY G];intro D B;rw[as8 Q ap X W V (F D).1 (by first|omega|(simp[jf] at B;omega))];simp
def aCy(Q:Int)(X W V:RV)(P:Sl X)(N:Sl W)(M:Sl V)(ap:Int):gX TB.Ev R 272 [.i Q,.r X,.r W,.r V,.i ap] G t O L=im TB.Ev R (.ret [.i (oi 272 [.i Q,.r X,.r W,.r V,.i ap] 0),.i (oi 272 [.i Q,.r X,.r W,.r V,.i ap] 1)]) G t O L:=aY (nD _ (aCx Q X W V P N M ap))
def aCz(Q:Int)(X W V:RV)(N:Sl X)(M:Sl W)(H:Sl V)(ap a b:Int):∃o,TB.Ev 255 [.i Q,.r X,.r W,.r V,.i ap,.i a,.i b] o/\∃P,o=.ret P/\fC (kI 3) P=true:=by
 refine eL ?_;simp[aiK,aCy Q X W V N M H ap]
def aCA(Q:Int)(X W V:RV)(P:Sl X)(N:Sl W)(M:Sl V)(ap a b:Int):gX TB.Ev R 255 [.i Q,.r X,.r W,.r V,.i ap,.i a,.i b] G t O L=im TB.Ev R (.ret [.i (oi 255 [.i Q,.r X,.r W,.r V,.i ap,.i a,.i b] 0),.i (oi 255 [.i Q,.r X,.r W,.r V,.i ap,.i a,.i b] 1),.i (oi 255 [.i Q,.r X,.r W,.r V,.i ap,.i a,.i b] 2)]) G t O L:=aY (nD _ (aCz Q X W V P N M ap a b))
def aCB(Q:Int)(X W V:RV)(N:Sl X)(M:Sl W)(H:Sl V)(G F D B A z y x w v u s q p:Int):∃o,TB.Ev 220 [.i Q,.r X,.r W,.r V,.i G,.i F,.i D,.i B,.i A,.i z,.i y,.i x,.i w,.i v,.i u,.i s,.i q,.i p] o/\∃P,o=.ret P/\fC (kI 1) P=true:=by
 refine eL ?_;simp[aiL,aCA Q X W V N M H]
def ajM(Q:Int)(X W V:RV)(s:Sl X)(q:Sl W)(p:Sl V)(P N M H F D B A z y x w v u:Int):gX TB.Ev R 220 [.i Q,.r X,.r W,.r V,.i P,.i N,.i M,.i H,.i F,.i D,.i B,.i A,.i z,.i y,.i x,.i w,.i v,.i u] G t O L=im TB.Ev R (.ret [.i (oi 220 [.i Q,.r X,.r W,.r V,.i P,.i N,.i M,.i H,.i F,.i D,.i B,.i A,.i z,.i y,.i x,.i w,.i v,.i u] 0)]) G t O L:=aY (nD _ (aCB Q X W V s q p P N M H F D B A z y x w v u))
end
section
variable[Inhabited cm]
section
def abw(id:Int)(m:Nat):aE:=[iV ((m:Int)+1),iV id]
def oA(b:Nat->Bool)(id:Int)(js:ar):av:=(js.filter b).map (abw id)
def aCC{b:Nat->Bool}{id:Int}{js:ar}(h:b W=J):oA b id (js++[W])=oA b id js++[abw id W]:=by simp[oA,av7,h]
def aCD{b:Nat->Bool}{id:Int}{js:ar}(h:b W=E):oA b id (js++[W])=oA b id js:=by simp[oA,av7,h]
def atN(b:Nat->Bool)(id:Int)(js:ar):(oA b id js).length<=Y js:=by simp only[oA,oW];exact aI7 _ _
def rJ(X:RV)(id:Int)(k:Nat):Int:=match mu 1 [id,0,0] X.ah with|U W=>bn (W[k]?.getD default).val|none=>0
def abx(X W a2 V R q:Int):Int:=if q=0 then X else if q=1 then W else if q=2 then a2 else if q=3 then V else if q=4 then R else 0
def aCE(v w:Nat->Int):Int:=max 0 (max (be .sub I (v 0) (w 0)) (max (be .sub I 0 (be .sub I (v 0) (w 0))) (max (be .sub I (v 1) (w 1)) (max (be .sub I 0 (be .sub I (v 1) (w 1))) (max (be .sub I (v 2) (w 2)) (be .sub I 0 (be .sub I (v 2) (w 2))))))))
def ajN(eV:Int)(mb nA nC X:RV)(W:Nat)(x:Nat->Int)(V R q d l:Int)(k:Nat):Bool:=decide (be .mul I (be .mul I 841 (ci X W (k+9))) (oi 220 ([.i eV,.r mb,.r nA,.r nC]++ma x) 0)<be .mul I (be .mul I 1000 (ci X W (k+6))) (aCE (oi 219 [.i V,.i R,.i q]) (oi 219 [.i d,.i l,.i q])))
def fQ(X:RV)(W:Nat)(V:RV)(x s:Nat->Int):Nat->Bool
 |0=>if x 4=3 then decide (ci X W 12<rJ V (x 0) 3) else if x 4=4\/x 4=9 then decide (ci X W 13<rJ V (x 0) 3) else if x 4=5 then decide (ci X W 14<rJ V (x 0) 3) else E|1=>if x 4=3 then ajN eV mb nA nC X W x (rJ V (x 0) 2) (rJ V (x 0) 3) (x 5-1) (abx (s 3) (s 5) (s 7) (s 9) (s 11) (x 5-1)) (abx (s 4) (s 6) (s 8) (s 10) (s 12) (x 5-1)) 0 else if x 4=4 then ajN eV mb nA nC X W x (rJ V (x 0) 2) (rJ V (x 0) 3) (x 5+1) (abx (s 3) (s 5) (s 7) (s 9) (s 11) (x 5+1)) (abx (s 4) (s 6) (s 8) (s 10) (s 12) (x 5+1)) 1 else if x 4=5 then ajN eV mb nA nC X W x (rJ V (x 0) 2) (rJ V (x 0) 3) 4 (s 11) (s 12) 2 else E|2=>if x 4=1 then decide (ci X W 4<x 8) else if x 4=2 then decide (ci X W 5<x 8) else E|3=>if x 4=7 then decide (ci X W 2<ci X ((x 9).toNat-1) 1) else E|_=>E
def L8(l:bA)(k:Nat):Int:=l.getD k 0
end
section
structure atO(k:Int)(o0:aX)(n i rn:Nat)(bd mp:RV)(rs acc:av)(b:Nat->Bool)(s:bA):Prop where
 ho:Bh o0 o0=J
 h:dU
 hb:b=fQ bd rn mp (bY rs i) (L8 s)
 hi:i<n
 hn:n<=4096
 bZ:Y rs=n
 Gt:Y acc<=100000
 qX:rn<Y bd.ah
 ce:Sl bd
 jh:Y bd.ah=Y ay.ah
 oB:Y ay.ah<=64
 fH:BU (Y ay.ah) eV (bY rs i)
 hk:bY rs i 4=k
structure aCF(js:ar)(j:Nat)(z:Int)(b:Nat->Bool)(id:Int):Prop where
 z4:z=0/\j=0\/z=1/\j=1\/z=2/\j=2\/z=3/\j=3
 hlen:Y js<4
 fl:iF 1 [RV.mk (Value.int I z) []] (mP js)=mP (js++[j])
 dY:(mP (js++[j])).length=Y js+1
 dB:be BinOp.sub I ((Y js:Int)+1) 1=(Y js:Int)
 bq:bn (aQ (mP (js++[j])) (Y js:Int) 0).val=z
 D7:(oA b id js).length<=Y js
 fh:b j=J->oA b id (js++[j])=oA b id js++[abw id j]
 f9:b j=E->oA b id (js++[j])=oA b id js
def atP(X:aZ):Nat:=match X.reverse with|.r v::_=>4-Y v.ah|_=>0
def B4(k:Int)(t:T):Prop:=∀{W D A B X ap x8 x9 aa ab ac w5 af ag al an a0 a1 a3 a4 a9 ba bb bc bf bg bk bl br bs bt bx b0 b1 b2 UV Q P O N M H G F z y x UW UX b3:Int}{V:Nat->aZ->Prop}{L:ck}{re:RV}{w:aX}{v u s q p o m l j h g f e:Int}{n i d:Nat}{c a:RV}{R acc:av}{b:Nat->Bool},atO k w n i d c a R acc b [Q,P,O,N,M,H,G,F,z,y,x,UW,UX]->(∀js,js.Perm (dj 4)->V (i+1) [.i v,.i u,.i s,.i q,.i p,.i o,.i m,.i l,.i j,.i h,.i g,.i f,.i e,.r (ao (acc++oA b (bY R i 0) js))])->T.wp TB.Ev (· =w) t (⟨[W,D,A,B,X,eV,(d:Int),ap,x8,x9,aa,ab,ac,w5,af,ag,al,an,a0,a1,a3,a4,a9,ba,bb,bc,bf,bg,bk,bl,br,bs,bt,bx,b0,b1,b2,UV,(i:Int),Q,P,O,N,M,H,G,F,z,y,x,UW,UX,v,u,s,q,p,o,m,l,j,h,g,f,e,b3],[],[ay,mb,nA,nC,dh,c,re,a,ao R,ao acc],[]⟩:aj) (⟨2,DY n V,BT n,n-i⟩::L)
def D8(k:Int)(t:T):Prop:=∀{W D A B X ap x8 x9 ab ac af w5 ag al an a0 a1 a3 a4 a9 ba bb bc bf bg bk bl br bs bt bx b0 b1 b2 b3 UV p o l h g f e d c a aa UW UX b4:Int}{V:Nat->aZ->Prop}{L:ck}{re:RV}{o0:aX}{P O N H G F y x w v u s q:Int}{n i rn:Nat}{bd mp:RV}{Q acc:av}{b:Nat->Bool},atO k o0 n i rn bd mp Q acc b [p,o,l,h,g,f,e,d,c,a,aa,UW,UX]->∀{js:ar}{j:Nat}{z:Int}{R:aZ->Prop}{μ:aZ->Nat}{m:Nat},aCF js j z b (bY Q i 0)->(∀M,M=[.i P,.i O,.i N,.i H,.i G,.i F,.i y,.i x,.i w,.i v,.i u,.i s,.i q,.r (ao (acc++oA b (bY Q i 0) (js++[j]))),.r (ao (mP (js++[j])))]->I5 (U ⟨3,R,μ,m⟩) M)->T.wp TB.Ev (· =o0) t (((⟨[W,D,A,B,X,eV,(rn:Int),ap,x8,x9,ab,ac,af,w5,ag,al,an,a0,a1,a3,a4,a9,ba,bb,bc,bf,bg,bk,bl,br,bs,bt,bx,b0,b1,b2,b3,UV,(i:Int),p,o,l,h,g,f,e,d,c,a,aa,UW,UX,P,O,N,H,G,F,y,x,w,v,u,s,q,b4],[],[ay,mb,nA,nC,dh,bd,re,mp,ao Q,ao acc],[]⟩:aj).ext [.i P,.i O,.i N,.i H,.i G,.i F,.i y,.i x,.i w,.i v,.i u,.i s,.i q,.r (ao (acc++oA b (bY Q i 0) js)),.r (ao (mP js))]).add (.i z)) (⟨3,R,μ,m⟩::⟨2,DY n V,BT n,n-i⟩::L)
def B5(t:T):T:=match fw.at [0,1,0,0,1,0,1,0,0,0,0,0,0,0,0,1,0] with|.loop a b c (.pick d e f _ g)=>.loop a b c (.pick d e f t g)|x=>x
def Gu{k:Int}{t:T}(O:D8 k t):B4 k (B5 t):=by
 unfold B4;intros;rename_i N M L H G F D B A y x w v n i m l h u acc b R s;rw[show B5 t=T.loop _ _ _ (T.pick _ _ _ t _) from rfl];refine As (λq=>∃js,q=[.i N,.i M,.i L,.i H,.i G,.i F,.i D,.i B,.i A,.i y,.i x,.i w,.i v,.r (ao (acc++oA b (bY u i 0) js)),.r (ao (mP js))]/\Pk 4 js) atP ⟨[],by simp[oA,mP],Pk.nil _⟩ ?_;rintro _ ⟨js,rfl,V⟩;have g:=V.len;rw[asZ];refine⟨single R.ho, ?_, ?_, ?_⟩;by_cases p:4<=Y js;exact ak3 (afl (by simp[UR];omega));obtain⟨j,X,W⟩:=Pk.more p;refine ak3 (afk (j:=(j:Int)) ae bS ?_);simp[abv,W];intro z f X W;obtain⟨j,Q⟩:∃k:Nat,(k:Int)=z:=⟨z.toNat,ae⟩;have X:j<4:=by simp at X;omega
 have W:j∉js:=by rw[<-Q] at W;simp[abv] at W;exact W
 have P:=US (b:=dj 4) (V.add W X).nd λj P=>rO.2 ((V.add W X).lt j P)
 simp at P;refine O (js:=js) (j:=j) (z:=z) R ⟨ae,ae,by rw[<-Q];exact atI W,by simp[mP],by simp only[be];rw[iW ae ae];omega, ?_,atN _ _ _,aCC,aCD⟩ ?_;rw[<-Q,mP,GJ];rw[show Co (λ(j:Nat)=>[iV (j:Int)]) [j]=[[iV (j:Int)]] from rfl,Av aw];rfl;rintro _ rfl;rw[BR];exact⟨⟨_,rfl,V.add W X⟩,by simp[atP,ao,mP];omega⟩;intro X;have X:4<=Y js:=by simp[UR] at X;omega
 have o:=V.perm X;simp[bD R.hi (show n<=140737488355328 by have:=R.hn;omega)];exact s js o
def br1:B4 1 (fw.at [0,1,0,0,1,0,1,0,0,0,0,0,0,0,0,1,0]):=by
 rw[show fw.at [0,1,0,0,1,0,1,0,0,0,0,0,0,0,0,1,0]=B5 (fw.at [0,1,0,0,1,0,1,0,0,0,0,0,0,0,0,1,0,0,0]) from rfl];refine Gu ?_;rw[show fw.at [0,1,0,0,1,0,1,0,0,0,0,0,0,0,0,1,0,0,0]=T.ah _ _ _ _ from rfl];unfold D8;intros;rename_i n i N M L Q acc b P js j z _ _ _ O X;obtain⟨H,h,W,G,F,bZ,Gt,qX,ce,jh,oB,fH,V⟩:=P;obtain⟨D,B,fl,dY,dB,bq,D7,fh,f9⟩:=O;have A:(i:Int)<Y Q:=ae;rcases(show z=0/\j=0\/z=1/\j=1\/z=2/\j=2\/z=3/\j=3 from ae) with⟨rfl,rfl⟩|⟨rfl,rfl⟩|⟨rfl,rfl⟩|⟨rfl,rfl⟩;have e:b 0=false:=by rw[W];simp[fQ,V]
 simp[fl,dB,bq,dY];exact⟨ae,X _ (by rw[f9 e])⟩;have e:b 1=false:=by rw[W];simp[fQ,V]
 simp[fl,dB,bq,dY];exact⟨ae,X _ (by rw[f9 e])⟩;simp[fl,dB,bq,dY];refine⟨ae, ?_⟩;refine aU (λR=>⟨ae,X _ ?_⟩) (λR=>X _ ?_);have e:b 2=true:=by
  rw[W];simp only[fQ,V];exact decide_eq_true R
 rw[fh e];rfl;have e:b 2=false:=by
  rw[W];simp only[fQ,V];exact decide_eq_false R
 rw[f9 e];have e:b 3=false:=by rw[W];simp[fQ,V]
 simp[fl,dB,bq,dY];exact⟨ae,X _ (by rw[f9 e])⟩
def br2:B4 2 (fw.at [0,1,0,0,1,0,1,0,0,0,0,0,0,0,0,1,1,0]):=by
 rw[show fw.at [0,1,0,0,1,0,1,0,0,0,0,0,0,0,0,1,1,0]=B5 (fw.at [0,1,0,0,1,0,1,0,0,0,0,0,0,0,0,1,1,0,0,0]) from rfl];refine Gu ?_;rw[show fw.at [0,1,0,0,1,0,1,0,0,0,0,0,0,0,0,1,1,0,0,0]=T.ah _ _ _ _ from rfl];unfold D8;intros;rename_i n i N M L Q acc b P js j z _ _ _ O X;obtain⟨H,h,W,G,F,bZ,Gt,qX,ce,jh,oB,fH,V⟩:=P;obtain⟨D,B,fl,dY,dB,bq,D7,fh,f9⟩:=O;have A:(i:Int)<Y Q:=ae;rcases(show z=0/\j=0\/z=1/\j=1\/z=2/\j=2\/z=3/\j=3 from ae) with⟨rfl,rfl⟩|⟨rfl,rfl⟩|⟨rfl,rfl⟩|⟨rfl,rfl⟩;have e:b 0=false:=by rw[W];simp[fQ,V]
 simp[fl,dB,bq,dY];exact⟨ae,X _ (by rw[f9 e])⟩;have e:b 1=false:=by rw[W];simp[fQ,V]
 simp[fl,dB,bq,dY];exact⟨ae,X _ (by rw[f9 e])⟩;simp[fl,dB,bq,dY];refine⟨ae, ?_⟩;refine aU (λR=>⟨ae,X _ ?_⟩) (λR=>X _ ?_);have e:b 2=true:=by
  rw[W];simp only[fQ,V];exact decide_eq_true R
 rw[fh e];rfl;have e:b 2=false:=by
  rw[W];simp only[fQ,V];exact decide_eq_false R
 rw[f9 e];have e:b 3=false:=by rw[W];simp[fQ,V]
 simp[fl,dB,bq,dY];exact⟨ae,X _ (by rw[f9 e])⟩
def br3:B4 3 (fw.at [0,1,0,0,1,0,1,0,0,0,0,0,0,0,0,1,1,1,0]):=by
 rw[show fw.at [0,1,0,0,1,0,1,0,0,0,0,0,0,0,0,1,1,1,0]=B5 (fw.at [0,1,0,0,1,0,1,0,0,0,0,0,0,0,0,1,1,1,0,0,0]) from rfl];refine Gu ?_;rw[show fw.at [0,1,0,0,1,0,1,0,0,0,0,0,0,0,0,1,1,1,0,0,0]=T.ah _ _ _ _ from rfl];unfold D8;intros;rename_i n i H G F W acc b N js j z _ _ _ M V;obtain⟨D,h,R,B,A,bZ,Gt,qX,ce,jh,oB,fH,Q⟩:=N;obtain⟨y,x,fl,dY,dB,bq,D7,fh,f9⟩:=M;have w:(i:Int)<Y W:=ae;have L:bn (aQ W (i:Int) 5).val=1\/bn (aQ W (i:Int) 5).val=2:=by
  have:=fH.side;rw[aH ae] at this;simp only[bY] at this;omega
 have P:be .sub I (bn (aQ W (i:Int) 5).val) 1=bn (aQ W (i:Int) 5).val-1:=by simp only[be];rw[iW ae ae]
 have O:be .quo I (bn (aQ W (i:Int) 5).val-1) 2=0:=by rcases L with h|h<;>rw[h]<;>decide
 rcases(show z=0/\j=0\/z=1/\j=1\/z=2/\j=2\/z=3/\j=3 from ae) with⟨rfl,rfl⟩|⟨rfl,rfl⟩|⟨rfl,rfl⟩|⟨rfl,rfl⟩;simp[fl,dB,bq,dY,P,O];refine⟨ae, ?_⟩;refine aU (λX=>⟨ae,V _ ?_⟩) (λX=>V _ ?_);have e:b 0=true:=by
  rw[R];simp only[fQ,Q];exact decide_eq_true X
 rw[fh e];rfl;have e:b 0=false:=by
  rw[R];simp only[fQ,Q];exact decide_eq_false X
 rw[f9 e];simp[fl,dB,bq,dY,P,O,ajM eV mb nA nC h.tp h.ps h.sp];refine⟨ae,⟨ae,ae⟩,ae, ?_⟩;refine aU (λX=>⟨ae,V _ ?_⟩) (λX=>V _ ?_);have e:b 1=true:=by
  rw[R];simp only[fQ,Q];exact decide_eq_true X
 rw[fh e];rfl;have e:b 1=false:=by
  rw[R];simp only[fQ,Q];exact decide_eq_false X
 rw[f9 e];have e:b 2=false:=by rw[R];simp[fQ,Q]
 simp[fl,dB,bq,dY];exact⟨ae,V _ (by rw[f9 e])⟩;have e:b 3=false:=by rw[R];simp[fQ,Q]
 simp[fl,dB,bq,dY];exact⟨ae,V _ (by rw[f9 e])⟩
def br4:B4 4 (fw.at [0,1,0,0,1,0,1,0,0,0,0,0,0,0,0,1,1,1,1,0]):=by
 rw[show fw.at [0,1,0,0,1,0,1,0,0,0,0,0,0,0,0,1,1,1,1,0]=B5 (fw.at [0,1,0,0,1,0,1,0,0,0,0,0,0,0,0,1,1,1,1,0,0,0]) from rfl];refine Gu ?_;rw[show fw.at [0,1,0,0,1,0,1,0,0,0,0,0,0,0,0,1,1,1,1,0,0,0]=T.ah _ _ _ _ from rfl];unfold D8;intros;rename_i n i H G F W acc b N js j z _ _ _ M V;obtain⟨D,h,R,B,A,bZ,Gt,qX,ce,jh,oB,fH,Q⟩:=N;obtain⟨y,x,fl,dY,dB,bq,D7,fh,f9⟩:=M;have w:(i:Int)<Y W:=ae;have L:bn (aQ W (i:Int) 5).val=1\/bn (aQ W (i:Int) 5).val=2:=by
  have:=fH.side;rw[aH ae] at this;simp only[bY] at this;omega
 have P:be .add I (bn (aQ W (i:Int) 5).val) 1=bn (aQ W (i:Int) 5).val+1:=by simp only[be];rw[iW ae ae]
 have O:be .quo I (bn (aQ W (i:Int) 5).val+1) 2=1:=by rcases L with h|h<;>rw[h]<;>decide
 rcases(show z=0/\j=0\/z=1/\j=1\/z=2/\j=2\/z=3/\j=3 from ae) with⟨rfl,rfl⟩|⟨rfl,rfl⟩|⟨rfl,rfl⟩|⟨rfl,rfl⟩;simp[fl,dB,bq,dY,P,O];refine⟨ae, ?_⟩;refine aU (λX=>⟨ae,V _ ?_⟩) (λX=>V _ ?_);have e:b 0=true:=by
  rw[R];simp only[fQ,Q];exact decide_eq_true X
 rw[fh e];rfl;have e:b 0=false:=by
  rw[R];simp only[fQ,Q];exact decide_eq_false X
 rw[f9 e];simp[fl,dB,bq,dY,P,O,ajM eV mb nA nC h.tp h.ps h.sp];refine⟨ae,⟨ae,ae⟩,ae, ?_⟩;refine aU (λX=>⟨ae,V _ ?_⟩) (λX=>V _ ?_);have e:b 1=true:=by
  rw[R];simp only[fQ,Q];exact decide_eq_true X
 rw[fh e];rfl;have e:b 1=false:=by
  rw[R];simp only[fQ,Q];exact decide_eq_false X
 rw[f9 e];have e:b 2=false:=by rw[R];simp[fQ,Q]
 simp[fl,dB,bq,dY];exact⟨ae,V _ (by rw[f9 e])⟩;have e:b 3=false:=by rw[R];simp[fQ,Q]
 simp[fl,dB,bq,dY];exact⟨ae,V _ (by rw[f9 e])⟩
def br5:B4 5 (fw.at [0,1,0,0,1,0,1,0,0,0,0,0,0,0,0,1,1,1,1,1,0]):=by
 rw[show fw.at [0,1,0,0,1,0,1,0,0,0,0,0,0,0,0,1,1,1,1,1,0]=B5 (fw.at [0,1,0,0,1,0,1,0,0,0,0,0,0,0,0,1,1,1,1,1,0,0,0]) from rfl];refine Gu ?_;rw[show fw.at [0,1,0,0,1,0,1,0,0,0,0,0,0,0,0,1,1,1,1,1,0,0,0]=T.ah _ _ _ _ from rfl];unfold D8;intros;rename_i n i N M L Q acc b P js j z _ _ _ O W;obtain⟨H,h,V,G,F,bZ,Gt,qX,ce,jh,oB,fH,R⟩:=P;obtain⟨D,B,fl,dY,dB,bq,D7,fh,f9⟩:=O;have A:(i:Int)<Y Q:=ae;rcases(show z=0/\j=0\/z=1/\j=1\/z=2/\j=2\/z=3/\j=3 from ae) with⟨rfl,rfl⟩|⟨rfl,rfl⟩|⟨rfl,rfl⟩|⟨rfl,rfl⟩;simp[fl,dB,bq,dY];refine⟨ae, ?_⟩;refine aU (λX=>⟨ae,W _ ?_⟩) (λX=>W _ ?_);have e:b 0=true:=by
  rw[V];simp only[fQ,R];exact decide_eq_true X
 rw[fh e];rfl;have e:b 0=false:=by
  rw[V];simp only[fQ,R];exact decide_eq_false X
 rw[f9 e];simp[fl,dB,bq,dY,ajM eV mb nA nC h.tp h.ps h.sp];refine⟨ae, ?_⟩;refine aU (λX=>⟨ae,W _ ?_⟩) (λX=>W _ ?_);have e:b 1=true:=by
  rw[V];simp only[fQ,R];exact decide_eq_true X
 rw[fh e];rfl;have e:b 1=false:=by
  rw[V];simp only[fQ,R];exact decide_eq_false X
 rw[f9 e];have e:b 2=false:=by rw[V];simp[fQ,R]
 simp[fl,dB,bq,dY];exact⟨ae,W _ (by rw[f9 e])⟩;have e:b 3=false:=by rw[V];simp[fQ,R]
 simp[fl,dB,bq,dY];exact⟨ae,W _ (by rw[f9 e])⟩
def br6:B4 6 (fw.at [0,1,0,0,1,0,1,0,0,0,0,0,0,0,0,1,1,1,1,1,1,0]):=by
 rw[show fw.at [0,1,0,0,1,0,1,0,0,0,0,0,0,0,0,1,1,1,1,1,1,0]=B5 (fw.at [0,1,0,0,1,0,1,0,0,0,0,0,0,0,0,1,1,1,1,1,1,0,0,0]) from rfl];refine Gu ?_;rw[show fw.at [0,1,0,0,1,0,1,0,0,0,0,0,0,0,0,1,1,1,1,1,1,0,0,0]=T.ah _ _ _ _ from rfl];unfold D8;intros;rename_i n i O N M R acc b Q js j z _ _ _ P X;obtain⟨L,h,W,H,G,bZ,Gt,qX,ce,jh,oB,fH,V⟩:=Q;obtain⟨F,D,fl,dY,dB,bq,D7,fh,f9⟩:=P;have B:(i:Int)<Y R:=ae;rcases(show z=0/\j=0\/z=1/\j=1\/z=2/\j=2\/z=3/\j=3 from ae) with⟨rfl,rfl⟩|⟨rfl,rfl⟩|⟨rfl,rfl⟩|⟨rfl,rfl⟩;have e:b 0=false:=by rw[W];simp[fQ,V]
 simp[fl,dB,bq,dY];exact⟨ae,X _ (by rw[f9 e])⟩;have e:b 1=false:=by rw[W];simp[fQ,V]
 simp[fl,dB,bq,dY];exact⟨ae,X _ (by rw[f9 e])⟩;have e:b 2=false:=by rw[W];simp[fQ,V]
 simp[fl,dB,bq,dY];exact⟨ae,X _ (by rw[f9 e])⟩;have e:b 3=false:=by rw[W];simp[fQ,V]
 simp[fl,dB,bq,dY];exact⟨ae,X _ (by rw[f9 e])⟩
def br7:B4 7 (fw.at [0,1,0,0,1,0,1,0,0,0,0,0,0,0,0,1,1,1,1,1,1,1,0]):=by
 rw[show fw.at [0,1,0,0,1,0,1,0,0,0,0,0,0,0,0,1,1,1,1,1,1,1,0]=B5 (fw.at [0,1,0,0,1,0,1,0,0,0,0,0,0,0,0,1,1,1,1,1,1,1,0,0,0]) from rfl];refine Gu ?_;rw[show fw.at [0,1,0,0,1,0,1,0,0,0,0,0,0,0,0,1,1,1,1,1,1,1,0,0,0]=T.ah _ _ _ _ from rfl];unfold D8;intros;rename_i n i M L H X acc b P js j z _ _ _ O W;obtain⟨G,h,V,F,D,bZ,Gt,qX,ce,jh,oB,fH,R⟩:=P;obtain⟨B,A,fl,dY,dB,bq,D7,fh,f9⟩:=O;have y:(i:Int)<Y X:=ae;have x:1<=bY X i 9/\bY X i 9<=Y ay.ah:=by
  have:=fH.wth;rw[aH ae] at this;exact this
 have N:be .sub I (bn (aQ X (i:Int) 9).val) 1=(((bY X i 9).toNat-1:Nat):Int):=by
  have:bn (aQ X (i:Int) 9).val=bY X i 9:=rfl;rw[this];simp only[be];rw[iW ae ae];omega
 rcases(show z=0/\j=0\/z=1/\j=1\/z=2/\j=2\/z=3/\j=3 from ae) with⟨rfl,rfl⟩|⟨rfl,rfl⟩|⟨rfl,rfl⟩|⟨rfl,rfl⟩;have e:b 0=false:=by rw[V];simp[fQ,R]
 simp[fl,dB,bq,dY];exact⟨ae,W _ (by rw[f9 e])⟩;have e:b 1=false:=by rw[V];simp[fQ,R]
 simp[fl,dB,bq,dY];exact⟨ae,W _ (by rw[f9 e])⟩;have e:b 2=false:=by rw[V];simp[fQ,R]
 simp[fl,dB,bq,dY];exact⟨ae,W _ (by rw[f9 e])⟩;simp[fl,dB,bq,dY,ce.len,N];refine⟨ae,ae, ?_⟩;refine aU (λQ=>⟨ae,W _ ?_⟩) (λQ=>W _ ?_);have e:b 3=true:=by
  rw[V];simp only[fQ,R];exact decide_eq_true Q
 rw[fh e];rfl;have e:b 3=false:=by
  rw[V];simp only[fQ,R];exact decide_eq_false Q
 rw[f9 e]
def br9:B4 9 (fw.at [0,1,0,0,1,0,1,0,0,0,0,0,0,0,0,1,1,1,1,1,1,1,1,0]):=by
 rw[show fw.at [0,1,0,0,1,0,1,0,0,0,0,0,0,0,0,1,1,1,1,1,1,1,1,0]=B5 (fw.at [0,1,0,0,1,0,1,0,0,0,0,0,0,0,0,1,1,1,1,1,1,1,1,0,0,0]) from rfl];refine Gu ?_;rw[show fw.at [0,1,0,0,1,0,1,0,0,0,0,0,0,0,0,1,1,1,1,1,1,1,1,0,0,0]=T.ah _ _ _ _ from rfl];unfold D8;intros;rename_i n i H G F X acc b P js j z _ _ _ O W;obtain⟨D,h,V,B,A,bZ,Gt,qX,ce,jh,oB,fH,R⟩:=P;obtain⟨y,x,fl,dY,dB,bq,D7,fh,f9⟩:=O;have w:(i:Int)<Y X:=ae;have N:bn (aQ X (i:Int) 5).val=1\/bn (aQ X (i:Int) 5).val=2:=by
  have:=fH.side;rw[aH ae] at this;simp only[bY] at this;omega
 have M:be .add I (bn (aQ X (i:Int) 5).val) 1=bn (aQ X (i:Int) 5).val+1:=by simp only[be];rw[iW ae ae]
 have L:be .quo I (bn (aQ X (i:Int) 5).val+1) 2=1:=by rcases N with h|h<;>rw[h]<;>decide
 rcases(show z=0/\j=0\/z=1/\j=1\/z=2/\j=2\/z=3/\j=3 from ae) with⟨rfl,rfl⟩|⟨rfl,rfl⟩|⟨rfl,rfl⟩|⟨rfl,rfl⟩;simp[fl,dB,bq,dY,M,L];refine⟨ae, ?_⟩;refine aU (λQ=>⟨ae,W _ ?_⟩) (λQ=>W _ ?_);have e:b 0=true:=by
  rw[V];simp only[fQ,R];exact decide_eq_true Q
 rw[fh e];rfl;have e:b 0=false:=by
  rw[V];simp only[fQ,R];exact decide_eq_false Q
 rw[f9 e];have e:b 1=false:=by rw[V];simp[fQ,R]
 simp[fl,dB,bq,dY];exact⟨ae,W _ (by rw[f9 e])⟩;have e:b 2=false:=by rw[V];simp[fQ,R]
 simp[fl,dB,bq,dY];exact⟨ae,W _ (by rw[f9 e])⟩;have e:b 3=false:=by rw[V];simp[fQ,R]
 simp[fl,dB,bq,dY];exact⟨ae,W _ (by rw[f9 e])⟩
def br8:B4 8 (fw.at [0,1,0,0,1,0,1,0,0,0,0,0,0,0,0,1,1,1,1,1,1,1,1,1]):=by
 rw[show fw.at [0,1,0,0,1,0,1,0,0,0,0,0,0,0,0,1,1,1,1,1,1,1,1,1]=B5 (fw.at [0,1,0,0,1,0,1,0,0,0,0,0,0,0,0,1,1,1,1,1,1,1,1,1,0,0]) from rfl];refine Gu ?_;rw[show fw.at [0,1,0,0,1,0,1,0,0,0,0,0,0,0,0,1,1,1,1,1,1,1,1,1,0,0]=T.ah _ _ _ _ from rfl];unfold D8;intros;rename_i n i N M L R acc b P js j z _ _ _ O W;obtain⟨H,h,V,G,F,bZ,Gt,qX,ce,jh,oB,fH,X⟩:=P;obtain⟨D,B,fl,dY,dB,bq,D7,fh,f9⟩:=O;have A:(i:Int)<Y R:=ae;have Q:bn (aQ R (i:Int) 4).val=8:=X;rcases(show z=0/\j=0\/z=1/\j=1\/z=2/\j=2\/z=3/\j=3 from ae) with⟨rfl,rfl⟩|⟨rfl,rfl⟩|⟨rfl,rfl⟩|⟨rfl,rfl⟩;have e:b 0=false:=by rw[V];simp[fQ,X]
 simp[fl,dB,bq,dY];exact⟨ae,W _ (by rw[f9 e])⟩;have e:b 1=false:=by rw[V];simp[fQ,X]
 simp[fl,dB,bq,dY,Q];exact⟨ae,W _ (by rw[f9 e])⟩;have e:b 2=false:=by rw[V];simp[fQ,X]
 simp[fl,dB,bq,dY];exact⟨ae,W _ (by rw[f9 e])⟩;have e:b 3=false:=by rw[V];simp[fQ,X]
 simp[fl,dB,bq,dY,Q];exact⟨ae,W _ (by rw[f9 e])⟩
end

section
variable{p:FuncId->aZ->aX->Prop}{R:aX->Prop}{O:aj}{L:ck}
def aCP{M:aN}{N:aq}{t:T}(Q:aX->Prop)(H:∀o,Q o->R o)(n:Nat)(X:Nat->aZ->Prop)(G:DY n X (N.map (C.xv O)))(h:∀(i:Nat) V,i<=n->X i V->t.wp p Q (O.ext (.i i::V)) [⟨W,DY n X,BT n,n-i⟩]):T.wp p R (.loop W M N t) O L:=by
 refine as1 Q H (DY n X) (BT n) G λF P=> ?_
 match F,P with
 |.i j::V,P=>
  obtain⟨i,rfl,D,B⟩:=P;have:=h i V D B;simpa[BT] using this
def QA(X:RV)(id:Int)(k:Nat):Bool:=match mu 1 [id,0,0] X.ah with|U W=>jw (W[k]?.getD default).val|none=>E
def bO(W:RV)(X:av)(V:Nat->Int):Nat->Nat->Int
 |0,j=>V j|k+1,j=>oi 171 ([.i (bO W X V k 0),.i (bO W X V k 1),.i (bO W X V k 2),.i (bO W X V k 3),.i (bO W X V k 4),.i (bO W X V k 5),.i (bO W X V k 6),.i (bO W X V k 7),.i (bO W X V k 8),.i (bO W X V k 9),.i (bO W X V k 10),.i (bO W X V k 11),.i (bO W X V k 12)]++ma (bY X k)++[.i (rJ W (bY X k 0) 1),.i (rJ W (bY X k 0) 2),.i (rJ W (bY X k 0) 3),.b (QA W (bY X k 0) 4)]) j
def qe(Q:RV)(P:Nat)(W:RV)(X:av)(V:Nat->Int):Nat->av
 |0=>[]|k+1=>qe Q P W X V k++if QA W (bY X k 0) 4 then[] else oA (fQ Q P W (bY X k) (L8 [bO W X V k 0,bO W X V k 1,bO W X V k 2,bO W X V k 3,bO W X V k 4,bO W X V k 5,bO W X V k 6,bO W X V k 7,bO W X V k 8,bO W X V k 9,bO W X V k 10,bO W X V k 11,bO W X V k 12])) (bY X k 0) (dj 4)
def aCQ{b:Nat->Bool}{id:Int}{js X:ar}(h:js.Perm X):(oA b id js).Perm (oA b id X):=(h.filter b).map _
def aby(Q:RV)(P:Nat)(W:RV)(X:av)(V:Nat->Int):∀k,(qe Q P W X V k).length<=4*k
 |0=>by simp[qe]
 |k+1=>by
  have M:=aby Q P W X V k;have N:=atN (fQ Q P W (bY X k) (L8 [bO W X V k 0,bO W X V k 1,bO W X V k 2,bO W X V k 3,bO W X V k 4,bO W X V k 5,bO W X V k 6,bO W X V k 7,bO W X V k 8,bO W X V k 9,bO W X V k 10,bO W X V k 11,bO W X V k 12])) (bY X k 0) (dj 4);simp only[qe,fT];split;simp;omega;simp only[aJo] at N;omega
def atQ(V:RV)(Q:Nat)(P:RV)(W:av)(N:Nat->Int):∀k,∀x∈qe V Q P W N k,∃q<k,aI 1 x=bY W q 0
 |0,x,X=>by simp[qe] at X
 |k+1,x,X=>by
  rw[qe] at X;rcases fc.1 X with h|h;obtain⟨q,H,M⟩:=atQ V Q P W N k x h;exact⟨q,ae,M⟩;split at h;simp at h;obtain⟨m,-,rfl⟩:=fo.1 h;exact⟨k,ae,rfl⟩
def aCR(b:Nat->Bool)(id:Int){js:ar}(h:js.Nodup):BY [1,0] (oA b id js):=by
 refine ak5.2 ((h.sublist List.filter_sublist).imp λ{x y} X=>⟨0,aw, ?_⟩);simp[abw,aI,iV,bn];omega
def aCS(Q:wW X){k:Nat}(P:W<k)(V:k<Y X):bY X W 0≠bY X k 0:=by
 have:=aci.1 Q W k ae V P;simpa[bY,aQ,aI,V,show W<Y X from ae] using this
def atS(W:RV)(V:Nat)(Q:RV)(X:av)(P:Nat->Int)(M:wW X):∀k≤Y X,BY [1,0] (qe W V Q X P k)
 |0,_=>vx
 |k+1,h=>by
  rw[qe];refine oD.2 ⟨atS W V Q X P M k ae, ?_, ?_⟩;split;exact vx;exact aCR _ _ List.nodup_range;intro x H y N;obtain⟨q,G,F⟩:=atQ W V Q X P k x H;split at N;simp at N;obtain⟨m,-,rfl⟩:=fo.1 N;refine⟨1,aw, ?_⟩;rw[F];exact aCS M G ae
end
section
def aCT(R:aX->Prop)(L:ck)(h:dU)(N:Nat)(ap z y x w v w5 u t s q p n m g f e d c a aa ab ac af ag al an a0 a1 a3 UV:Int)(Q re V:RV)(X:av)(W:Nat->Int)(l:[z,y,x,w,v,w5,u,t,s,q,p,n,m]=[W 0,W 1,W 2,W 3,W 4,W 5,W 6,W 7,W 8,W 9,W 10,W 11,W 12])
  (G:Y X<=4096)(qX:N<Y Q.ah)(ce:Sl Q)(jh:Y Q.ah=Y ay.ah)(oB:Y ay.ah<=64)(fH:∀i<Y X,BU (Y ay.ah) eV (bY X i))(hk:wW X)
  (hR:R (.ret [.r (ao (bN (bu.lex [1,0] E).lt (qe Q N V X W (Y X)))),.i 0])):
  T.wp TB.Ev R (fw.at [0,1,0,0,1,0,1,0,0,0]) ⟨[mK,mL,wX,I9,Ja,eV,(N:Int),ap,z,y,x,w,v,w5,u,t,s,q,p,n,m,g,f,e,d,c,a,aa,ab,ac,af,ag,al,an,a0,a1,a3,UV],[],[ay,mb,nA,nC,dh,Q,re,V,ao X],[]⟩ L:=by
 rw[show fw.at [0,1,0,0,1,0,1,0,0,0]=(T.loop _ _ _ (T.aK _ (T.aS _ (T.aS _ (T.call _ _ _ _ _ _ (T.aK _ _ (T.aK _ (fw.at [0,1,0,0,1,0,1,0,0,0,0,0,0,0,0,1,0]) (T.aK _ (fw.at [0,1,0,0,1,0,1,0,0,0,0,0,0,0,0,1,1,0]) (T.aK _ (fw.at [0,1,0,0,1,0,1,0,0,0,0,0,0,0,0,1,1,1,0]) (T.aK _ (fw.at [0,1,0,0,1,0,1,0,0,0,0,0,0,0,0,1,1,1,1,0]) (T.aK _ (fw.at [0,1,0,0,1,0,1,0,0,0,0,0,0,0,0,1,1,1,1,1,0]) (T.aK _ (fw.at [0,1,0,0,1,0,1,0,0,0,0,0,0,0,0,1,1,1,1,1,1,0]) (T.aK _ (fw.at [0,1,0,0,1,0,1,0,0,0,0,0,0,0,0,1,1,1,1,1,1,1,0]) (T.aK _ (fw.at [0,1,0,0,1,0,1,0,0,0,0,0,0,0,0,1,1,1,1,1,1,1,1,0]) (fw.at [0,1,0,0,1,0,1,0,0,0,0,0,0,0,0,1,1,1,1,1,1,1,1,1]))))))))))))) _)) from rfl];simp only[Et,and_true] at l;obtain⟨rfl,rfl,rfl,rfl,rfl,rfl,rfl,rfl,rfl,rfl,rfl,rfl,rfl⟩:=l;have a4:∀acc:av,acc.Perm (qe Q N V X W (Y X))->iq (.lex [1,0] E) E acc=U (bN (bu.lex [1,0] E).lt (qe Q N V X W (Y X))):=λacc B=>atA (by have:=aby Q N V X W (Y X);omega) (atS Q N V X W hk _ (cd _)) B
 have F:Bh (.ret [.r (ao (bN (bu.lex [1,0] E).lt (qe Q N V X W (Y X)))),.i 0]) (.ret [.r (ao (bN (bu.lex [1,0] E).lt (qe Q N V X W (Y X)))),.i 0])=true:=HA _;refine aCP (· =.ret [.r (ao (bN (bu.lex [1,0] E).lt (qe Q N V X W (Y X)))),.i 0]) (λo h=>h▸hR) (Y X) (λi a9=>∃acc,a9=[.i (bO V X W i 0),.i (bO V X W i 1),.i (bO V X W i 2),.i (bO V X W i 3),.i (bO V X W i 4),.i (bO V X W i 5),.i (bO V X W i 6),.i (bO V X W i 7),.i (bO V X W i 8),.i (bO V X W i 9),.i (bO V X W i 10),.i (bO V X W i 11),.i (bO V X W i 12),.r (ao acc)]/\acc.Perm (qe Q N V X W i)) ⟨0,rfl,rP _,[],rfl,alb _⟩ ?_;rintro i _ M ⟨acc,rfl,B⟩;have ba:=B.length_eq;have D7:=aby Q N V X W i;simp;refine aU (λM=> ?_) (λbf=> ?_);have k:=nD _ (ajB (bO V X W i 0) (bO V X W i 1) (bO V X W i 2) (bO V X W i 3) (bO V X W i 4) (bO V X W i 5) (bO V X W i 6) (bO V X W i 7) (bO V X W i 8) (bO V X W i 9) (bO V X W i 10) (bO V X W i 11) (bO V X W i 12) (bY X i) (rJ V (bY X i 0) 1) (rJ V (bY X i 0) 2) (rJ V (bY X i 0) 3) (QA V (bY X i 0) 4));simp only[ma,cG,cX,Jc,Qt,ua] at k;change _/\gX TB.Ev _ _ [.i (bO V X W i 0),.i (bO V X W i 1),.i (bO V X W i 2),.i (bO V X W i 3),.i (bO V X W i 4),.i (bO V X W i 5),.i (bO V X W i 6),.i (bO V X W i 7),.i (bO V X W i 8),.i (bO V X W i 9),.i (bO V X W i 10),.i (bO V X W i 11),.i (bO V X W i 12),.i (bY X i 0),.i (bY X i 1),.i (bY X i 2),.i (bY X i 3),.i (bY X i 4),.i (bY X i 5),.i (bY X i 6),.i (bY X i 7),.i (bY X i 8),.i (bY X i 9),.i (bY X i 10),.i (bY X i 11),.i (bY X i 12),.i (bY X i 13),.i (rJ V (bY X i 0) 1),.i (rJ V (bY X i 0) 2),.i (rJ V (bY X i 0) 3),.b (QA V (bY X i 0) 4)] _ _ _ _;rw[aY k];simp[M,bD M (show Y X<=140737488355328 from ae)];have H:=fH i M;refine aU (λA=> ?_) (λA=> ?_);refine⟨acc,⟨rfl,rfl,rfl,rfl,rfl,rfl,rfl,rfl,rfl,rfl,rfl,rfl,rfl,rfl⟩, ?_⟩;rw[qe,aH (show QA V (bY X i 0) 4=J from A),JC];exact B;have bb:QA V (bY X i 0) 4=false:=Bool.eq_false_iff.2 A;have D:∀js,js.Perm (dj 4)->∃j,[.i (bO V X W (i+1) 0),.i (bO V X W (i+1) 1),.i (bO V X W (i+1) 2),.i (bO V X W (i+1) 3),.i (bO V X W (i+1) 4),.i (bO V X W (i+1) 5),.i (bO V X W (i+1) 6),.i (bO V X W (i+1) 7),.i (bO V X W (i+1) 8),.i (bO V X W (i+1) 9),.i (bO V X W (i+1) 10),.i (bO V X W (i+1) 11),.i (bO V X W (i+1) 12),XV.r (ao (acc++oA (fQ Q N V (bY X i) (L8 [bO V X W i 0,bO V X W i 1,bO V X W i 2,bO V X W i 3,bO V X W i 4,bO V X W i 5,bO V X W i 6,bO V X W i 7,bO V X W i 8,bO V X W i 9,bO V X W i 10,bO V X W i 11,bO V X W i 12])) (bY X i 0) js))]=[.i (bO V X W (i+1) 0),.i (bO V X W (i+1) 1),.i (bO V X W (i+1) 2),.i (bO V X W (i+1) 3),.i (bO V X W (i+1) 4),.i (bO V X W (i+1) 5),.i (bO V X W (i+1) 6),.i (bO V X W (i+1) 7),.i (bO V X W (i+1) 8),.i (bO V X W (i+1) 9),.i (bO V X W (i+1) 10),.i (bO V X W (i+1) 11),.i (bO V X W (i+1) 12),.r (ao j)]/\j.Perm (qe Q N V X W (i+1)):=λjs hj=>⟨_,rfl,by
  rw[qe,bb];exact B.append (aCQ hj)⟩
 have h4:=H.kind;refine aU (λP=>br1 ⟨F,h,rfl,M,G,rfl,ae,qX,ce,jh,oB,H,P⟩ D) (λbg=> ?_);refine aU (λP=>br2 ⟨F,h,rfl,M,G,rfl,ae,qX,ce,jh,oB,H,P⟩ D) (λbk=> ?_);refine aU (λP=>br3 ⟨F,h,rfl,M,G,rfl,ae,qX,ce,jh,oB,H,P⟩ D) (λbl=> ?_);refine aU (λP=>br4 ⟨F,h,rfl,M,G,rfl,ae,qX,ce,jh,oB,H,P⟩ D) (λbr=> ?_);refine aU (λP=>br5 ⟨F,h,rfl,M,G,rfl,ae,qX,ce,jh,oB,H,P⟩ D) (λbs=> ?_);refine aU (λP=>br6 ⟨F,h,rfl,M,G,rfl,ae,qX,ce,jh,oB,H,P⟩ D) (λbt=> ?_);refine aU (λP=>br7 ⟨F,h,rfl,M,G,rfl,ae,qX,ce,jh,oB,H,P⟩ D) (λbx=> ?_);refine aU (λP=>br9 ⟨F,h,rfl,M,G,rfl,ae,qX,ce,jh,oB,H,P⟩ D) (λb0=> ?_);exact br8 ⟨F,h,rfl,M,G,rfl,ae,qX,ce,jh,oB,H,(by simp only[bY] at h4⊢;omega)⟩ D;have bc:i=Y X:=ae;subst bc
 first|rw[wQ]|rw[wU]
 refine⟨_,a4 acc B, ?_⟩;simp[ao,ba,(BV _).length_eq]
end
end
