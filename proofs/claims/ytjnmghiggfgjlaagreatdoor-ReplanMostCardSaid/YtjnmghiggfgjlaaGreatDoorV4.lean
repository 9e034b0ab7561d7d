/- Part 4. -/
import Derived.Test.YtjnmghiggfgjlaaGreatDoorV3
set_option linter.all false
set_option maxRecDepth 100000
set_option maxHeartbeats 100000000
open Bool renaming and_eq_true->aC,not_eq_true'->jP,false_eq_true->jX,or_eq_true->lg,true->J,false->E
open Nat renaming le_refl->cd,zero_le->rN,eq_zero_or_pos->Mj,mod_lt->Q0,gcd->aco
open List renaming cons_append->cJ,nil_append->da,range->di,getElem?_eq_getElem->dG,map_cons->dH,getD_eq_getElem?_getD->dM,mem_append->fg,mem_cons->fh,mem_map->fw,getElem?_append_left->f8,length_append->f9,all_eq_true->gz,getElem?_append_right->ji,mem_of_getElem?->jz,pairwise_cons->jO,pairwise_append->oB,map_nil->oC,length_map->oW,getElem?_of_mem->sK,mem_range->sL,getElem_mem->ul,nodup_append->xp,append_assoc->Ce,length_drop->Cf,map->Cj,length_eq_zero_iff->Em,nodup_cons->Et,map_append->GH,take_of_length_le->Jt,take_append_drop->Jv,length_take->Mo,append_nil->Mq,drop_drop->QX,pairwise_iff_getElem->aca,length_singleton->ace,ne_nil_of_mem->akX,pairwise_map->akZ,range_succ_eq_map->avQ,mem_erase_of_ne->avU,length_pos_iff->avX,take_add_one->av5,foldl_cons->av9,find?_cons->awa,pairwise_singleton->aIP,length_filter_le->aIW,length_range->aJd,length->Y
open Option renaming some->U,none->Z
open Int renaming toNat_natCast->rM,natAbs_tmod->ak4,mul_le_mul_of_nonneg_right->aII,mul_lt_mul_of_pos_right->aIJ
open List.Pairwise renaming nil->xo
open List.Perm renaming refl->awl,swap->aJg
open Go.IntKind renaming i64->I
namespace Go.Proofs.YtjnmghiggfgjlaaGreatDoor.Y
open Go.RowKit
noncomputable section
variable{X:av}{W:Nat}{V:FuncId}
section
variable{lt:aE->aE->Bool}{p:aE->Prop}
structure mY(lt:aE->aE->Bool)(p:aE->Prop):Prop where
 X7:∀x,p x->lt x x=E
 tr:∀x y z,p x->p y->p z->lt x y=J->lt y z=J->lt x z=J
 nt:∀x y z,p x->p y->p z->lt x y=E->lt y z=E->lt x z=E
def mY.asym(h:mY lt p){x y:aE}(X:p x)(W:p y)(V:lt x y=J):lt y x=false:=by
 cases R:lt y x;rfl;have:=h.tr x y x X W X V R;rw[h.X7 x X] at this;cases this
theorem ap4(h:mY lt p){x y:aE}(W:p x)(V:p y)(X:lt y x=J):∀{l:av},(∀z∈l,p z)->fl lt y (fl lt x l)=fl lt x (fl lt y l)
 |[],_=>by
  have R:=h.asym V W X;simp[fl,X,R]
 |z::r,Q=>by
  have O:=Q z aw;have L:=ap4 h W V X (l:=r) (λw N=>Q w (by simp[N]));have R:=h.asym V W X;cases P:lt x z
  grind [fl]
  have M:lt y z=true:=h.tr y x z V W O X P;simp[fl,P,M,X,R]
inductive gv(lt:List RV->List RV->Bool)(l:List (List RV)):List (List RV)->Prop
 |refl:gv lt l l
 |step {P Q:List (List RV)} {x y:List RV}:lt y x=J->gv lt l (P++x::y::Q)->gv lt l (P++y::x::Q)
def gv.trans{b c:av}(W:gv lt X b)(V:gv lt b c):gv lt X c:=by
 induction V with|refl=>exact W|step h _ R=>exact .step h R
def gv.Oa{b:av}(A B:av)(h:gv lt X b):gv lt (A++X++B) (A++b++B):=by
 induction h with
 |refl=>exact .refl
 | @step P Q x y h _ W=>
  have V:A++(P++x::y::Q)++B=(A++P)++x::y::(Q++B):=aw;have R:A++(P++y::x::Q)++B=(A++P)++y::x::(Q++B):=aw;rw[V] at W;rw[R];exact .step h W
def gv.perm{b:av}(h:gv lt X b):b.Perm X:=by
 induction h with|refl=>exact awl _|step _ _ W=>exact((aJg _ _ _).append_left _).trans W
def gv.ap5(P:av)(b:aE):∀(A Q:av),(∀a∈A,lt b a=J)->gv lt (P++A.reverse++b::Q) (P++b::(A.reverse++Q))
 |[],Q,_=>by simpa using gv.refl
 |a::A,Q,h=>by
  have X:gv lt (P++(a::A).reverse++b::Q) ((P++A.reverse)++b::a::Q):=by
   have:P++(a::A).reverse++b::Q=(P++A.reverse)++a::b::Q:=aw;rw[this];exact .step (h a aw) .refl
  have W:=gv.ap5 P b A (a::Q) (λx V=>h x (by simp[V]));have e:P++b::((a::A).reverse++Q)=P++b::(A.reverse++a::Q):=aw;rw[e];exact X.trans W
def gv.one(P Q:av)(b:aE)(A:av)(h:∀a∈A,lt b a=J):gv lt (P++A++b::Q) (P++b::(A++Q)):=by
 have:=gv.ap5 (lt:=lt) P b A.reverse Q (λa X=>h a (by simpa using X))
 grind
def gv.block(Q:av)(A:av):∀(B P:av),(∀a∈A,∀b∈B,lt b a=J)->gv lt (P++A++(B++Q)) (P++B++(A++Q))
 |[],P,_=>by simpa using gv.refl
 |b::B,P,h=>by
  have W:=gv.one P (B++Q) b A (λa X=>h a X b aw);have V:=gv.block Q A B (P++[b]) (λa X R O=>h a X R (by simp[O]));have N:P++b::(A++(B++Q))=P++[b]++A++(B++Q):=aw;have M:P++b::B++(A++Q)=P++[b]++B++(A++Q):=aw;rw[N] at W;rw[M];exact W.trans V
def zH(lt:aE->aE->Bool)(acc l:av):av:=l.foldl (λacc x=>fl lt x acc) acc
def aAS{acc:av}(R:∀z∈acc,p z)(Q:∀z∈X,p z):∀z∈zH lt acc X,p z:=by
 induction X generalizing acc with
 |nil=>exact R
 |cons x X W=>
  refine W (acc:=fl lt x acc) (λz V=> ?_) (λz V=>Q z (by simp[V]));have fo:∀{X:av},z∈fl lt x X->z=x\/z∈X:=by
   intro X;induction X with
   |nil=>intro h;simpa[fl] using h
   |cons y r W=>
    grind [fl]
  grind
def gv.fold(h:mY lt p){R:av}(W:gv lt X R){acc:av}(O:∀z∈X,p z)(N:∀z∈acc,p z):zH lt acc R=zH lt acc X:=by
 induction W with
 |refl=>rfl
 | @step P Q x y G W M=>
  rw[<-M];have L:=λz(V:z∈P++x::y::Q)=>O z (W.perm.mem_iff.1 V)
  have H:∀z∈zH lt acc P,p z:=aAS N λz V=>L z (by simp[V])
  simp only[zH,List.foldl_append,av9] at H⊢
  grind [ap4]
def gT(lt:aE->aE->Bool)(l:av):Prop:=l.Pairwise λa b=>lt b a=E
theorem ap6{x:aE}:∀{l:av},(∀y∈l,lt x y=E)->fl lt x l=l++[x]
 |[],_=>rfl
 |y::r,h=>by
  have X:=h y aw;simp[fl,X,ap6 (l:=r) λz W=>h z (by simp[W])]
def aAT:∀{acc:av},gT lt (acc++X)->zH lt acc X=acc++X:=by
 induction X with
 |nil=>intro acc _;simp[zH]
 |cons x X V=>
  intro acc h;have R:∀y∈acc,lt x y=false:=λy W=>(oB.1 h).2.2 y W x aw
  have e:acc++x::X=(acc++[x])++X:=aw
  grind [zH,ap6]
def X8(h:gT lt X):bN lt X=X:=aAT (acc:=[]) h
def Td{x z:aE}:∀{l:av},z∈fl lt x l->z=x\/z∈l
 |[],h=>by simpa[fl] using h
 |y::r,h=>by
  simp only[fl] at h;split at h
  grind
  rcases fh.1 h with h|h
  grind
  rcases Td h with h|h
  grind
  grind
def gT.ins(h:mY lt p){x:aE}(W:p x):∀{l:av},(∀z∈l,p z)->gT lt l->gT lt (fl lt x l)
 |[],_,_=>aIP _ _
 |y::r,V,R=>by
  have Q:=V y aw;have P:=jO.1 R;simp only[fl];cases O:lt x y;refine jO.2 ⟨λz X=> ?_,gT.ins h W (λz X=>V z (by simp[X])) P.2⟩;rcases Td X with rfl|X;exact O
  grind
  refine jO.2 ⟨λz X=> ?_,R⟩;have N:=h.asym W Q O;rcases fh.1 X with rfl|X;exact N;exact h.nt z y x (V z (by simp[X])) Q W (P.1 z X) N
def gT.fold(h:mY lt p):∀{acc:av},(∀z∈acc,p z)->(∀z∈X,p z)->gT lt acc->gT lt (zH lt acc X):=by
 induction X with
 |nil=>intro acc _ _ h;exact h
 |cons x X R=>
  intro acc Q V P;refine R (acc:=fl lt x acc) (λz W=> ?_) (λz W=>V z (by simp[W])) (P.ins h (V x aw) Q);rcases Td W with rfl|W
  grind
  grind
def KI(h:mY lt p)(W:∀z∈X,p z):gT lt (bN lt X):=gT.fold h (acc:=[]) aw W xo
def gv.ins(h:mY lt p){x:aE}(V:p x):∀{l:av},(∀z∈l,p z)->gT lt l->gv lt (l++[x]) (fl lt x l)
 |[],_,_=>.refl
 |y::r,W,Q=>by
  have P:=W y aw;have R:=jO.1 Q;simp only[fl];cases O:lt x y;have:=(gv.ins h V (l:=r) (λz X=>W z (by simp[X])) R.2).Oa [y] []
  grind
  have:=gv.one (lt:=lt) [] [] x (y::r) (λz X=>by
   rcases fh.1 X with rfl|X;exact O;cases N:lt x z;have:=h.nt x z y V (W z (by simp[X])) P N (R.1 z X)
   grind
   rfl)
  grind
def gv.aAU(h:mY lt p):∀{acc:av},(∀z∈acc,p z)->(∀z∈X,p z)->gT lt acc->gv lt (acc++X) (zH lt acc X):=by
 induction X with
 |nil=>intro acc _ _ _;simpa[zH] using gv.refl
 |cons x X P=>
  intro acc R V Q;have O:=(gv.ins h (V x aw) R Q).Oa [] X;have N:=P (acc:=fl lt x acc) (λz W=>by
   rcases Td W with rfl|W;exact V _ aw;exact R z W) (λz W=>V z (by simp[W])) (Q.ins h (V x aw) R)
  have e:acc++x::X=[]++(acc++[x])++X:=aw;rw[e];refine O.trans ?_;rw[da];exact N
def gv.X9(h:mY lt p)(W:∀z∈X,p z):gv lt X (bN lt X):=by
 exact gv.aAU h (acc:=[]) aw W xo
def afI(h:mY lt p){W:av}(V:∀z∈X,p z)(R:gv lt X W)(Q:gT lt W):bN lt X=W:=by
 rw[<-X8 Q];exact(R.fold h (acc:=[]) V aw).symm
def KJ{z:aE}(h:z∈bN lt X):z∈X:=by
 have:∀(X acc:av),z∈zH lt acc X->z∈acc\/z∈X:=by
  intro X;induction X with
  |nil=>intro acc h;exact .inl h
  |cons x X W=>
   intro acc h;rcases W (fl lt x acc) h with h|h;rcases Td h with rfl|h;simp
   grind
   grind
 rcases this X [] h with h|h;cases h;exact h
def aAV(h:mY lt p){x:aE}{W:av}(Q:∀z∈x::(X++W),p z)(N:gT lt (X++W))(P:∀y∈X,lt y x=J)(M:∀y∈W,lt y x=E):bN lt (x::(X++W))=X++x::W:=by
 refine afI h Q ?_ ?_;have:=gv.block (lt:=lt) W [x] X [] (λa V b R=>by simp at V;subst V;exact P b R)
 grind
 have O:=oB.1 N;refine oB.2 ⟨O.1,jO.2 ⟨M,O.2.1⟩,λa V b R=> ?_⟩;rcases fh.1 R with rfl|R;exact h.asym (Q a (by simp[V])) (Q b aw) (P a V)
 grind
def aAW(h:mY lt p){y:aE}{W:av}(V:∀z∈X++W++[y],p z)(O:gT lt (X++W))(N:∀x∈X,lt y x=E)(Q:∀x∈W,lt y x=J):bN lt (X++W++[y])=X++y::W:=by
 refine afI h V ?_ ?_;have:=gv.one (lt:=lt) X [] y W Q
 grind
 have P:=oB.1 O;refine oB.2 ⟨P.1,jO.2 ⟨λb R=>h.asym (V y aw) (V b (by simp[R])) (Q b R),P.2.1⟩,λa M b R=> ?_⟩
 grind
def aAX(h:mY lt p){W V R:av}(O:∀z∈X++W++(V++R),p z)(D:gT lt (X++W))(B:gT lt (V++R))(u:∀x∈X,∀y∈R,lt y x=E)(H:∀x∈W,∀y∈V,lt y x=J):
  bN lt (X++W++(V++R))=bN lt (X++V)++bN lt (W++R):=by
 have t:=oB.1 D;have s:=oB.1 B;have N:∀z∈X++V,p z:=λz M=>O z (by rcases fg.1 M with h|h<;>simp[h])
 have L:∀z∈W++R,p z:=λz M=>O z (by rcases fg.1 M with h|h<;>simp[h])
 refine afI h O ?_ ?_;have A:=gv.block (lt:=lt) R W V X H;have G:=(gv.X9 h N).Oa [] (W++R);have F:=(gv.X9 h L).Oa (bN lt (X++V)) [];simp only[da,Mq] at G F;exact(A.trans G).trans F;refine oB.2 ⟨KI h N,KI h L,λa Q b P=> ?_⟩;have Q:=KJ Q;have P:=KJ P;have w:=N a Q;have v:=L b P;rcases fg.1 Q with Q|Q
 grind
 rcases fg.1 P with P|P;exact h.asym w v (H b P a Q)
 grind
def ap7(h:mY lt p){B:av}(W:∀z∈X,p z)(V:∀z∈B,p z):bN lt (bN lt X++bN lt B)=bN lt (X++B):=by
 have R:=(gv.X9 h W).Oa [] B;have Q:=(gv.X9 h V).Oa (bN lt X) [];simp at R Q;exact(R.trans Q).fold h (acc:=[]) (λz P=>by exact(fg.1 P).elim (W z) (V z)) aw
end
section
def ap8(d:Bool):∀(X:ar)(x y z:aE),jD d X x y=E->jD d X y z=E->jD d X x z=E
 |[],_,_,_,_,_=>rfl
 |c::X,x,y,z,W,V=>by
  simp only[jD] at W V⊢;by_cases R:aW c x=aW c y;rw[aH R] at W;by_cases Q:aW c y=aW c z;rw[aH Q] at V;rw[aH (R.trans Q)];exact ap8 d X x y z W V
  grind
  grind
def ap9(d:Bool):∀(X:ar)(x:aE),jD d X x x=E
 |[],_=>rfl|c::X,x=>by simp[jD,ap9 d X x]
def aqa(d:Bool):∀(X:ar)(x y z:aE),jD d X x y=J->jD d X y z=J->jD d X x z=J
 |[],_,_,_,h,_=>by simp[jD] at h
 |c::X,x,y,z,W,V=>by
  simp only[jD] at W V⊢;by_cases R:aW c x=aW c y;rw[aH R] at W;by_cases Q:aW c y=aW c z;rw[aH Q] at V;rw[aH (R.trans Q)];exact aqa d X x y z W V
  grind
  grind
def Ya(X:ar)(d:Bool):mY (bu.lex X d).lt (λx=>(bu.lex X d).ok x=J):=
 ⟨λx _=>ap9 d X x,λx y z _ _ _=>aqa d X x y z,λx y z _ _ _=>ap8 d X x y z⟩
def Ob{n d:Int}(h:mo n d=J):0<d:=by
 simp only[mo,aC,dD] at h;omega
def afJ(n d:Nat):mY (bu.ratio n d).lt (λx=>(bu.ratio n d).ok x=J):=by
 refine⟨λx _=> ?_,λx y z V R Q X W=> ?_,λx y z V R Q X W=> ?_⟩;simp[bu.lt];have P:=Ob V;have N:=Ob R;have O:=Ob Q;simp only[bu.lt,dD] at X W⊢;have M:=aIJ X O;have L:=aIJ W P;refine Int.lt_of_mul_lt_mul_left (a:=aW d y) ?_ ae
 grind
 have P:=Ob V;have N:=Ob R;have O:=Ob Q;simp only[bu.lt,decide_eq_false_iff_not,Int.not_lt] at X W⊢;have M:=aII X (show 0<=aW d z from ae);have L:=aII W (show 0<=aW d x from ae);refine Int.le_of_mul_le_mul_left (a:=aW d y) ?_ ae
 grind
end
section
variable{lt:aE->aE->Bool}{p:aE->Prop}
def qI(X:av){m b:Nat}(V:W<=m)(R:m<=b):bi X W b=bi X W m++bi X m b:=by
 simp only[bi];have e:b-W=(m-W)+(b-m):=ae;rw[e,List.take_add,QX,show W+(m-W)=m from ae]
def Oc(X:av){b:Nat}(V:W<=b):X.take W++(bi X W b++X.drop b)=X:=by
 simp only[bi];have e:X.drop b=(X.drop W).drop (b-W):=by rw[QX];congr 1;omega
 rw[e,Jv,Jv]
theorem Te(X:av){a b i:Nat}(h:i<b-a):(bi X a b)[i]?=X[a+i]?:=by
 grind [bi]
def sa(X:av){b:Nat}(h:b<=Y X):(bi X W b).length=b-W:=by simp[bi];omega
def HF{b:Nat}{x:aE}(h:x∈bi X W b):∃i,W<=i/\i<b/\i<Y X/\X.getD i []=x:=by
 obtain⟨i,V⟩:=sK h
 grind [bi,Mo,Cf,Te]
def Od{b:Nat}(V:b<=Y X)(h:gT lt (bi X W b)){i j:Nat}(Q:W<=i)(P:i<j)(O:j<b):lt (X.getD j []) (X.getD i [])=false:=by
 have:=aca.1 h (i-W) (j-W) (by rw[sa X V];omega) (by rw[sa X V];omega) ae;have e:∀k(R:k-W<(bi X W b).length),W<=k->k<b->(bi X W b)[k-W]=X.getD k []:=λk R N M=>by
  have q:=Te X (a:=W) (b:=b) (i:=k-W) ae
  grind
 grind
def aqb:zu lt X=J<->gT lt X:=by
 induction X with
 |nil=>exact⟨λ_=>xo,λ_=>rfl⟩
 |cons x r W=>
  simp only[zu,aC,W,gz,jP,gT,jO]
def aAY(h:mY lt p)(P:∀z∈X,p z){s m e b:Nat}(O:W<=s)(N:s<=m)(M:m<=e)(L:e<=b)(w:b<=Y X)(H:gT lt (bi X W m))(G:gT lt (bi X m b))
  (v:∀i j,W<=i->i<s->e<=j->j<b->lt (X.getD j []) (X.getD i [])=E)(u:∀i j,s<=i->i<m->m<=j->j<e->lt (X.getD j []) (X.getD i [])=J):
  bN lt (bi X W b)=bN lt (bi X W s++bi X m e)++bN lt (bi X s m++bi X e b):=by
 rw[qI X (show W<=m from ae) (show m<=b from ae),qI X O N,qI X M L] at*;refine aAX h (λz V=>P z ?_) H G (λx R y Q=> ?_) (λx R y Q=> ?_);simp only[fg] at V;rcases V with(V|V)|(V|V)<;>exact wa V;obtain⟨i,F,D,_,rfl⟩:=HF R;obtain⟨j,B,A,_,rfl⟩:=HF Q
 grind
 obtain⟨i,F,D,_,rfl⟩:=HF R;obtain⟨j,B,A,_,rfl⟩:=HF Q
 grind
end
section
variable(a b c:Nat)(d e f g h i:K)(j k l m:T)(n o p q r s:BE)(t u:List C)(v w x y z:C)(A:RE)(B N D:LE)(M F:List LK)(G:Int)(H:RK)(O:List RK)(P:BinOp)(Q:bu)(L:Bool)
abbrev cL:=K.v 0
abbrev cY:=K.v 1
abbrev gK:=K.v 2
abbrev fY:=T.ret v [] []
abbrev wq:=fY (.bool n)
abbrev eG:=BE.cmp .leq d e
abbrev Tf:=wq (eG cL gK)
abbrev gw:=BE.c E
abbrev j7:=C.bool gw
abbrev gD:=fY j7
abbrev fZ:=K.v 4
abbrev aU:=C.int I d
abbrev pP:=aU fZ
abbrev cK:=K.c 1
abbrev dY:=aU cK
abbrev Bk:=K.c 9
abbrev C2:List LK:=[.bool]
abbrev C3:=BE.v 0
abbrev pQ:=BE.not C3
abbrev iH:=aU cY
abbrev bK:=K.c 0
abbrev aK:=aU bK
abbrev kL:=K.v 14
abbrev sd:=BE.v 1
abbrev oL:=BE.not sd
abbrev gL:=aU gK
abbrev jG:=K.v 15
abbrev Bl:=BE.v 2
abbrev C4:=BE.not Bl
abbrev iQ:=K.v 3
abbrev kY:=aU iQ
abbrev qJ:=K.c 3
abbrev pu:=aU qJ
abbrev Bm:=BE.v 3
abbrev C5:=BE.not Bm
abbrev gU:=eG bK d
abbrev Tg:=gU fZ
abbrev KK:=K.c 10
abbrev j8:=RE.v 0
abbrev iJ:=K.len j8
abbrev lQ:=K.v 5
abbrev oM:=aU lQ
abbrev ru:=K.c 2
abbrev tq:=aU ru
abbrev mA:=BE.not (.v a)
abbrev HG:=mA 4
abbrev jH:=K.v 6
abbrev eH:=aU jH
abbrev ly:=K.c 8
abbrev HH:=aU ly
abbrev eh:=K.v 7
abbrev jr:=aU eh
abbrev fc:=K.v 8
abbrev iR:=aU fc
abbrev dA:=K.v 9
abbrev kM:=aU dA
abbrev mB:=aU kL
abbrev gE:=K.v 10
abbrev iZ:=aU gE
abbrev iq:=K.v 11
abbrev j9:=aU iq
abbrev dm:=LK.int I
abbrev xV:List LK:=[dm,dm]
abbrev iu:=K.v 17
abbrev lR:=BE.cmp .neq d e
abbrev fO:=lR d bK
abbrev KL:=fO iu
abbrev jf:=K.v 16
abbrev dK:=K.v 12
abbrev lz:=K.v 13
abbrev gM:=aU dK
abbrev mC:=aU lz
abbrev lT:=K.v 19
abbrev Th:=fO lT
abbrev iF:=K.v 18
abbrev pR:=K.v 21
abbrev ol:=K.v 20
abbrev kZ:=BE.c J
abbrev ld:=C.bool kZ
abbrev uO:=fY ld
abbrev jS:=T.call a t [] [] M .any j
abbrev mZ:=jS a j [v,w] M
abbrev Fm:=mZ a j v w xV
abbrev lA:=C.agg [v,w]
abbrev dB:=T.aI n j (.aI o k l)
abbrev gV:=BE.cmp .gtr d e
abbrev zI:=dB j k l n (gV d e)
abbrev C6:=zI d e gD j k n
abbrev gZ:=T.aI n (.aI o j k) l
abbrev eI:=BE.cmp .eql d e
abbrev dQ:=eI d bK
abbrev Fo:=BE.and (eI d e) n
abbrev C7:=Fo d e (eI f g)
abbrev C8:=T.aI n gD j
abbrev afK:=Fm 89 (C6 ol bK gD (gZ (C8 uO (C7 cK dK cK lz)) uO uO (dQ ol) (C7 dK gE lz iq)) (fO pR)) (lA gM mC) (lA dY dY)
abbrev afL:=Fm 89 (C6 iF bK gD (gZ (C8 afK (C7 dK dK lz lz)) afK afK (dQ iF) (C7 gE gE iq iq)) Th) (lA iZ j9) (lA gM mC)
abbrev nS:=aU (.c G)
abbrev Fp:=nS 150
abbrev iw:=T.ret (.bH [v,w]) [] []
abbrev Yb:=iw aK Fp
abbrev afM:=gV cL ly
abbrev zJ:=K.c 7
abbrev Bn:=K.bin P I d e
abbrev oN:=Bn d e .add
abbrev afN:=oN cL cY
abbrev Yc:=iw (.agg [aK,aK,aK]) Fp
abbrev tu:=K.c 841
abbrev tw:=Bn d e .sub
abbrev Ti:=tw cY ru
abbrev se:=tw d cK
abbrev HI:=se cL
abbrev cN:=BE.cmp .lss d e
abbrev fp:=BE.and n (cN d e)
abbrev afO:=fp HI ly (gU HI)
abbrev xW:=RE.v 2
abbrev Tj:=K.len xW
abbrev afP:=fp HI Tj (gU HI)
abbrev C9:=K.c 29
abbrev iK:=K.cell A d 0
abbrev Tk:=iK HI xW
abbrev uP:=K.cell A d 1
abbrev Tl:=uP HI xW
abbrev Bo:=aU (Bn d e P)
abbrev lB:=Bo d e .mul
abbrev Yd:=lB (.c 609) Ti
abbrev Da:=K.c 20
abbrev ke:=aU cL
abbrev Ye:=fO lQ
abbrev Tm:=fY (nS 120)
abbrev KM:=K.c 1073741824
abbrev Yf:=K.c (-1073741824)
abbrev oo:=fY aK
abbrev Yg:=fO iQ
abbrev qK:=T.ret (.bH t) [] []
abbrev afQ:=qK [aK,aK,dY]
abbrev kA:=K.mm J d e
abbrev aqc:=K.bin .rem .u64 iQ (kA fZ cK)
abbrev Oe:=K.c (-1)
abbrev HJ:=aU Oe
abbrev Db:=fY dY
abbrev afR:=lR cL cL
abbrev Tn:=K.c (-1099511627776)
abbrev To:=K.c 1099511627776
abbrev iL:=C.agg [v,w,x,y]
abbrev Fq:=iL ke iH gL kY
abbrev Tp:=iL aK aK aK aK
abbrev afS:=iL pP oM eH jr
abbrev pw:List LK:=[dm,dm,dm,dm,dm]
abbrev Of:=dQ fc
abbrev aqd:=K.c (-2199023255552)
abbrev zK:=iw Tp v
abbrev KN:=zK tq
abbrev xX:=Bo d e .add
abbrev aqe:=iL (xX cL fZ) (xX cY fZ) (xX gK lQ) (xX iQ lQ)
abbrev HL:=K.c (-1048576)
abbrev zL:=iw aK tq
abbrev uQ:=K.c 1048576
abbrev Fs:=K.c 4
abbrev wt:List LK:=[dm,dm,dm,dm]
abbrev Ft:=C.agg [v,w,x]
abbrev afT:=fY (Ft kY pP oM)
abbrev aqf:=T.aI (dQ cY) (mZ 139 afT ke dY wt) (mZ 139 afT ke iH wt)
abbrev KO:=C.bool sd
abbrev Og:=K.conv .u64 d
abbrev KP:=K.conv I (.bin .shr .u64 (Og (oN gK iQ)) cK)
abbrev KQ:=se gK
abbrev Fu:=C.ak j8
abbrev px:=RE.v 1
abbrev Bp:=C.ak px
abbrev HM:=C.ak xW
abbrev Oi:=iL ke Fu Bp HM
abbrev Yh:=fO jH
abbrev rz:List LK:=[dm,dm,dm]
abbrev xY:=C.ak (.v a)
abbrev HN:=xY 3
abbrev KR:=C.ak (.v 4)
abbrev i7:=C.agg [ke,iH,gL,kY,pP,Fu,oM,Bp,HM,HN,KR]
abbrev Yi:=dQ eh
abbrev Dc:=Bo d e .sub
abbrev afU:=Dc lQ cK
abbrev oO:=RE.v 5
abbrev zM:=C.ak oO
abbrev afV:=C.agg [zM]
abbrev uR:=RE.v 6
abbrev qL:=C.ak uR
abbrev kf:=RE.v 7
abbrev wu:=C.ak kf
abbrev pS:=RE.v 8
abbrev wv:=C.ak pS
abbrev uS:=RE.v 9
abbrev uT:=C.ak uS
abbrev tB:=RE.v 10
abbrev qM:=C.ak tB
abbrev tC:=RE.v 11
abbrev xZ:=C.ak tC
abbrev Yj:=C.agg [eH,wu,wv,uT,qM,xZ]
abbrev HO:=RE.v 12
abbrev zN:=K.len HO
abbrev zO:=fY tq
abbrev Dd:=K.len (.v 4)
abbrev De:=K.c 4096
abbrev KS:=iL oM Bp HM HN
abbrev KT:=K.c 1000
abbrev Tq:=aU KT
abbrev Ts:=fY (nS G)
abbrev zP:=Ts 190
abbrev Bq:=fO eh
abbrev zQ:List C:=[aK]
abbrev lf:=cN d iJ
abbrev Yk:=lf fc
abbrev Dg:=gU fc
abbrev afW:=oN fc cK
abbrev Tt:=aU afW
abbrev py:=T.back 0 t
abbrev KU:=py [Tt]
abbrev Yl:=cN dA Dd
abbrev HQ:=BE.and (gU dA) n
abbrev Oj:=HQ Yl
abbrev HR:=iK dA A
abbrev afX:=HR (.v 4)
abbrev Tu:=aU afX
abbrev gF:=aU (.cell A d a)
abbrev zR:=gF a dA A
abbrev ya:=zR a (.v 4)
abbrev aqg:List C:=[Tu,ya 1,ya 2,ya 3,ya 4,ya 5,ya 6,ya 7,ya 8,ya 9,ya 10,ya 11,ya 12,ya 13]
abbrev iA:=xX d cK
abbrev uU:=iA dA
abbrev Tv:=eG iJ bK
abbrev lC:=eG d (.c 536870912)
abbrev Ol:=lC iJ
abbrev Fv:=LE.lit []
abbrev Tw:=LE.iB Fv (.ak j8)
abbrev afY:=RE.k (.slice Z 0 0)
abbrev cT:=C.ak afY
abbrev sj:=C.bool C3
abbrev sn:=BE.and (gU d) n
abbrev aqh:=sn pR (cN pR Dd)
abbrev Dh:=K.cell (.v 4) d a
abbrev KV:=Dh 1 pR
abbrev oP:=K.len oO
abbrev aqi:=fp KV oP (gU KV)
abbrev kC:=K.len pS
abbrev aqj:=fp KV kC (gU KV)
abbrev uV:=RK.sl 96
abbrev HS:=py [iA pR]
abbrev KW:List LK:=[.bool,dm]
abbrev Tx:=lf cY
abbrev Om:=BE.and (gU cY) n
abbrev Fw:=Om Tx
abbrev yb:=K.c 5
abbrev On:=iA cY
abbrev Ym:=py [On]
abbrev Di:=fO fc
abbrev qN:=aU jG
abbrev pT:=aU jf
abbrev afZ:List C:=[pT,dY,pu]
abbrev Oo:=C.bool Bl
abbrev kN:=T.call a t [] [] M .any (.aI n j k)
abbrev m6:=kN a j k n t C2
abbrev Dj:=jS a j t C2
abbrev aqk:=m6 133 (Dj 133 (fY Oo) afZ) gD sd [qN,aK,HH]
abbrev Yn:=dQ jG
abbrev HT:=T.aI n j gD
abbrev aql:=HT (wq (dQ jf)) Yn
abbrev af0:=gZ (HT (Dj 133 (fY KO) afZ) Yn) aql aql pQ (eI fZ Bk)
abbrev aqm:=dB gD aqk af0 (lR kL cL) pQ
abbrev Oq:=aU yb
abbrev zS:=aU Fs
abbrev m7:=dB j k (.aI p l m) n o
abbrev jI:=kN a j k n t [dm]
abbrev qO:=BE.cmp .geq d e
abbrev zT:=qO d bK
abbrev aqn:=dB (fY Oq) Db (m7 Db Db Db (jI 128 (fY zS) oo (zT cY) [.ak (.k (.string ⟨#[123,125,40,41,59,44,61,58,46,60,62,33,43,45,42,47]⟩)),.int .u8 cL]) (eI cL Bk) (eI cL KK) (eI cL (.c 13))) (eI cL (.c 95)) (eI cL (.c 32))
abbrev ww:=gZ j k l n (eG d e)
abbrev aqo:=ww cL (.c 57) (fY pu) aqn aqn (qO cL (.c 48))
abbrev aqp:=ww cL (.c 90) zO aqo aqo (qO cL (.c 65))
abbrev HV:=zK (nS 290)
abbrev af3:=oN lQ cK
abbrev nT:=K.mm E d e
abbrev aqq:=kA bK (tw (nT fc af3) fZ)
abbrev Yo:=fO lz
abbrev aqr:=kA bK (tw (nT afW af3) fZ)
abbrev qP:=aU iu
abbrev wz:=K.len px
abbrev qQ:=aU lT
abbrev uW:=aU ol
abbrev HW:=aU pR
abbrev dR:=aU (.v a)
abbrev KY:=dR 22
abbrev Br:=K.v 23
abbrev Fy:=aU Br
abbrev Yq:=bu.lex [0] E
abbrev Tz:=lf cL
abbrev wB:=BE.and (gU cL) Tz
abbrev wC:=K.len (.v a)
abbrev af4:=cN cY (wC 3)
abbrev Yr:=iK cL j8
abbrev Ot:=Om (cN cY wz)
abbrev TA:=T.stuck ""
abbrev af5:=C.agg [ke,iH,gL,kY,pP,oM,eH,jr,iR,kM,iZ,j9,gM]
abbrev zU:=dR 29
abbrev sq:=aU iF
abbrev TC:=dR 24
abbrev TE:=dR 25
abbrev TF:=dR 26
abbrev uX:=K.v 27
abbrev TG:=aU uX
abbrev zV:=dR 28
abbrev Ou:=dR 30
abbrev Bs:=dQ gE
abbrev Bt:=dQ dK
abbrev kO:=Bn d e .mul
abbrev Ys:=kO C9 cL
abbrev Yt:=kO tu jG
abbrev Yu:=tw Ys Yt
abbrev Yv:=oN Ys Yt
abbrev Yw:=kO C9 cY
abbrev Yx:=tw Yw Yt
abbrev Yy:=oN Yw Yt
abbrev Fz:=dR 31
abbrev FA:=K.v 33
abbrev Bu:=K.v 34
abbrev Ov:List C:=[kM,gL]
abbrev ss:=oN Ys (kO d e)
abbrev Yz:=nT Yu (ss lT FA)
abbrev YA:=kA Yv (ss lT FA)
abbrev su:=oN Yw (kO d e)
abbrev YB:=nT Yx (su lT Bu)
abbrev YC:=kA Yy (su lT Bu)
abbrev tD:=K.v 37
abbrev Dl:=aU tD
abbrev m8:=K.v 39
abbrev YD:=ss ol m8
abbrev oQ:=K.v 40
abbrev YE:=su ol oQ
abbrev oq:=iw (.agg t) aK
abbrev FB:=oq [aU d,aU e,aU f,aU g]
abbrev nU:=jS a (jS b j u F) t M
abbrev Ow:=nU 138 139 j t [v,w] xV wt
abbrev FC:=Ow j [j9,gL] v gM
abbrev Ox:=aU (nT d e)
abbrev yc:=aU (kA d e)
abbrev Dm:=oq [Ox d e,yc f g,Ox h i,v]
abbrev aqs:=T.aI Bt (FB Yz YA YB YC) (FC (Dm Yz YD YA YD YB YE (yc YC YE)) Dl)
abbrev Oy:=ss lT m8
abbrev Oz:=su lT oQ
abbrev zW:=dR 43
abbrev HX:=K.v 45
abbrev OA:=ss ol HX
abbrev HY:=K.v 46
abbrev OC:=su ol HY
abbrev YF:=nT Yu (ss iF FA)
abbrev YG:=kA Yv (ss iF FA)
abbrev YI:=nT Yx (su iF Bu)
abbrev YJ:=kA Yy (su iF Bu)
abbrev YK:=nT YF Oy
abbrev YL:=kA YG Oy
abbrev YM:=nT YI Oz
abbrev YN:=kA YJ Oz
abbrev aqt:=T.aI Bt (FB YK YL YM YN) (FC (Dm YK OA YL OA YM OC (yc YN OC)) zW)
abbrev OD:=ss lT HX
abbrev OE:=su lT HY
abbrev HZ:=K.v 49
abbrev FD:=aU HZ
abbrev H0:=K.v 51
abbrev YO:=ss ol H0
abbrev OF:=K.v 52
abbrev YP:=su ol OF
abbrev qR:=kN a j k n [v,w] M
abbrev aqu:=gZ (.aI Bt (FB YF YG YI YJ) (FC (Dm YF YD YG YD YI YE (yc YJ YE)) Dl)) (Ow aqt Ov Dl iZ) (Fm 138 (qR 139 aqt (jS 138 (qR 139 (FB (nT YK OD) (kA YL OD) (nT YM OE) (kA YN OE)) (FC (Dm (nT YK OD) YO (kA YL OD) YO (nT YM OE) YP (yc (kA YN OE) YP)) FD) Bt zW iZ wt) Ov xV) Bs Dl iR wt) jr gL) Of Bs
abbrev af6:=nT YF (ss iF m8)
abbrev af7:=kA YG (ss iF m8)
abbrev af8:=nT YI (su iF oQ)
abbrev af9:=kA YJ (su iF oQ)
abbrev aga:=nT af6 OD
abbrev agb:=kA af7 OD
abbrev agc:=nT af8 OE
abbrev agd:=kA af9 OE
abbrev aqv:=T.aI Bt (FB aga agb agc agd) (FC (Dm aga YO agb YO agc YP (yc agd YP)) FD)
abbrev aqw:=nT aga (ss lT H0)
abbrev aqx:=kA agb (ss lT H0)
abbrev aqy:=nT agc (su lT OF)
abbrev aqz:=kA agd (su lT OF)
abbrev FE:=dR 55
abbrev Bv:=Ts 260
abbrev aqA:=BE.not (Fo lQ bK (dQ jH))
abbrev YQ:=BE.not (.and n o)
abbrev age:=YQ Yi Of
abbrev agf:List C:=[jr,aK,HH]
abbrev agh:List C:=[iR,dY,pu]
abbrev Bw:=dQ dA
abbrev YR:=YQ Bw Bs
abbrev YS:List C:=[kM,aK,HH]
abbrev YT:List C:=[iZ,dY,pu]
abbrev TH:=YQ (dQ iq) Bt
abbrev TJ:List C:=[j9,aK,HH]
abbrev TK:List C:=[gM,dY,pu]
abbrev uY:=m6 46 j k n t
abbrev KZ:=uY Bv (uY Bv j o u) n t
abbrev OG:=T.aI n (KZ j o p t u) k
abbrev aqB:=OG oo oo TH (mA 9) (mA 10) TJ TK
abbrev aqC:=OG oo oo TH (mA 7) (mA 8) TJ TK
abbrev aqD:=OG aqB aqC YR (mA 7) (mA 8) YS YT
abbrev aqE:=OG oo oo TH (mA 5) (mA 6) TJ TK
abbrev aqF:=OG aqC aqE YR (mA 5) (mA 6) YS YT
abbrev aqG:=OG aqD aqF age (mA 5) (mA 6) agf agh
abbrev OH:=kA fc (tw bK fc)
abbrev OI:=Ts 140
abbrev wD:=Ts 250
abbrev zX:=T.aQ kZ j
abbrev pU:=zX wD
abbrev OJ:=K.c 16
abbrev jJ:=iw cT v
abbrev YU:=jJ jr
abbrev agi:=cN fc Dd
abbrev OK:=BE.and Dg agi
abbrev agj:=se (Dh 9 fc)
abbrev YV:=Dh 1 fc
abbrev ij:=T.back a [v,w]
abbrev nV:=ij 0 v w
abbrev agk:=nV Tt zM
abbrev qS:=K.len kf
abbrev TL:=LE.ak kf
abbrev ye:=iA gE
abbrev YW:List C:=[i7,eH,jr]
abbrev nW:=LK.ak (.sl a)
abbrev H3:List LK:=[nW 89,dm]
abbrev qT:=K.len uR
abbrev agl:=fY (nS 270)
abbrev YX:=lC qT
abbrev YY:=LE.ak uR
abbrev tE:=cN d qT
abbrev YZ:=tE dA
abbrev OL:=HQ YZ
abbrev ON:=cN gE kC
abbrev K1:=BE.and (gU gE) n
abbrev OO:=K1 ON
abbrev Y0:=iK gE pS
abbrev OP:=K1 (cN gE oP)
abbrev lW:=K.len tB
abbrev FF:=lC lW
abbrev Dn:=LE.ak tB
abbrev K2:=C.agg [aK,aK,aK,aK,aK,aK,aK,aK,aK,aK,aK,aK,aK]
abbrev Y1:List C:=[iR,kM,iZ,j9,gM,mC,mB,qN,pT,qP,sq,qQ,uW]
abbrev pV:=K.v 38
abbrev OQ:=aU m8
abbrev K3:=aU oQ
abbrev zY:=K.v 41
abbrev Y2:=aU zY
abbrev FG:=K.v 42
abbrev OS:=aU FG
abbrev TN:=K.v 44
abbrev TO:=aU TN
abbrev OT:=aU HX
abbrev K4:=aU HY
abbrev OU:=K.v 47
abbrev OV:=aU OU
abbrev K5:=K.v 48
abbrev TP:=aU K5
abbrev H4:List LK:=[dm,dm,dm,dm,dm,dm,dm,dm,dm,dm,dm,dm,dm,dm]
abbrev OW:=dR 63
abbrev OX:=K.v 50
abbrev K6:=aU OX
abbrev K7:=aU H0
abbrev FH:=aU OF
abbrev FI:=dR 53
abbrev FJ:=dR 54
abbrev K8:=K.v 56
abbrev K9:=aU K8
abbrev H5:=dR 57
abbrev H6:=dR 58
abbrev H7:=dR 59
abbrev H8:=dR 60
abbrev H9:=dR 61
abbrev Ia:=dR 62
abbrev FL:=K.v 35
abbrev tG:=K.v 36
abbrev kP:=eI d qJ
abbrev Do:=kP iu
abbrev jK:=eI d Fs
abbrev Dp:=jK iu
abbrev Dq:=eI iu yb
abbrev La:=K.c 6
abbrev FM:=eI iu La
abbrev OY:=eI iu zJ
abbrev OZ:=eI iu ly
abbrev O4:=eI iu Bk
abbrev rB:=K.dt n d (.dt o e f)
abbrev aqH:=rB bK bK (rB bK cK bK OZ O4) FM OY
abbrev mD:=rB d e (.dt p f bK) n o
abbrev Y3:=mD bK bK bK OY OZ O4
abbrev aqI:=rB bK bK (.dt Dq bK (.dt FM bK Y3)) Do Dp
abbrev aqJ:=rB ly ly (.dt Dq ly (.dt FM bK Y3)) Do Dp
abbrev By:=aU (rB d e f n o)
abbrev gN:=eI d cK
abbrev iS:=eI d ru
abbrev Dr:=By d e f (gN iu) (iS iu)
abbrev aqK:=Dr bK bK (rB cK cK (.dt Dq cK aqH) Do Dp)
abbrev aqL:=Dr bK bK (rB qJ qJ (rB qJ bK (mD bK bK qJ OY OZ O4) Dq FM) Do Dp)
abbrev Ib:=iw K2 dY
abbrev FN:=se iF
abbrev Y4:=dQ FN
abbrev Y5:=gN FN
abbrev Y6:=iS FN
abbrev Y7:=kP FN
abbrev aqM:=xX cL (kO pR FA)
abbrev aqN:=xX cY (kO pR Bu)
abbrev pW:=aU (.dt n bK d)
abbrev aqO:=C.agg [aqM,aqN,gL,pW iQ Y4,pW fZ Y4,pW lQ Y5,pW jH Y5,pW eh Y6,pW fc Y6,pW dA Y7,pW gE Y7,pW iq (jK FN),pW dK (jK FN)]
abbrev aqP:=C.agg [aqM,aqN,gL,aK,aK,aK,aK,jr,iR,kM,iZ,j9,gM]
abbrev Y8:=C.agg [ke,iH,gL,zV,zU,oM,eH,jr,iR,kM,iZ,j9,gM]
abbrev Y9:=C.agg [ke,iH,gL,kY,pP,zV,zU,jr,iR,kM,iZ,j9,gM]
abbrev Za:=C.agg [ke,iH,gL,kY,pP,oM,eH,zV,zU,kM,iZ,j9,gM]
abbrev Zb:=C.agg [ke,iH,gL,kY,pP,oM,eH,jr,iR,zV,zU,j9,gM]
abbrev Ds:=oN iF cK
abbrev Zc:=dQ Ds
abbrev Zd:=gN Ds
abbrev Ze:=iS Ds
abbrev Zf:=kP Ds
abbrev aqQ:=C.agg [ke,iH,gL,kY,pP,oM,eH,jr,iR,kM,iZ,zV,zU]
abbrev aqR:=C.agg [ke,iH,Bo (oN gK pR) ly .rem,kY,pP,oM,eH,jr,iR,kM,iZ,j9,gM]
abbrev aqS:=C.agg [ke,iH,gL,kY,pP,oM,eH,aK,aK,aK,aK,j9,gM]
abbrev aqT:=C.agg [ke,iH,gL,aK,aK,aK,aK,jr,iR,kM,iZ,j9,gM]
abbrev aqU:=C.agg [ke,iH,gL,pW iQ Zc,pW fZ Zc,pW lQ Zd,pW jH Zd,pW eh Ze,pW fc Ze,pW dA Zf,pW gE Zf,pW iq (jK Ds),pW dK (jK Ds)]
abbrev Ic:=T.stuck ""
abbrev jT:=iw v aK
abbrev eP:=T.aQ n (.aQ o j)
abbrev kg:=fp e f (gU d)
abbrev O5:=eP j (kg d e yb) n
abbrev yf:=BE.dt n o (.dt p q r)
abbrev FO:=yf n kZ o kZ p
abbrev O6:=FO n o (.dt p kZ gw)
abbrev Dt:=FO n o (O6 p q r)
abbrev agm:=jI a (iw K2 tq) (jT w) n [v]
abbrev wE:=fO (.v a)
abbrev yg:=agm 34 (wE 31) v w
abbrev aqV:=dB Ib Ib (dB (jT af5) (nU 138 274 (O5 FN FN (agm 34 (fO tG) aqO aqO) (Dt Y4 Y5 Y6 Y7 (jK FN))) [qQ,gL] [Fz] xV rz) (dB (nU 138 274 (agm 34 (fO tG) aqP aqP) [qQ,gL] [Fz] xV rz) (dB (yg Y8 Y8) (yg Y9 Y9) (dB (yg Za Za) (yg Zb Zb) (.stuck "") Y6 Y7) Y4 Y5) (dB (dB (yg Y8 Y8) (yg Y9 Y9) (dB (yg Za Za) (yg Zb Zb) (.stuck "") Ze Zf) Zc Zd) (yg aqQ aqQ) (dB (yg aqR aqR) (yg aqS aqS) (dB (yg aqT aqT) (O5 Ds Ds (yg aqU aqU) (Dt Zc Zd Ze Zf (jK Ds))) Ic OZ O4) FM OY) Dp Dq) (iS iu) Do) C3 (gN iu)) (mA 7) (lR uX lz)
abbrev TQ:=T.aI C3 Ib Ib
abbrev lX:=Ts 130
abbrev Du:=iK cY j8
abbrev agn:=cN fZ wz
abbrev ago:=iK fZ px
abbrev agp:=cN jH Tj
abbrev Zg:=gU jH
abbrev agq:=iK jH xW
abbrev Lc:=C.agg [aK,cT,cT,cT,cT,cT]
abbrev yi:=K.len uS
abbrev Ie:=iw Lc (nS 310)
abbrev TR:=tE fc
abbrev If:=BE.and Dg TR
abbrev Zh:=fp fc qS Dg
abbrev O7:=fp fc kC Dg
abbrev FP:=C.ak (.cell A d a H)
abbrev FQ:=FP a d A .str
abbrev kD:=gF a d uR
abbrev pX:=kD a fc
abbrev agr:List C:=[.agg [FQ 0 fc uR,pX 1,pX 2,pX 3,pX 4,pX 5,pX 6,pX 7,pX 8,pX 9,pX 10,pX 11,pX 12,pX 13,pX 14,pX 15,pX 16]]
abbrev Ld:=gF a d pS
abbrev yj:=Ld a fc
abbrev aqW:List C:=[.agg [yj 0,yj 1,yj 2,yj 3,yj 4,yj 5,yj 6,yj 7,yj 8,yj 9,yj 10,yj 11,yj 12]]
abbrev ags:=BE.not (dQ iq)
abbrev Dv:=RK.sl 4
abbrev Ig:=RK.sl 108
abbrev Zi:List C:=[aK,cT,cT,cT]
abbrev yk:=cN d qS
abbrev Zj:=yk dA
abbrev Ih:=HQ Zj
abbrev pz:=fp dA d (gU dA)
abbrev Zk:=pz yi
abbrev agt:=FP 0 dA uS uV
abbrev rC:=RE.v 13
abbrev Lf:=K.len rC
abbrev Ii:=lC Lf
abbrev Ij:=LE.ak rC
abbrev pA:=xY 15
abbrev ym:=Ld a dA
abbrev Zl:List C:=[ym 0,ym 1,ym 2,ym 3,ym 4,ym 5,ym 6,ym 7,ym 8,ym 9,ym 10,ym 11,ym 12]
abbrev gO:=kD a dA
abbrev aqX:=C.agg [FQ 0 dA uR,gO 1,gO 2,gO 3,gO 4,gO 5,gO 6,gO 7,gO 8,gO 9,gO 10,gO 11,gO 12,gO 13,gO 14,gO 15,gO 16]
abbrev yo:=lC zN
abbrev zZ:=LE.ak HO
abbrev FR:=RE.v 14
abbrev TS:=K.len FR
abbrev yp:=lC TS
abbrev rD:=LE.ak FR
abbrev pB:=xY 17
abbrev Dw:=RE.v 16
abbrev mE:=C.ak Dw
abbrev Ik:=RE.v 18
abbrev mF:=C.ak Ik
abbrev Il:=T.back 1 t
abbrev aqY:=Il [uU,pB,mE,mF]
abbrev TU:=fO kL
abbrev yq:=C.ak HO
abbrev wF:=C.ak rC
abbrev kQ:=C.ak FR
abbrev wG:=K.len tC
abbrev wH:=jJ (nS 310)
abbrev Im:=BE.and Dg (cN fc lW)
abbrev tH:=HQ (cN dA wG)
abbrev aqZ:=iL (zR 0 tC) (zR 1 tC) (zR 2 tC) (zR 3 tC)
abbrev uZ:=T.back a [v]
abbrev TV:=uZ 1 uU
abbrev Bz:=gU iq
abbrev agu:=FP 0 iq tB uV
abbrev TW:=lC (wC a)
abbrev wI:=TW 15
abbrev BA:=LE.ak (.v a)
abbrev wJ:=BA 15
abbrev yr:=Ld a iq
abbrev Zm:List C:=[yr 0,yr 1,yr 2,yr 3,yr 4,yr 5,yr 6,yr 7,yr 8,yr 9,yr 10,yr 11,yr 12]
abbrev tI:=kD a iq
abbrev aq0:=C.agg [FQ 0 iq uR,tI 1,tI 2,tI 3,tI 4,tI 5,tI 6,tI 7,tI 8,tI 9,tI 10,tI 11,tI 12,tI 13,tI 14,tI 15,tI 16]
abbrev Zn:=K.len Dw
abbrev Dx:=lC Zn
abbrev yt:=LE.ak Dw
abbrev Zo:=iA iq
abbrev wK:=RE.v 19
abbrev nX:=C.ak wK
abbrev Dy:=RE.v 20
abbrev pC:=C.ak Dy
abbrev Lg:=T.back 3 t
abbrev aq1:=Lg [Zo,nX,mF,pC]
abbrev In:=fO jf
abbrev O8:=jJ pT
abbrev vc:=LE.lit [t]
abbrev aq2:=vc [gM,mC,mB,qN]
abbrev sx:=gU dK
abbrev Zp:=BE.and sx (cN dK yi)
abbrev agv:=iK dK uS
abbrev FT:=BA 17
abbrev Zq:=fp dK Zn sx
abbrev Zr:=fp dK wG sx
abbrev FU:=iL v (gF a d A) w x
abbrev FV:=gF a d tC
abbrev aq3:List C:=[FU 1 dK (gF 0 dK Dw) (gF 2 dK Dw) (gF 3 dK Dw) Dw,iL (FV 0 dK) (FV 1 dK) (FV 2 dK) (FV 3 dK)]
abbrev FW:=LE.ak Ik
abbrev BB:=BE.cell A d 0
abbrev agw:=BB dK kf
abbrev agx:List C:=[i7,gM,eH]
abbrev Dz:=K.len Dy
abbrev agy:=cN jG Dz
abbrev TX:=gU jG
abbrev O9:=BE.and TX n
abbrev Zs:=O9 agy
abbrev oR:=RE.cell A d 0 H
abbrev Aa:=oR dK tB uV
abbrev DA:=cN d (.len A)
abbrev Zt:=DA jf Aa
abbrev Io:=BE.and (gU jf) Zt
abbrev Zu:=iK jf Aa
abbrev Pa:=iK jG Dy
abbrev tJ:=kD a dK
abbrev Pb:=C.agg [FQ 0 dK uR,tJ 1,tJ 2,tJ 3,tJ 4,tJ 5,tJ 6,tJ 7,tJ 8,tJ 9,tJ 10,tJ 11,tJ 12,tJ 13,tJ 14,tJ 15,tJ 16]
abbrev Pc:List LK:=[.ak uV,dm]
abbrev Pd:=jJ qP
abbrev pD:=xY 22
abbrev wL:=C.bool (.cell A d a)
abbrev agz:=FU 1 jf (aU Zu) (gF 2 jf Aa) (wL 3 jf Aa) Aa
abbrev DB:=RE.v 21
abbrev Pe:=LE.ak DB
abbrev DC:=xX cK d
abbrev aq4:=LE.ins Pe 3 [dY,gM,DC Pa,ld]
abbrev agA:=K.cell Dy jG 4
abbrev Zv:=eI agA zJ
abbrev Ac:=BE.not (.cell Aa jf 3)
abbrev Ip:=gF a jG A
abbrev vd:=Ip a Dy
abbrev aq5:List C:=[i7,Yj,.agg [aU Pa,vd 1,vd 2,vd 3,aU agA,vd 5,vd 6,vd 7,vd 8,vd 9,vd 10,vd 11,vd 12,vd 13]]
abbrev Pf:=RE.v 23
abbrev Pg:=LE.ak Pf
abbrev aq6:List C:=[pu,gM,DC Pa,ld]
abbrev yu:=iA jG
abbrev BC:=xY 24
abbrev tK:=C.ak Pf
abbrev Iq:=ij 5 yu tK
abbrev FX:=m6 a j k C4 t
abbrev Ir:=T.ah .aR B O j
abbrev tL:=Ir j (.ins B a t) []
abbrev BD:=tL a (ij b v w) t B
abbrev agB:=FX 147 (BD 3 5 aq6 yu BC Pg) Iq aq5
abbrev Zw:=eI agA ly
abbrev qU:=C.ak DB
abbrev yv:=ij 5 yu qU
abbrev agC:=FX 147 (tL 3 Iq aq6 Pe) yv aq5
abbrev agD:=uZ 6 (iA jf)
abbrev agE:=FU 1 Oe (gF 0 Oe Aa) (gF 2 Oe Aa) (wL 3 Oe Aa) Aa
abbrev Ph:=BE.not (.cell Aa Oe 3)
abbrev ju:=eP (.aI p j k) n o
abbrev aq7:=ju agB Iq gw gw Ph
abbrev aq8:=ju agC yv gw gw Ph
abbrev yw:=Ld a dK
abbrev agF:List C:=[i7,gM,eH,.agg [yw 0,yw 1,yw 2,yw 3,yw 4,yw 5,yw 6,yw 7,yw 8,yw 9,yw 10,yw 11,yw 12],qL,.ak Aa]
abbrev agG:List LK:=[nW 292,dm]
abbrev agH:=cN iu (wC 22)
abbrev Lh:=gU iu
abbrev Li:=iA iu
abbrev Lj:=iA dK
abbrev Lk:List C:=[aK,mF]
abbrev Pj:=K.len wK
abbrev agI:=cN jG Pj
abbrev Pl:=iK jG wK
abbrev Pm:=LE.ak Dy
abbrev aq9:=LE.ins Pm 3 [dY,gM,DC Pl,ld]
abbrev agJ:=K.cell wK jG 4
abbrev Zx:=eI agJ zJ
abbrev Ad:=Ip a wK
abbrev ara:List C:=[i7,Yj,.agg [aU Pl,Ad 1,Ad 2,Ad 3,aU agJ,Ad 5,Ad 6,Ad 7,Ad 8,Ad 9,Ad 10,Ad 11,Ad 12,Ad 13]]
abbrev TY:=BA 22
abbrev arb:List C:=[pu,gM,DC Pl,ld]
abbrev Is:=ij 5 yu pD
abbrev agK:=FX 147 (tL 3 Iq arb TY) Is ara
abbrev Zy:=eI agJ ly
abbrev Pn:=ij 5 yu pC
abbrev agL:=FX 147 (tL 3 Is arb Pm) Pn ara
abbrev arc:=ju agK Is gw gw Ph
abbrev ard:=ju agL Pn gw gw Ph
abbrev agM:=cN iu (.len DB)
abbrev Zz:=BE.and Lh agM
abbrev jw:=T.loop a [] t (.aI n j k)
abbrev m9:=jw a (eP j o p) k n t
abbrev sC:=jw a j k n zQ
abbrev vf:=ju j k Io Io n
abbrev DD:=ij a Lj v
abbrev are:=T.aI agw (kN 73 (jJ mB) (m9 5 (sC 6 (vf (kN 145 Pd (eP (mZ 146 (m7 (Ir (dB (vf agK Is Ac) (vf agK Is Ac) Is Zx Zy) aq9 []) (vf agL Pn Ac) (vf agL Pn Ac) Pn oL Zx Zy) qU agz C2) Io Io) KL [i7,aU Pl,Pb] Pc) agD (eI Zu Pl)) (kN 145 Pd (eP (mZ 146 (m7 (Ir (dB arc arc Is Zx Zy) aq9 []) ard ard Pn oL Zx Zy) qU agE C2) gw gw) KL [i7,aU Pl,Pb] Pc) Zt) (kN 148 O8 (m9 6 (BD 3 6 [tq,gM,DC (uP iu DB),ld] Li tK TY) (DD 4 pD) agM Zz Zz [aK,pC]) In agF agG) agI (O9 agI) (O9 agI) Lk) TU agx H3) (DD 4 mF)
abbrev TZ:List C:=[aK,pB]
abbrev Ll:=K.len Ik
abbrev agN:=cN jG Ll
abbrev Po:=iK jG Ik
abbrev It:=LE.ak wK
abbrev arf:=LE.ins It 3 [dY,gM,DC Po,ld]
abbrev agO:=K.cell Ik jG 4
abbrev ZA:=eI agO zJ
abbrev Ae:=Ip a Ik
abbrev arh:List C:=[i7,Yj,.agg [aU Po,Ae 1,Ae 2,Ae 3,aU agO,Ae 5,Ae 6,Ae 7,Ae 8,Ae 9,Ae 10,Ae 11,Ae 12,Ae 13]]
abbrev ari:List C:=[pu,gM,DC Po,ld]
abbrev agP:=FX 147 (tL 3 Is ari Pe) yv arh
abbrev ZB:=eI agO ly
abbrev Pp:=ij 5 yu nX
abbrev agQ:=FX 147 (tL 3 yv ari It) Pp arh
abbrev arj:=ju agP yv gw gw Ph
abbrev ark:=ju agQ Pp gw gw Ph
abbrev agR:=cN iu Dz
abbrev agS:=cN kL kC
abbrev Iu:=gU kL
abbrev ZC:=tE kL
abbrev wM:=BE.and Iu ZC
abbrev T1:=lC Pj
abbrev Iv:=iA kL
abbrev agT:=cN jG yi
abbrev T2:=aU La
abbrev agU:=cN iF Ll
abbrev T3:=gU iF
abbrev yz:=iK iF Ik
abbrev arl:=fp yz Pj (gU yz)
abbrev yA:=uP iF Ik
abbrev arm:=fp yA Pj (gU yA)
abbrev arn:=fp yz Dz (gU yz)
abbrev aro:=fp yA Dz (gU yA)
abbrev T4:=aU Ds
abbrev T5:=xY 25
abbrev arp:=tL 3 (BD 3 8 [T2,aU yA,aK,ld] T4 T5 (BA 24)) [T2,aU yz,aK,ld] Pg
abbrev Pq:=K.len Pf
abbrev Pr:=RE.v 26
abbrev T6:=K.len Pr
abbrev T7:=iK (se T6) Pr
abbrev Ps:=C.ak Pr
abbrev arq:=sn lT (cN lT T6)
abbrev Iw:=jJ (nS 290)
abbrev ars:List C:=[iL (zR 0 kf) (zR 1 kf) (zR 2 kf) (zR 3 kf)]
abbrev agV:List C:=[aK,cT,cT]
abbrev agW:=uP gE pS
abbrev pE:=cN d bK
abbrev Ln:=T.back 2 t
abbrev agX:=eP (m7 Iw Iw Iw (tL 2 (Ln [ye,uT,xZ]) [aU Y0,aU agW,ld] Dn) (pE Y0) (qO Y0 agW) (qO agW iJ)) OO OO
abbrev agY:List C:=[aK,cT,uT]
abbrev T8:=cN iq oP
abbrev ZD:=BE.and Bz T8
abbrev Ix:=gF a iq oO
abbrev art:=C.agg [Ix 0,Ix 1,Ix 2,Ix 3,Ix 4,Ix 5,Ix 6,Ix 7]
abbrev Lq:=lC wG
abbrev FY:=LE.ak tC
abbrev Iy:=T.aQ n (.new a (.iB B N) [] [] j)
abbrev agZ:=eP (qR 43 O8 (Iy 0 (Lg [Zo,wF,yq]) Lq FY aq2) In art eH pw) ZD ZD
abbrev FZ:=iA lz
abbrev vg:=jw a (.aI o j k) l n t
abbrev BF:=BE.look A a d e bK b
abbrev ag0:=vg 5 TA (.back 5 [FZ,kQ]) (DD 4 kQ) (lf lz) (.not (BF 2 2 dK lz tB)) [Lj,wF]
abbrev ZE:=tE lz
abbrev ag1:=BE.not (BF 2 2 lz kL tB)
abbrev Pt:=BE.and (gU lz) ZE
abbrev pY:=kD a kL
abbrev ZF:=iL (pY 0) (pY 1) (pY 2) (pY 3)
abbrev ag2:List C:=[iL (kD 0 lz) (kD 1 lz) (kD 2 lz) (kD 3 lz),ZF]
abbrev ZG:=ij 6 Iv mE
abbrev kh:=Iy 0 j n B (vc t)
abbrev ag3:=kh ZG wI [dY,mC,mB] wJ
abbrev Pu:=T.back 6 [Iv,pA]
abbrev ag4:=ij 5 FZ pA
abbrev ag5:=BE.not (BF 2 2 kL jG tB)
abbrev ZH:=yk jG
abbrev Af:=O9 ZH
abbrev ZI:=iL (Ip 0 kf) (Ip 1 kf) (Ip 2 kf) (Ip 3 kf)
abbrev ZJ:=ij 7 yu pB
abbrev ag6:=kh ZJ Dx [tq,mB,qN] yt
abbrev Pv:=T.back 7 [yu,mE]
abbrev ag7:=BE.not (BF 2 2 jG jf tB)
abbrev Pw:=fp jf qT (gU jf)
abbrev ag8:List C:=[ZI,iL (kD 0 jf) (kD 1 jf) (kD 2 jf) (kD 3 jf)]
abbrev Px:=TW 17
abbrev ZK:=ij 8 (iA jf) mF
abbrev ag9:=kh ZK Px [pu,qN,pT] FT
abbrev ZL:List C:=[iA jf,pB]
abbrev Py:=T.back 8 ZL
abbrev ZM:=yk jf
abbrev Pz:=lf iu
abbrev aha:=BE.not (BF 2 2 jf iu tB)
abbrev PA:=BE.and (gU jf) ZM
abbrev Ag:=fp iu qS Lh
abbrev tN:=gF a d kf
abbrev ZN:=iL (tN 0 iu) (tN 1 iu) (tN 2 iu) (tN 3 iu)
abbrev ahb:List C:=[iL (tN 0 jf) (tN 1 jf) (tN 2 jf) (tN 3 jf),ZN]
abbrev PB:=lC Ll
abbrev ZO:=ij 9 Li nX
abbrev ahc:=kh ZO PB [zS,pT,qP] FW
abbrev PD:=ij 9 Li mF
abbrev ZP:=cN iF wG
abbrev PE:=BE.and T3 ZP
abbrev PF:=fp iu qT Lh
abbrev ZQ:=iL (FV 0 iF) (FV 1 iF) (FV 2 iF) (FV 3 iF)
abbrev ahd:List C:=[iL (kD 0 iu) (kD 1 iu) (kD 2 iu) (kD 3 iu),ZQ]
abbrev PH:=kh (ij 10 T4 pC) T1 [Oq,qP,sq] It
abbrev PI:=ij 10 T4 nX
abbrev PJ:=fp iF qT T3
abbrev aru:=iL aK (lB tu cL) aK (lB tu cY)
abbrev ahe:List C:=[iL (kD 0 iF) (kD 1 iF) (kD 2 iF) (kD 3 iF),aru]
abbrev PK:=fp iF qS T3
abbrev ahf:List C:=[iL (tN 0 iF) (tN 1 iF) (tN 2 iF) (tN 3 iF),aru]
abbrev PL:=kh (ij 10 T4 pC) T1 [T2,sq,aK] It
abbrev ot:=jw a j k n [aK,v]
abbrev gG:=eP (eP j p q) n o
abbrev rF:=m6 184 j k n t
abbrev Iz:=jS 118 j t KW
abbrev arv:=jw 2 agX (jw 3 agZ (ot 4 ag0 (ot 5 (vg 6 (gG (rF ag3 Pu Bl ag2) Pt Pt wM wM) Pu ag4 (lf kL) ag1 [FZ,kQ]) (ot 6 (vg 7 (gG (rF ag6 Pv Bl [ZF,ZI]) wM wM Af Af) Pv ZG (lf jG) ag5 [Iv,pA]) (ot 7 (vg 8 (gG (rF ag9 Py Bl ag8) Af Af Pw Pw) Py ZJ (lf jf) ag7 [yu,mE]) (ot 8 (vg 9 (gG (rF ahc PD Bl ahb) PA PA Ag Ag) PD ZK Pz aha ZL) (jw 9 (jw 10 (gG (rF PH (eP (rF PH PI Bm [ZN,ZQ]) Ag Ag) Bl ahd) PE PE PF PF) ZO ZP Lk) (m9 10 (Iz (eP (Iz (dB PL PL PI C4 C5) ahf) PK PK) ahe) (jT nX) (lf iF) PJ PJ Lk) Pz TZ) ZM mE) ZH pA) ZC kQ) ZE wF) (pE dK) yq) T8 agY) ON agV
abbrev ahg:=lR (.v 26) cK
abbrev ahh:=vc [eH,aK,aK,ld]
abbrev Ah:=T.aQ kZ (.new a B [] [] j)
abbrev F0:=Ah 0 (Iy a j n Fv N) B
abbrev arw:=T.aI ahg (F0 0 (jT wu) YX ahh YY) (jT cT)
abbrev vj:=Ah 0 (Iy a j (.and n o) N D) B
abbrev ahi:=T.aI ahg (vj 0 (jT wv) YX (lC qS) ahh YY TL) (jT qL)
abbrev Ai:=Ah a j (vc t)
abbrev arx:=Ai 0 ahi [Fy,aK,aK,j7]
abbrev ahj:=eG m8 ly
abbrev T9:=dQ zY
abbrev PM:=eI oQ (.v 30)
abbrev PN:=iA oQ
abbrev ary:=Iy 0 (ij 1 PN uT) (.and (lC qS) (lC kC)) TL (.ak pS)
abbrev ahk:=Ai 0 ary [Fy,OQ,K3,j7,aU KM]
abbrev arz:=BE.not (Fo HX bK (Fo HY bK (dQ OU)))
abbrev Lr:=ij 1 PN wu
abbrev ahl:=Ai 0 ary [Fy,OQ,K3,j7,FD]
abbrev DE:=kO (kO d e) f
abbrev arA:=gZ ahl Lr Lr arz (qO (kO HZ fZ) (DE gK tu tu))
abbrev PO:=dB j (.aI p k l) m n o
abbrev ahm:=nU 139 139 (Fm 276 (dB (.aI (eI m8 (.v 29)) (dB (PO ahk ahk Lr Lr PM arz (qO (kO KM fZ) (DE gK tu tu))) ahl arA PM PM) arA) (dB (.aI PM ahk Lr) ahl Lr PM PM) Lr (YQ T9 (Fo FG bK (dQ (.v 43)))) (eI m8 (.v 29))) (Ft Y2 OS zW) (Ft OT K4 OV)) [zU,Ou] [OQ,K3] wt wt
abbrev ahn:=nV (iA m8) wu
abbrev ZR:=gU oQ
abbrev arB:=BE.and (lC kC) (lC yi)
abbrev arC:=LE.iB (.ak pS) (.ak uS)
abbrev BG:=T.eE a b c Q L A [] j
abbrev wN:=m9 a j k n o p [aK,cT]
abbrev wO:=T.aQ n (.new 0 B [] [] j)
abbrev aho:=BG 0 0 0 (wN 1 (Ai 0 (wO (ij 1 PN qM) arB arC) [tN 0 oQ,tN 1 oQ,tN 2 oQ,wL 3 oQ kf]) (zX (.aI ahg (Ah 0 (wO (jT qM) arB arC) ahh) (jT wv))) (yk oQ) (.and ZR (yk oQ)) (.and ZR (yk oQ))) uR (.lex [4] J) J
abbrev F1:=jS a j t [dm]
abbrev Aj:=jw a j k n [aK,cT]
abbrev arD:=F1 41 (m7 (jJ (aU pV)) (jJ Dl) (dB (zX (.aI (gV (.v 31) gE) arw arx)) (zX (.aI (gV (.v 31) iq) arw arx)) (dB (Aj 0 (jw 1 ahm ahn (eG oQ iF) [dY,qL]) aho ahj) (Aj 0 (jw 1 ahm ahn (eG oQ lT) [dY,qL]) aho ahj) (dB (Aj 0 (jw 1 ahm ahn (eG oQ ol) [dY,qL]) aho ahj) (Ai 0 ahi [Fy,aK,Ox (.v 30) lT,j7]) Ic (eI uX yb) (eI uX Bk)) (kP uX) (jK uX)) (gN uX) (iS uX)) (Ai 0 ahi [eH,aK,aK,j7]) (fO pV) (fO tD) (FO (gN uX) (iS uX) (FO (kP uX) (jK uX) (FO (eI uX yb) (eI uX Bk) gw)))) [.agg [zM,jr,iR,kM,iZ,j9,gM,mC,mB,qN,pT,qP,sq,qQ,uW,HW,KY]]
abbrev ahp:=cN oQ wG
abbrev Ls:=C.bool Bm
abbrev IA:=K.cell tC oQ 4
abbrev ZS:=fp IA KK (gU IA)
abbrev ZT:=fp IA wz (gU IA)
abbrev nc:=C.bool (.v a)
abbrev arE:List C:=[aK,Oo,Ls,nc 4,nc 5,nc 6]
abbrev Lt:=RK.sl 3
abbrev ZU:=DA zY (oR IA px Lt)
abbrev ZV:=gU zY
abbrev Ak:=se (oN (iK zY (oR IA px Lt)) (.cell tC oQ 5))
abbrev ZW:=iA zY
abbrev IB:=gG j (.and n o) (.and p q) r s
abbrev DF:=C.bool (.dt n kZ (.v a))
abbrev arF:=IB (Il [ZW,DF 7 (dQ Ak),DF 8 (gN Ak),DF 9 (iS Ak),DF 10 (kP Ak),DF 11 (jK Ak)]) ZV ZU ZV ZU (kg Ak Ak yb) (Dt (dQ Ak) (gN Ak) (iS Ak) (kP Ak) (jK Ak))
abbrev arG:List C:=[aK,nc 7,nc 8,nc 9,nc 10,nc 11]
abbrev arH:=RE.cell px IA 1 Lt
abbrev ZX:=DA FG arH
abbrev Al:=iK FG arH
abbrev arI:=gG (Ln [iA FG,DF 12 (dQ Al),DF 13 (gN Al),DF 14 (iS Al),DF 15 (kP Al),DF 16 (jK Al)]) (sn FG ZX) (sn FG ZX) (kg Al Al yb) (Dt (dQ Al) (gN Al) (iS Al) (kP Al) (jK Al))
abbrev ZY:=kO tu Br
abbrev ahq:=cN zY yb
abbrev IC:=Bn zY ru .quo
abbrev ZZ:=gN zY
abbrev Z0:=iS zY
abbrev Z1:=kP zY
abbrev Z2:=jK zY
abbrev Z3:=iL OS zW TO OT
abbrev Ua:=mD (.v 26) uX (.v 28) (dQ IC) (gN IC) (iS IC)
abbrev Z4:=kO tu Ua
abbrev arJ:=mZ 70 (Il [ZW,K4,OV,TP,FD]) Z3 (iL (Dc bK Z4) (aU Z4) (Dc bK Z4) (aU Z4)) pw
abbrev ahr:=rB dK kL (mD jf iF ol Z0 Z1 Z2) T9 ZZ
abbrev arK:=T.aI (fO ahr) (Ow (mZ 70 (Il [ZW,FH,FI,FJ,FE]) Z3 (iL (lB Ua K5) (lB Ua K5) (lB Ua HZ) (lB Ua HZ)) pw) [By iq lz (mD jG iu lT Z0 Z1 Z2) T9 ZZ,iZ] K4 (aU ahr)) (Il [ZW,OS,zW,TO,OT])
abbrev arL:=iL K4 OV TP FD
abbrev arM:=sn K8 (cN K8 wG)
abbrev Ub:=dR 64
abbrev PQ:=dR 66
abbrev Lu:=dR 68
abbrev Lv:=dR 69
abbrev Lw:=dR 70
abbrev Lx:=dR 71
abbrev Ly:=dR 72
abbrev Lz:=dR 73
abbrev ahs:=iL (dR 88) (dR 89) (dR 90) (dR 91)
abbrev LA:=dR 74
abbrev LD:=dR 75
abbrev LF:=dR 76
abbrev LG:=dR 77
abbrev LH:=dR 78
abbrev Uc:=dR 79
abbrev PS:=K.v 86
abbrev arN:=T.aI (wE 87) (oq [dR 93,dR 94,dR 95,dR 96]) (Ln [iA K8,dR 93,dR 94,dR 95,dR 96,LA,LD,LF,LG,LH,Uc,dR 80,dR 81,dR 82,dR 83,dR 84,dR 85,aU PS,j7])
abbrev arO:=iL H5 H6 H7 H8
abbrev arP:=sn FL (cN FL oP)
abbrev Z5:=fp jH oP Zg
abbrev arQ:=sn m8 (cN m8 kC)
abbrev PU:=iK m8 pS
abbrev tO:=K.cell pS d a
abbrev rG:=tO 4 m8
abbrev DG:=Ld a m8
abbrev Z6:=C.agg [aU PU,DG 1,DG 2,DG 3,aU rG,aU (tO 5 m8),DG 6,DG 7,aU (tO 8 m8),DG 9,DG 10,DG 11,DG 12,DG 13]
abbrev ID:=K.look A a d bK e b
abbrev arR:=aU (ID 1 2 PU bK kf)
abbrev Ud:=ID 1 3 PU bK kf
abbrev arS:=BF 1 4 PU bK kf
abbrev F2:List C:=[K3,FJ,FE,K9,H5,H6,H7,H8,H9,Ia,OW,Ub,dR 65,PQ,uT,cT]
abbrev F3:=BE.not (.has tC 1 (.v 82) bK bK)
abbrev F4:=LE.ins FY 1 [dR 82]
abbrev PV:=iK (se zN) HO
abbrev PW:=dQ PV
abbrev nf:=Lg [Lu,Lv,Lw,Lx,Ly,Lz,LA,LD,LF,LG,LH,Uc,dR 80,dR 81,qM,yq]
abbrev PY:=gN PV
abbrev BH:=iS PV
abbrev LI:=kP PV
abbrev arT:=By cK ru (rB qJ Fs bK BH LI) PW PY
abbrev F5:=kh (Lg [Lu,Lv,Lw,Lx,Ly,Lz,LA,LD,LF,LG,LH,Uc,dR 80,dR 81,wF,yq]) FF [arT,aU PU] Dn
abbrev aht:=T.aI LI nf Ic
abbrev F6:=Ln [iA m8,Lu,Lv,Lw,Lx,Ly,Lz,LA,LD,LF,LG,LH,Uc,dR 80,dR 81,qM]
abbrev pZ:=se (tO 5 m8)
abbrev Ue:=Bn pZ ru .quo
abbrev ahu:=kg Ue Ue qJ
abbrev Z7:=dQ Ue
abbrev Z8:=gN Ue
abbrev Z9:=iS Ue
abbrev ahv:=O6 Z7 Z8 Z9
abbrev IF:=K.cell A jH a
abbrev iT:=IF a oO
abbrev PZ:=iT 14
abbrev ahw:=lA arR (aU Ud)
abbrev P0:=kA (kA d e) (tw bK f)
abbrev Am:=tw (.v a) d
abbrev ahx:=P0 (P0 (P0 bK (Am 83 PS) (Am 83 PS)) (Am 84 (.v 87)) (Am 84 (.v 87))) (Am 85 (.v 88)) (Am 85 (.v 88))
abbrev P1:=iT 11
abbrev Uf:=T.aI BH nf aht
abbrev p7:=oN (tO 5 m8) cK
abbrev Ug:=Bn p7 ru .quo
abbrev ahy:=kg Ug Ug qJ
abbrev aaa:=dQ Ug
abbrev aab:=gN Ug
abbrev aac:=iS Ug
abbrev ahz:=O6 aaa aab aac
abbrev wP:=ju j k n o (gV d e)
abbrev arU:=wP Ud (mD (iT 12) (iT 13) PZ aaa aab aac) F5 nf ahy ahz
abbrev ahA:=eI rG yb
abbrev ahB:=eI rG La
abbrev ahC:=eI rG zJ
abbrev Uh:=se (tO 9 m8)
abbrev arV:=wP (uP Uh oO) (iT 2) F5 nf (kg Uh Uh oP) (kg Uh Uh oP)
abbrev arW:=BE.dt (eI rG Bk) gw gw
abbrev arX:=BG 0 0 0 (zX (jT qM)) uS (.lex [1,0] E) E
abbrev arY:=sn pV (cN pV kC)
abbrev P2:=iK pV pS
abbrev rH:=tO 4 pV
abbrev DH:=Ld a pV
abbrev aad:=C.agg [aU P2,DH 1,DH 2,DH 3,aU rH,aU (tO 5 pV),DH 6,DH 7,aU (tO 8 pV),DH 9,DH 10,DH 11,DH 12,DH 13]
abbrev arZ:=aU (ID 1 2 P2 bK kf)
abbrev Ui:=ID 1 3 P2 bK kf
abbrev ar0:=BF 1 4 P2 bK kf
abbrev F7:List C:=[FH,FI,FJ,FE,K9,H5,H6,H7,H8,H9,Ia,OW,Ub,uT,cT]
abbrev F8:=BE.not (.has tC 1 (.v 79) bK bK)
abbrev F9:=LE.ins FY 1 [Uc]
abbrev ng:=Lg [PQ,dR 67,Lu,Lv,Lw,Lx,Ly,Lz,LA,LD,LF,LG,LH,qM,yq]
abbrev Ga:=kh (Lg [PQ,dR 67,Lu,Lv,Lw,Lx,Ly,Lz,LA,LD,LF,LG,LH,wF,yq]) FF [arT,aU P2] Dn
abbrev ahD:=T.aI LI ng Ic
abbrev Gb:=Ln [iA pV,PQ,dR 67,Lu,Lv,Lw,Lx,Ly,Lz,LA,LD,LF,LG,LH,qM]
abbrev p8:=se (tO 5 pV)
abbrev Uj:=Bn p8 ru .quo
abbrev ahE:=kg Uj Uj qJ
abbrev aae:=dQ Uj
abbrev aaf:=gN Uj
abbrev aag:=iS Uj
abbrev ahF:=O6 aae aaf aag
abbrev ahG:=lA arZ (aU Ui)
abbrev ahH:=P0 (P0 (P0 bK (Am 80 (.v 83)) (Am 80 (.v 83))) (Am 81 (.v 84)) (Am 81 (.v 84))) (Am 82 (.v 85)) (Am 82 (.v 85))
abbrev Uk:=T.aI BH ng ahD
abbrev p9:=oN (tO 5 pV) cK
abbrev Ul:=Bn p9 ru .quo
abbrev ahI:=kg Ul Ul qJ
abbrev aah:=dQ Ul
abbrev aai:=gN Ul
abbrev aaj:=iS Ul
abbrev ahJ:=O6 aah aai aaj
abbrev ar1:=wP Ui (mD (iT 12) (iT 13) PZ aah aai aaj) Ga ng ahI ahJ
abbrev ahK:=eI rH yb
abbrev ahL:=eI rH La
abbrev ahM:=eI rH zJ
abbrev Um:=se (tO 9 pV)
abbrev ar2:=wP (uP Um oO) (iT 2) Ga ng (kg Um Um oP) (kg Um Um oP)
abbrev ar3:=BE.dt (eI rH Bk) gw gw
abbrev ahN:=C.agg [aK,aK,aK,aK,aK,aK,aK,aK,aK,aK,aK,aK,aK,aK]
abbrev LJ:=K.conv I (.bin .shr .u64 (Og (oN fc dA)) cK)
abbrev ahO:=cN dA oP
abbrev ahP:=bu.lex [] E
abbrev ar4:=iK (uP dA oO) uS
abbrev Un:=kA (iK (HR oO) pS) ar4
abbrev P3:=K.c 50
abbrev aak:=BE.and Zg (yk jH)
abbrev ahQ:=oR jH kf Lt
abbrev aal:=cN eh kC
abbrev yB:=gU eh
abbrev P4:=BE.and yB aal
abbrev P5:=RK.sl 100
abbrev ahR:=oR eh pS P5
abbrev IG:=iA eh
abbrev tQ:=m9 a j k n o p zQ
abbrev ar5:=C8 (sC 0 (wP (.len ahQ) Da gD (py [iA jH]) aak aak) (tQ 1 (m6 51 gD (uZ 1 IG) pQ [.ak ahR]) (Dj 52 (fY sj) [i7]) aal P4 P4) (yk jH)) (gV oP KK)
abbrev ar6:=C6 oP ru (C8 ar5 (eG oP ly)) ar5 (gV qS KK)
abbrev ar7:=C6 qS qJ (C8 ar6 (eG qS ly)) ar6 (gV qT Da)
abbrev LL:=gV d (.c G)
abbrev ar8:=C6 qT La (C8 ar7 (eG qT OJ)) ar7 (LL kC 70)
abbrev ar9:=C6 kC La (C8 ar8 (eG kC (.c 64))) ar8 (gV iJ Da)
abbrev Uo:=RK.sl 101
abbrev ahS:=RE.cell j8 cL 1 Uo
abbrev ahT:=DA cY ahS
abbrev P6:=K.len (oR d A H)
abbrev II:=T.loop a [] t j
abbrev asa:=C8 (sC 0 (wP (P6 cL j8 Dv) Da gD (wP (.len ahS) Da gD (II 1 (ju (eP (wP (P6 cY ahS uV) P3 gD (uZ 1 On) (Om ahT) (Om ahT)) wB wB) (py [iA cL]) wB wB ahT) zQ) wB wB) wB wB) uO Tz) (LL iJ 12)
abbrev qa:=C.agg [ke,iH,gL,kY,pP,Fu,oM,Bp,HM,HN,KR,zM,qL,wu,wv,uT]
abbrev An:=C.agg [v,w,x,y,z]
abbrev wQ:=An qM eH xZ yq sj
abbrev Gc:List C:=[qa,wQ]
abbrev P7:=An cT aK cT cT j7
abbrev LM:=iw P7 dY
abbrev aam:=iK fc tB
abbrev ahU:=eG lW bK
abbrev P8:=eG wG bK
abbrev tR:=fp eh zN yB
abbrev IJ:=lR (iK eh HO) (oN cK fc)
abbrev asb:=oq [kQ,eH,mE,mF,sj]
abbrev aan:=oR eh tC Ig
abbrev DJ:=DA bK aan
abbrev IK:=fp eh Zn yB
abbrev yC:=gF a bK aan
abbrev aao:=vc [yC 0,yC 1,yC 2,yC 3,yC 4,yC 5,yC 6,yC 7,yC 8,yC 9,yC 10,yC 11,yC 12]
abbrev IL:=wO j n (.set B d 0 t)
abbrev Ao:=eP (.new a B [] [] j) n o
abbrev asc:=IL eh (Ao 0 (oq [kQ,eH,pC,qU,sj]) (fp eh Ll yB) (fp eh Ll yB) (.set FW eh 0 zQ)) IK [nX] yt
abbrev DK:=DA cK aan
abbrev yD:=gF a cK aan
abbrev aap:=vc [yD 0,yD 1,yD 2,yD 3,yD 4,yD 5,yD 6,yD 7,yD 8,yD 9,yD 10,yD 11,yD 12]
abbrev asd:=oq [kQ,eH,mE,cT,sj]
abbrev ase:=T.stuck ""
abbrev asf:=IL eh ase IK [pB] yt
abbrev aaq:=BE.and wI yo
abbrev aar:=LE.iB wJ zZ
abbrev asg:=oq [kQ,eH,cT,mE,sj]
abbrev ahV:=gG j (fp eh wG yB) (fp eh wG yB) n o
abbrev aas:=ahV TA DJ DJ
abbrev aat:=ahV TA DK DK
abbrev ahW:=An kQ eH cT cT sj
abbrev ash:=oq [cT,eH,kQ,mE,sj]
abbrev P9:=fp eh TS yB
abbrev asi:=IL eh (Ao 0 (oq [cT,eH,mF,nX,sj]) IK IK (.set yt eh 0 zQ)) P9 [pB] rD
abbrev asj:=oq [cT,eH,kQ,cT,sj]
abbrev asl:=IL eh ase P9 [pA] rD
abbrev asm:=oq [cT,eH,cT,kQ,sj]
abbrev asn:=oq [cT,eH,cT,cT,sj]
abbrev nh:=fY (nS 500)
abbrev LN:=oR dA tC Ig
abbrev IM:=K.len LN
abbrev aau:=pz zN
abbrev ahX:=cN gE IM
abbrev Uq:=se (HR HO)
abbrev aso:=sn Uq (cN Uq lW)
abbrev Qa:=jI a j k n [.agg t]
abbrev yE:=gF a gE LN
abbrev DL:=eP (dB j k l p q) n o
abbrev LO:=ju j k n o (.not p)
abbrev asp:=tQ 2 (Qa 34 nh (uZ 2 ye) ags [yE 0,yE 1,yE 2,yE 3,yE 4,yE 5,yE 6,yE 7,yE 8,yE 9,yE 10,yE 11,yE 12]) (DL TV (.aI (cN Uq lW) (LO nh TV aso aso (fO (iK Uq tB))) nh) nh aau aau (gN IM) (zT Uq)) ahX (K1 ahX) (K1 ahX)
abbrev DM:=cN bK IM
abbrev ahY:=iK bK LN
abbrev Ge:=Fo d (.cell A e a) n
abbrev Qb:=Ge a d e (Ge b f g n LN) LN
abbrev jg:=K.cell LN bK a
abbrev asq:=T.aI (iS IM) (eP (LO nh asp (cN cK IM) (cN cK IM) (.not (Qb 0 1 ahY cK (jg 1) cK (Qb 2 3 (jg 2) cK (jg 3) cK (Qb 4 5 (jg 4) cK (jg 5) cK (Qb 6 7 (jg 6) cK (jg 7) cK (Qb 8 9 (jg 8) cK (jg 9) cK (Qb 10 11 (jg 10) cK (jg 11) cK (eI (jg 12) (.cell LN cK 12)))))))))) DM DM) nh
abbrev yF:=LK.ak Lt
abbrev ahZ:=oR gE pS P5
abbrev ah0:=DA lz ahZ
abbrev Ur:=oR lz ahZ Dv
abbrev aav:=RE.cell ahZ lz 1 Uo
abbrev ah1:=cN kL (.len Ur)
abbrev ah2:=iK kL tB
abbrev asr:=kg ah2 ah2 (.len Ur)
abbrev ah3:=BB kL Ur
abbrev aaw:=fp kL (.len aav) Iu
abbrev DN:=T.aI (.not n) j k
abbrev ast:=DN (uZ 6 Iv) (eP (jI 45 nh (uZ 6 Iv) (.not Yn) [i7,mB,iZ,.ak (oR kL aav uV)]) aaw aaw) ah3
abbrev ah4:=cN iq Dd
abbrev asu:=kg (se dK) (se dK) yi
def nj:=T.stuck ""
abbrev DO:=vc zQ
abbrev IN:List C:=[qa,wQ,jr]
abbrev asv:=qK [P7,cT,nS 500]
abbrev ah5:List C:=[qa,wQ,wF]
abbrev IP:=vc [jr]
abbrev asw:=RE.cell rC bK 1 Dv
abbrev Us:=DA dA asw
abbrev IQ:=HQ Us
abbrev aax:=BE.not (BB dA asw)
abbrev aay:=aU lW
abbrev aaz:=vc [aay,kM,aay,jr]
abbrev DP:=RE.cell rC bK 3 Ig
abbrev IR:=pz (.len DP)
abbrev Ut:=Ge a d e (Ge b f g n DP) DP
abbrev aaA:=BE.not (Ut 0 1 ahY dA (jg 1) dA (Ut 2 3 (jg 2) dA (jg 3) dA (Ut 4 5 (jg 4) dA (jg 5) dA (Ut 6 7 (jg 6) dA (jg 7) dA (Ut 8 9 (jg 8) dA (jg 9) dA (Fo (jg 10) (.cell DP dA 10) (C7 (jg 11) (.cell DP dA 11) (jg 12) (.cell DP dA 12))))))))
abbrev DQ:=zR a DP
abbrev aaB:=LE.lit [[aU ahY,aU (jg 1),aU (jg 2),aU (jg 3),aU (jg 4),aU (jg 5),aU (jg 6),aU (jg 7),aU (jg 8),aU (jg 9),aU (jg 10),aU (jg 11),aU (jg 12)],[DQ 0,DQ 1,DQ 2,DQ 3,DQ 4,DQ 5,DQ 6,DQ 7,DQ 8,DQ 9,aU (.cell DP dA 10),aU (.cell DP dA 11),aU (.cell DP dA 12)]]
abbrev aaC:List C:=[DC lW]
abbrev Ap:=py [uU,v,w,x]
abbrev LP:=eP j (cN bK Lf) (cN bK Lf)
abbrev BJ:=qK [An v eH w x sj,y,aK]
abbrev ah6:=T.aI Us (ju (Ap pC qU pD) (vj 0 (gG (LP (ju (Ao 0 (IL dA (Ao 0 (Ap BC Ps (xY 27)) (pz (wC 22)) (pz (wC 22)) (.set TY dA 0 aaC)) (pz (.len DB)) [T5] Pe) (pz (.len DB)) kZ aaB) (Ap BC qU pD) IR IR aaA)) tH tH DM DM) (lC Dz) (lC Pq) aaz Pm Pg) IQ IQ aax) (BJ nX qU pD pC)
abbrev ah7:=T.aI Us (ju (Ap mF nX pC) (vj 0 (gG (LP (ju (Ao 0 (IL dA (Ao 0 (Ap pD BC T5) (pz Dz) (pz Dz) (.set Pm dA 0 aaC)) (pz Pj) [tK] It) (pz Pj) kZ aaB) (Ap pD nX pC) IR IR aaA)) tH tH DM DM) PB (lC (.len DB)) aaz FW Pe) IQ IQ aax) (BJ pB nX pC mF)
abbrev aaD:=cN dA Lf
abbrev Qc:=HQ aaD
abbrev aaE:=nV uU pA
abbrev ah8:=DA eh ahQ
abbrev Qd:=iK eh ahQ
abbrev ah9:=cN eh Lf
abbrev aaF:=BE.and yB ah9
abbrev asx:=wq (.not (zT eh))
abbrev Qe:=fp lW kC (gU lW)
abbrev Uu:=oR lW pS P5
abbrev aia:=cN gE Lf
abbrev aaG:=K1 aia
abbrev Uv:=se eh
abbrev aaH:=kg Uv Uv (.len Uu)
abbrev asy:=fp gE (.len (oR Uv Uu Dv)) (gU gE)
abbrev aaI:=iK gE rC
abbrev asz:=RE.cell Uu Uv 1 Uo
abbrev asA:=kg aaI aaI (.len asz)
abbrev aib:=oR aaI asz uV
abbrev aic:=DA dK aib
abbrev asB:=fY (Ox fc (.c 4097))
abbrev IS:=K.conv I (.bin .shr .u64 (Og (oN cY gK)) cK)
abbrev aid:=iK IS j8
abbrev asC:=T.aI (cN aid cL) (nV (iA IS) gL) (nV iH (aU IS))
abbrev aaJ:List LK:=[yF,dm,nW 111,yF,.bool,dm]
abbrev Qf:List LK:=[yF,dm,dm,dm]
def aie:List LK:=[.ak Dv,.ak Uo]
def asD:=fp cL wz (gU cL)
abbrev aif:List LK:=[yF,dm,nW 111,yF,.bool,nW 79,dm]
abbrev aig:=cN gE Zn
abbrev asE:=An pB j9 mF nX Oo
abbrev asF:=qK [cT,aK,aK,dY]
abbrev asG:=kO gE (oN cK (P6 dA rC P5))
abbrev aih:List LK:=[dm,yF,dm]
abbrev aaK:=C.agg [gL,kY,pP,oM,eH,KR,jr,zM,qL,wu,wv,uT,qM,xZ,yq,wF]
abbrev asH:=An Fu ke Bp HM sj
abbrev aii:List C:=[aaK,asH,gM]
abbrev asI:=py [Lj,FZ,mF,mB]
abbrev asJ:List LK:=[yF,dm,nW 111,yF,.bool]
abbrev asK:=An kQ iR pA mE KO
abbrev aij:=jS 20 (Iy 0 (jS 308 (iw pT (lA tK qP)) [An nX qN pC qU Oo,pD,xX cY bK,aaK,asK,kM,mC,lA mF mB] aih) (lC (wC 3)) (BA 3) DO) [aaK,asH,aK] asJ
abbrev aaL:List C:=[qa,An kQ kM pA mE KO,gF 0 eh rC]
abbrev IT:=iw aK j7
abbrev aik:=cN dK Dz
abbrev vk:=zI f g j k l (cN d e)
abbrev tU:=T.gq kZ n j k
abbrev DR:=gF a d j8
abbrev Gf:=C.int .u64 d
abbrev sD:=tN a Br
abbrev sF:=FV a K8
abbrev Uw:=Ir (.aQ (.and (.and (eG cK zN) yo) (kg PV PV Fs)) j) B O
abbrev tV:=gF a FL oO
abbrev Gg:=BE.not (eG d e)
abbrev Aq:=kN a (iw v w) j n t M
abbrev DT:=vj a j n o Fv B N
abbrev tW:=kD a jG
abbrev tX:=kD a Qd
abbrev mG:=DR a cL
abbrev yG:=Ip a uS
abbrev wU:=gF a fc (.v 4)
abbrev yH:=zR a uS
abbrev yI:=Ld a kL
abbrev Ux:=tU j k (eG zN bK)
abbrev tY:=eI d iJ
abbrev DU:=Dj a (dB j k l n o) t
abbrev DV:=F1 a (dB j k l n o) t
abbrev LQ:=eI (Dh a d) e
abbrev BK:=Ge b (.cell uS dK a) d n FR
abbrev Uy:=m6 a gD (m6 b gD j o u) n t
abbrev IU:=Ux (DT a j n o B N) k
abbrev Ar:=gF a d px
abbrev Qg:=K.cell A fZ a
abbrev Uz:=II 3 (.pick Fs n (eG Fs wG) j k) t
abbrev wV:=Uz (Uw (dB j k l PW PY) B []) m n t
abbrev IW:=ahV (Ao a j p kZ B) n o
abbrev IX:=vk d e f g j k (eP (zX l) kZ kZ)
abbrev Gh:=gF a d Dy
abbrev wW:=gF a gE oO
abbrev IY:=T.new a B [] O j
abbrev Qh:=LP (II a j t)
abbrev Gi:=m6 a j k pQ t
abbrev IZ:=ju j k Im Im (eI dA aam)
abbrev UA:=fY (Gf d)
def T82:T:=HT Tf (qO cL cY)
def T84:T:=Uy 61 61 (Uy 61 61 (eP (Uy 88 88 (Uy 88 88 (m6 88 gD (Fm 89 (C6 jf bK gD (gZ (C8 afL (C7 gE dK iq lz)) afL afL (dQ jf) (C7 bK gE cK iq)) KL) (lA aK dY) (lA iZ j9)) (mA 8) [kM,wL 2 fZ j8,dY,mB]) (mA 6) (mA 7) [jr,.bool (gV (Qg 4 j8) bK),dY,DR 4 fZ] [iR,.bool (gV (Qg 5 j8) bK),dY,DR 5 fZ]) HG (mA 5) [oM,wL 0 fZ j8,dY,tq] [eH,wL 1 fZ j8,DR 3 fZ,HH]) (fp fZ KK Tg) (fp fZ iJ Tg)) C4 C5 [gL,aK,Dc jG cK] [kY,dY,pu]) pQ oL [pP,dY,aU Bk] [iH,aK,Dc kL cK]
def ain:T:=HT Tf (eG cY cL)
def aio:T:=dB Yb Yb (zI cY zJ Yb Yb (zI afN ly (jT aK) (jT (Dc afN ly)) (jT (aU afN)) (dQ cL)) (pE cY)) (pE cL) afM
def aip:T:=dB Yc Yc (zI cY qJ Yc Yc (.aI (dQ cL) (oq [aK,aK,lB tu Ti]) (DL (.aI (dQ Ti) (zX (oq [lB C9 Tk,lB C9 Tl,Yd])) (zX (oq [lB C9 Tk,lB Da Tl,Yd]))) (zX (oq [lB Da Tk,lB C9 Tl,Yd])) (zX (oq [lB Da Tk,lB Da Tl,Yd])) afO afP (dQ Ti) (dQ Ti))) (cN cY cK)) (pE cL) afM
def aiq:T:=dB (qK [aK,aK,Fp]) (qK [aK,aK,Fp]) (gG (qK [aU Tk,aU Tl,aK]) afO afP afO afP) (cN cL cK) afM
def aaM:T:=jI 127 (iw aK (nS 120)) (jI 127 (iw aK (nS 120)) (mZ 106 (jT eH) (aU (kO cL iQ)) (lB gK cY) [dm]) Ye [lA gL kY]) (fO fZ) [lA ke iH]
def aaN:T:=zI cY KM Tm Tm (vk cL Yf cL KM Tm Tm (jS 157 (qR 156 Tm oo (lR iQ cK) (Gf gK) (Gf (Og cY)) [.int .u64]) [ke] [.int .u64])) (cN cY cK)
def aaO:T:=.aI (pE cL) (UA (.bin .sub .u64 bK (Og cL))) (UA (Og cL))
def air:T:=eP (.aQ (fO cY) (fY (Bo (tw cL (Bn (oN (Bn cL cY .rem) cY) cY .rem)) cY .quo))) (fO cY) (fO cY)
def aaP:T:=F1 127 (m7 (qK [aK,aK,kY]) afQ afQ (nU 280 280 (qK [pP,Dc bK lQ,aK]) [lB cL gK,iH] [lB (tw bK cL) gK,iH] [dm] [dm]) Yg (cN gK Yf) (gV gK KM)) [lA ke iH]
def aaQ:T:=.aI (dQ cY) (UA cL) (jw 0 (.aQ (fO (kA fZ cK)) (.aI (dQ aqc) (UA fZ) (py [Gf iQ,Gf fZ,Gf aqc]))) (UA gK) Yg [Gf cY,Gf cL,Gf cY])
def aaR:T:=nU 76 76 (dB (.aI sd oo (fY HJ)) Db (vk cL cY cL cY (fY HJ) Db oo) C3 sd) [ke] [iH] C2 C2
def aaS:T:=wq afR
def T66:T:=vk cL Tn cL To gD gD (vk cY Tn cY To gD gD (vk gK Tn gK To gD gD (vk iQ Tn iQ To gD gD (HT (wq (eG gK iQ)) (eG cL cY)))))
def T72:T:=Gi 99 (zK Fp) (m6 99 (zK Fp) (Dm cL fZ cY lQ gK jH (yc iQ eh)) oL [afS]) [Fq]
def T69:T:=mZ 70 (wq Of) Fq Fq pw
def aiv:T:=DU 99 (zK Fp) KN (m7 KN KN KN (m6 99 KN (jT aqe) oL [aqe]) (gV fZ (.c 2199023255552)) (cN lQ aqd) (gV lQ (.c 2199023255552))) pQ (cN fZ aqd) [Fq]
def T24:T:=Gi 99 (iw j7 Fp) (DU 99 (iw j7 Fp) (gZ (jT (.bool (eG iQ eh))) (jT j7) (jT j7) (eG cY lQ) (qO gK jH)) (jT j7) oL (qO cL fZ) [afS]) [Fq]
def aix:T:=vk cL HL cL uQ zL zL (vk cY HL cY uQ zL zL (vk gK HL gK uQ zL zL (vk iQ HL iQ uQ zL zL (vk fZ HL fZ uQ zL zL (vk lQ HL lQ uQ zL zL (jT (xX (oN (kO cL iQ) (kO cY fZ)) (kO gK lQ))))))))
def aiy:T:=gZ (mZ 139 afT ke pu wt) aqf aqf (dQ cY) (jK gK)
def aiz:T:=.aI pQ (wq (dQ cL)) (Dj 61 (fY KO) [ke,iH,gL])
def aiA:T:=HT Tf (eG cY cL)
def aiB:T:=jw 0 (LO (nV (iA KP) kY) (nV gL (aU KP)) (kg KP KP iJ) (kg KP KP iJ) (gV (iK KP j8) cY)) (eP (.aQ (kg KQ KQ iJ) (fY (xX (uP KQ j8) (kO (tw cY (iK KQ j8)) (.cell j8 KQ 2))))) kZ (kg KQ KQ iJ)) (cN gK iQ) [aK,aU iJ]
def aiC:T:=jI 60 (iw aK gL) (Gi 124 (iw aK dY) (mZ 125 (jT kY) Oi iH [dm]) [iH,aK,aU HI]) (fO gK) [Oi]
def aiD:T:=qR 272 (qK [aK,aK,oM]) (jI 127 (qK [aK,aK,eH]) (Gi 124 afQ (mZ 273 (qK [jr,iR,kM]) (lA gL kY) pP rz) [gL,aK,kY]) Yh [lA gL kY]) Ye Oi iH xV
def aiE:T:=nU 255 255 (fY (yc bK (tw jG lT))) [Oi,kY,lA mC mB] [Oi,kY,lA j9 gM] rz rz
def T70:T:=HT Tf (eG cY cL)
def T65:T:=jI 40 (Gi 68 Db (fY jr) [eH,aK,afU]) (fY jr) Yi [i7]
def T18:T:=Aq 84 (iw j7 jr) Yi [i7,afV,qL,Yj] (.bool (dQ zN)) jr [nW 252,dm]
def T37:T:=zI Dd De zO zO (jI 60 (fY eH) (Gi 61 zP (m6 61 zP (DV 62 zP zP (dB zP zP (tQ 0 (FX 61 zP (m6 61 zP (m6 61 zP KU HG [DR 3 fc,aK,aU zJ]) C5 [DR 2 fc,aK,iH]) [DR 1 fc,aK,ke]) (m9 1 (zI afX uQ zP zP (FX 63 zP (ij 1 uU Tu) [.agg aqg,aU iJ,oM]) (eG afX gE)) oo Yl Oj Oj [aK,HJ]) Yk (.and Dg Yk) (.and Dg Yk)) (pE iQ) (dQ iJ)) Bq (pE gK) [Ft gL kY pP]) oL [iH,dY,Tq]) [ke,dY,Tq]) Yh [KS]) (LL iJ 64)
def T86:T:=tU (wO (fY Bp) Ol Tw) (fY cT) Tv
def T87:T:=tU (wO (fY Bp) Ol Tw) (fY cT) Tv
def T88:T:=tU (wO (fY Bp) Ol Tw) (fY cT) Tv
def aiJ:T:=mZ 176 (wq (zT iQ)) Fu (.agg [ke,iH,gL,sj]) [dm]
def aiK:T:=sC 0 (ju (fY kY) (py [iA iQ]) (sn iQ (lf iQ)) (sn iQ (lf iQ)) (Ge 0 cL iQ (Ge 1 cY iQ (Ge 2 gK iQ (.beq C3 (.cell j8 iQ 3)) j8) j8) j8)) (fY HJ) (lf iQ)
def aiL:T:=tQ 0 (gZ (gZ (gZ (ju (eP (Gi 146 uO HS [FP 0 KV pS uV,iL (gF 0 pR (.v 4)) aK aK ld]) aqj aqj) HS aqi aqi (BB KV oO)) HS HS (C7 (Dh 10 pR) iu (Dh 11 pR) iF) (C7 (Dh 12 pR) lT (Dh 13 pR) ol)) HS HS (LQ 4 pR (tw (.c 15) iq)) (LQ 9 pR afW)) HS HS (LQ 2 pR dA) (eI KV (se jf))) gD (cN pR Dd) aqh aqh
def aiM:T:=mZ 151 (wq pQ) Fq afS KW
def aiN:T:=C6 iJ (.c 32) gD (.aQ (lf bK) (jI 90 gD (sC 0 (.aQ Fw (jI 90 (gZ gD Ym Ym (lR gK qJ) (lR gK yb)) Ym (lR gK ru) [.int .u8 (.oZ j8 cY)])) uO Tx) (lR cL ru) [.int .u8 (.oZ j8 bK)])) (.seq j8 (.k (.string ⟨#[]⟩)))
def T77:T:=jI 40 (jJ iR) (Gi 61 (jJ dY) (m6 61 (jJ dY) (wN 0 (gZ (kh (nV uU qL) (lC oP) aqg (.ak oO)) (nV uU zM) (nV uU zM) (LQ 1 dA jH) (LQ 2 dA eh)) (BG 0 0 0 (jT qL) oO (.ratio 10 11) J) Yl Oj Oj) oL [jr,aK,afU]) [eH,aK,Dc iJ cK]) Di [i7]
def aiP:T:=dB aqm aqm (PO gD aqk af0 af0 (lR kL cL) pQ (eI fZ yb)) (kP fZ) (jK fZ)
def aiQ:T:=HT Tf (qO cL cY)
def aiR:T:=ww cL (.c 122) zO aqp aqp (qO cL (.c 97))
def T25:T:=DU 67 HV (m7 HV HV (dB HV (dB HV (DN (zK dY) (kN 98 KN (kh (kN 98 KN (kh (gG (mZ 70 (iw (.agg [qQ,uW,HW,KY]) Fy) (FU 1 bK (Ar 0 bK) (Ar 2 bK) (Ar 3 bK) px) (FU 1 cK (Ar 0 cK) (Ar 2 cK) (Ar 3 cK) px) pw) (cN bK wz) (cN bK wz) (cN cK wz) (cN cK wz)) Ol [mB,qN,pT,qP] (.ak j8)) (fO iF) [Fq,lB aqr jH,lB aqr eh] pw) kZ [kM,iZ,j9,gM] Fv) Yo [Fq,lB aqq jH,lB aqq eh] pw) (eG fc (.c 4095))) (zK dY) (Gg eh uQ) Dg) HV (Gg jH uQ) (eG HL eh)) HV (Gg fZ lQ) (qO lQ De) (eG HL jH)) HV pQ Tg [Fq]
def aaT:T:=.aI (lR iJ wz) (jJ j7) (tU (wO (BG 0 0 0 (wN 0 (ot 1 (ju (eP (m6 107 (eP (kh (nV (iA cL) qL) (lC oP) [aU Yr,mG 1,mG 2,mG 3,mG 4,mG 5,mG 6,mG 7,mG 8,mG 9,mG 10,mG 11,mG 12,mG 13,Ar 0 cY,Ar 1 cY,Ar 2 cY,wL 3 cY px] (.ak oO)) Ot Ot) (ij 1 On zM) C3 [.agg [aU Yr,mG 1,mG 2,mG 3,mG 4,mG 5,mG 6,mG 7,mG 8,mG 9,mG 10,mG 11,mG 12,mG 13],iL (Ar 0 cY) (Ar 1 cY) (Ar 2 cY) (wL 3 cY px)]) Ot Ot) (ij 1 On zM) (Om af4) (Om af4) (eI (iK cY (.v 3)) Yr)) (jJ j7) af4 KR) (iw KR ld) Tz wB wB) xW Yq E) Ol Tw) (BG 0 0 0 (wN 0 (ot 1 TA (jJ j7) (pE cY) HN) (iw HN ld) Tz wB wB) afY Yq E) Tv)
def T27:T:=jI 34 (zK zU) (DV 41 (zK Ou) (gZ (gZ (FB Yu Yv Yx Yy) (FC (Dm Yu (ss ol FA) Yv (ss ol FA) Yx (su ol Bu) (yc Yy (su ol Bu))) Fz) (Ow aqs Ov Fz iZ) Bs Bt) (Fm 138 (qR 139 aqs (jS 138 (qR 139 (FB (nT Yz Oy) (kA YA Oy) (nT YB Oz) (kA YC Oz)) (FC (Dm (nT Yz Oy) OA (kA YA Oy) OA (nT YB Oz) OC (yc (kA YC Oz) OC)) zW) Bt Dl iZ wt) Ov xV) Bs Fz iR wt) jr gL) (Ow aqu [oM,gL] Fz eH) (dQ jH) Of) (Fm 138 (qR 139 aqu (Fm 138 (qR 139 (gZ (FB af6 af7 af8 af9) (FC (Dm af6 OA af7 OA af8 OC (yc af9 OC)) zW) (Ow aqv Ov zW iZ) Bs Bt) (Fm 138 (qR 139 aqv (jS 138 (qR 139 (FB aqw aqx aqy aqz) (FC (Dm aqw (ss ol (.v 57)) aqx (ss ol (.v 57)) aqy (su ol (.v 58)) (yc aqz (su ol (.v 58)))) FE) Bt FD iZ wt) Ov xV) Bs zW iR wt) jr gL) Of Dl eH wt) oM gL) (dQ jH) Fz pP wt) kY gL) (wE 30) (dQ fZ) [.agg [Fu,mC,mB,qN,pT,qP,sq,qQ,uW,HW,KY,Fy,TC,TE,TF,TG,zV]]) (wE 29) [af5]
def T74:T:=KZ (DU 46 Bv (uY Bv (DU 46 Bv (uY Bv (DU 46 Bv (uY Bv (DU 46 Bv (uY Bv (DU 46 Bv (KZ oo (mA 11) (mA 12) TJ TK) oo (mA 10) TH YT) (mA 9) YS) aqB (mA 8) YR agh) (mA 7) agf) aqD (mA 6) age [eH,dY,pu]) (mA 5) [oM,aK,HH]) aqG HG aqA [pP,dY,pu]) C5 [kY,aK,HH]) (dB (KZ aqG C5 HG [oM,aK,HH] [eH,dY,pu]) (KZ aqF C5 HG agf agh) (dB (KZ aqE C5 HG YS YT) (KZ oo C5 HG TJ TK) oo YR TH) aqA age) C4 (.not (Fo iQ bK (dQ fZ))) [gL,aK,aU zJ]) pQ oL [ke,aU Yf,aU KM] [iH,aU Yf,aU KM]
def aiV:T:=jw 0 (.aQ Yg (nV (Bo fZ iQ .rem) kY)) (jw 1 (.aQ Ye (ij 1 (Bo jH lQ .rem) oM)) (jw 2 (.aQ Bq (ij 2 (Bo fc eh .rem) jr)) (eP (.aQ (fO OH) (fY (Ft (Bo cL OH .quo) (Bo cY OH .quo) (Bo gK OH .quo)))) (fO OH) (fO OH)) Bq [gL,eH]) Ye [iH,pP]) Yg [ke,aK]
def T83:T:=zI gK (.c 32768) OI OI (vk (nT cL cY) (tw bK gK) (kA cL cY) gK OI OI (.aI (lR (oN (kO cL cL) (kO cY cY)) (kO gK gK)) OI (kN 87 OI oo (.not (Fo iQ cL (C7 fZ cY lQ gK))) [Ft ke iH gL] rz))) (cN gK cK)
def T75:T:=DU 64 wD wD (dB wD wD (dB wD wD (dB wD wD (dB wD wD (m7 wD wD wD (eP (IX iq cK iq qJ pU pU (IX dK cK dK qJ pU pU (IX lz cK lz qJ pU pU (IX fc cK fc uQ pU pU (IX dA cK dA uQ pU pU (IX gE cK gE uQ pU pU (IX iQ cK iQ OJ pU pU (IX fZ bK fZ OJ pU pU (zI cY (.c 500) pU pU (eP (zX (vk kL bK kL uQ pU pU (zX oo))) kZ kZ) (pE cY)))))))))) kZ kZ) (gV eh ly) (pE jG) (gV jG uQ)) (gV jH ly) (cN eh cK)) (gV lQ ly) (cN jH cK)) (gV gK Fs) (cN lQ cK)) (LL cL 500) (cN gK cK)) pQ (cN cL cK) [Fu]
def T23:T:=jI 100 YU (wN 0 (gZ (.aI (lR agj YV) (BD 2 0 [Ox YV agj,yc YV agj,ld] Tt qL (.ak oO)) agk) agk agk (LQ 2 fc jH) (LQ 4 fc zJ)) (Aj 1 (vg 2 (kh (ij 2 ye wv) (lC qS) [kM,iZ] TL) (ij 2 ye wu) (ij 1 uU wu) (lf gE) (BF 2 2 dA gE oO) [aK,qL]) (jT qL) (lf dA)) agi OK OK) Bq [i7,eH]
def UB:T:=jS 73 (dB (fY iR) agl (tU (Iy 0 (BG 0 0 0 (wN 0 (ot 1 (ju (eP (m6 107 (eP (kh (nV uU xZ) FF [gO 0,gO 1,gO 2,gO 3,gO 4,gO 5,gO 6,gO 7,gO 8,gO 9,gO 10,gO 11,gO 12,gO 13,wW 0,wW 1,wW 2,wL 3 gE oO] Dn) OP OP) (ij 1 ye qM) C3 [.agg [gO 0,gO 1,gO 2,gO 3,gO 4,gO 5,gO 6,gO 7,gO 8,gO 9,gO 10,gO 11,gO 12,gO 13],iL (wW 0) (wW 1) (wW 2) (wL 3 gE oO)]) OP OP) (ij 1 ye qM) OO OO (eI Y0 (HR uR))) agl ON uT) oo YZ OL OL) kf Yq E) YX Fv YY) (BG 0 0 0 (wN 0 (ot 1 TA agl (pE gE) wv) oo YZ OL OL) afY Yq E) (eG qT bK)) Di (lR qT oP)) YW H3
def T89:T:=Aq 73 (Qa 34 (iw K2 KY) (Aq 74 (m9 0 (jS 171 (dB (iw K2 OW) (oq [K6,K7,FH,FI,FJ,FE,K9,H5,H6,H7,H8,H9,Ia]) (py [iA Br,K6,K7,FH,FI,FJ,FE,K9,H5,H6,H7,H8,H9,Ia,K6,K7,FH,FI,FJ,FE,K9,H5,H6,H7,H8,H9,Ia]) (wE 63) (wE 63)) [.agg [Dl,aU pV,OQ,K3,Y2,OS,zW,TO,OT,K4,OV,TP,FD],.agg [sD 0,sD 1,sD 2,sD 3,sD 4,sD 5,sD 6,sD 7,sD 8,sD 9,sD 10,sD 11,sD 12,sD 13],iL (sD 14) (sD 15) (sD 16) (wL 17 Br kf)] H4) (oq [TC,TE,TF,TG,zV,zU,Ou,Fz,dR 32,aU FA,aU Bu,aU FL,aU tG]) (yk Br) (sn Br (yk Br)) (sn Br (yk Br)) [aK,iR,kM,iZ,j9,gM,mC,mB,qN,pT,qP,sq,qQ,uW,iR,kM,iZ,j9,gM,mC,mB,qN,pT,qP,sq,qQ,uW]) pQ [qL,zM] K2 (nS 270) [nW 227,.bool]) (wE 22) Y1) (fO pR) YW K2 HW H3
def aaW:T:=DV 34 (iw K2 Ou) (uY (uY (uY (uY (DU 46 (.aI (.v 5) (uY (Dj 46 aqV [zU,aK,aK]) Ib (.v 6) [zV,aK,aK]) Ib) (uY (Dj 46 aqV [zU,aqK,aqL]) Ib (.v 6) [zV,Dr bK bK aqI,Dr bK bK aqJ]) Ib C3 (.v 5) [HW,Dr cK cK (rB bK bK (rB bK cK Y3 Dq FM) Do Dp),Dr OJ OJ (rB bK bK (rB bK zJ Y3 Dq FM) Do Dp)]) TQ (.v 4) [uW,aqK,aqL]) TQ Bm [qQ,Dr cK cK aqI,Dr ly ly aqJ]) TQ Bl [sq,Dr cK bK (rB cK cK (.dt Dq bK aqH) Do Dp),Dr ru bK (rB ru ru (rB bK bK (mD bK bK ru OY OZ O4) Dq FM) Do Dp)]) TQ sd afZ) TQ (wE 30) (FO (gN iu) (iS iu) (FO Do Dp (Dt Dq FM OY OZ O4))) [af5]
def T81:T:=.aI (eG (kA iJ wz) De) (dB zO (gZ (LO lX (m9 0 (ww Du HI (ww (uP cY j8) (.c 65536) (gZ lX (nV On (aU Du)) lX (eG (.c (-65536)) (.cell j8 cY 2)) (Gg (.cell j8 cY 2) (.c 65536))) lX lX (eG (.c (-65536)) (uP cY j8))) lX lX (eG (oN gK cK) Du)) (sC 1 (jI 125 (DN lX (Il [iA iQ]) (eG fZ (.c 65536))) lX (eG cK fZ) [Oi,kY]) (m9 2 (ww ago (tw cL ru) (ww (uP fZ px) ru (ww (Qg 2 px) (Qg 3 px) (DN lX (ij 2 (iA fZ) (aU ago)) (eG (Qg 3 px) uQ)) lX lX (gU (Qg 2 px))) lX lX (eG cK (uP fZ px))) lX lX (eG af3 ago)) (tQ 3 (ww agq cL (ww (IF 1 xW) cL (ww Tn (IF 2 xW) (gZ lX (Lg [iA jH]) lX (eG (IF 2 xW) (IF 3 xW)) (Gg (IF 3 xW) To)) lX lX (lR agq (IF 1 xW))) lX lX (gU (IF 1 xW))) lX lX (gU agq)) oo agp (.and Zg agp) (.and Zg agp)) agn (.and Tg agn) (.and Tg agn) [aK,HJ]) (cN iQ cL)) Tx Fw Fw [aK,HJ]) (lf bK) (lf bK) (dQ (iK bK j8))) lX lX (eG cL De) (gV iJ bK)) lX (Gg Tj (.c 256)) (eG cK cL)) zO
def T13:T:=DV 40 (iw Lc jr) (iw Lc dY) (dB (iw Lc dY) (gZ (DN Ie (sC 0 (gG (gG (jI 41 (F1 34 (m7 Ie (jI 45 Ie KU ags [i7,iR,eH,.ak (oR fc uS uV)]) Ie KU (.not Bs) (BB fc kf) (.not (dQ (.len (oR fc uS uV))))) aqW) Ie Bw agr) O7 O7 (fp fc yi Dg) (fp fc yi Dg)) If If Zh Zh) (nU 110 111 (jw 1 (gG (gG (jS 112 (kh (.aI (BB dA kf) (Aq 113 (Aq 114 (kh (kh aqY yp [TC,TE,TF,TG] rD) yo [iZ,j9,gM,mC,mB,qN,pT,qP,sq,qQ,uW,HW,KY] zZ) (wE 28) [i7,kM,eH,.agg Zl,aqX,agt] Lc zV pw) (fO Br) [i7,kM,eH,.agg Zl,agt] Lc Fy H4) (Aq 115 (kh (kh aqY yp [iZ,j9,gM,mC] rD) yo Zl zZ) TU [.agg Zl,aqX] Lc mB pw)) Ii [pA] Ij) [agt] [.ak uV]) (pz kC) (pz kC) Zk Zk) OL OL Ih Ih) (oq [eH,qM,xZ,yq,wF,kQ]) YZ Zi) [wu] [wv] [.ak Dv] [.ak Ig]) TR) (tY yi)) Ie Ie (tY qS) (tY kC)) Ie (qO jH lQ) (tY qT)) Bq (pE jH) [i7]
def qb:T:=DV 40 YU (jJ tq) (gZ (.aI (tY yi) (dB wH (gZ (DN wH (sC 0 (gG (gG (jI 41 (F1 34 (m7 wH (jI 45 wH KU ags [i7,iR,eH,.ak (oR fc tB uV)]) wH KU (.not Bs) (BB fc kf) (.not (dQ (.len (oR fc tB uV))))) aqW) wH Bw agr) O7 O7 Im Im) If If Zh Zh) (sC 1 (gG (qR 70 (eP (Qa 34 wH TV (.not Yn) [yH 0,yH 1,yH 2,yH 3,yH 4,yH 5,yH 6,yH 7,yH 8,yH 9,yH 10,yH 11,yH 12]) Zk Zk) wH (dQ kL) aqZ aqZ pw) tH tH tH tH) (tQ 2 (qR 43 (jJ qN) (uZ 2 ye) (fO jG) (.agg [wW 0,wW 1,wW 2,wW 3,wW 4,wW 5,wW 6,wW 7]) eH pw) (nU 110 111 (jw 3 (IB (gG (jS 112 (kh (.aI (BB iq kf) (kN 113 (jJ TE) (kN 114 (jJ Ou) (kh (kh aq1 Dx [TF,TG,zV,zU] yt) yp [gM,mC,mB,qN,pT,qP,sq,qQ,uW,HW,KY,Fy,TC] rD) (wE 30) [i7,j9,eH,.agg Zm,aq0,agu] pw) (wE 25) [i7,j9,eH,.agg Zm,agu] H4) (qR 115 O8 (kh (Iy 0 aq1 Dx yt aq2) yp Zm rD) In (.agg Zm) aq0 pw)) wI [pB] wJ) [agu] [.ak uV]) (fp iq kC Bz) (fp iq kC Bz) (fp iq lW Bz) (fp iq lW Bz)) Bz (tE iq) Bz (tE iq) (fp iq qS Bz) (fp iq qS Bz)) (Aj 4 (IB (gG (eP (LO (tL 3 (gG (Iz (dB (jJ mC) (tL 3 (.aI agw (kN 73 (jJ mB) (m9 5 (sC 6 (vf (kN 145 Pd (eP (mZ 146 (m7 (Ir (dB (vf agB Iq Ac) (vf agB Iq Ac) Iq Zv Zw) aq4 []) (vf agC yv Ac) (vf agC yv Ac) yv oL Zv Zw) pD agz C2) Io Io) KL [i7,aU Pa,Pb] Pc) agD (eI Zu Pa)) (kN 145 Pd (eP (mZ 146 (m7 (Ir (dB aq7 aq7 Iq Zv Zw) aq4 []) aq8 aq8 yv oL Zv Zw) pD agE C2) gw gw) KL [i7,aU Pa,Pb] Pc) Zt) (kN 148 O8 (m9 6 (BD 3 6 [tq,gM,DC (uP iu (.v 22)),ld] Li BC Pg) (DD 4 tK) agH (.and Lh agH) (.and Lh agH) [aK,qU]) In agF agG) agy Zs Zs [aK,nX]) TU agx H3) (DD 4 nX)) [Oq,gM,aK,ld] FW) are Yo pQ) aq3) Zq Zq Zr Zr) [zS,gM,aK,ld] FT) (gG (Iz (m7 (jJ mC) (tL 3 are [Oq,gM,aK,ld] FT) (kN 73 (jJ mB) (m9 5 (sC 6 (vf (kN 145 Pd (eP (mZ 146 (m7 (Ir (dB (vf agP yv Ac) (vf agP yv Ac) yv ZA ZB) arf []) (vf agQ Pp Ac) (vf agQ Pp Ac) Pp oL ZA ZB) pC agz C2) Io Io) KL [i7,aU Po,Pb] Pc) agD (eI Zu Po)) (kN 145 Pd (eP (mZ 146 (m7 (Ir (dB arj arj yv ZA ZB) arf []) ark ark Pp oL ZA ZB) pC agE C2) gw gw) KL [i7,aU Po,Pb] Pc) Zt) (kN 148 O8 (m9 6 (BD 3 6 [tq,gM,DC (uP iu Dy),ld] Li pD Pe) (DD 4 qU) agR (.and Lh agR) (.and Lh agR) [aK,nX]) In agF agG) agN (O9 agN) (O9 agN) TZ) TU agx H3) (DD 4 pB) Yo pQ agw) aq3) Zq Zq Zr Zr) (fp dK TS sx) (fp dK TS sx) (Ge 0 agv dK (BK 1 1 dK (BK 2 2 dK (BK 3 3 dK (BK 4 4 dK (BK 5 5 dK (BK 6 6 dK (BK 7 7 dK (BK 8 8 dK (BK 9 9 dK (BK 10 10 dK (BK 11 11 dK (eI (.cell uS dK 12) (.cell FR dK 12))))))))))))) FR)) Zp Zp) (fp dK kC sx) (fp dK kC sx) (fp dK lW sx) (fp dK lW sx)) sx (tE dK) sx (tE dK) (fp dK qS sx) (fp dK qS sx)) (kN 71 (jJ mC) (Aj 5 (IB (qR 115 (jJ qQ) (kh (ij 5 Iv pC) T1 [qN,pT,qP,sq] It) Th (.agg [yI 0,yI 1,yI 2,yI 3,yI 4,yI 5,yI 6,yI 7,yI 8,yI 9,yI 10,yI 11,yI 12]) (.agg [FQ 0 kL uR,pY 1,pY 2,pY 3,pY 4,pY 5,pY 6,pY 7,pY 8,pY 9,pY 10,pY 11,pY 12,pY 13,pY 14,pY 15,pY 16]) pw) Iu agS Iu agS wM wM) (Aj 6 (IB (qR 115 (jJ uW) (kh (ij 6 yu qU) (lC Dz) [pT,qP,sq,qQ] Pm) (fO ol) (.agg [yG 0,yG 1,yG 2,yG 3,yG 4,yG 5,yG 6,yG 7,yG 8,yG 9,yG 10,yG 11,yG 12]) (.agg [FQ 0 jG uR,tW 1,tW 2,tW 3,tW 4,tW 5,tW 6,tW 7,tW 8,tW 9,tW 10,tW 11,tW 12,tW 13,tW 14,tW 15,tW 16]) pw) TX agT TX agT (fp jG qT TX) (fp jG qT TX)) (eP (kN 150 O8 (m9 7 (tL 3 (.aI (eG (iK iu DB) Fs) (BD 3 7 [T2,gF 2 iu DB,aK,ld] Li BC Pg) (ij 7 Li tK)) [T2,gF 1 iu DB,aK,ld] TY) (ot 8 (IB (eP (qR 151 (jJ qQ) (gG (mZ 151 (m7 (jJ uW) arp arp (ij 8 T4 tK) (fO ol) pQ oL) (FU 1 yz (Gh 0 yz) (Gh 2 yz) (Gh 3 yz) Dy) (FU 1 yA (Gh 0 yA) (Gh 2 yA) (Gh 3 yA) Dy) KW) arn arn aro aro) Th (FU 1 yz (gF 0 yz wK) (gF 2 yz wK) (gF 3 yz wK) wK) (FU 1 yA (gF 0 yA wK) (gF 2 yA wK) (gF 3 yA wK) wK) KW) arm arm) T3 agU T3 agU arl arl) (II 9 (.pick Pq (.not (.has (.v 25) 1 lT bK bK)) (eG Pq (wC 25)) (tL 1 (Ao 0 (ij 9 (xY 27) Ps) (.and (.and (eG cK T6) (lC T6)) (kg T7 T7 Pq)) (TW 24) (.iB (BA 24) (vc [gF 0 T7 Pf,gF 1 T7 Pf,gF 2 T7 Pf]))) [qQ] (BA 25)) (BG 0 0 0 (wN 10 (kh (ij 10 (iA lT) (xY 28)) (TW 27) [gF 0 lT Pr,gF 1 lT Pr,gF 2 lT Pr] (BA 27)) (jT (xY 27)) (cN lT T6) arq arq) (.v 24) (.lex [0,1,2] E) E)) [cT,cT]) agU pD) agM Zz Zz TZ) In [i7,afV,eH,xZ,nX,mF] [nW 298,dm]) kZ kZ) agT) agS) Yo [i7,eH] [nW 188,dm]) (tE dK)) (tE iq) Zi) [wu] [wv] [.ak Dv] [.ak Ig]) (cN gE oP) OP OP) (lf dA)) TR) (tY lW)) wH wH (tY qS) (tY kC)) wH (.not (tY wG)) (tY qT)) wH) wH wH (zT jH) (cN jH lQ)) Bq (gV oP ly) [i7]
def ai0:T:=DV 40 YU (jJ tq) (Dj 68 (m7 (jJ dY) Iw Iw (tQ 0 (m6 67 (.aI (zT fc) Iw (tQ 1 (FX 67 (.aI (zT dA) Iw (jw 2 agX (jw 3 agZ (ot 4 ag0 (ot 5 (vg 6 (gG (rF ag3 Pu Bm ag2) Pt Pt wM wM) Pu ag4 (lf kL) ag1 [FZ,kQ]) (ot 6 (vg 7 (gG (rF ag6 Pv Bm [ZF,ZI]) wM wM Af Af) Pv ZG (lf jG) ag5 [Iv,pA]) (ot 7 (vg 8 (gG (rF ag9 Py Bm ag8) Af Af Pw Pw) Py ZJ (lf jf) ag7 [yu,mE]) (ot 8 (vg 9 (gG (rF ahc PD Bm ahb) PA PA Ag Ag) PD ZK Pz aha ZL) (jw 9 (jw 10 (gG (rF PH (eP (rF PH PI (.v 4) [ZN,ZQ]) Ag Ag) Bm ahd) PE PE PF PF) ZO ZP Lk) (m9 10 (Iz (eP (Iz (dB PL PL PI C5 HG) ahf) PK PK) ahe) (jT nX) (lf iF) PJ PJ Lk) Pz TZ) ZM mE) ZH pA) ZC kQ) ZE wF) (pE dK) yq) T8 agY) ON agV)) TV ars) arv Zj Ih Ih)) KU oL [iL (pX 0) (pX 1) (pX 2) (pX 3)]) (tQ 1 (m6 67 (.aI (zT dA) Iw arv) TV oL ars) (jw 2 agX (jw 3 agZ (ot 4 ag0 (ot 5 (vg 6 (gG (rF ag3 Pu sd ag2) Pt Pt wM wM) Pu ag4 (lf kL) ag1 [FZ,kQ]) (ot 6 (vg 7 (gG (rF ag6 Pv sd [ZF,ZI]) wM wM Af Af) Pv ZG (lf jG) ag5 [Iv,pA]) (ot 7 (vg 8 (gG (rF ag9 Py sd ag8) Af Af Pw Pw) Py ZJ (lf jf) ag7 [yu,mE]) (ot 8 (vg 9 (gG (rF ahc PD sd ahb) PA PA Ag Ag) PD ZK Pz aha ZL) (jw 9 (jw 10 (gG (rF PH (eP (rF PH PI Bl [ZN,ZQ]) Ag Ag) sd ahd) PE PE PF PF) ZO ZP Lk) (m9 10 (Iz (eP (Iz (dB PL PL PI oL C4) ahf) PK PK) ahe) (jT nX) (lf iF) PJ PJ Lk) Pz TZ) ZM mE) ZH pA) ZC kQ) ZE wF) (pE dK) yq) T8 agY) ON agV) Zj Ih Ih) TR If If) pQ (lR qT iJ) (lR qS iJ)) [eH,aK,afU]) Bq (gV oP ly) [i7]
def BL:T:=kN 174 (.aI (lR tD (.c 300)) (jJ Dl) arD) arD (fO tD) [i7,eH] [dm,dm,dm,dm,dm,dm,dm,dm,dm,dm,dm,dm,dm,dm,dm]
def T90:T:=Aq 73 (Qa 34 (zK (aU pV)) (Qa 41 (zK OQ) (Aq 74 (m9 0 (dB (py [PN,KO,Oo,Ls,nc 4,nc 5,nc 6]) (eP (jw 1 arF (eP (jw 2 arI (py [PN,ld,nc 12,nc 13,nc 14,nc 15,nc 16]) ZX arG) ZS ZT) ZU arE) ZS ZT) (eP (jw 1 arF (eP (jw 2 arI (py [PN,.bool (eI IA La),nc 12,nc 13,nc 14,nc 15,nc 16]) ZX arG) ZS ZT) ZU arE) ZS ZT) (.cell tC oQ 17) sd) (jw 1 (gG (.aQ (Dt T9 ZZ Z0 Z1 Z2) (PO arJ arJ arK arK (yf T9 Bl ZZ Bm (yf Z0 (.v 4) Z1 (.v 5) (.dt Z2 (.v 6) gw))) sd (fO ahr))) (.and ZV ahq) (kg IC IC qJ) (O6 (dQ IC) (gN IC) (iS IC)) (.and ZV ahq)) (Aq 98 (mZ 70 (m9 2 (Aq 171 (jS 98 (dB (zK (dR 92)) (mZ 70 arN ahs ahs pw) (mZ 70 arN arO ahs pw) (wE 92) (.v 7)) [Z3,lB C9 (.v 74),lB C9 (.v 75)] pw) (wE 87) [.agg [H9,Ia,OW,Ub,dR 65,PQ,dR 67,Lu,Lv,Lw,Lx,Ly,Lz],.agg [sF 0,sF 1,sF 2,sF 3,sF 4,sF 5,sF 6,sF 7,sF 8,sF 9,sF 10,sF 11,sF 12,sF 13],iL (sF 14) (sF 15) (sF 16) (wL 17 K8 tC)] Tp (dR 87) H4) (jT arO) (cN K8 wG) arM arM [aK,K7,FH,FI,FJ,iR,kM,iZ,j9,gM,mC,mB,qN,pT,qP,sq,qQ,uW,j7]) arL arL pw) (fO OX) [Z3,lB C9 fc,lB C9 dA] Tp K6 pw) ahq [aK,Dc bK ZY,aU ZY,Dc bK ZY,aU ZY]) ahp (.and ZR ahp) (.and ZR ahp) [aK,j7,j7,j7,j7,j7,j7]) pQ [qM,uT] Tp (nS 270) [nW 227,.bool]) (fO m8) [wv,HW,KY,Fy,TC,TE,TF,TG,zV,zU,Ou,Fz,dR 32,aU FA,aU Bu,aU FL,aU tG]) (fO pV) Y1) (fO tD) [.agg [ke,iH,gL,kY,pP,HN,oM,KR,zM,qL,wu],eH,jr] Tp Dl H3
def fq:T:=jS 113 (dB (jJ (aU Bu)) (tQ 0 (Qa 41 (DN (jJ (nS 280)) (wN 1 (BD 1 1 [kD 0 tD,kD 0 tD,kD 1 tD,kD 2 tD,wL 3 tD uR] (iA tD) wv TL) (jS 73 (eP (m9 2 (jS 171 (dB (Ln [iA m8,K3,FJ,FE,K9,H5,H6,H7,H8,H9,Ia,OW,Ub,dR 65,PQ,uT]) (wV nf nf (gZ F5 nf aht BH (gV (tO 8 m8) (iT 4))) F6 F3 F2 F4) (dB (wV nf nf (gZ F5 nf aht BH (gV (tO 8 m8) (iT 5))) F6 F3 F2 F4) (wV (wP Ud (mD (iT 12) (iT 13) PZ Z7 Z8 Z9) F5 nf ahu ahv) (O5 pZ pZ (nU 219 219 (gG (jI 220 F5 nf (gV (DE KT (mD (iT 6) (iT 7) (iT 8) Z7 Z8 Z9) ahx) (DE tu (mD (iT 9) (iT 10) P1 Z7 Z8 Z9) (.v 89))) [KS,Z6]) ahu ahv ahu ahv) [ahw,aU pZ] [lA (By TN HY (mD K5 OX OF (iS pZ) (kP pZ) (jK pZ)) (dQ pZ) (gN pZ)) (By HX OU (mD HZ H0 (.v 53) (iS pZ) (kP pZ) (jK pZ)) (dQ pZ) (gN pZ)),aU pZ] rz rz) (Dt (dQ pZ) (gN pZ) (iS pZ) (kP pZ) (jK pZ))) Uf F6 F3 F2 F4) (dB (wV arU (O5 p7 p7 (nU 219 219 (gG (jI 220 F5 nf (gV (DE KT (mD (iT 6) (iT 7) (iT 8) aaa aab aac) ahx) (DE tu (mD (iT 9) (iT 10) P1 aaa aab aac) (.v 89))) [KS,Z6]) ahy ahz ahy ahz) [ahw,aU p7] [lA (By TN HY (mD K5 OX OF (iS p7) (kP p7) (jK p7)) (dQ p7) (gN p7)) (By HX OU (mD HZ H0 (.v 53) (iS p7) (kP p7) (jK p7)) (dQ p7) (gN p7)),aU p7] rz rz) (Dt (dQ p7) (gN p7) (iS p7) (kP p7) (jK p7))) Uf F6 F3 F2 F4) (wV (.aI (gV Ud PZ) F5 nf) (nU 219 219 (jI 220 F5 nf (gV (kO (kO KT (iT 8)) ahx) (kO (kO tu P1) (.v 89))) [KS,Z6]) [ahw,zS] [lA FH FI,zS] rz rz) Uf F6 F3 F2 F4) (m7 (Uz (Uw (.aI PW nf (.aI PY nf Uf)) F4 []) F6 F3 F2) (wV nf nf (dB nf arV Ic BH LI) F6 F3 F2 F4) (Uz (Uw (.aI PW arU (.aI PY nf Uf)) F4 []) F6 F3 F2) (wV nf (DN nf (.stuck "") (yf (gN rG) gw (iS rG) gw (FO (kP rG) (jK rG) (yf ahA kZ ahB gw (.dt ahC gw arW))))) (PO nf arV nf Ic BH LI (yf (gN rG) gw (iS rG) gw (yf (kP rG) gw (jK rG) gw (yf ahA gw ahB gw (.dt ahC kZ arW))))) F6 F3 F2 F4) ahB ahC (eI rG Bk)) (jK rG) ahA) (iS rG) (kP rG)) arS (gN rG)) [.agg [Y2,OS,zW,TO,OT,K4,OV,TP,FD,K6,K7,FH,FI],Z6,iL (aU (ID 1 1 PU bK kf)) arR (aU Ud) (.bool arS)] H4) arX (cN m8 kC) arQ arQ [aK,jr,iR,kM,iZ,j9,gM,mC,mB,qN,pT,qP,sq,qQ,uW,cT]) Z5 Z5) YW H3) (tE tD) (sn tD (tE tD)) (sn tD (tE tD))) (.not (zT FL))) (py [iA FL]) (fO tG) [FQ 0 FL oO,tV 1,tV 2,tV 3,tV 4,tV 5,tV 6,tV 7,tV 8,tV 9,tV 10,tV 11,tV 12,tV 13,tV 14,tV 15,tV 16]) (wN 1 (BD 1 1 [kD 0 tG,kD 0 tG,kD 1 tG,kD 2 tG,wL 3 tG uR] (iA tG) wv TL) (jS 73 (eP (m9 2 (jS 171 (dB (Ln [iA pV,FH,FI,FJ,FE,K9,H5,H6,H7,H8,H9,Ia,OW,Ub,uT]) (wV ng ng (gZ Ga ng ahD BH (gV (tO 8 pV) (iT 4))) Gb F8 F7 F9) (dB (wV ng ng (gZ Ga ng ahD BH (gV (tO 8 pV) (iT 5))) Gb F8 F7 F9) (wV (wP Ui (mD (iT 12) (iT 13) PZ aae aaf aag) Ga ng ahE ahF) (O5 p8 p8 (nU 219 219 (gG (jI 220 Ga ng (gV (DE KT (mD (iT 6) (iT 7) (iT 8) aae aaf aag) ahH) (DE tu (mD (iT 9) (iT 10) P1 aae aaf aag) PS)) [KS,aad]) ahE ahF ahE ahF) [ahG,aU p8] [lA (By FG TN (mD HY K5 OX (iS p8) (kP p8) (jK p8)) (dQ p8) (gN p8)) (By (.v 43) HX (mD OU HZ H0 (iS p8) (kP p8) (jK p8)) (dQ p8) (gN p8)),aU p8] rz rz) (Dt (dQ p8) (gN p8) (iS p8) (kP p8) (jK p8))) Uk Gb F8 F7 F9) (dB (wV ar1 (O5 p9 p9 (nU 219 219 (gG (jI 220 Ga ng (gV (DE KT (mD (iT 6) (iT 7) (iT 8) aah aai aaj) ahH) (DE tu (mD (iT 9) (iT 10) P1 aah aai aaj) PS)) [KS,aad]) ahI ahJ ahI ahJ) [ahG,aU p9] [lA (By FG TN (mD HY K5 OX (iS p9) (kP p9) (jK p9)) (dQ p9) (gN p9)) (By (.v 43) HX (mD OU HZ H0 (iS p9) (kP p9) (jK p9)) (dQ p9) (gN p9)),aU p9] rz rz) (Dt (dQ p9) (gN p9) (iS p9) (kP p9) (jK p9))) Uk Gb F8 F7 F9) (wV (.aI (gV Ui PZ) Ga ng) (nU 219 219 (jI 220 Ga ng (gV (kO (kO KT (iT 8)) ahH) (kO (kO tu P1) PS)) [KS,aad]) [ahG,zS] [lA K6 K7,zS] rz rz) Uk Gb F8 F7 F9) (m7 (Uz (Uw (.aI PW ng (.aI PY ng Uk)) F9 []) Gb F8 F7) (wV ng ng (dB ng ar2 Ic BH LI) Gb F8 F7 F9) (Uz (Uw (.aI PW ar1 (.aI PY ng Uk)) F9 []) Gb F8 F7) (wV ng (DN ng (.stuck "") (yf (gN rH) gw (iS rH) gw (FO (kP rH) (jK rH) (yf ahK kZ ahL gw (.dt ahM gw ar3))))) (PO ng ar2 ng Ic BH LI (yf (gN rH) gw (iS rH) gw (yf (kP rH) gw (jK rH) gw (yf ahK gw ahL gw (.dt ahM kZ ar3))))) Gb F8 F7 F9) ahL ahM (eI rH Bk)) (jK rH) ahK) (iS rH) (kP rH)) ar0 (gN rH)) [.agg [OQ,K3,Y2,OS,zW,TO,OT,K4,OV,TP,FD,K6,K7],aad,iL (aU (ID 1 1 P2 bK kf)) arZ (aU Ui) (.bool ar0)] H4) arX (cN pV kC) arY arY [aK,iR,kM,iZ,j9,gM,mC,mB,qN,pT,qP,sq,qQ,uW,cT]) Z5 Z5) YW H3) (tE tG) (sn tG (tE tG)) (sn tG (tE tG))) (cN FL oP) arP arP) (jJ (nS 280)) (fO Bu) (tY oP)) [i7,eH,jr,.agg Y1,qL] H4
def ai2:T:=jI 40 (iw ahN jr) (II 0 (dB (eP (jI 106 (nV (iA LJ) kM) (nV iR (aU LJ)) (pE gE) [gF 0 LJ (.v 4),eH]) (kg LJ LJ Dd) (kg LJ LJ Dd)) (eP (jI 106 (iw ahN (nS 300)) (eP (oq [wU 0,aU YV,wU 2,wU 3,wU 4,wU 5,wU 6,wU 7,wU 8,wU 9,wU 10,wU 11,wU 12,wU 13]) OK OK) (.not Bs) [wU 0,eH]) OK OK) (iw ahN (nS 300)) (cN fc dA) agi) [aK,aU Dd]) Bq [i7]
def T63:T:=kN 71 YU (Aj 0 (kh (nV Tt wu) YX [iR] YY) (m9 1 (BG 0 0 0 (BG 0 0 0 (gG (IY 0 (ij 1 uU qM) (.set (.ak uS) Un 0 [Ox (iK (HR oO) pS) ar4]) []) kZ kZ (kg Un Un yi) (kg Un Un yi)) pS (.dw 0 ahP [uP dA oO]) J) kf (.dw 0 ahP [HR oO]) J) (ot 2 (BG 0 0 0 (ij 2 ye uT) pS (.dw 0 ahP [gE]) J) (jT wv) (yk gE) wu) ahO (HQ ahO) (HQ ahO) [aK,qL]) Yk) Bq [i7,eH] [nW 188,dm]
def I0:T:=C6 yi P3 gD (gZ gD ar9 ar9 (gV iJ Fs) (eG iJ (.c 12))) (LL Dd 40)
def UC:T:=ww iJ ly gD asa asa (gV iJ qJ)
def ai4:T:=ww Tj P3 (wq (eG (wC 3) P3)) gD gD (eG wz P3)
def ai5:T:=tU (wO (fY Bp) Ol Tw) (fY cT) Tv
def ai6:T:=wN 0 (m7 gD gD gD (BD 1 0 [aU Du,ld] On HM (.ak px)) (pE Du) (qO Du cL) (BF 1 1 Du bK px)) uO Tx Fw Fw
def ai7:T:=DV 15 (iw P7 iZ) LM (m7 LM LM LM (eP (m7 LM LM LM (tU (DT 0 (tU (DT 0 (IU 0 (DL asb (IW 0 asc DJ DJ IK aao) (IZ (IW 0 asc DK DK IK aap) asb) tR tR IJ Bw) (DL asd (IW 0 asf DJ DJ IK aao) (IZ (IW 0 asf DK DK IK aap) asd) tR tR IJ Bw) Px yo FT zZ) wI Lq wJ FY) (Ux (Ah 0 (wO (DL asg aas (IZ aat asg) tR tR IJ Bw) aaq aar) Fv) (DL (jT ahW) aas (IZ aat (jT ahW)) tR tR IJ Bw)) P8) Ii FF Ij Dn) (tU (DT 0 (Ux (Ah 0 (wO (DL ash (IW 0 asi DJ DJ P9 aao) (IZ (IW 0 asi DK DK P9 aap) ash) tR tR IJ Bw) aaq aar) Fv) (DL asj (IW 0 asl DJ DJ P9 aao) (IZ (IW 0 asl DK DK P9 aap) asj) tR tR IJ Bw)) Ii Lq Ij FY) (IU 0 (DL asm aas (IZ aat asm) tR tR IJ Bw) (DL asn aas (IZ aat asn) tR tR IJ Bw) Ii yo Ij zZ) P8) ahU) (dQ aam) (pE dA) (gV dA ly)) Im Im) (qO eh zN) (pE fc) (qO fc lW)) (fO gE) (pE eh) Gc
def aaX:T:=DV 26 (fY jr) (gZ (gZ nh (sC 0 (ju (ju nh KU O7 O7 (Gg aam (P6 fc pS P5))) nh Im Im (zT aam)) (sC 1 (ju (ju asp asq aau aau (dQ (HR HO))) asq tH tH (gN IM)) oo (cN dA wG)) (cN fc lW)) nh (tY wG) (.not (tY zN))) nh nh (zT jH) (yk jH)) nh Bq (eG lW kC) [qa]
def ai8:T:=DV 40 (fY eH) (gZ (gZ zO (sC 0 (ju zO (py [IG]) P4 P4 (Gg (.len ahR) ly)) (II 1 (zI qS bK (eP (jI 41 (fY kM) (uZ 1 Tt) (fO dA) agr) If If) (DN nh (sC 2 (ju (Gi 42 nh (uZ 2 uU) [.ak (oR dA kf Lt),aU qT]) nh Ih Ih (tY (.len (oR dA kf Lt)))) (tQ 3 (tQ 4 (qR 43 nh (uZ 4 Zo) (.not (dQ jf)) art iZ pw) (mZ 44 (tQ 5 (gZ nh (sC 6 (IB (eP (gZ ast (LO nh ast aaw aaw (dQ (.len (oR kL aav uV)))) nh (.beq ah3 (BB ah2 Ur)) ah3) asr asr) Iu ah1 Iu ah1 (fp kL lW Iu) (fp kL lW Iu)) (uZ 5 FZ) ah1) nh (tY (.len Ur)) (.not (tY (.len aav)))) (uZ 3 ye) ah0 (.and (gU lz) ah0) (.and (gU lz) ah0)) i7 iZ [yF,dm]) T8 ZD ZD) (wN 4 (BD 1 4 [gF 0 iq (.v 4),.bool (lR (Dh 3 iq) cK)] Zo xZ Dn) (tQ 5 (gZ (uZ 5 Lj) (LO nh (uZ 5 Lj) asu asu (gV agv (iK (se dK) uS))) nh (BF 1 1 agv bK tB) Bt) oo (cN dK yi) Zp Zp) ah4 (.and Bz ah4) (.and Bz ah4)) ON OO OO) Zj) (eI kC lQ)) nh TR) zQ) aal) zO (eG qS ly) (Gg lQ (.c 64))) zO zO (eG iJ (.c 12)) (eG qT OJ)) zO Yh (eG oP ly) [i7]
def asO:T:=jI 26 nj (wN 0 (jS 27 (Ai 0 (vj 0 (nV IG wF) FF yo (vc [xZ]) Dn zZ) Y1) [iL (FQ 0 eh j8) (DR 1 eh) (DR 2 eh) (DR 3 eh)] H4) (wO (oq [cT,aK,qM,xZ,j7]) (.and (gU lW) FF) (.xt lW zQ)) (lf eh) (.and yB (lf eh)) (.and yB (lf eh))) Yh [qa]
def asP:T:=uY nj (uY nj (uY nj (oq [aU Ys,aU Yw,gL,aK,aK,aK,aK,aK,aK,aK,aK,aK,aK]) C4 [gL,aK,aU zJ]) oL [iH,aK,Tq]) pQ [ke,aK,Tq]
def UD:T:=.aI Yi (DV 15 (qK [P7,cT,iR]) (qK [P7,cT,dY]) (tU (DT 0 (tU (DT 0 (IU 0 (vj 0 (BJ pC mE mF cT) yp T1 DO rD It) (vj 0 (BJ mF mE cT cT) yp Px DO rD FT) Px yo FT zZ) wI Lq wJ FY) (Ux (Ah 0 (wO (vj 0 (BJ mF cT mE cT) yp Px DO rD FT) aaq aar) Fv) (vj 0 (BJ mE cT cT cT) yp wI DO rD wJ)) P8) Ii FF Ij Dn) (tU (DT 0 (Ux (Ah 0 (wO (F0 0 (BJ mF kQ mE cT) Px DO FT) aaq aar) Fv) (F0 0 (BJ mE kQ cT cT) wI DO wJ)) Ii Lq Ij FY) (IU 0 (F0 0 (BJ mE cT kQ cT) wI DO wJ) (F0 0 (qK [ahW,cT,aK]) Ii DO Ij) Ii yo Ij zZ) P8) ahU) Di (qO lW kC) Gc) (jS 37 (dB (qK [P7,cT,iR]) asv (m6 38 asv (tU (DT 0 (tU (DT 0 (IU 0 (vj 0 (LP (jw 0 (ju (Ap pD tK BC) (vj 0 (gG (LP (ju (Ao 0 (IL dA (Ao 0 (Ap Ps (xY 28) (xY 29)) (pz (wC 24)) (pz (wC 24)) (.set (BA 24) dA 0 aaC)) (pz Pq) [xY 27] Pg) (pz Pq) kZ aaB) (Ap Ps tK BC) IR IR aaA)) tH tH DM DM) (lC (wC 22)) (TW 25) aaz TY (BA 25)) IQ IQ aax) (BJ qU tK BC pD) Us [aK,cT,pB,nX])) wI (lC Dz) IP wJ Pm) (vj 0 (Qh 0 ah6 [aK,cT,pB,cT]) wI PB IP wJ FW) PB yo FW zZ) Dx Lq yt FY) (IU 0 (vj 0 (Qh 0 ah6 [aK,cT,cT,pB]) wI PB IP wJ FW) (vj 0 (Qh 0 ah7 Zi) wI Dx IP wJ yt) Dx yo yt zZ) P8) yp FF rD Dn) (tU (DT 0 (IU 0 (F0 0 (Qh 0 ah6 [aK,cT,pA,pB]) PB IP FW) (F0 0 (Qh 0 ah7 [aK,cT,pA,cT]) Dx IP yt) Dx yo yt zZ) yp Lq rD FY) (IU 0 (F0 0 (Qh 0 ah7 [aK,cT,cT,pA]) Dx IP yt) (F0 0 (LP (jw 0 (ju (Ap mE pB mF) (vj 0 (gG (LP (ju (Ao 0 (IL dA (Ao 0 (Ap pC pD tK) (pz Ll) (pz Ll) (.set FW dA 0 aaC)) (pz (wC 17)) [qU] FT) (pz (wC 17)) kZ aaB) (Ap pC pB mF) IR IR aaA)) tH tH DM DM) Dx T1 aaz yt It) IQ IQ aax) (BJ pA pB mF mE) Us Zi)) yp IP rD) yp yo rD zZ) P8) ahU) oL ah5) Di C3) IN [nW 132,dm])
def aaY:T:=jI 47 (jJ iR) (jS 48 (Aj 0 (ju (kh aaE yp [kM] rD) (nV uU kQ) Qc Qc (BB dA rC)) (jT kQ) aaD) IN [.ak Dv]) Di IN
def ai9:T:=eP (Aj 0 (IB (kh (nV IG xZ) FF [FQ 0 Qd uR,tX 1,tX 2,tX 3,tX 4,tX 5,tX 6,tX 7,tX 8,tX 9,tX 10,tX 11,tX 12,tX 13,tX 14,tX 15,tX 16] Dn) yB ah8 yB ah8 (kg Qd Qd qT) (kg Qd Qd qT)) (fY qM) ah8) aak aak
def aja:T:=tQ 0 (nU 55 58 (dB asx asx (py [IG]) oL Di) [qa,eH] [i7,afV,kQ,.agg [gF 0 eh rC,FP 1 eh rC Dv,FP 2 eh rC Ig,FP 3 eh rC Ig,FP 4 eh rC Uo,FP 5 eh rC (.sl 139)]] [nW 85] KW) uO ah9 aaF aaF
def aaZ:T:=F1 15 (m7 (fY iR) Db Db (wP eh (.len Uu) Db oo Qe Qe) Di (qO lW kC) (cN eh cK)) Gc
def ajb:T:=mZ 44 (Aj 0 (wP IM cK (eP (tL 1 aaE [zR 0 rC,iA (ID 1 1 (HR rC) bK FR)] rD) Qc Qc) (nV uU kQ) tH tH) (Aj 1 (gG (eP (ju (kh (ij 1 ye mE) wI [.bool (dQ (ID 1 1 aaI bK FR))] wJ) (kh (ij 1 ye mE) wI [j7] wJ) asy asy (BB gE (oR Uv Uu Dv))) aaH aaH) aaG aaG Qe Qe) (fY pA) aia) aaD) i7 aay [yF,dm]
def aa0:T:=Uy 30 31 (jI 16 uO (F1 16 (wq (gV fc De)) Gc) (eG eh (.c 40)) Gc) oL C4 [qa] [wQ]
def aa1:T:=Aq 28 (wN 0 (qR 29 (tL 1 aaE [Tu,ld] rD) (tL 1 aaE [Tu,.bool (gN (Dh 3 dA))] rD) sd uT Tu [dm,.bool]) (gG (ot 1 (gG (m9 2 (gZ (DD 2 FZ) (DD 2 mC) (DD 2 mC) (BF 1 1 (iK dK aib) bK FR) (.not (.cell aib dK 3))) (ij 1 ye mC) aic (.and sx aic) (.and sx aic) [aK,j9]) aaG aaG asA asA) (jT j9) aia aK) Qe Qe aaH aaH) Yl Oj Oj) Di IN aK iR [yF,dm]
def ajc:T:=C6 wz (.c 40) gD (C8 (sC 0 (wP (P6 cY px Ig) KK gD Ym Ot Ot) uO (cN cY wz)) (LL Tj 40)) (LL iJ 100)
def aa2:T:=vg 0 (eP (nV IG (lB fc (oN cK (.len ahR)))) P4 P4) asB asB aal (eG fc De) [aay,dY]
def ajd:T:=II 0 (dB (eP (gZ (nV (iA IS) gL) asC asC (lR aid aid) (.not afR)) (kg IS IS iJ) (kg IS IS iJ)) (ju (iw iH ld) (ju (iw iH (.bool afR)) (iw iH j7) Fw Fw (lR Du Du)) Fw Fw (eI Du cL)) (iw iH j7) (cN cY gK) Tx) [aK,aU iJ]
def asQ:T:=nU 10 11 (nU 12 12 (nU 12 8 (nU 8 8 (nU 8 8 (dB nj nj (dB nj nj (dB nj nj (dB nj nj (PO nj (Ah 0 (m6 13 (gZ (Ah 0 (m6 13 (gZ (Ah 0 (m6 13 (.aI (gN ol) (wq (gN pR)) nj) nj Bm [pA,pC]) (.lit [[dY],zQ])) nj nj (dQ iu) (dQ iF)) nj Bl [kQ,nX]) (.lit [zQ,zQ])) nj nj (gN kL) (eI jG yb)) nj sd [wF,mF]) (.lit [[dY],zQ])) nj nj (dQ (.v 28)) (gN fc) Bs) (wE 22) (lR (.v 25) cK)) In Th) (fO iq) (lR lz cK)) Bq (fO dA)) [qa,wQ,HJ] [.agg [aK,aK,aK,aK,aK,cT,aK,cT,cT,cT,cT,cT,cT,cT,cT,cT],wQ,aK] Qf Qf) [qa,wQ,aK] [qa,wQ,dY] Qf Qf) [qa,wQ,aK] [qa,wQ,aU Bk] xV Qf) [qa,wQ,dY] [qa,wQ,tq] xV xV) [] [qa] [dm,dm,dm,dm,dm,nW 92,dm,nW 94,nW 255,nW 257,nW 89,nW 141,nW 85,nW 39,nW 63,yF] aaJ
def asR:T:=Ai 0 (Ai 0 (Ah 0 (nU 25 25 (jS 25 (IY 0 (IY 0 (IY 0 (IY 0 (IY 0 (IY 0 (IY 0 (fY (.agg [aU Da,aU KK,dY,aK,dY,Fu,tq,Bp,cT,cT,HM,cT,uT,xZ,kQ,pA])) (vc [pu]) []) (.lit [[yq],[wF]]) []) (vc [wu,wv]) []) (.lit [[HN,KR],[zM,qL]]) []) (vc [qM]) []) DO []) (vc [.ak (.k (.string ⟨#[98]⟩)),aU P3,nS 60,dY,zS,tq,dY,dY,dY,nS 90,nS 90,nS 90,pu,pu,pu,nS 100,nS 30]) []) [iL zS aK aK j7] aie) [iL pu aK aK j7] [iL pu aK aK ld] aie aie) (.lit [[pu,aK,aK,tq,dY,dY,dY,aK,zS,aK,aK,dY,dY,dY],[zS,aK,dY,dY,dY,dY,dY,aK,zS,aK,aK,dY,dY,dY]])) [aK,Tq,aK]) [.ak (.k (.string ⟨#[97]⟩)),Oq,Oq,aK]
def asS:T:=Ai 0 (Ai 0 (Ai 0 (fY (lA Fu HM)) [Bp]) [ke,iH,gL,sj]) [ld]
def asT:T:=.aI (lR iJ wz) nj (tQ 0 (ju nj (py [iA cL]) asD asD (lR Yr (iK cL px))) uO Tz wB wB)
def aje:T:=jS 22 (m9 0 (jS 23 (py [ye,pC,gM,qU,pD,Ls]) [qa,asE,Ft (gF 1 gE Dw) (gF 2 gE Dw) (gF 3 gE Dw)] aaJ) (fY asE) aig (K1 aig) (K1 aig) [aK,wF,iR,kQ,pA,KO]) IN aif
def ajf:T:=F1 15 (m7 (qK [cT,aK,aK,iR]) asF asF (wO (ot 0 (wP asG De (qK [cT,aK,aK,tq]) (nV uU (aU asG)) Qc Qc) (jS 308 (qK [kQ,gM,j9,aK]) [wQ,cT,aK,qa,wQ,jr,aK,lA cT HJ] aih) aaD dY) (.and (gU lW) (eG lW kC)) (.sub (.ak pS) lW kC)) Di (pE eh) (gV eh De)) Gc
def aa3:T:=gZ (jS 35 (iw iZ (lA mF iH)) [HN] [yF]) (iw iZ (lA pB j9)) (II 0 (eP (gZ (.aI pQ (jS 21 (dB asI asI (nU 12 20 (kh (jS 308 (py [Lj,qQ,tK,uW]) [An nX sq pC qU Ls,pD,xX cY jf,aaK,asK,kM,FZ,lA mF mB] aih) (lC (wC 3)) [gM] (BA 3)) aii aii xV asJ) C4 (fO jG)) aii KW) aij) aij aij (eG dK (P6 iJ HO P5)) (cN lz dA)) (kg iJ iJ zN) (kg iJ iJ zN)) [dY,iZ,pB,j9]) (eI iJ zN) (gV cY iq)
def aa4:T:=Aq 37 (Dj 38 (jT KO) ah5) Di IN j7 iR [nW 132,dm]
def ajg:T:=jw 0 (ju (nU 21 12 (dB IT IT (dB IT IT (kN 22 IT (m9 1 (kN 23 IT (Il [yu,pT,BC,sq,T5,Ps,nc 5]) Th [qa,An qU qP pD tK (nc 4),Ft (vd 1) (vd 2) (vd 3)] aaJ) (py [IG,pT,qU,qP,pD,tK,nc 4]) agy Zs Zs [aK,xX fc iq,pB,mC,mF,nX,Ls]) TU aaL aif) (fO gE) (fO dK)) sd C4) aaL aaL KW xV) (kN 22 IT (m9 1 (kN 23 IT (Il [Lj,mC,BC,qN,T5,Ps,nc 4]) In [qa,An qU mB pD tK Ls,Ft (Gh 1 dK) (Gh 2 dK) (Gh 3 dK)] aaJ) (py [IG,mC,qU,mB,pD,tK,Ls]) aik (.and sx aik) (.and sx aik) [aK,iR,pB,iZ,mF,nX,Oo]) (fO iq) aaL aif) aaF aaF (fO (iK eh rC))) (iw iR (.bool (eI TS kC))) ah9 [aK,aK,qM,eH,xZ,yq,sj]
def ajh:T:=m6 14 (jI 15 (ww eh De (F1 16 (wq (eG dA De)) Gc) gD gD (zT eh)) gD Of Gc) gD sd Gc
def aji:T:=m6 6 gD (Dj 7 (zI Lf kC uO uO (kN 8 gD (jS 9 (dB uO uO (wq (eG iq fc)) C5 (eI dA eh)) ah5 [dm,.bool]) (fO gE) IN Qf) C4) IN) oL []
end
def vl:Nat->Nat
 |0=>11|d+1=>18+3*d
def I1(j:Nat):List C:=(di 13).map λq=>.int I (.cell (.cell (.v (vl j)) (.c 0) 0 (.sl 108)) (.v (12+j)) q)
def UE:Nat->T->T
 |0,t=>t|n+1,t=>.aQ (.c J) (UE n t)
def Qi:List C:=[(.int I (.v 0)),(.int I (.v 1)),(.int I (.v 2)),(.int I (.v 3)),(.int I (.v 4)),(.ak (.v 0)),(.int I (.v 5)),(.ak (.v 1)),(.ak (.v 2)),(.ak (.v 3)),(.ak (.v 4))]
def acT(d:Nat):T:=
 .call 55 [(.agg (Qi++[(.ak (.v 5)),(.ak (.v 6)),(.ak (.v 7)),(.ak (.v 8)),(.ak (.v 9))])),(.int I (.v 6))] [] [] [(.ak (.sl 85))] .any
  (.call 54 [(.agg Qi),(.agg [(.ak (.v 5))]),(.ak (.v (21+5*d))),(.int I (.len (.v 10))),(.ak (.v 13)),(.ak (.v (20+5*d))),(.ak (.v (17+3*d)))] [] [] [(.int I),(.ak (.sl 4)),(.ak (.sl 108)),(.ak (.sl 108)),(.ak (.sl 101)),(.ak (.sl 139)),(.int I)] .any
  (.aI (.cmp .neq (.v (14+d)) (.c 0))
  (UE (d+1) (.ret (.bH [(.ak (.k (.slice Z 0 0))),(.int I (.v (14+d)))]) [] []))
  (.aQ (.c J)
   (.new 0 (.lit [[(.int I (.v (13+d))),(.ak (.v (22+5*d))),(.ak (.v (23+5*d))),(.ak (.v (24+5*d))),(.ak (.v (25+5*d))),(.ak (.v (26+5*d)))]]) [] []
   (.aQ (.and (.cmp .leq (.len (.v (16+3*d))) (.c 536870912)) (.cmp .leq (.len (.v (27+5*d))) (.c 536870912)))
   (.new 0 (.iB (.ak (.v (16+3*d))) (.ak (.v (27+5*d)))) [] []
   (UE (d+1) (.back (2+d) [(.int I (.bin .add I (.v (12+d)) (.c 1))),(.ak (.v (28+5*d))),(.ak (.v (17+3*d)))]))))))))
def UF(d:Nat):Nat->Nat->T
 |0,_=>acT d
 |j+1,m=>.aQ (.c J)
  (.new 0 (.lit [I1 j]) [] []
  (.aQ (.and (.cmp .leq (.len (.v (19+3*d+2*m))) (.c 536870912)) (.cmp .leq (.len (.v (18+3*d+2*m))) (.c 536870912)))
  (.new 0 (.iB (.ak (.v (19+3*d+2*m))) (.ak (.v (18+3*d+2*m)))) [] []
  (UF d j (m+1)))))
def acI:Nat->List C
 |0=>[(.int I (.c 0)),(.ak (.k (.slice Z 0 0))),(.ak (.v 15))]|d+1=>[(.int I (.c 0)),(.ak (.v (16+3*d))),(.ak (.v (17+3*d)))]
def acE:Nat->T
 |0=>.ret (.bH [(.ak (.v 16)),(.int I (.c 0))]) [] []|d+1=>.back (2+d) [(.int I (.bin .add I (.v (12+d)) (.c 1))),(.ak (.v (19+3*d))),(.ak (.v (20+3*d)))]
def acL:Nat->Nat->T
 |0,d=>.loop (2+d) [] (acI d) (.stuck "fuel")
 |n+1,d=>.loop (2+d) [] (acI d)
  (.aI (.cmp .lss (.v (12+d)) (.len (.cell (.v (vl d)) (.c 0) 0 (.sl 108))))
   (.aQ (.and (.cmp .leq (.c 0) (.v (12+d))) (.cmp .lss (.v (12+d)) (.len (.cell (.v (vl d)) (.c 0) 0 (.sl 108)))))
   (.aQ (.and (.cmp .leq (.c 0) (.v (12+d))) (.cmp .lss (.v (12+d)) (.len (.cell (.v (vl d)) (.c 0) 0 (.sl 108)))))
   (.aQ (.cmp .leq (.c 1) (.len (.v (vl d))))
   (.new 0 (.sub (.ak (.v (vl d))) (.c 1) (.len (.v (vl d)))) [] []
   (.aI (.cmp .eql (.len (.v (18+3*d))) (.c 0))
   (.aQ (.c J)
   (.new 0 (.lit [I1 d]) [] []
   (.aQ (.cmp .leq (.len (.v (19+3*d))) (.c 536870912))
   (.new 0 (.iB (.ak (.v (19+3*d))) (.lit [])) [] []
   (UF d d 1)))))
   (.aQ (.cmp .lss (.c 0) (.len (.v (18+3*d))))
   (.aQ (.cmp .lss (.c 0) (.len (.v (18+3*d))))
   (acL n (d+1)))))))))
   (acE d))
def ajk:T:=(.call 47 [(.agg [(.int I (.v 0)),(.int I (.v 1)),(.int I (.v 2)),(.int I (.v 3)),(.int I (.v 4)),(.ak (.v 0)),(.int I (.v 5)),(.ak (.v 1)),(.ak (.v 2)),(.ak (.v 3)),(.ak (.v 4)),(.ak (.v 5)),(.ak (.v 6)),(.ak (.v 7)),(.ak (.v 8)),(.ak (.v 9))]),(.agg [(.ak (.v 10)),(.int I (.v 6)),(.ak (.v 11)),(.ak (.v 12)),(.bool (.v 0))]),(.int I (.v 7))] [] [] [.int I] .any (.aI (.cmp .neq (.v 8) (.c 0)) (.ret (.bH [(.ak (.k (.slice Z 0 0))),(.int I (.v 8))]) [] []) (.loop 0 [] [(.int I (.c 0)),(.int I (.c 1))] (.aI (.cmp .lss (.v 9) (.len (.v 11))) (.aQ (.and (.cmp .leq (.c 0) (.v 9)) (.cmp .lss (.v 9) (.len (.v 11)))) (.aQ (.and (.cmp .leq (.c 0) (.v 9)) (.cmp .lss (.v 9) (.len (.v 11)))) (.aI (.cmp .gtr (.bin .mul I (.v 10) (.len (.cell (.v 11) (.v 9) 0 (.sl 108)))) (.c 256)) (.ret (.bH [(.ak (.k (.slice Z 0 0))),(.int I (.c 2))]) [] []) (.back 0 [(.int I (.bin .add I (.v 9) (.c 1))),(.int I (.bin .mul I (.v 10) (.len (.cell (.v 11) (.v 9) 0 (.sl 108)))))])))) (.call 48 [(.agg [(.int I (.v 0)),(.int I (.v 1)),(.int I (.v 2)),(.int I (.v 3)),(.int I (.v 4)),(.ak (.v 0)),(.int I (.v 5)),(.ak (.v 1)),(.ak (.v 2)),(.ak (.v 3)),(.ak (.v 4)),(.ak (.v 5)),(.ak (.v 6)),(.ak (.v 7)),(.ak (.v 8)),(.ak (.v 9))]),(.agg [(.ak (.v 10)),(.int I (.v 6)),(.ak (.v 11)),(.ak (.v 12)),(.bool (.v 0))]),(.int I (.v 7))] [] [] [.ak (.sl 4)] .any (.aQ (.and (.cmp .leq (.c 0) (.len (.v 13))) (.cmp .leq (.len (.v 13)) (.c 536870912))) (.new 0 (.xt (.len (.v 13)) [(.ak (.k (.slice Z 0 0)))]) [] [] (.loop 1 [] [(.int I (.c 0)),(.ak (.v 14))] (.aI (.cmp .lss (.v 11) (.len (.v 13))) (.aQ (.and (.cmp .leq (.c 0) (.v 11)) (.cmp .lss (.v 11) (.len (.v 13)))) (.aQ (.and (.cmp .leq (.c 0) (.v 11)) (.cmp .lss (.v 11) (.len (.v 13)))) (.aI (.cell (.v 13) (.v 11) 0) (.aQ (.and (.cmp .leq (.c 0) (.len (.v 10))) (.cmp .lss (.len (.v 10)) (.len (.v 8)))) (.aQ (.and (.cmp .leq (.c 0) (.len (.v 10))) (.cmp .lss (.len (.v 10)) (.len (.v 8)))) (.aQ (.and (.cmp .leq (.c 0) (.bin .sub I (.v 7) (.c 1))) (.cmp .lss (.bin .sub I (.v 7) (.c 1)) (.len (.cell (.v 8) (.len (.v 10)) 0 (.sl 100))))) (.aQ (.and (.cmp .leq (.c 0) (.bin .sub I (.v 7) (.c 1))) (.cmp .lss (.bin .sub I (.v 7) (.c 1)) (.len (.cell (.v 8) (.len (.v 10)) 0 (.sl 100))))) (.aQ (.and (.cmp .leq (.c 0) (.v 11)) (.cmp .lss (.v 11) (.len (.cell (.cell (.v 8) (.len (.v 10)) 0 (.sl 100)) (.bin .sub I (.v 7) (.c 1)) 1 (.sl 101))))) (.aQ (.and (.cmp .leq (.c 0) (.v 11)) (.cmp .lss (.v 11) (.len (.cell (.cell (.v 8) (.len (.v 10)) 0 (.sl 100)) (.bin .sub I (.v 7) (.c 1)) 1 (.sl 101))))) (.aQ (.and (.cmp .leq (.c 0) (.v 11)) (.cmp .lss (.v 11) (.len (.v 15)))) (.aQ (.and (.cmp .leq (.c 0) (.v 11)) (.cmp .lss (.v 11) (.len (.v 15)))) (.new 0 (.set (.ak (.v 15)) (.v 11) 0 [(.ak (.cell (.cell (.cell (.v 8) (.len (.v 10)) 0 (.sl 100)) (.bin .sub I (.v 7) (.c 1)) 1 (.sl 101)) (.v 11) 0 (.sl 96)))]) [] [] (.back 1 [(.int I (.bin .add I (.v 11) (.c 1))),(.ak (.v 16))])))))))))) (.back 1 [(.int I (.bin .add I (.v 11) (.c 1))),(.ak (.v 15))])))) (.aI (.cmp .eql (.len (.v 11)) (.c 0)) (.call 55 [(.agg [(.int I (.v 0)),(.int I (.v 1)),(.int I (.v 2)),(.int I (.v 3)),(.int I (.v 4)),(.ak (.v 0)),(.int I (.v 5)),(.ak (.v 1)),(.ak (.v 2)),(.ak (.v 3)),(.ak (.v 4)),(.ak (.v 5)),(.ak (.v 6)),(.ak (.v 7)),(.ak (.v 8)),(.ak (.v 9))]),(.int I (.v 6))] [] [] [.ak (.sl 85)] .any (.call 54 [(.agg [(.int I (.v 0)),(.int I (.v 1)),(.int I (.v 2)),(.int I (.v 3)),(.int I (.v 4)),(.ak (.v 0)),(.int I (.v 5)),(.ak (.v 1)),(.ak (.v 2)),(.ak (.v 3)),(.ak (.v 4))]),(.agg [(.ak (.v 5))]),(.ak (.v 16)),(.int I (.len (.v 10))),(.ak (.v 13)),(.ak (.k (.slice Z 0 0))),(.ak (.v 15))] [] [] [.int I,.ak (.sl 4),.ak (.sl 108),.ak (.sl 108),.ak (.sl 101),.ak (.sl 139),.int I] .any (.aI (.cmp .neq (.v 13) (.c 0)) (.ret (.bH [(.ak (.k (.slice Z 0 0))),(.int I (.v 13))]) [] []) (.aQ (.c J) (.new 0 (.lit [[(.int I (.v 12)),(.ak (.v 17)),(.ak (.v 18)),(.ak (.v 19)),(.ak (.v 20)),(.ak (.v 21))]]) [] [] (.aQ (.cmp .leq (.len (.v 22)) (.c 536870912)) (.new 0 (.iB (.lit []) (.ak (.v 22))) [] [] (.ret (.bH [(.ak (.v 23)),(.int I (.c 0))]) [] [])))))))) (.aQ (.cmp .lss (.c 0) (.len (.v 11))) (.aQ (.cmp .lss (.c 0) (.len (.v 11))) (acL 12 0)))))))))))))
section
def eQ(a b c d:Int):Bool:=decide (-1099511627776<=a)&&decide (a<=1099511627776)&&decide (-1099511627776<=b)&&decide (b<=1099511627776)&&decide (-1099511627776<=c)&&decide (c<=1099511627776)&&decide (-1099511627776<=d)&&decide (d<=1099511627776)&&decide (a<=b)&&decide (c<=d)
def BM(a b c d X W V Q:Int):Bool:= !(decide (a<=W)&&decide (X<=b)&&decide (c<=Q)&&decide (V<=d))
def aa8:aZ->jR
 |[.i a,.i b,.i c,.i d,.i X,.i W,.i V,.i Q]=>U (.ret (if eQ a b c d&&eQ X W V Q then[.b (BM a b c d X W V Q),.i 0] else[.b E,.i 150]))|_=>Z
def I2:Nat->List UInt8->UInt8->Int
 |_,[],_=>-1|k,x::l,b=>if x==b then k else I2 (k+1) l b
def aa9:aZ->jR
 |[.r s,.i b]=>match s.val with|.string t=>U (.ret [.i (I2 0 t.toList (UInt8.ofNat b.toNat))])|_=>U (.ret [.i (-1)])
 |_=>Z
def LR:mw:=λf X=>if f=151 then aa8 X else if f=128 then aa9 X else Z
def I3:FuncId->Option Fn
 |61=>U ⟨T82,E,E⟩|63=>U ⟨T84,J,E⟩|46=>U ⟨ain,E,E⟩|138=>U ⟨aio,E,E⟩|139=>U ⟨aip,J,E⟩|274=>U ⟨aiq,J,E⟩|89=>U ⟨aaM,E,E⟩|127=>U ⟨aaN,E,E⟩|157=>U ⟨aaO,E,E⟩|280=>U ⟨air,E,E⟩|273=>U ⟨aaP,E,E⟩|156=>U ⟨aaQ,E,E⟩|106=>U ⟨aaR,E,E⟩|76=>U ⟨aaS,E,E⟩|99=>U ⟨T66,E,E⟩|70=>U ⟨T72,E,E⟩|67=>U ⟨T69,E,E⟩|98=>U ⟨aiv,E,E⟩|118=>U ⟨T24,E,E⟩|276=>U ⟨aix,E,E⟩|219=>U ⟨aiy,E,E⟩|88=>U ⟨aiz,E,E⟩|124=>U ⟨aiA,E,E⟩|125=>U ⟨aiB,E,E⟩|272=>U ⟨aiC,E,E⟩|255=>U ⟨aiD,E,E⟩|220=>U ⟨aiE,E,E⟩|68=>U ⟨T70,E,E⟩|100=>U ⟨T65,E,E⟩|58=>U ⟨T18,E,E⟩|40=>U ⟨T37,E,E⟩|110=>U ⟨T86,E,E⟩|111=>U ⟨T87,E,E⟩|112=>U ⟨T88,E,E⟩|146=>U ⟨aiJ,E,E⟩|176=>U ⟨aiK,E,E⟩|147=>U ⟨aiL,E,E⟩|184=>U ⟨aiM,E,E⟩|64=>U ⟨aiN,E,E⟩|73=>U ⟨T77,E,E⟩|107=>U ⟨aiP,E,E⟩|133=>U ⟨aiQ,E,E⟩|90=>U ⟨aiR,E,E⟩|43=>U ⟨T25,E,E⟩|74=>U ⟨aaT,E,E⟩|115=>U ⟨T27,E,E⟩|34=>U ⟨T74,E,E⟩|87=>U ⟨aiV,E,E⟩|62=>U ⟨T83,E,E⟩|41=>U ⟨T75,E,E⟩|71=>U ⟨T23,E,E⟩|45=>U ⟨UB,E,E⟩|113=>U ⟨T89,E,E⟩|171=>U ⟨aaW,E,E⟩|60=>U ⟨T81,E,J⟩|54=>U ⟨T13,E,J⟩|84=>U ⟨qb,E,J⟩|150=>U ⟨ai0,E,E⟩|145=>U ⟨BL,E,E⟩|114=>U ⟨T90,J,E⟩|148=>U ⟨fq,E,E⟩|174=>U ⟨ai2,E,E⟩|44=>U ⟨T63,E,E⟩|30=>U ⟨I0,E,E⟩|23=>U ⟨ai7,E,E⟩|15=>U ⟨aaX,E,J⟩|11=>U ⟨asO,E,E⟩|22=>U ⟨UD,E,E⟩|21=>U ⟨aa4,E,E⟩|28=>U ⟨aaY,E,E⟩|37=>U ⟨ajk,E,E⟩|26=>U ⟨ai8,E,J⟩|51=>U ⟨UC,E,E⟩|52=>U ⟨ai4,E,E⟩|27=>U ⟨asP,E,E⟩|55=>U ⟨ai9,E,E⟩|38=>U ⟨aja,E,E⟩|47=>U ⟨aaZ,E,E⟩|48=>U ⟨ajb,E,E⟩|42=>U ⟨ai6,E,E⟩|35=>U ⟨ai5,E,E⟩|6=>U ⟨asQ,E,E⟩|14=>U ⟨aa0,E,E⟩|12=>U ⟨aa1,E,E⟩|10=>U ⟨asR,E,E⟩|8=>U ⟨ajf,E,E⟩|13=>U ⟨asT,E,E⟩|31=>U ⟨ajc,E,E⟩|16=>U ⟨aa2,E,E⟩|29=>U ⟨ajd,E,E⟩|25=>U ⟨asS,E,E⟩|20=>U ⟨aje,E,E⟩|308=>U ⟨aa3,E,J⟩|4=>U ⟨aji,E,E⟩|7=>U ⟨ajh,E,E⟩|9=>U ⟨ajg,E,E⟩|_=>Z
def TB:lN:=⟨I3,LR⟩
def gW(p:FuncId->aZ->aX->Prop)(R:aX->Prop)(f:FuncId)(W:aZ)(V:aL)(t:T)(O:aj)(L:ck):Prop:=∃o,p f W o/\(match o with|.ret X=>fA V X=J/\t.wp p R (O.ext X) L|.bp v=>R (.bp v))
def ik(p:FuncId->aZ->aX->Prop)(R:aX->Prop)(o:aX)(W:aL)(t:T)(O:aj)(L:ck):Prop:=match o with|.ret X=>fA W X=J/\t.wp p R (O.ext X) L|.bp v=>R (.bp v)
def I4(c:Option PC)(X:aZ):Prop:=match c with|U c=>c.I X/\c.μ X<c.m|none=>False
section
variable{p:FuncId->aZ->aX->Prop}{R:aX->Prop}{O:aj}{L:ck}
def aAZ{X W:aZ}{Q:aL}{t:T}(h:X=W):gW p R V X Q t O L=gW p R V W Q t O L:=by rw[h]
def aA0{o X:aX}{W:aL}{t:T}(h:o=X):ik p R o W t O L=ik p R X W t O L:=by rw[h]
def aA1{t:T}{X:aj}(h:O=X):T.wp p R t O L=T.wp p R t X L:=by rw[h]
def Qj(b:BE)(t f:T):T.wp p R (.aI b t f) O L=(if b.ai O=J then t.wp p R O L else f.wp p R O L):=by
 grind [T.wp,T.nR]
def yJ(b:BE)(t:T):T.wp p R (.aQ b t) O L=(b.ai O=J/\t.wp p R O L):=by simp only[T.wp,T.nR]
def UG(v:C)(X:bm)(W:bo):T.wp p R (.ret v X W) O L=R (.ret ((zE v).map (C.xv O))):=by simp only[T.wp,T.nR]
def ajl(f:FuncId)(X:aq)(V:bm)(Q:bo)(W:aL)(fz:C)(t:T):T.wp p R (.call f X V Q W fz t) O L=gW p R f ((rq X).map (C.xv O)) W t O L:=by simp only[T.wp,T.nR,gW];rfl
def I5(e:TypeId)(x:LE)(X W:bo)(t:T):T.wp p R (.new e x X W t) O L=t.wp p R (O.add (.r (gt x O))) L:=by simp only[T.wp,T.nR]
def aA2(k:RK)(x:LE)(X:bo)(t:T):T.wp p R (.ah k x X t) O L=t.wp p R (O.add (.r (gt x O))) L:=by simp only[T.wp,T.nR]
def ajm(X:aZ)(W:aL)(t:T):ik p R (.ret X) W t O L=(fA W X=J/\t.wp p R (O.ext X) L):=rfl
def aA3(v:Value)(X:aL)(t:T):ik p R (.bp v) X t O L=R (.bp v):=rfl
def ajn(ax:Nat)(x:aq):T.wp p R (.back ax x) O L=I4 (C0 ax L) (x.map (C.xv O)):=by
 grind [T.wp,T.nR,I4]
def BN(c:PC)(X:aZ):I4 (U c) X=(c.I X/\c.μ X<c.m):=rfl
def Gj(g h:BE)(t f:T):T.wp p R (.gq g h t f) O L=((g.ai O=J\/h.ai O=J)/\(g.ai O=J->t.wp p R O L)/\(h.ai O=J->f.wp p R O L)/\(g.ai O=J->h.ai O=J->KG R)):=rfl
def aA4(f g:FuncId)(e:TypeId)(X:bu)(W:Bool)(r:RE)(Q:bo)(t:T):T.wp p R (.eE f g e X W r Q t) O L=(∃V,oI O X W (r.rv O).ah=U V/\t.wp p R (O.add (.r (.mk (r.rv O).val V))) L):=rfl
def yK(f g:FuncId)(e:TypeId)(X:ar)(d:Bool)(W:Bool)(r:RE)(Q:bo)(t:T):T.wp p R (.eE f g e (.lex X d) W r Q t) O L=(∃V,ip (.lex X d) W (r.rv O).ah=U V/\t.wp p R (O.add (.r (.mk (r.rv O).val V))) L):=rfl
def Gk(f g:FuncId)(e:TypeId)(n d:Nat)(X:Bool)(r:RE)(V:bo)(t:T):T.wp p R (.eE f g e (.ratio n d) X r V t) O L=(∃W,ip (.ratio n d) X (r.rv O).ah=U W/\t.wp p R (O.add (.r (.mk (r.rv O).val W))) L):=rfl
def asU(n:K)(g h:BE)(t f:T):T.wp p R (.pick n g h t f) O L=(KG R/\xQ n g h O≠[]/\(∀j:Int,0<=j->j<n.ai O->g.ai (O.add (.i j))=J->t.wp p R (O.add (.i j)) L)/\(h.ai O=J->f.wp p R O L)):=rfl
def As{N:aL}{P:aq}{t:T}(X:aZ->Prop)(V:aZ->Nat)(M:X (P.map (C.xv O)))(h:∀Q,X Q->t.wp p R (O.ext Q) (⟨W,X,V,V Q⟩::L)):T.wp p R (.loop W N P t) O L:=by
 simp only[T.wp,T.nR];exact⟨R,L,.inl ⟨rfl,rfl⟩,X,V,M,h⟩
def asV{M:aL}{N:aq}{t:T}(V:aX->Prop)(H:∀o,V o->R o)(X:aZ->Prop)(Q:aZ->Nat)(G:X (N.map (C.xv O)))(h:∀P,X P->t.wp p V (O.ext P) [⟨W,X,Q,Q P⟩]):T.wp p R (.loop W M N t) O L:=by
 simp only[T.wp,T.nR];exact⟨V,[],.inr ⟨H,rfl⟩,X,Q,G,h⟩
end
def aY{X:lN}{R:aX->Prop}{Q:aZ}{P:aL}{t:T}{O:aj}{L:ck}{o:aX}(h:X.Ev V Q o):gW X.Ev R V Q P t O L=ik X.Ev R o P t O L:=by
 refine propext ⟨λ⟨M,N,W⟩=> ?_,λW=>⟨o,h,W⟩⟩;rw[N9 h N];exact W
attribute[congr] aAZ aA0 aA1
def has{X:Fn}(h:I3 V=U X)(W:V≠151)(Q:V≠128):N8 TB V X:=⟨h,λP=>by simp[TB,LR,W,Q]⟩
def single{o:aX}(h:Bf o o=J):KG (· =o):=λa b X W=>by subst X;exact⟨W.symm,h⟩
def evo{X:Fn}{Q:aZ}{o:aX}(P:I3 V=U X)(W:(V !=151&&V !=128)=J)(N:X.d=E\/∀v,o≠ .bp v)(h:X.t.wp TB.Ev (· =o) (dF (mz X.g) Q) []):TB.Ev V Q o:=by
 simp at W;exact KH (has P W.1 W.2) N h
def Qk{X:Fn}{Q:aZ}{R:aX->Prop}(P:I3 V=U X)(W:(V !=151&&V !=128)=J)(N:X.d=E\/∀v,¬R (.bp v))(h:X.t.wp TB.Ev R (dF (mz X.g) Q) []):∃o,TB.Ev V Q o/\R o:=by
 simp at W;exact apW (has P W.1 W.2) N h
def ki{X:Fn}{W:aZ}{o:aX}(h:X.t.wp TB.Ev (· =o) (dF (mz X.g) W) [])(Q:I3 V=U X:=by exact rfl)(P:(V !=151&&V !=128)=true:=by exact rfl)(N:X.d=false:=by exact rfl):TB.Ev V W o:=evo Q P (.inl N) h
def eJ{X:Fn}{W:aZ}{R:aX->Prop}(h:X.t.wp TB.Ev R (dF (mz X.g) W) [])(Q:I3 V=U X:=by exact rfl)(P:(V !=151&&V !=128)=true:=by exact rfl)(N:X.d=false:=by exact rfl):∃o,TB.Ev V W o/\R o:=Qk Q P (.inl N) h
end
section
attribute[simp] K.ai BE.ai RE.rv RE.ai fj aj.rv dF aj.ext aj.add rq zE S3 C.xv mz C0 fA ae5 Qj yJ UG ajl I5 aA2 ajm aA3 ajn
def out(f:FuncId)(X:aZ):aZ:=by classical exact if h:∃W,TB.Ev f X (.ret W) then h.choose else[]
def xi(X:aZ)(k:Nat):Int:=match X.getD k (.i 0) with|.i n=>n|_=>0
def xb(X:aZ)(k:Nat):Bool:=match X.getD k (.i 0) with|.b x=>x|_=>E
def xr(X:aZ)(k:Nat):RV:=match X.getD k (.i 0) with|.r x=>x|_=>default
def oi(f:FuncId)(X:aZ)(k:Nat):Int:=xi (out f X) k
def ob(f:FuncId)(X:aZ)(k:Nat):Bool:=xb (out f X) k
def or(f:FuncId)(X:aZ)(k:Nat):RV:=xr (out f X) k
theorem DW{W X:aZ}(h:TB.Ev V W (.ret X)):out V W=X:=by
 have Q:∃X,TB.Ev V W (.ret X):=⟨X,h⟩;have:out V W=Q.choose:=by unfold out;rw[dif_pos Q]
 rw[this];have:=N9 Q.choose_spec h
 grind
def aA5{X:aZ}{P:aZ->Prop}(h:∃o,TB.Ev V X o/\∃W,o=.ret W/\P W):TB.Ev V X (.ret (out V X))/\P (out V X):=by
 grind [DW]
def tZ(X:aZ):aL->Nat->aZ
 |[],_=>[]|.int _::G,n=>.i (xi X n)::tZ X G (n+1)|.bool::G,n=>.b (xb X n)::tZ X G (n+1)|.ak _::G,n=>.r (xr X n)::tZ X G (n+1)
def asW(W:aZ):∀(G:aL)(X:aZ),fA G X=J->tZ (W++X) G (Y W)=X
 |[],[],_=>rfl|[],_::_,h=>by simp at h|k::G,[],h=>by cases k<;>simp at h
 |k::G,y::X,h=>by
  have V:=asW (W++[y]) G X;simp only[fA,aC] at h;have V:=V h.2;simp only[Ce,List.singleton_append,f9,ace] at V;have Q:(W++y::X).getD (Y W) (.i 0)=y:=by simp[List.getD]
  cases k<;>cases y<;>simp at h<;>simp only[tZ,V,xi,xb,xr,Q]
def shp{X:aZ}(G:aL){P:aZ->Prop}(h:∃o,TB.Ev V X o/\∃W,o=.ret W/\fA G W=J/\P W):TB.Ev V X (.ret (tZ (out V X) G 0))/\P (out V X):=by
 obtain⟨N,Q,M⟩:=aA5 h;rw[show tZ (out V X) G 0=out V X from asW [] G _ Q]
 grind
def jh(n X W:Int):Bool:=decide (X<=n)&&decide (n<=W)
@[simp] def aJo (n X W:Int):jh n X W=J<->X<=n/\n<=W:=by simp[jh]
def DX(a b:Int):Int:=if a<b then-1 else if b<a then 1 else 0
def abb(a b c d:Int):Int:=if mo a b&&mo c d then DX (IntKind.i64.wrap (a*d)) (IntKind.i64.wrap (c*b)) else 0
def Gl:FuncId->Option Fn
 |89=>U ⟨aaM,E,E⟩|127=>U ⟨aaN,E,E⟩|157=>U ⟨aaO,E,E⟩|156=>U ⟨aaQ,E,E⟩|106=>U ⟨aaR,E,E⟩|76=>U ⟨aaS,E,E⟩|_=>Z
section
variable{p:lN}(H:∀f fn,Gl f=U fn->N8 p f fn)
include H
def aA7(a b:Nat):p.Ev 156 [.i a,.i b] (.ret [.i (aco a b)]):=by
 refine KH (H _ _ rfl) (.inl rfl) ?_;simp[aaQ];split
 grind
 rename_i V;refine As (λX=>∃d x y:Nat,X=[.i d,.i x,.i y]/\y≠0/\aco x y=aco a b/\(x=0->d=aco a b)) (λX=>(xi X 2).toNat) ⟨b,a,b,aw,V,rfl,λW=>by subst W;simp⟩ ?_;rintro X ⟨d,x,y,rfl,Q,P,W⟩;have N:max (y:Int) 1=y:=ae;have M:be .rem .u64 (x:Int) (y:Int)=((x%y:Nat):Int):=by
  grind [be,Int.tmod_eq_emod_of_nonneg]
 simp[xi,N,M,BN];split;omega;refine⟨ae, ?_⟩;split;rename_i F;rw[<-P,Nat.gcd_comm,Nat.gcd_rec,show x%y=0 from ae];simp;refine⟨⟨x,y,x%y,⟨rfl,rfl,ae⟩,ae, ?_,λG=>bF G Q⟩, ?_⟩
 grind [Nat.gcd_comm,Nat.gcd_rec]
 have:=Q0 x (show 0<y from ae);omega
def aA8(n:Int)(X:-1073741824<=n)(W:n<=1073741824):p.Ev 157 [.i n] (.ret [.i n.natAbs]):=by
 refine KH (H _ _ rfl) (.inl rfl) ?_;simp[aaO,be];have V:∀x:Int,IntKind.u64.wrap x=x%18446744073709551616:=λx=>rfl
 grind
def asX(n:Int):p.Ev 76 [.i n] (.ret [.b E]):=by
 refine KH (H _ _ rfl) (.inl rfl) ?_;simp[aaS]
def ajo(a b:Int):p.Ev 106 [.i a,.i b] (.ret [.i (DX a b)]):=by
 refine KH (H _ _ rfl) (.inl rfl) ?_;simp[aaR,DX,aY (asX H _)]
 grind
def asY(n d:Int):p.Ev 127 [.i n,.i d] (.ret [.i (if mo n d then 0 else 120)]):=by
 refine KH (H _ _ rfl) (.inl rfl) ?_;simp[aaN]
 repeat' split
 any_goals(simp[mo];omega)
 all_goals
  rw[aY (aA8 H n ae ae)];have X:IntKind.u64.wrap d=(d.toNat:Int):=by
   have:IntKind.u64.wrap d=d%18446744073709551616:=rfl;omega
  have W:max d 0=(d.toNat:Int):=ae;simp[X];rw[W,aY (aA7 H n.natAbs d.toNat)];simp[mo] at*;omega
def asZ(a b c d:Int):p.Ev 89 [.i a,.i b,.i c,.i d] (.ret [.i (abb a b c d),.i (if mo a b&&mo c d then 0 else 120)]):=by
 refine KH (H _ _ rfl) (.inl rfl) ?_;simp[aaM,abb,be,aY (asY H _ _),aY (ajo H _ _)]
 grind
end
def hTB(f:FuncId)(fn:Fn)(h:Gl f=U fn):N8 TB f fn:=by
 unfold Gl at h;split at h<;>cases h<;>exact has rfl ew ew
section
variable{R:aX->Prop}{G:aL}{t:T}{O:aj}{L:ck}
def e82(n X W:Int):TB.Ev 61 [.i n,.i X,.i W] (.ret [.b (jh n X W)]):=by
 refine ki ?_;simp[T82,jh]
 grind
@[simp] def c82 (n X W:Int):gW TB.Ev R 61 [.i n,.i X,.i W] G t O L=ik TB.Ev R (.ret [.b (jh n X W)]) G t O L:=aY (e82 n X W)
def aBa(n X W:Int):TB.Ev 46 [.i n,.i X,.i W] (.ret [.b (jh n X W)]):=by
 refine ki ?_;simp[ain,jh]
 grind
@[simp] def aJq (n X W:Int):gW TB.Ev R 46 [.i n,.i X,.i W] G t O L=ik TB.Ev R (.ret [.b (jh n X W)]) G t O L:=aY (aBa n X W)
def aBb(n X W:Int):TB.Ev 124 [.i n,.i X,.i W] (.ret [.b (jh n X W)]):=by
 refine ki ?_;simp[aiA,jh]
 grind
@[simp] def aJr (n X W:Int):gW TB.Ev R 124 [.i n,.i X,.i W] G t O L=ik TB.Ev R (.ret [.b (jh n X W)]) G t O L:=aY (aBb n X W)
def e70(n X W:Int):TB.Ev 68 [.i n,.i X,.i W] (.ret [.b (jh n X W)]):=by
 refine ki ?_;simp[T70,jh]
 grind
@[simp] def c70 (n X W:Int):gW TB.Ev R 68 [.i n,.i X,.i W] G t O L=ik TB.Ev R (.ret [.b (jh n X W)]) G t O L:=aY (e70 n X W)
def aBd(n X W:Int):TB.Ev 133 [.i n,.i X,.i W] (.ret [.b (jh n X W)]):=by
 refine ki ?_;simp[aiQ,jh]
 grind
@[simp] def aJt (n X W:Int):gW TB.Ev R 133 [.i n,.i X,.i W] G t O L=ik TB.Ev R (.ret [.b (jh n X W)]) G t O L:=aY (aBd n X W)
def Gm(n:Int)(u:Bool)(X W:Int):Bool:=if u then jh n X W else n==0
def aBe(n X W:Int)(u:Bool):TB.Ev 88 [.i n,.b u,.i X,.i W] (.ret [.b (Gm n u X W)]):=by
 refine ki ?_;simp[aiz,Gm]
 grind
@[simp] def aJu (n X W:Int) (u:Bool):gW TB.Ev R 88 [.i n,.b u,.i X,.i W] G t O L=ik TB.Ev R (.ret [.b (Gm n u X W)]) G t O L:=aY (aBe n X W u)
@[simp] def aJv (n:Int):gW TB.Ev R 76 [.i n] G t O L=ik TB.Ev R (.ret [.b E]) G t O L:=aY (asX hTB n)
@[simp] def aJw (a b:Int):gW TB.Ev R 106 [.i a,.i b] G t O L=ik TB.Ev R (.ret [.i (DX a b)]) G t O L:=aY (ajo hTB a b)
@[simp] def aJx (n d:Int):gW TB.Ev R 127 [.i n,.i d] G t O L=ik TB.Ev R (.ret [.i (if mo n d then 0 else 120)]) G t O L:=aY (asY hTB n d)
@[simp] def aJy (a b c d:Int):gW TB.Ev R 89 [.i a,.i b,.i c,.i d] G t O L=ik TB.Ev R (.ret [.i (abb a b c d),.i (if mo a b&&mo c d then 0 else 120)]) G t O L:=aY (asZ hTB a b c d)
def e66(a b c d:Int):TB.Ev 99 [.i a,.i b,.i c,.i d] (.ret [.b (eQ a b c d)]):=by
 refine ki ?_;simp[T66,eQ]
 grind
@[simp] def c66 (a b c d:Int):gW TB.Ev R 99 [.i a,.i b,.i c,.i d] G t O L=ik TB.Ev R (.ret [.b (eQ a b c d)]) G t O L:=aY (e66 a b c d)
def jn(X:Bool)(x:Int):Int:=if X then x else 0
def e72(a b c d X W V Q:Int):TB.Ev 70 [.i a,.i b,.i c,.i d,.i X,.i W,.i V,.i Q] (.ret [.i (jn (eQ a b c d&&eQ X W V Q) (min a X)),.i (jn (eQ a b c d&&eQ X W V Q) (max b W)),.i (jn (eQ a b c d&&eQ X W V Q) (min c V)),.i (jn (eQ a b c d&&eQ X W V Q) (max d Q)),.i (if eQ a b c d&&eQ X W V Q then 0 else 150)]):=by
 refine ki ?_;simp[T72,jn]
 grind
@[simp] def c72 (a b c d X W V Q:Int):gW TB.Ev R 70 [.i a,.i b,.i c,.i d,.i X,.i W,.i V,.i Q] G t O L=ik TB.Ev R (.ret [.i (jn (eQ a b c d&&eQ X W V Q) (min a X)),.i (jn (eQ a b c d&&eQ X W V Q) (max b W)),.i (jn (eQ a b c d&&eQ X W V Q) (min c V)),.i (jn (eQ a b c d&&eQ X W V Q) (max d Q)),.i (if eQ a b c d&&eQ X W V Q then 0 else 150)]) G t O L:=aY (e72 a b c d X W V Q)
def e69(a b c d:Int):TB.Ev 67 [.i a,.i b,.i c,.i d] (.ret [.b (eQ a b c d)]):=by
 refine ki ?_;simp[T69]
 grind
@[simp] def c69 (a b c d:Int):gW TB.Ev R 67 [.i a,.i b,.i c,.i d] G t O L=ik TB.Ev R (.ret [.b (eQ a b c d)]) G t O L:=aY (e69 a b c d)
def I6(a b c d X W V Q:Int):Bool:=decide (X<=a)&&decide (b<=W)&&decide (V<=c)&&decide (d<=Q)
def e24(a b c d X W V Q:Int):TB.Ev 118 [.i a,.i b,.i c,.i d,.i X,.i W,.i V,.i Q] (.ret [.b (eQ a b c d&&eQ X W V Q&&I6 a b c d X W V Q),.i (if eQ a b c d&&eQ X W V Q then 0 else 150)]):=by
 refine ki ?_;simp[T24,I6]
 grind
@[simp] def c24 (a b c d X W V Q:Int):gW TB.Ev R 118 [.i a,.i b,.i c,.i d,.i X,.i W,.i V,.i Q] G t O L=ik TB.Ev R (.ret [.b (eQ a b c d&&eQ X W V Q&&I6 a b c d X W V Q),.i (if eQ a b c d&&eQ X W V Q then 0 else 150)]) G t O L:=aY (e24 a b c d X W V Q)
def e26(a b c d X W V Q:Int):TB.Ev 151 [.i a,.i b,.i c,.i d,.i X,.i W,.i V,.i Q] (.ret [.b (eQ a b c d&&eQ X W V Q&&BM a b c d X W V Q),.i (if eQ a b c d&&eQ X W V Q then 0 else 150)]):=by
 refine afD ?_;simp only[TB,LR,aa8,dO]
 grind
@[simp] def c26 (a b c d X W V Q:Int):gW TB.Ev R 151 [.i a,.i b,.i c,.i d,.i X,.i W,.i V,.i Q] G t O L=ik TB.Ev R (.ret [.b (eQ a b c d&&eQ X W V Q&&BM a b c d X W V Q),.i (if eQ a b c d&&eQ X W V Q then 0 else 150)]) G t O L:=aY (e26 a b c d X W V Q)
def aBk(a b c d X W V Q:Int):TB.Ev 184 [.i a,.i b,.i c,.i d,.i X,.i W,.i V,.i Q] (.ret [.b (!(eQ a b c d&&eQ X W V Q&&BM a b c d X W V Q))]):=by
 refine ki ?_;simp[aiM]
@[simp] def aJE (a b c d X W V Q:Int):gW TB.Ev R 184 [.i a,.i b,.i c,.i d,.i X,.i W,.i V,.i Q] G t O L=ik TB.Ev R (.ret [.b (!(eQ a b c d&&eQ X W V Q&&BM a b c d X W V Q))]) G t O L:=aY (aBk a b c d X W V Q)
def BO(a b c d x y:Int):Int:=if !eQ a b c d then 150 else if !(decide (-2199023255552<=x)&&decide (x<=2199023255552)&&decide (-2199023255552<=y)&&decide (y<=2199023255552)) then 2 else if eQ (IntKind.i64.wrap (a+x)) (IntKind.i64.wrap (b+x)) (IntKind.i64.wrap (c+y)) (IntKind.i64.wrap (d+y)) then 0 else 2
def aBl(a b c d x y:Int):TB.Ev 98 [.i a,.i b,.i c,.i d,.i x,.i y] (.ret [.i (jn (BO a b c d x y==0) (IntKind.i64.wrap (a+x))),.i (jn (BO a b c d x y==0) (IntKind.i64.wrap (b+x))),.i (jn (BO a b c d x y==0) (IntKind.i64.wrap (c+y))),.i (jn (BO a b c d x y==0) (IntKind.i64.wrap (d+y))),.i (BO a b c d x y)]):=by
 refine ki ?_;simp[aiv,jn,be]
 grind [BO]
@[simp] def aJF (a b c d x y:Int):gW TB.Ev R 98 [.i a,.i b,.i c,.i d,.i x,.i y] G t O L=ik TB.Ev R (.ret [.i (jn (BO a b c d x y==0) (IntKind.i64.wrap (a+x))),.i (jn (BO a b c d x y==0) (IntKind.i64.wrap (b+x))),.i (jn (BO a b c d x y==0) (IntKind.i64.wrap (c+y))),.i (jn (BO a b c d x y==0) (IntKind.i64.wrap (d+y))),.i (BO a b c d x y)]) G t O L:=aY (aBl a b c d x y)
end
structure Sl(v:RV):Prop where
 sl:∃a n c,v.val=.slice a n c
 len:lenOf v.val=Y v.ah
 sm:Y v.ah<=140737488355328
def ci(v:RV)(i j:Nat):Int:=bn (aN v.ah i j).val
def cb(v:RV)(i j:Nat):Bool:=jp (aN v.ah i j).val
def DY(n:Nat)(X:Nat->aZ->Prop):aZ->Prop
 |.i j::W=>∃i:Nat,j=i/\i<=n/\X i W|_=>False
def BP(n:Nat):aZ->Nat
 |.i j::_=>n-j.toNat|_=>0
section
variable{e:FuncId->aZ->aX->Prop}{R:aX->Prop}{O:aj}{L:ck}
def bQ{G:aL}{P:aq}{t:T}(n:Nat)(X:Nat->aZ->Prop)(N:DY n X (P.map (C.xv O)))(h:∀(i:Nat) V,i<=n->X i V->t.wp e R (O.ext (.i i::V)) (⟨W,DY n X,BP n,n-i⟩::L)):T.wp e R (.loop W G P t) O L:=by
 refine As (DY n X) (BP n) N λM Q=> ?_
 match M,Q with
 |.i j::V,Q=>
  obtain⟨i,rfl,F,D⟩:=Q
  grind [BP]
theorem i8{n:Int}(X:-9223372036854775808<=n)(W:n<9223372036854775808):IntKind.i64.wrap n=n:=by
 rw[IntKind.wrap_i64];omega
def wX{i:Nat}(h:i<=140737488355328):be .add I (i:Int) 1=((i+1:Nat):Int):=by
 grind [be,i8]
theorem bC{n:Nat}{X:Nat->aZ->Prop}{i:Nat}{V:aZ}(Q:i<n)(P:n<=140737488355328):I4 (U ⟨W,DY n X,BP n,n-i⟩) (.i (be .add I (i:Int) 1)::V)=X (i+1) V:=by
 rw[wX ae];refine propext ⟨λh=> ?_,λh=>⟨⟨i+1,rfl,ae,h⟩, ?_⟩⟩;obtain⟨⟨k,N,_,h⟩,_⟩:=h
 grind
 simp only[BP];omega
end
end
inductive KX where
 |i
 |b
 |r
 deriving DecidableEq
def isTrue:BE->Bool
 |.c b=>b|_=>E
def I7{X:aZ}{P:Int->Prop}(h:∃o,TB.Ev V X o/\∃e,o=.ret [.i e]/\P e):TB.Ev V X (.ret [.i (oi V X 0)])/\P (oi V X 0):=by
 obtain⟨o,W,e,rfl,Q⟩:=h;have:oi V X 0=e:=by simp only[oi,DW W];rfl
 grind
def mkb{X:aZ}{P:Bool->Prop}(h:∃o,TB.Ev V X o/\∃e,o=.ret [.b e]/\P e):TB.Ev V X (.ret [.b (ob V X 0)])/\P (ob V X 0):=by
 obtain⟨o,W,e,rfl,Q⟩:=h;have:ob V X 0=e:=by simp only[ob,DW W];rfl
 grind
structure BQ(roles bars:Int)(c:Nat->Int):Prop where
 kind:1<=c 4/\c 4<=9
 bz:0<=c 1/\c 1<roles
 ao:0<=c 2/\c 2<bars
 mark:1<=c 3/\c 3<=3
 side:if c 4=1\/c 4=3\/c 4=4\/c 4=9 then 1<=c 5/\c 5<=2 else c 5=0
 dir:if c 4=1\/c 4=2 then 1<=c 6/\c 6<=8 else if c 4=3\/c 4=4\/c 4=5 then 0<=c 6/\c 6<=8 else c 6=0
 aBm:if c 4=3\/c 4=4\/c 4=5\/c 4=9 then 1<=c 7/\c 7<=3 else c 7=0
 size:if c 4=1\/c 4=2 then 1<=c 8/\c 8<=16 else if c 4=6 then 1<=c 8/\c 8<=7 else c 8=0
 wth:if c 4=7\/c 4=8 then 1<=c 9/\c 9<=roles else c 9=0
 from_:mo (c 10) (c 11)=J
 to:mo (c 12) (c 13)=J
section
variable{R:aX->Prop}{G:aL}{t:T}{O:aj}{L:ck}
def lY(c:Nat->Int):aZ:=[.i (c 0),.i (c 1),.i (c 2),.i (c 3),.i (c 4),.i (c 5),.i (c 6),.i (c 7),.i (c 8),.i (c 9),.i (c 10),.i (c 11),.i (c 12),.i (c 13)]
def kT(k:Int)(j:Nat):RV:=aN (wn[0]?.getD default).ah k j
def aBn{c:Nat->Int}{X W:Int}(H:1<=c 4/\c 4<=9)(G:0<=c 1/\c 1<=X-1)(F:0<=c 2/\c 2<=W-1)(D:1<=c 3/\c 3<=3)(V:Gm (c 5) (jp (kT (c 4) 0).val) 1 2=J)(Q:Gm (c 6) (jp (kT (c 4) 1).val) (bn (kT (c 4) 3).val) 8=J)(P:Gm (c 7) (decide (0<bn (kT (c 4) 4).val)) 1 (bn (kT (c 4) 4).val)=J)(N:Gm (c 8) (decide (0<bn (kT (c 4) 5).val)) 1 (bn (kT (c 4) 5).val)=J)(M:Gm (c 9) (jp (kT (c 4) 2).val) 1 X=J)
  (B:mo (c 10) (c 11)=J)(A:mo (c 12) (c 13)=J):BQ X W c:=by
 have:c 4=1\/c 4=2\/c 4=3\/c 4=4\/c 4=5\/c 4=6\/c 4=7\/c 4=8\/c 4=9:=ae;rcases this with h|h|h|h|h|h|h|h|h
 all_goals
  simp[h,kT,wn,Bj,bV,iV,aN,Gm,jp,bn] at V Q P N M;constructor<;>(first|omega|assumption|(simp[h];done)|(simp[h];omega))
def t84(c:Nat->Int)(X W:Int)(N:-1000<=X/\X<=1000000)(M:-1000<=W/\W<=1000000):∃o,TB.Ev 63 (lY c++[.i X,.i W]) o/\∃b,o=.ret [.b b]/\(b=J->BQ X W c):=by
 refine eJ ?_;have V:be .sub I X 1=X-1:=by simp only[be];rw[i8 ae ae]
 have Q:be .sub I W 1=W-1:=by simp only[be];rw[i8 ae ae]
 have P:lenOf (wn[0]?.getD default).val=10:=rfl;simp[T84,lY,V,Q,P]
 repeat' split
 all_goals(try simp)
 all_goals(intros;refine⟨ae, ?_⟩;intros;apply aBn<;>(first|assumption|omega|grind))
def f84(c:Nat->Int)(X W:Int)(V:-1000<=X/\X<=1000000)(Q:-1000<=W/\W<=1000000):TB.Ev 63 (lY c++[.i X,.i W]) (.ret [.b (ob 63 (lY c++[.i X,.i W]) 0)])/\(ob 63 (lY c++[.i X,.i W]) 0=J->BQ X W c):=mkb (t84 c X W V Q)
def ajp{a b:Int}(h:b≠0):(a.tmod b).natAbs<b.natAbs:=by
 rw[ak4];exact Q0 _ ae
def aBq(a b c:Int)(N:1<=c)(M:c<=32768)(H:-c<=a/\a<=c)(G:-c<=b/\b<=c):∃o,TB.Ev 87 [.i a,.i b,.i c] o/\∃x y z,o=.ret [.i x,.i y,.i z]:=by
 refine eJ ?_;simp[aiV];refine As (λX=>∃n d:Int,X=[.i n,.i d]∧-c<=n/\n<=c∧-c<=d/\d<=c) (λX=>(xi X 0).natAbs) ⟨a,0,rfl,ae,ae,ae,ae⟩ ?_;rintro _ ⟨n,d,rfl,W,V,Q,P⟩;simp[xi,BN,be];split
 case isFalse h=>
  have:=ajp (a:=d) h;refine⟨h,⟨_,_,⟨rfl,rfl⟩, ?_⟩,by rw[<-ak4];exact this⟩;omega
 refine As (λX=>∃n d:Int,X=[.i n,.i d]∧-c<=n/\n<=c∧-c<=d/\d<=c) (λX=>(xi X 0).natAbs) ⟨b,d,rfl,ae,ae,ae,ae⟩ ?_;rintro _ ⟨n,d,rfl,W,V,Q,P⟩;simp[xi,BN,be];split
 case isFalse h=>
  have:=ajp (a:=d) h;refine⟨h,⟨_,_,⟨rfl,rfl⟩, ?_⟩,by rw[<-ak4];exact this⟩;omega
 refine As (λX=>∃n d:Int,X=[.i n,.i d]∧-c<=n/\n<=c∧-c<=d/\d<=c/\(n≠0\/d≠0)) (λX=>(xi X 0).natAbs) ⟨c,d,rfl,ae,ae,ae,ae,ae⟩ ?_;rintro _ ⟨n,d,rfl,W,V,Q,P,F⟩;simp[xi,BN,be];split
 case isFalse h=>
  have:=ajp (a:=d) h;refine⟨h,⟨_,_,⟨rfl,rfl⟩, ?_⟩,by rw[<-ak4];exact this⟩;omega
 have:IntKind.i64.wrap (-d)=-d:=i8 ae ae;omega
def t83(a b c:Int):∃o,TB.Ev 62 [.i a,.i b,.i c] o/\∃e,o=.ret [.i e]/\True:=by
 refine eJ ?_;simp[T83];intro V Q X P N;have W:be .sub I 0 c=-c:=by simp only[be];rw[i8 ae ae];omega
 rw[W] at X;obtain⟨o,h,x,y,z,rfl⟩:=aBq a b c ae ae ae ae;rw[aY h];simp
@[simp] def c83 (a b c:Int):gW TB.Ev R 62 [.i a,.i b,.i c] G t O L=ik TB.Ev R (.ret [.i (oi 62 [.i a,.i b,.i c] 0)]) G t O L:=aY (I7 (t83 a b c)).1
structure Ql(tp:RV):Prop where
 sl:Sl tp
 pos:0<Y tp.ah
 zero:ci tp 0 0=0
def ajq{j:Nat}(h:j<=140737488355328)(X:W<=j):IntKind.i64.wrap (be .shr .u64 (IntKind.u64.wrap (be .add I (W:Int) (j:Int))) 1)=(((W+j)/2:Nat):Int):=by
 simp only[be];rw[i8 (n:=(W:Int)+j) ae ae];rw[show IntKind.u64.wrap ((W:Int)+j)=(W:Int)+j by rw[IntKind.wrap_u64];omega];have:((W:Int)+j).fdiv (2^min (1:Int).toNat IntKind.u64.bits)=(((W+j)/2:Nat):Int):=by
  have V:(2:Int)^min (1:Int).toNat IntKind.u64.bits=2:=rfl
  grind
 rw[this,i8 ae ae]
def aBs(V ao:Int)(X Q P:RV)(h:Ql X)(A:0<=ao):∃o,TB.Ev 125 [.i V,.r X,.r Q,.r P,.i ao] o/\∃e,o=.ret [.i e]/\True:=by
 refine eJ ?_;simp[aiB];have z:=h.pos;have y:=h.sl.sm;refine As (λW=>∃i j:Nat,W=[.i i,.i j]/\i<=j/\j<=Y X.ah/\(j=Y X.ah\/ao<ci X j 0)) (λW=>(xi W 1-xi W 0).toNat) ⟨0,Y X.ah,by simp[h.sl.len],ae,ae,.inl rfl⟩ ?_;rintro _ ⟨i,j,rfl,N,x,M⟩;simp[xi,BN,h.sl.len,ajq (show j<=140737488355328 from ae) N];split;rename_i H;refine⟨ae, ?_⟩;have G:((i:Int)+j)/2=(((i+j)/2:Nat):Int):=ae;have F:=wX (i:=(i+j)/2) ae;rw[G,F];split;refine⟨⟨(i+j)/2+1,j,⟨rfl,rfl⟩,ae,ae,M⟩,ae⟩
 grind [ci]
 rename_i H;have D:i=j:=ae;subst D;have:1<=i:=by
  rcases Mj i with rfl|B;have:=h.zero;omega;exact B
 rw[show be .sub I (i:Int) 1=(i:Int)-1 by simp only[be];rw[i8 ae ae]];omega
def as3(W ao:Int)(X V Q:RV)(h:Ql X)(P:0<=ao):gW TB.Ev R 125 [.i W,.r X,.r V,.r Q,.i ao] G t O L=ik TB.Ev R (.ret [.i (oi 125 [.i W,.r X,.r V,.r Q,.i ao] 0)]) G t O L:=aY (I7 (aBs W ao X V Q h P)).1
end
section
def ap(X:av):RV:=.mk (.slice Z (Y X) (Y X)) X
@[simp] def LS (x:LE) (O:aj):gt x O=ap (x.ah O):=rfl
@[simp] theorem nq (r:av):(ap r).ah=r:=rfl
@[simp] def Qm (r:av):lenOf (ap r).val=Y r:=rfl
@[simp] def as4:RV.mk (.slice Z 0 0) []=ap []:=rfl
def lZ(h:Y X<=140737488355328):Sl (ap X):=⟨⟨_,_,_,rfl⟩,rfl,h⟩
attribute[simp] LE.ah C.cj
def Qn(c:Nat->Int):aE:=[.mk (.int I (c 0)) [],.mk (.int I (c 1)) [],.mk (.int I (c 2)) [],.mk (.int I (c 3)) [],.mk (.int I (c 4)) [],.mk (.int I (c 5)) [],.mk (.int I (c 6)) [],.mk (.int I (c 7)) [],.mk (.int I (c 8)) [],.mk (.int I (c 9)) [],.mk (.int I (c 10)) [],.mk (.int I (c 11)) [],.mk (.int I (c 12)) [],.mk (.int I (c 13)) []]
def as5{lt:aE->aE->Bool}{x:aE}:∀{l:av},(fl lt x l).Perm (x::l)
 |[]=>awl _
 |y::r=>by
  simp only[fl];split;simp;exact((as5 (l:=r)).cons y).trans (aJg x y r)
def as6{lt:aE->aE->Bool}:∀(l acc:av),(l.foldl (λacc x=>fl lt x acc) acc).Perm (acc++l)
 |[],acc=>aw
 |x::l,acc=>by
  simp;refine(as6 l _).trans ?_;refine(List.Perm.append_right l as5).trans ?_;rw[cJ];exact List.perm_middle.symm
def BR{lt:aE->aE->Bool}(l:av):(bN lt l).Perm l:=by
 have:=as6 (lt:=lt) l [];simpa[bN] using this
def wY(X:av):Prop:=X.Pairwise λx y=>aW 0 x≠aW 0 y
def wY.perm{W:av}(h:wY X)(V:W.Perm X):wY W:=(V.symm.pairwise_iff (λ{x y} h=>h.symm)).1 h
def as7:∀{X:av},wY X->vU (bu.lex [0] E).lt X=J
 |[],_=>rfl
 |x::r,h=>by
  simp only[wY,jO] at h;simp only[vU,aC,gz,lg];refine⟨λy W=> ?_,as7 h.2⟩
  grind [bu.lt,jD,jX]
def as8{W:Bool}(V:Y X<=1099511627776)(h:wY X):ip (.lex [0] E) W X=U (bN (bu.lex [0] E).lt X):=by
 simp only[ip];rw[aH (by simp[V,as7 h,bu.ok])]
def aBt{rows:av}(X:Y rows<=1099511627776)(h:∀x∈rows,mo (aW 10 x) (aW 11 x)=J):ip (.ratio 10 11) J rows=U (bN (bu.ratio 10 11).lt rows):=by
 simp only[ip];rw[aH (by simp only[aC,dD,Bool.true_or,and_true];exact⟨X,gz.2 h⟩)]
structure cm where
 cW:Int
 cD:Int
 cA:Int
 cB:Int
 cC:Int
 cO:Int
 cr0:RV
 ct0:RV
 cp0:RV
 gJ:RV
 cg0:RV
section
variable[Inhabited cm]
def oS:Int:=(default:cm).cW
def oT:Int:=(default:cm).cD
def wZ:Int:=(default:cm).cA
def I8:Int:=(default:cm).cB
def I9:Int:=(default:cm).cC
def eD:Int:=(default:cm).cO
def ay:RV:=(default:cm).cr0
def l8:RV:=(default:cm).ct0
def nu:RV:=(default:cm).cp0
def ny:RV:=(default:cm).gJ
def dh:RV:=(default:cm).cg0
end
structure BS[Inhabited cm]:Prop where
 nr:1<=Y ay.ah/\Y ay.ah<=64
 ns:Y dh.ah<=4096
 br:1<=eD/\eD<=4096
 wd:1<=oS/\oS<=1000/\1<=oT/\oT<=1000
 tp:Ql l8
 UH:∀i<Y dh.ah,BQ (Y ay.ah) eD (ci dh i)
 id:∀i<Y dh.ah,0<=ci dh i 0/\ci dh i 0<=1048576
 ids:∀i j,i<j->j<Y dh.ah->ci dh i 0<ci dh j 0
structure dS[Inhabited cm]:Prop where
 rl:Sl ay
 tp:Sl l8
 ps:Sl nu
 sp:Sl ny
 sg:Sl dh
section
variable{R:aX->Prop}{G:aL}{t:T}{O:aj}{L:ck}
variable[Inhabited cm]
def wk:aZ:=[.i oS,.i oT,.i wZ,.i I8,.i I9,.r ay,.i eD,.r l8,.r nu,.r ny,.r dh]
def At:Prop:=∀(eD:Int)(l8 nu ny:RV),Sl l8->Sl nu->Sl ny->TB.Ev 60 [.i eD,.r l8,.r nu,.r ny] (.ret [.i (oi 60 [.i eD,.r l8,.r nu,.r ny] 0)])/\(oi 60 [.i eD,.r l8,.r nu,.r ny] 0=0->Ql l8/\1<=eD/\eD<=4096)
def t37(M:At)(h:dS):∃o,TB.Ev 40 wk o/\∃e,o=.ret [.i e]/\(e=0->BS):=by
 refine eJ ?_;obtain⟨H,G⟩:=M eD l8 nu ny h.tp h.ps h.sp;simp[T37,wk,h.rl.len,h.sg.len,aY H]
 repeat'(first|intro _|split)
 any_goals(exfalso;omega)
 obtain⟨F,z,y⟩:=G md;refine bQ (Y ay.ah) (λ_ V=>V=[]) ⟨0,rfl,ae,rfl⟩ ?_;rintro i _ X rfl;simp[h.rl.len];split
 grind [bC]
 refine bQ (Y dh.ah) (λi V=>∃W:Int,V=[.i W]∧-1<=W/\(∀k<i,BQ (Y ay.ah) eD (ci dh k)/\0<=ci dh k 0/\ci dh k 0<=W/\ci dh k 0<=1048576)/\∀j k,j<k->k<i->ci dh j 0<ci dh k 0) ⟨0,rfl,ae,-1,rfl,ae,ae,ae⟩ ?_;rintro j _ Q ⟨W,rfl,x,P,D⟩;simp[h.rl.len,h.sg.len];split;rename_i Q;refine⟨Q,λw v=> ?_⟩;obtain⟨N,B⟩:=f84 (ci dh j) (Y ay.ah) eD ae ae;simp only[lY,ci,cJ,da] at N B;rw[aY N];simp[bC Q h.sg.sm]
 grind [ci]
 have A:j=Y dh.ah:=ae;subst A;have u:Y ay.ah≠0:=λe=>bF (Em.1 e) md
 exact⟨ae,ae,ae,ae,F,λi X=>(P i X).1,λi X=>⟨(P i X).2.1,(P i X).2.2.2⟩,D⟩
end
end
section
variable{R:aX->Prop}{G:aL}{t:T}{O:aj}{L:ck}
variable[Inhabited cm]
@[simp] theorem UI (c:Nat->Int) (j:Nat) (h:j<14):aW j (Qn c)=c j:=by
 match j,h with|0,_|1,_|2,_|3,_|4,_|5,_|6,_|7,_|8,_|9,_|10,_|11,_|12,_|13,_=>rfl
def yL(bz ao:Int):Nat->av
 |0=>[]|i+1=>yL bz ao i++(if ci dh i 1=bz/\ci dh i 2=ao then[Qn (ci dh i)] else[])
def UJ{bz ao:Int}:∀i,(yL bz ao i).length<=i
 |0=>by simp[yL]
 |i+1=>by
  have:=UJ (bz:=bz) (ao:=ao) i
  grind [yL,f9]
def abd{bz ao:Int}{x:aE}:∀{i},x∈yL bz ao i<->∃k<i,x=Qn (ci dh k)/\ci dh k 1=bz/\ci dh k 2=ao
 |0=>by simp[yL]
 |i+1=>by
  simp only[yL,fg,abd (i:=i)]
  grind
def as9{bz ao:Int}(h:∀i j,i<j->j<Y dh.ah->ci dh i 0<ci dh j 0):∀{i},i<=Y dh.ah->wY (yL bz ao i)
 |0,_=>xo
 |i+1,W=>by
  simp only[yL,wY,oB];refine⟨as9 h ae,by split<;>simp,λx X y V=> ?_⟩;obtain⟨k,Q,rfl,-⟩:=(abd).1 X
  grind [UI]
def jL:Int:=oi 40 wk 0
def l9(bz ao:Int):Int:=if jL=0 then(if jh bz 0 (Y ay.ah-1)&&jh ao 0 (eD-1) then 0 else 1) else jL
def dU(bz ao:Int):av:=if l9 bz ao=0 then bN (bu.ratio 10 11).lt (yL bz ao (Y dh.ah)) else[]
def yM(X:At)(h:dS):TB.Ev 40 wk (.ret [.i jL])/\(jL=0->BS):=I7 (t37 X h)
def Ja(N:At)(h:dS)(bz ao:Int):TB.Ev 73 (wk++[.i bz,.i ao]) (.ret [.r (ap (dU bz ao)),.i (l9 bz ao)]):=by
 refine ki ?_;obtain⟨W,M⟩:=yM N h;simp only[wk] at W;simp[T77,wk,h.rl.len,aY W];split
 case isFalse X=>
  simp[dU,l9,X]
 rename_i X;have V:=M X;have A:=V.nr;have z:=V.br;rw[show be .sub I (Y ay.ah:Int) 1=Y ay.ah-1 by simp only[be];rw[i8 ae ae],show be .sub I eD 1=eD-1 by simp only[be];rw[i8 ae ae]];split
 case isFalse Q=>
  simp[dU,l9,X,Q]
 rename_i Q;split
 case isFalse P=>
  simp[dU,l9,X,P]
 rename_i P;refine bQ (Y dh.ah) (λi H=>H=[.r (ap (yL bz ao i))]) ⟨0,rfl,ae,rfl⟩ ?_;rintro i _ y rfl;have bq:=UJ (bz:=bz) (ao:=ao) i;have w:=V.ns;simp[h.sg.len];split
 grind [bC,yL,ci,Qn]
 have G:i=Y dh.ah:=ae;subst G;have F:=aBt (rows:=yL bz ao (Y dh.ah)) (by have:=UJ (bz:=bz) (ao:=ao) (Y dh.ah);have:=h.sg.sm;omega) (λx D=>by
  obtain⟨k,W,rfl,-⟩:=(abd).1 D;rw[UI _ _ ae,UI _ _ ae];exact(V.UH k W).from_)
 simp only[Gk];refine⟨_,F, ?_⟩;have B:l9 bz ao=0:=by simp[l9,X,Q,P]
 simp[dU,B,ap,pN]
def ata{bz ao:Int}(V:jL=0->BS){x:aE}(X:x∈dU bz ao):∃k<Y dh.ah,x=Qn (ci dh k)/\ci dh k 1=bz/\ci dh k 2=ao/\BQ (Y ay.ah) eD (ci dh k):=by
 unfold dU at X;split at X;rename_i H;have Q:jL=0:=by
  grind [l9]
 obtain⟨k,W,P,N,M⟩:=(abd).1 ((BR _).mem_iff.1 X);exact⟨k,W,P,N,M,(V Q).UH k W⟩
 grind
def abe{bz ao:Int}(X:jL=0->BS):wY (dU bz ao):=by
 unfold dU;split;rename_i V;have W:jL=0:=by
  grind [l9]
 exact(as9 (X W).ids (cd _)).perm (BR _);exact xo
def UK{bz ao:Int}(X:jL=0->BS):(dU bz ao).length<=4096:=by
 unfold dU;split;rename_i V;have W:jL=0:=by
  grind [l9]
 rw[pN];have:=UJ (bz:=bz) (ao:=ao) (Y dh.ah);have:=(X W).ns;omega;simp
end
section
variable{R:aX->Prop}{G:aL}{t:T}{O:aj}{L:ck}
def aBz(c:Nat->Int)(x y z:Int)(b:Bool):∃o,TB.Ev 107 (lY c++[.i x,.i y,.i z,.b b]) o/\∃e,o=.ret [.b e]/\(e=J->x=c 0):=by
 refine eJ ?_;simp[aiP,lY]
 repeat' split
 all_goals(intros;grind [jh])
def f225(c:Nat->Int)(x y z:Int)(b:Bool):TB.Ev 107 (lY c++[.i x,.i y,.i z,.b b]) (.ret [.b (ob 107 (lY c++[.i x,.i y,.i z,.b b]) 0)])/\(ob 107 (lY c++[.i x,.i y,.i z,.b b]) 0=J->x=c 0):=mkb (aBz c x y z b)
def ajr(c:Nat->Int)(r:RV)(k:Nat):aE:=Qn c++[.mk (.int I (ci r k 0)) [],.mk (.int I (ci r k 1)) [],.mk (.int I (ci r k 2)) [],.mk (.bool (cb r k 3)) []]
def bX(X:av)(i j:Nat):Int:=bn (aN X i j).val
def Au(l:av)(r:RV)(n:Nat)(out:av):Prop:=Y out=n/\∀i<n,∃k<Y r.ah,out[i]?=U (ajr (bX l i) r k)/\ci r k 0=bX l i 0
theorem Au.add{r:RV}{out:av}(h:Au X r W out){k:Nat}(V:k<Y r.ah)(hid:ci r k 0=bX X W 0):Au X r (W+1) (out++[ajr (bX X W) r k]):=by
 refine⟨by simp[h.1],λi P=> ?_⟩;by_cases Q:i=W;subst Q;refine⟨k,V, ?_,hid⟩;rw[ji (by rw[h.1];omega),h.1];simp;obtain⟨N,M,H,G⟩:=h.2 i ae
 grind
def aBA(l:av)(r:RV)(W:Sl r)(B:Y l<=4096)(G:wY l)(P:0<Y l):∃o,TB.Ev 74 [.r (ap l),.r r] o/\∃v b,o=.ret [.r (ap v),.b b]/\(b=E->v=[])/\(b=J->Au l r (Y l) v):=by
 refine eJ ?_;simp[aaT,W.len];intro F;simp only[Gj];refine⟨.inl rfl,λ_=> ?_,λh=> ?_,λ_ h=> ?_⟩;simp;refine⟨ae, ?_⟩;simp only[yK];refine⟨_,as8 bY (by simpa using G), ?_⟩;simp;have A:(bN (bu.lex [0] E).lt l).length=Y l:=pN;refine bQ (Y l) (λi V=>∃v,V=[.r (ap v)]/\Au l r i v) ⟨0,rfl,ae,[],rfl,rfl,ae⟩ ?_;rintro i _ Q ⟨v,rfl,N⟩;simp;split;rename_i Q;refine⟨Q, ?_⟩;refine bQ (Y l) (λj V=>V=[.r (ap v)]) ⟨0,rfl,ae,rfl⟩ ?_;rintro j _ X rfl;simp[W.len];intro X;have z:=N.1;simp[bC X (show Y l<=140737488355328 from ae)];refine⟨X,λy=>⟨ae, ?_⟩⟩;obtain⟨M,H⟩:=f225 (bX l i) (ci r j 0) (ci r j 1) (ci r j 2) (cb r j 3);simp only[lY,bX,ci,cb,cJ,da] at M H;rw[aY M];simp[bC X (show Y l<=140737488355328 from ae),bC Q (show Y l<=140737488355328 from ae),<-F,W.len];intro D;refine⟨X,ae, ?_⟩;have:=N.add (k:=j) ae (H D);exact⟨_,rfl,this⟩
 grind
 simp at h;simp[h] at P;simp at h;simp[h] at P
def aBB(r:RV)(Q:Sl r):TB.Ev 74 [.r (ap []),.r r] (.ret [.r (ap []),.b (Y r.ah==0)]):=by
 refine ki ?_;simp[aaT,Q.len];split
 case isFalse h=>
  grind
 rename_i h;have W:Y r.ah=0:=ae;have V:ip (bu.lex [0] E) E []=U []:=rfl;simp only[Gj,yK];refine⟨.inl rfl,λ_=> ?_,λ_=> ?_,λ_ _=>single (Hz _)⟩
 ·try simp
  try simp only[yK]
  refine⟨_,by simpa using V, ?_⟩;refine bQ 0 (λi X=>X=[.r (ap [])]) ⟨0,rfl,ae,rfl⟩ ?_;rintro i _ P rfl;have:i=0:=ae;simp[W,this]
 ·try simp
  try simp only[yK,Gk]
  refine⟨_,by simpa using V, ?_⟩;refine bQ 0 (λi X=>X=[.r (ap [])]) ⟨0,rfl,ae,rfl⟩ ?_;rintro i _ P rfl;have:i=0:=ae;simp[W,this]
def atb(l:av)(r:RV)(X:Sl r)(W:Y l<=4096)(V:wY l):∃o,TB.Ev 74 [.r (ap l),.r r] o/\∃v b,o=.ret [.r (ap v),.b b]/\(b=E->v=[])/\(b=J->Au l r (Y l) v):=by
 cases l with|nil=>exact⟨_,aBB r X,[],Y r.ah==0,rfl,λ_=>rfl,λ_=>⟨rfl,aw⟩⟩|cons x l=>exact aBA (x::l) r X W V aw
def nz{W:aZ}(G:aL)(h:∃o,TB.Ev V W o/\∃X,o=.ret X/\fA G X=J):TB.Ev V W (.ret (tZ (out V W) G 0)):=by
 obtain⟨o,Q,X,N,M⟩:=h;exact(shp G (P:=λ_=>True) ⟨o,Q,X,N,M,trivial⟩).1
def kI:Nat->aL
 |0=>[]|n+1=>.int I::kI n
@[simp] def Qo:kI 0=[]:=rfl
@[simp] def Jb (n:Nat):kI (n+1)=.int I::kI n:=rfl
def aBC(a b:Int):∃o,TB.Ev 138 [.i a,.i b] o/\∃X,o=.ret X/\fA (kI 2) X=true:=by
 refine eJ ?_;simp[aio]
@[simp] def aJH (a b:Int):gW TB.Ev R 138 [.i a,.i b] G t O L=ik TB.Ev R (.ret [.i (oi 138 [.i a,.i b] 0),.i (oi 138 [.i a,.i b] 1)]) G t O L:=aY (nz _ (aBC a b))
def aBD(a b:Int):∃o,TB.Ev 139 [.i a,.i b] o/\∃X,o=.ret X/\fA (kI 4) X=true:=by
 refine eJ ?_;simp[aip]
 repeat'(first|intro _|split)
 have W:lenOf (wn[2]?.getD default).val=8:=rfl;rw[show be .sub I a 1=a-1 by simp only[be];exact i8 ae ae,W];omega
@[simp] def aJI (a b:Int):gW TB.Ev R 139 [.i a,.i b] G t O L=ik TB.Ev R (.ret [.i (oi 139 [.i a,.i b] 0),.i (oi 139 [.i a,.i b] 1),.i (oi 139 [.i a,.i b] 2),.i (oi 139 [.i a,.i b] 3)]) G t O L:=aY (nz _ (aBD a b))
def aBE(a:Int):∃o,TB.Ev 274 [.i a] o/\∃X,o=.ret X/\fA (kI 3) X=true:=by
 refine eJ ?_;simp[aiq]
 repeat'(first|intro _|split)
 have W:lenOf (wn[2]?.getD default).val=8:=rfl;rw[show be .sub I a 1=a-1 by simp only[be];exact i8 ae ae,W];omega
@[simp] def aJJ (a:Int):gW TB.Ev R 274 [.i a] G t O L=ik TB.Ev R (.ret [.i (oi 274 [.i a] 0),.i (oi 274 [.i a] 1),.i (oi 274 [.i a] 2)]) G t O L:=aY (nz _ (aBE a))
def aBF(a b c d e f:Int):∃o,TB.Ev 276 [.i a,.i b,.i c,.i d,.i e,.i f] o/\∃X,o=.ret X/\fA (kI 2) X=true:=by
 refine eJ ?_;simp[aix]
@[simp] def aJK (a b c d e f:Int):gW TB.Ev R 276 [.i a,.i b,.i c,.i d,.i e,.i f] G t O L=ik TB.Ev R (.ret [.i (oi 276 [.i a,.i b,.i c,.i d,.i e,.i f] 0),.i (oi 276 [.i a,.i b,.i c,.i d,.i e,.i f] 1)]) G t O L:=aY (nz _ (aBF a b c d e f))
def aBG(a b c:Int):∃o,TB.Ev 219 [.i a,.i b,.i c] o/\∃X,o=.ret X/\fA (kI 3) X=true:=by
 refine eJ ?_;simp[aiy]
@[simp] def aJL (a b c:Int):gW TB.Ev R 219 [.i a,.i b,.i c] G t O L=ik TB.Ev R (.ret [.i (oi 219 [.i a,.i b,.i c] 0),.i (oi 219 [.i a,.i b,.i c] 1),.i (oi 219 [.i a,.i b,.i c] 2)]) G t O L:=aY (nz _ (aBG a b c))
def aBH(s:RV)(b:Int):∃o,TB.Ev 128 [.r s,.i b] o/\∃X,o=.ret X/\fA (kI 1) X=true:=by
 cases W:s.val with|string u=>exact⟨_,afD (by simp only[TB,LR,aa9,W];rfl),_,rfl,rfl⟩|_=>exact⟨_,afD (by simp only[TB,LR,aa9,W];rfl),_,rfl,rfl⟩
@[simp] def aJM (s:RV) (b:Int):gW TB.Ev R 128 [.r s,.i b] G t O L=ik TB.Ev R (.ret [.i (oi 128 [.r s,.i b] 0)]) G t O L:=aY (nz _ (aBH s b))
def aBI(a:Int):∃o,TB.Ev 90 [.i a] o/\∃X,o=.ret X/\fA (kI 1) X=true:=by
 refine eJ ?_;simp[aiR]
@[simp] def aJN (a:Int):gW TB.Ev R 90 [.i a] G t O L=ik TB.Ev R (.ret [.i (oi 90 [.i a] 0)]) G t O L:=aY (nz _ (aBI a))
def DZ(v:RV):Prop:=∃s,v.val=.string s
def UL(v:RV):DZ (cH .str v):=by
 simp only[cH];split<;>exact⟨_,rfl⟩
def aBJ(s:RV)(V:DZ s):∃o,TB.Ev 64 [.r s] o/\∃X,o=.ret X/\fA [.bool] X=true:=by
 refine eJ ?_;obtain⟨u,W⟩:=V;simp[aiN,W,xD,lenOf];intro N M;have Q:0<u.size:=by
  grind [ByteArray.toList,ByteArray.toList.loop]
 refine⟨Q,λ_=> ?_⟩;refine bQ u.size (λ_ P=>P=[]) ⟨0,rfl,ae,rfl⟩ ?_;rintro i _ H rfl;simp[W,lenOf]
 grind [bC]
def aBK(s:RV)(X:DZ s):gW TB.Ev R 64 [.r s] G t O L=ik TB.Ev R (.ret [.b (ob 64 [.r s] 0)]) G t O L:=aY (nz [.bool] (aBJ s X))
def t74(W V a2 Q P a5 a6 a7 a8 N M mH mI:Int):∃o,TB.Ev 34 [.i W,.i V,.i a2,.i Q,.i P,.i a5,.i a6,.i a7,.i a8,.i N,.i M,.i mH,.i mI] o/\∃X,o=.ret X/\fA (kI 1) X=true:=by
 refine eJ ?_;simp[T74]
def o74(X W a2 V Q a5 a6 a7 a8 P N mH mI:Int):Int:=oi 34 [.i X,.i W,.i a2,.i V,.i Q,.i a5,.i a6,.i a7,.i a8,.i P,.i N,.i mH,.i mI] 0
@[simp] def c74 (X W a2 V Q a5 a6 a7 a8 P N mH mI:Int):gW TB.Ev R 34 [.i X,.i W,.i a2,.i V,.i Q,.i a5,.i a6,.i a7,.i a8,.i P,.i N,.i mH,.i mI] G t O L=ik TB.Ev R (.ret [.i (o74 X W a2 V Q a5 a6 a7 a8 P N mH mI)]) G t O L:=aY (nz _ (t74 X W a2 V Q a5 a6 a7 a8 P N mH mI))
def t75(s:RV)(X:DZ s)(W V a2 Q P a5 a6 a7 a8 N M mH mI pF H G:Int):∃o,TB.Ev 41 [.r s,.i W,.i V,.i a2,.i Q,.i P,.i a5,.i a6,.i a7,.i a8,.i N,.i M,.i mH,.i mI,.i pF,.i H,.i G] o/\∃e,o=.ret [.i e]/\(e=0->(1<=mH/\mH<=3)/\(1<=mI/\mI<=3)/\1<=pF/\pF<=3):=by
 refine eJ ?_;simp[T75,aBK s X];intros;omega
def Qp(s:RV)(X W a2 V Q a5 a6 a7 a8 P N mH mI pF M H:Int):Int:=oi 41 [.r s,.i X,.i W,.i a2,.i V,.i Q,.i a5,.i a6,.i a7,.i a8,.i P,.i N,.i mH,.i mI,.i pF,.i M,.i H] 0
def f75(s:RV)(G:DZ s)(X W a2 V Q a5 a6 a7 a8 P N mH mI pF M H:Int):TB.Ev 41 [.r s,.i X,.i W,.i a2,.i V,.i Q,.i a5,.i a6,.i a7,.i a8,.i P,.i N,.i mH,.i mI,.i pF,.i M,.i H] (.ret [.i (Qp s X W a2 V Q a5 a6 a7 a8 P N mH mI pF M H)])/\(Qp s X W a2 V Q a5 a6 a7 a8 P N mH mI pF M H=0->(1<=mH/\mH<=3)/\(1<=mI/\mI<=3)/\1<=pF/\pF<=3):=I7 (t75 s G X W a2 V Q a5 a6 a7 a8 P N mH mI pF M H)
def c75(s:RV)(F:DZ s)(X W a2 V Q a5 a6 a7 a8 P N mH mI pF M H:Int):gW TB.Ev R 41 [.r s,.i X,.i W,.i a2,.i V,.i Q,.i a5,.i a6,.i a7,.i a8,.i P,.i N,.i mH,.i mI,.i pF,.i M,.i H] G t O L=ik TB.Ev R (.ret [.i (Qp s X W a2 V Q a5 a6 a7 a8 P N mH mI pF M H)]) G t O L:=aY (f75 s F X W a2 V Q a5 a6 a7 a8 P N mH mI pF M H).1
def t27(W V Q P N M H G F D B A z:Int)(s:RV)(y:DZ s)(x w a2 v u a5 a6 a7 a8 q p mH mI pF n m:Int):∃o,TB.Ev 115 [.i W,.i V,.i Q,.i P,.i N,.i M,.i H,.i G,.i F,.i D,.i B,.i A,.i z,.r s,.i x,.i w,.i a2,.i v,.i u,.i a5,.i a6,.i a7,.i a8,.i q,.i p,.i mH,.i mI,.i pF,.i n,.i m] o/\∃X,o=.ret X/\fA (kI 5) X=true:=by
 refine eJ ?_;simp(maxSteps:=9999999) [T27,c75 s y]

variable[Inhabited cm]
def cr(e:TypeId)(v:RV)(i:Nat):RV:=cH (.sl e) (aN v.ah i 0)
def e65(V:At)(h:dS)(ao:Int):TB.Ev 100 (wk++[.i ao]) (.ret [.i (if jL=0 then(if jh ao 0 (eD-1) then 0 else 1) else jL)]):=by
 refine ki ?_;obtain⟨W,Q⟩:=yM V h;simp only[wk] at W;simp[T65,wk,aY W];split;rename_i X;have:=(Q X).br;rw[show be .sub I eD 1=eD-1 by simp only[be];rw[i8 ae ae]];split<;>simp_all;rename_i X;simp[X]
def LU(c:Nat->Int):aZ:=[.i (c 0),.i (c 1),.i (c 2),.i (c 3),.i (c 4),.i (c 5),.i (c 6),.i (c 7)]
def t25(c:Nat->Int)(ao:Int):∃o,TB.Ev 43 (LU c++[.i ao]) o/\∃X,o=.ret X/\fA (kI 5) X=true:=by
 refine eJ ?_;simp[T25,LU]
def mJ(c:Nat->Int)(ao:Int)(k:Nat):Int:=oi 43 (LU c++[.i ao]) k
def f25(c:Nat->Int)(ao:Int):TB.Ev 43 (LU c++[.i ao]) (.ret [.i (mJ c ao 0),.i (mJ c ao 1),.i (mJ c ao 2),.i (mJ c ao 3),.i (mJ c ao 4)]):=nz _ (t25 c ao)
def ate(n:Nat)(v:av):Prop:=Y v<=4096/\∀x∈v,(0<=aW 0 x/\aW 0 x<n)/\0<=aW 1 x/\aW 1 x<n
def t23(H:At)(h:dS)(ao:Int):∃o,TB.Ev 71 (wk++[.i ao]) o/\∃v e,o=.ret [.r (ap v),.i e]/\(e≠0->v=[])/\ate (Y ay.ah) v/\(e=0->jL=0/\jh ao 0 (eD-1)=J):=by
 refine eJ ?_;have M:=e65 H h ao;obtain⟨-,F⟩:=yM H h;simp only[wk,cJ,da] at M;obtain⟨e,P⟩:∃e,e=(if jL=0 then(if jh ao 0 (eD-1) then 0 else 1) else jL):=⟨_,rfl⟩;rw[<-P] at M;simp[T23,wk,aY M];split
 case isFalse D=>
  exact⟨[],e,⟨rfl,rfl⟩,λ_=>rfl,⟨aw,aw⟩,λh=>bF h D⟩
 rename_i B;have X:jL=0/\jh ao 0 (eD-1)=true:=by
  subst B;by_cases X:jL=0;rw[aH X] at P;refine⟨X, ?_⟩;cases A:jh ao 0 (eD-1);simp[A] at P;rfl;rw[aS X] at P;exact bF P.symm X
 have z:=F X.1;have w:=z.nr;refine bQ (Y dh.ah) (λi N=>∃v,N=[.r v]) ⟨0,rfl,ae,_,rfl⟩ ?_;rintro i _ W ⟨m,rfl⟩;simp[h.sg.len];split;rename_i W;simp[bC W h.sg.sm,W];refine bQ (Y ay.ah) (λi N=>∃v,N=[.r (ap v)]/\Y v<=i*64/\∀x∈v,(0<=aW 0 x/\aW 0 x<Y ay.ah)/\0<=aW 1 x/\aW 1 x<Y ay.ah) ⟨0,rfl,ae,[],rfl,aw,aw⟩ ?_;rintro i _ W ⟨v,rfl,y,V⟩;simp[h.rl.len];split;rename_i W;refine bQ (Y ay.ah) (λj N=>∃v,N=[.r (ap v)]/\Y v<=i*64+j/\∀x∈v,(0<=aW 0 x/\aW 0 x<Y ay.ah)/\0<=aW 1 x/\aW 1 x<Y ay.ah) ⟨0,rfl,ae,v,rfl,ae,V⟩ ?_;rintro j _ G ⟨v,rfl,y,V⟩;simp[h.rl.len];split
 ·rename_i G;simp[bC G h.rl.sm]
  repeat' split
  all_goals first
   |exact⟨v,rfl,ae,V⟩
   |(refine⟨ae,_,rfl,bY,λx Q=> ?_⟩
     rcases fg.1 Q with Q|Q;exact V x Q;simp at Q;subst Q;simp[aW,bn];omega)
 simp[bC W h.rl.sm];exact⟨v,rfl,ae,V⟩;exact⟨v,0,⟨rfl,rfl⟩,aw,⟨ae,V⟩,λ_=>by simpa using X⟩

def aBP(N:At)(h:dS)(bz ao:Int)(r:RV)(W:Sl r)(M:0<(dU bz ao).length):∃o,TB.Ev 45 (wk++[.i bz,.i ao,.r r]) o/\∃e,o=.ret [.i e]/\(e=0->l9 bz ao=0/\∃v,Au (dU bz ao) r (dU bz ao).length v):=by
 refine eJ ?_;have H:=Ja N h bz ao;have G:=(yM N h).2;have x:=UK (bz:=bz) (ao:=ao) G;have A:=abe (bz:=bz) (ao:=ao) G;simp only[wk,cJ,da] at H;generalize dU bz ao=l at*;generalize l9 bz ao=e at*;simp[UB,wk,aY H,W.len];split
 case isFalse V=>simp[V]
 rename_i V;intro z;rw[Gj];refine⟨.inl rfl,λ_=> ?_,λh=> ?_,λ_ h=> ?_⟩;simp;refine⟨ae, ?_⟩
 first|rw[yK]|rw[Gk]
 refine⟨_,as8 bY (by simpa using A), ?_⟩;simp;have w:(bN (bu.lex [0] E).lt l).length=Y l:=pN;refine bQ (Y l) (λi Q=>∃v,Q=[.r (ap v)]/\Au l r i v) ⟨0,rfl,ae,[],rfl,rfl,ae⟩ ?_;rintro i _ P ⟨v,rfl,F⟩;simp;split;rename_i P;refine⟨P, ?_⟩;refine bQ (Y l) (λj Q=>Q=[.r (ap v)]) ⟨0,rfl,ae,rfl⟩ ?_;rintro j _ X rfl;simp[W.len];intro X;have u:=F.1;simp[bC X (show Y l<=140737488355328 from ae)];refine⟨X,λV=>⟨ae, ?_⟩⟩;obtain⟨D,B⟩:=f225 (bX l i) (ci r j 0) (ci r j 1) (ci r j 2) (cb r j 3);simp only[lY,bX,ci,cb,cJ,da] at D B;rw[aY D];simp[bC X (show Y l<=140737488355328 from ae),bC P (show Y l<=140737488355328 from ae),<-z,W.len];intro y;refine⟨X,ae, ?_⟩;have:=F.add (k:=j) ae (B y);exact⟨_,rfl,this⟩
 grind
 simp at h;simp[h] at M;simp at h;simp[h] at M
def aBQ(N:At)(h:dS)(bz ao:Int)(r:RV)(M:Sl r)(H:dU bz ao=[]):TB.Ev 45 (wk++[.i bz,.i ao,.r r]) (.ret [.i (if l9 bz ao≠0 then l9 bz ao else if Y r.ah=0 then 0 else 270)]):=by
 refine ki ?_;have X:=Ja N h bz ao;rw[H] at X;simp only[wk,cJ,da] at X;generalize l9 bz ao=e at*;simp[UB,wk,aY X,M.len];split
 case isFalse V=>simp[V]
 rename_i V;split
 case isFalse h=>
  grind
 rename_i h;have Q:r.ah=[]:=Em.1 ae;have P:ip (bu.lex [0] E) E []=U []:=rfl;simp only[Gj,yK];refine⟨.inl rfl,λ_=> ?_,λ_=> ?_,λ_ _=>single (Hz _)⟩
 ·try simp
  try simp only[yK]
  refine⟨_,by simpa using P, ?_⟩;refine bQ 0 (λi W=>W=[.r (ap [])]) ⟨0,rfl,ae,rfl⟩ ?_;rintro i _ G rfl;have:i=0:=ae;simp[Q,this]
 ·try simp
  try simp only[yK,Gk]
  refine⟨_,by simpa using P, ?_⟩;refine bQ 0 (λi W=>W=[.r (ap [])]) ⟨0,rfl,ae,rfl⟩ ?_;rintro i _ G rfl;have:i=0:=ae;simp[Q,this]
def t85(W:At)(h:dS)(bz ao:Int)(r:RV)(V:Sl r):∃o,TB.Ev 45 (wk++[.i bz,.i ao,.r r]) o/\∃e,o=.ret [.i e]/\(e=0->l9 bz ao=0/\∃v,Au (dU bz ao) r (dU bz ao).length v):=by
 by_cases X:dU bz ao=[];refine⟨_,aBQ W h bz ao r V X,_,rfl,λQ=> ?_⟩;split at Q;omega;rename_i P;exact⟨ae,[],by rw[X];exact⟨rfl,aw⟩⟩;exact aBP W h bz ao r V (avX.2 X)
end
def aV{c:Prop}[Decidable c]{A B:Prop}(X:c->A)(W:¬c->B):if c then A else B:=by
 by_cases h:c;rw[aH h];exact X h;rw[aS h];exact W h
section
variable{R:aX->Prop}{G:aL}{t:T}{O:aj}{L:ck}
variable[Inhabited cm]
end
section
variable{R:aX->Prop}{G:aL}{t:T}{O:aj}{L:ck}
def t81(W:Int)(Q N M:RV)(P:Sl Q)(H:Sl N)(G:Sl M):∃o,TB.Ev 60 [.i W,.r Q,.r N,.r M] o/\∃e,o=.ret [.i e]/\(e=0->Ql Q/\1<=W/\W<=4096):=by
 refine Qk rfl rfl (.inr λv D=>by obtain⟨_,h,_⟩:=D;cases h) ?_;simp[T81,P.len,H.len,G.len]
 repeat'(first|intro _|split)
 refine⟨md, ?_⟩;intro B;have A:0<Y Q.ah:=md;have F:Ql Q:=⟨P,A,by simpa[ci] using B⟩;have z:1<=W/\W<=4096:=ae;refine bQ (Y Q.ah) (λ_ V=>∃n:Int,V=[.i n]) ⟨0,rfl,ae,_,rfl⟩ ?_;rintro i _ X ⟨n,rfl⟩;simp[P.len];split;rename_i X;simp[bC X P.sm,X];refine bQ W.toNat (λ_ V=>V=[]) ⟨0,rfl,ae,rfl⟩ ?_;rintro i _ X rfl;simp;split;rename_i X;have y:i<W.toNat:=ae;rw[as3 _ _ _ _ _ F ae];simp[bC y (show W.toNat<=140737488355328 from ae)];refine bQ (Y N.ah) (λ_ V=>∃n:Int,V=[.i n]) ⟨0,rfl,ae,_,rfl⟩ ?_;rintro i _ X ⟨n,rfl⟩;simp[H.len];split;rename_i X;simp[bC X H.sm,X];refine bQ (Y M.ah) (λ_ V=>V=[]) ⟨0,rfl,ae,rfl⟩ ?_;rintro i _ X rfl;simp[G.len];split;rename_i X;simp[bC X G.sm,X];exact⟨F,z⟩
def oU:At:=λX W V Q P N M=>I7 (t81 X W V Q P N M)

def Aft:Prop:=∀(W V Q P N M H G F D B A z:Int)(c:Nat->Int)(p q r:Int)(b:Bool),∃o,TB.Ev 171 ([.i W,.i V,.i Q,.i P,.i N,.i M,.i H,.i G,.i F,.i D,.i B,.i A,.i z]++lY c++[.i p,.i q,.i r,.b b]) o/\∃X,o=.ret X/\fA (kI 14) X=J
def aju:Aft:=by
 intro A z y x w v u s o n m l k c p q r b;refine eJ ?_;by_cases X:c 4=1\/c 4=2\/c 4=3\/c 4=4\/c 4=5\/c 4=6\/c 4=7\/c 4=8\/c 4=9
 ·rcases X with h|h|h|h|h|h|h|h|h
  all_goals
   simp(maxSteps:=9999999) [aaW,lY,h]
   try
    (repeat'(first|intro _|split)
     all_goals
      have W:be .sub I (c 5) 1=c 5-1:=by simp only[be];exact i8 ae ae
      have V:be .add I (c 5) 1=c 5+1:=by simp only[be];exact i8 ae ae
      simp only[W,V] at*
      first|omega|(exfalso;omega))
 simp only[not_or] at X;obtain⟨Q,P,N,M,H,G,F,D,B⟩:=X;simp(maxSteps:=9999999) [aaW,lY,Q,P,N,M,H,G,F,D,B]
variable[Inhabited cm]
def Qq:∀{n:Nat}{ys:aZ},fA (kI n) ys=J->∃f:Nat->Int,ys=(di n).map λk=>.i (f k)
 |0,[],_=>⟨λ_=>0,rfl⟩|0,_::_,h=>by simp at h|n+1,[],h=>by simp at h
 |n+1,y::ys,h=>by
  simp only[Jb,fA,aC] at h;obtain⟨f,X⟩:=Qq (n:=n) (ys:=ys) h.2;cases y<;>simp at h;rename_i x;refine⟨λk=>match k with|0=>x|k+1=>f k, ?_⟩
  rw[X,avQ];simp
def t89(h:dS)(bz ao:Int)(x:Nat->Int)(r:RV)(M:Sl r):∃o,TB.Ev 113 (wk++[.i bz,.i ao,.i (x 0),.i (x 1),.i (x 2),.i (x 3),.i (x 4),.i (x 5),.i (x 6),.i (x 7),.i (x 8),.i (x 9),.i (x 10),.i (x 11),.i (x 12),.r r]) o/\∃X,o=.ret X/\fA (kI 14) X=true:=by
 refine eJ ?_;have Q:=Ja oU h bz ao;have P:=(yM oU h).2;have H:=UK (bz:=bz) (ao:=ao) P;have G:=abe (bz:=bz) (ao:=ao) P;simp only[wk,cJ,da] at Q;generalize dU bz ao=l at*;generalize l9 bz ao=e at*;obtain⟨o,F,v,b,rfl,y,D⟩:=atb l r M H G;simp[T89,wk,aY Q,aY F];intro _ _ B;have w:Y v<=4096:=by have:=(D B).1;omega
 refine bQ (Y v) (λi N=>fA (kI 26) N=J) ⟨0,rfl,ae,rfl⟩ ?_;rintro i N W A;obtain⟨f,rfl⟩:=Qq A;rw[show di 26=[0,1,2,3,4,5,6,7,8,9,10,11,12,13,14,15,16,17,18,19,20,21,22,23,24,25] from rfl];simp;intro W;obtain⟨o,V,X,rfl,z⟩:=aju (f 13) (f 14) (f 15) (f 16) (f 17) (f 18) (f 19) (f 20) (f 21) (f 22) (f 23) (f 24) (f 25) (bX v i) (bX v i 14) (bX v i 15) (bX v i 16) (jp (aN v i 17).val);obtain⟨g,rfl⟩:=Qq z;rw[show di 14=[0,1,2,3,4,5,6,7,8,9,10,11,12,13] from rfl] at V;simp only[lY,bX,cJ,da,dH,oC] at V;simp[aY V,bC W (show Y v<=140737488355328 from ae),W]
end
section
variable{R:aX->Prop}{G:aL}{t:T}{O:aj}{L:ck}
variable[Inhabited cm]
def ajw{v:RV}{X:T}{e:TypeId}{W Q P:bo}(V:Sl v)(M:Y v.ah<=536870912)(N:X=.gq (.c J) (.cmp .leq (.len (.v 0)) (.c 0)) (.aQ (.cmp .leq (.len (.v 0)) (.c 536870912)) (.new e (.iB (.lit []) (.ak (.v 0))) W Q (.ret (.ak (.v 1)) [] P))) (.ret (.ak (.k (.slice Z 0 0))) [] W)):T.wp TB.Ev (· =.ret [.r (ap v.ah)]) X (dF [] [.r v]) []:=by
 subst N;rw[Gj];refine⟨.inl rfl,λ_=> ?_,λh=> ?_,λ_ h=> ?_⟩;simp[zE,V.len];omega
 all_goals
  have h:v.ah=[]:=by
   simp[V.len] at h;exact h
 simp[zE,h];exact single (Hz _)
def e86(v:RV)(X:Sl v)(h:Y v.ah<=536870912):TB.Ev 110 [.r v] (.ret [.r (ap v.ah)]):=ki (ajw X h rfl)
def e87(v:RV)(X:Sl v)(h:Y v.ah<=536870912):TB.Ev 111 [.r v] (.ret [.r (ap v.ah)]):=ki (ajw X h rfl)
def e88(v:RV)(X:Sl v)(h:Y v.ah<=536870912):TB.Ev 112 [.r v] (.ret [.r (ap v.ah)]):=ki (ajw X h rfl)
def aBT(v:RV)(W:Sl v)(a b c:Int)(d:Bool):∃o,TB.Ev 176 [.r v,.i a,.i b,.i c,.b d] o/\∃V,o=.ret V/\fA (kI 1) V=true:=by
 refine eJ ?_;simp[aiK];refine bQ (Y v.ah) (λ_ Q=>Q=[]) ⟨0,rfl,ae,rfl⟩ ?_;rintro i _ X rfl;simp[W.len];intro X;simp[bC X W.sm,X]
def aBU(v:RV)(W:Sl v)(a b c:Int)(d:Bool):∃o,TB.Ev 146 [.r v,.i a,.i b,.i c,.b d] o/\∃X,o=.ret X/\fA [.bool] X=true:=by
 refine eJ ?_;have h:=nz _ (aBT v W a b c d);simp[aiJ,aY h,tZ]
def ati(v:RV)(X:Sl v)(a b c:Int)(d:Bool):gW TB.Ev R 146 [.r v,.i a,.i b,.i c,.b d] G t O L=ik TB.Ev R (.ret [.b (ob 146 [.r v,.i a,.i b,.i c,.b d] 0)]) G t O L:=aY (nz [.bool] (aBU v X a b c d))
def aBV(Q:At)(h:dS)(id:Int):∃o,TB.Ev 174 (wk++[.i id]) o/\∃W,o=.ret W/\fA (kI 15) W=true:=by
 refine eJ ?_;obtain⟨V,H⟩:=yM Q h;simp only[wk] at V;simp[ai2,wk,aY V];intro G;have F:=h.sg.sm;refine As (λX=>∃i j:Nat,X=[.i i,.i j]/\i<=j/\j<=Y dh.ah) (λX=>(xi X 1-xi X 0).toNat) ⟨0,Y dh.ah,by simp[h.sg.len],ae,ae⟩ ?_;rintro _ ⟨i,j,rfl,P,D⟩;simp[xi,BN,h.sg.len,ajq (show j<=140737488355328 from ae) P];split;rename_i B;refine⟨ae, ?_⟩;have N:((i:Int)+j)/2=(((i+j)/2:Nat):Int):=ae;have M:=wX (i:=(i+j)/2) ae;rw[N,M];split;exact⟨⟨(i+j)/2+1,j,⟨rfl,rfl⟩,ae,ae⟩,ae⟩;exact⟨⟨i,(i+j)/2,⟨rfl,rfl⟩,ae,ae⟩,ae⟩;intro A;omega
def aBW(N:BS)(h:dS)(ao:Int)(V M H X G:RV)(c:Nat->Int)(F:Sl V)(D:Sl X)(y:Y V.ah=Y ay.ah)(x:Y X.ah=Y ay.ah)(bZ:∀i<Y X.ah,Sl (cr 96 X i)):∃o,TB.Ev 147 (wk++[.i ao,.r V,.r M,.r H,.r X,.r G]++lY c) o/\∃P,o=.ret P/\fA [.bool] P=true:=by
 refine eJ ?_;simp[aiL,wk,lY];refine bQ (Y dh.ah) (λ_ B=>B=[]) ⟨0,rfl,ae,rfl⟩ ?_;rintro i _ W rfl;simp[h.sg.len,F.len,D.len];intro W;simp[bC W h.sg.sm,W];intros;have A:=(N.UH i W).bz;simp only[ci] at A;refine⟨ae,λ_=>⟨ae, ?_⟩⟩;have z:(bn (aN dh.ah (i:Int) 1).val).toNat<Y X.ah:=ae;have Q:=bZ _ z;simp only[cr] at Q;rw[show(((bn (aN dh.ah (i:Int) 1).val).toNat:Nat):Int)=bn (aN dh.ah (i:Int) 1).val from ae] at Q;rw[ati _ Q];simp[bC W h.sg.sm]

def gl0:RV:=wn[0]?.getD default
def LV:RV:=wn[1]?.getD default
def gl2:RV:=wn[2]?.getD default
def aBZ:wn=[gl0,LV,gl2]:=rfl
def atj:lenOf LV.val=10:=rfl
def rI(k:Int)(j:Nat):RV:=cH (.sl 3) (aN LV.ah k j)
def aB0{k s:Int}(Q:1<=k/\k<=9)(W:if k=1\/k=3\/k=4\/k=9 then 1<=s/\s<=2 else s=0):
  (lenOf (rI k 0).val=(rI k 0).ah.length/\(rI k 0).ah.length<=2/\∀i:Nat,i<(rI k 0).ah.length->0<=bn (aN (rI k 0).ah i 0).val/\bn (aN (rI k 0).ah i 0).val<=2/\1<=s/\s<=2)/\
  (lenOf (rI k 1).val=(rI k 1).ah.length/\(rI k 1).ah.length<=2/\∀i:Nat,i<(rI k 1).ah.length->0<=bn (aN (rI k 1).ah i 0).val/\bn (aN (rI k 1).ah i 0).val<=4):=by
 have:k=1\/k=2\/k=3\/k=4\/k=5\/k=6\/k=7\/k=8\/k=9:=ae;rcases this with rfl|rfl|rfl|rfl|rfl|rfl|rfl|rfl|rfl
 all_goals
  simp at W;refine⟨⟨rfl,ew,λi X=> ?_⟩,rfl,ew,λi X=> ?_⟩
  all_goals
   simp[rI,LV,wn,Bj,sV,iV,aN,cH,-as4] at X
   try
    have V:i=0\/i=1:=ae;rcases V with rfl|rfl
    all_goals simp[rI,LV,wn,Bj,sV,iV,aN,cH,bn,-as4] at X⊢
    all_goals(try omega)
def aB1{bz ao:Int}{v:av}{r:RV}(V:jL=0->BS)(h:Au (dU bz ao) r (dU bz ao).length v){i:Nat}(W:i<Y v):∃c,BQ (Y ay.ah) eD c/\∀j<14,bn (aN v (i:Int) j).val=c j:=by
 rw[h.1] at W;obtain⟨k,N,M,H⟩:=h.2 i W;obtain⟨x,Q⟩:∃x,(dU bz ao)[i]?=U x:=⟨_,dG W⟩;obtain⟨m,G,F,D,B,P⟩:=ata V (jz Q);refine⟨ci dh m,P,λj X=> ?_⟩;have A:∀j<14,bX (dU bz ao) i j=ci dh m j:=λj X=>by
  have:=UI (ci dh m) j X
  grind [bX,aN,rM,aW]
 have z:∀j<14,bn ((ajr (bX (dU bz ao) i) r k).getD j default).val=bX (dU bz ao) i j:=λj X=>by
  match j,X with|0,_|1,_|2,_|3,_|4,_|5,_|6,_|7,_|8,_|9,_|10,_|11,_|12,_|13,_=>rfl
 grind [aN,rM]
def kB:Nat->aL
 |0=>[]|n+1=>.bool::kB n
@[simp] def kB0:kB 0=[]:=rfl
@[simp] def kBs (n:Nat):kB (n+1)=.bool::kB n:=rfl
def abg:∀{n:Nat}{ys:aZ},fA (kB n) ys=J->∃f:Nat->Bool,ys=(di n).map λk=>.b (f k)
 |0,[],_=>⟨λ_=>E,rfl⟩|0,_::_,h=>by simp at h|n+1,[],h=>by simp at h
 |n+1,y::ys,h=>by
  simp only[kBs,fA,aC] at h;obtain⟨f,X⟩:=abg (n:=n) (ys:=ys) h.2;cases y<;>simp at h;rename_i x;refine⟨λk=>match k with|0=>x|k+1=>f k, ?_⟩
  rw[X,avQ];simp
def atk:∀{n:Nat}{ys:aZ},fA (kI n++[.bool]) ys=J->∃(f:Nat->Int)(b:Bool),ys=(di n).map (λk=>.i (f k))++[.b b]
 |0,[],h=>by simp at h|0,[.b b],_=>⟨λ_=>0,b,rfl⟩|0,[.i _],h=>by simp at h|0,[.r _],h=>by simp at h|0,_::_::_,h=>by simp at h|n+1,[],h=>by simp at h
 |n+1,y::ys,h=>by
  simp only[Jb,cJ,fA,aC] at h;obtain⟨f,b,X⟩:=atk (n:=n) (ys:=ys) h.2;cases y<;>simp at h;rename_i x;refine⟨λk=>match k with|0=>x|k+1=>f k,b, ?_⟩
  rw[X,avQ];simp
def t90(h:dS)(bz ao:Int)(x:Nat->Int)(N:RV)(ac:DZ N)(y:Nat->Int)(r:RV)(hr:Sl r):∃o,TB.Ev 114 (wk++[.i bz,.i ao,.i (x 0),.i (x 1),.i (x 2),.i (x 3),.i (x 4),.i (x 5),.i (x 6),.i (x 7),.i (x 8),.i (x 9),.i (x 10),.i (x 11),.i (x 12),.r N,.i (y 1),.i (y 2),.i (y 3),.i (y 4),.i (y 5),.i (y 6),.i (y 7),.i (y 8),.i (y 9),.i (y 10),.i (y 11),.i (y 12),.i (y 13),.i (y 14),.i (y 15),.i (y 16),.r r]) o/\∃M,o=.ret M/\fA (kI 5) M=true:=by
 refine eJ ?_;have m:=Ja oU h bz ao;have H:=(yM oU h).2;have hl:=UK (bz:=bz) (ao:=ao) H;have hk:=abe (bz:=bz) (ao:=ao) H;have fG:= @aB1 _ bz ao;simp only[wk,cJ,da] at m;generalize dU bz ao=l at*;generalize l9 bz ao=e at*;obtain⟨o,h2,v,b,rfl,h3,h4⟩:=atb l r hr hl hk;simp[T90,wk,aBZ,aY m,aY h2,c75 N ac];intro _ _ _ hb;have j:=h4 hb;have hv:Y v<=4096:=by have:=j.1;omega
 have G:Y v<=140737488355328:=ae;refine bQ (Y v) (λi X=>fA (kB 6) X=J) ⟨0,rfl,ae,rfl⟩ ?_;rintro i X W V;obtain⟨f,rfl⟩:=abg V;rw[show di 6=[0,1,2,3,4,5] from rfl];simp;split
 ·rename_i W;obtain⟨c,F,d⟩:=fG H j W;have D:=d 4 ae;have af:=d 5 ae;obtain⟨B,A⟩:=aB0 F.kind F.side;have ag:=F.kind;have aa:cH (.sl 3) (aN LV.ah (c 4) 0)=rI (c 4) 0:=rfl;have ab:cH (.sl 3) (aN LV.ah (c 4) 1)=rI (c 4) 1:=rfl;generalize rI (c 4) 0=z at B aa;generalize rI (c 4) 1=w at A ab;simp[bC W G,W,D,atj];intro _;split
  all_goals
   refine⟨ae, ?_⟩;refine bQ (Y z.ah) (λ_ X=>fA (kB 5) X=J) ⟨0,rfl,ae,rfl⟩ ?_;rintro a X Q V;obtain⟨g,rfl⟩:=abg V;rw[show di 5=[0,1,2,3,4] from rfl];simp[D,af,aa,B.1,atj];split;rename_i Q;have s:=B.2.2 a Q;generalize bn (aN z.ah (a:Int) 0).val=x at s;rw[show be .sub I (be .add I x (c 5)) 1=x+c 5-1 by simp only[be];rw[i8 (n:=x+c 5) ae ae,i8 ae ae]];simp[bC Q (show Y z.ah<=140737488355328 from ae),Q];omega;refine⟨ae, ?_⟩;refine bQ (Y w.ah) (λ_ X=>fA (kB 5) X=J) ⟨0,rfl,ae,rfl⟩ ?_;rintro a' X P V;obtain⟨g',rfl⟩:=abg V;rw[show di 5=[0,1,2,3,4] from rfl];simp[D,ab,A.1];split;rename_i P;have s:=A.2.2 a' P;generalize bn (aN w.ah (a':Int) 0).val=x at s;simp[bC P (show Y w.ah<=140737488355328 from ae),P];omega;simp[bC W G]
 refine bQ 5 (λ_ X=>fA (kI 4) X=J) ⟨0,rfl,ae,rfl⟩ ?_;rintro k X q V;obtain⟨g,rfl⟩:=Qq V;rw[show di 4=[0,1,2,3] from rfl];have hq:be .quo I (k:Int) 2=((k/2:Nat):Int):=by
  simp only[be];rw[show(k:Int).tdiv 2=((k/2:Nat):Int) by rw[Int.tdiv_eq_ediv_of_nonneg ae];omega];exact i8 ae ae
 simp[hq];split;rename_i q;have q:k<5:=ae;simp[bC q (show 5<=140737488355328 from ae)];omega;intro _;refine bQ (Y v) (λ_ X=>fA (kI 17++[.bool]) X=J) ⟨0,rfl,ae,rfl⟩ ?_;rintro i X W V;obtain⟨f,b',rfl⟩:=atk V;rw[show di 17=[0,1,2,3,4,5,6,7,8,9,10,11,12,13,14,15,16] from rfl];simp;intro W;obtain⟨o,p,M,rfl,q2⟩:=aju (f 4) (f 5) (f 6) (f 7) (f 8) (f 9) (f 10) (f 11) (f 12) (f 13) (f 14) (f 15) (f 16) (bX v i) (bX v i 14) (bX v i 15) (bX v i 16) (jp (aN v i 17).val);obtain⟨u,rfl⟩:=Qq q2;rw[show di 14=[0,1,2,3,4,5,6,7,8,9,10,11,12,13] from rfl] at p;simp only[lY,bX,cJ,da,dH,oC] at p;refine⟨W, ?_⟩;rw[aY p];simp[bC W G]
end
section
variable{R:aX->Prop}{G:aL}{t:T}{O:aj}{L:ck}
def aft(x:Nat->Int)(v:av)(i:Nat):Nat->Int:=xi (out 171 ([.i (x 0),.i (x 1),.i (x 2),.i (x 3),.i (x 4),.i (x 5),.i (x 6),.i (x 7),.i (x 8),.i (x 9),.i (x 10),.i (x 11),.i (x 12)]++lY (bX v i)++[.i (bX v i 14),.i (bX v i 15),.i (bX v i 16),.b (jp (aN v i 17).val)]))

variable[Inhabited cm]

end
def jM(v:av):Prop:=∀x∈v,jp (x.getD 3 default).val=E
def jM.nil:jM []:=λx X=>by simp at X
def jM.iB{x:aE}(h:jM X)(V:jp (x.getD 3 default).val=E):jM (X++[x]):=λy W=>by
 rcases fg.1 W with W|W;exact h y W
 grind
theorem jM.at(h:jM X)(V:W<Y X):jp (X[W].getD 3 default).val=false:=h _ (ul V)
def jM.cell(h:jM X)(V:W<Y X):jp (aN X (W:Int) 3).val=false:=by
 have:=h.at V;simpa[aN,V] using this
section
variable{R:aX->Prop}{G:aL}{t:T}{O:aj}{L:ck}
variable[Inhabited cm]
def ajx{W:ar}{d:Bool}(V:Y X<=1099511627776):ip (.lex W d) J X=U (bN (bu.lex W d).lt X):=by
 simp only[ip];rw[aH (by simp[V,bu.ok])]
def aB3(hc:At)(h:dS)(id:Int)(l:RV)(a0:DZ l)(f d c b a y5 y6 y7 y8 y9 aa F D B ab ac:Int):∃o,TB.Ev 145 (wk++[.i id,.r l,.i f,.i d,.i c,.i b,.i a,.i y5,.i y6,.i y7,.i y8,.i y9,.i aa,.i F,.i D,.i B,.i ab,.i ac]) o/\∃v e,o=.ret [.r (ap v),.i e]/\(xi (out 174 (wk++[.i id])) 3=1->jM v)/\Y v<=100:=by
 refine eJ ?_;have Q:=nz _ (aBV hc h id);have P:=f75 l a0 f d c b a y5 y6 y7 y8 y9 aa F D B ab ac;simp only[wk,cJ,da,Jb,Qo,tZ] at Q;simp only[wk,cJ,da];generalize xi (out 174 [XV.i oS,XV.i oT,XV.i wZ,XV.i I8,XV.i I9,XV.r ay,XV.i eD,XV.r l8,XV.r nu,XV.r ny,XV.r dh,XV.i id])=g at Q⊢;generalize Qp l f d c b a y5 y6 y7 y8 y9 aa F D B ab ac=a1 at P;by_cases N:g 14=0;by_cases M:a1=0;have ht:=P.2 M;have V:g 4=1\/g 4=2\/g 4=9\/g 4=3\/g 4=4\/g 4=5\/(g 4≠1/\g 4≠2/\g 4≠9/\g 4≠3/\g 4≠4/\g 4≠5):=ae;rcases V with V|V|V|V|V|V|⟨k1,k2,k3,k4,k5,k6⟩
 ·simp(maxSteps:=9999999) [BL,wk,aY Q,aY P.1,N,M,V]
  repeat' split
  all_goals first|exact⟨_,rfl,λe=>bF e md,aw⟩|exact⟨_,rfl,λ_=>by simp[jM,jp],aw⟩
 ·simp(maxSteps:=9999999) [BL,wk,aY Q,aY P.1,N,M,V]
  repeat' split
  all_goals first|exact⟨_,rfl,λe=>bF e md,aw⟩|exact⟨_,rfl,λ_=>by simp[jM,jp],aw⟩
 ·simp(maxSteps:=9999999) [BL,wk,aY Q,aY P.1,N,M,V]
  repeat' split
  all_goals first|exact⟨_,rfl,λe=>bF e md,aw⟩|exact⟨_,rfl,λ_=>by simp[jM,jp],aw⟩
 simp(maxSteps:=9999999) [BL,wk,aY Q,aY P.1,N,M,V];have hT:1<=F/\F<=3:=ht.1;obtain⟨eN,A⟩:∃n:Nat,F=n:=⟨F.toNat,ae⟩;subst A;refine bQ 9 (λi W=>∃v,W=[.r (ap v)]/\jM v/\Y v<=3*i) ⟨0,rfl,ae,[],rfl,jM.nil,aw⟩ ?_;rintro i _ hi ⟨v,rfl,X,z⟩;simp;split;rename_i af;have y:i<9:=ae;refine bQ (eN+1) (λj W=>1<=j/\∃v,W=[.r (ap v)]/\jM v/\Y v+1<=3*i+j) ⟨1,rfl,ae,ae,v,rfl,X,ae⟩ ?_;rintro j _ hj ⟨ag,v,rfl,X,z⟩;simp;split
 ·rename_i al;have w:j<eN+1:=ae;simp[bC w (show eN+1<=140737488355328 from ae)]
  repeat'(first|intro _|split)
  all_goals first
   |exact⟨v,rfl,X,ae⟩
   |(refine⟨ae,_,rfl,X.iB rfl,bY⟩)
   |(refine⟨⟨ae,ae⟩,_,rfl,X.iB rfl,bY⟩)
 simp[bC y (show 9<=140737488355328 from ae)];exact⟨v,rfl,X,ae⟩
 first|rw[yK]|rw[Gk]
 refine⟨_,ajx bY, ?_⟩;have s:(bN (bu.lex [4] J).lt v).length=Y v:=pN;simp;have H:jM (bN (bu.lex [4] J).lt v):=λx p=>X x ((BR v).mem_iff.1 p)
 generalize hq:bN (bu.lex [4] J).lt v=q at s H;refine bQ (Y q) (λi W=>∃u,W=[.r (ap u)]/\jM u/\Y u=i) ⟨0,rfl,ae,[],rfl,jM.nil,rfl⟩ ?_;rintro k _ an ⟨u,rfl,G,hu⟩;simp;split;rename_i m;refine⟨m,ae, ?_⟩;rw[bC (show k<Y q from ae) (show Y q<=140737488355328 from ae)];exact⟨_,rfl,G.iB (H.cell (show k<Y q from ae)),bY⟩
 ·repeat'(first|intro _|split)
  all_goals first
   |exact⟨u,rfl,λ_=>G,ae⟩|(refine⟨ae,_,rfl,λe=>bF e md, ?_⟩;simp;omega)|(refine⟨⟨ae,ae⟩,_,rfl,λe=>bF e md, ?_⟩;simp;omega)
 simp(maxSteps:=9999999) [BL,wk,aY Q,aY P.1,N,M,V];have hT:1<=D/\D<=3:=ht.2.1;obtain⟨eN,A⟩:∃n:Nat,D=n:=⟨D.toNat,ae⟩;subst A;refine bQ 9 (λi W=>∃v,W=[.r (ap v)]/\jM v/\Y v<=3*i) ⟨0,rfl,ae,[],rfl,jM.nil,aw⟩ ?_;rintro i _ hi ⟨v,rfl,X,z⟩;simp;split;rename_i af;have y:i<9:=ae;refine bQ (eN+1) (λj W=>1<=j/\∃v,W=[.r (ap v)]/\jM v/\Y v+1<=3*i+j) ⟨1,rfl,ae,ae,v,rfl,X,ae⟩ ?_;rintro j _ hj ⟨ag,v,rfl,X,z⟩;simp;split
 ·rename_i al;have w:j<eN+1:=ae;simp[bC w (show eN+1<=140737488355328 from ae)]
  repeat'(first|intro _|split)
  all_goals first
   |exact⟨v,rfl,X,ae⟩
   |(refine⟨ae,_,rfl,X.iB rfl,bY⟩)
   |(refine⟨⟨ae,ae⟩,_,rfl,X.iB rfl,bY⟩)
 simp[bC y (show 9<=140737488355328 from ae)];exact⟨v,rfl,X,ae⟩
 first|rw[yK]|rw[Gk]
 refine⟨_,ajx bY, ?_⟩;have s:(bN (bu.lex [4] J).lt v).length=Y v:=pN;simp;have H:jM (bN (bu.lex [4] J).lt v):=λx p=>X x ((BR v).mem_iff.1 p)
 generalize hq:bN (bu.lex [4] J).lt v=q at s H;refine bQ (Y q) (λi W=>∃u,W=[.r (ap u)]/\jM u/\Y u=i) ⟨0,rfl,ae,[],rfl,jM.nil,rfl⟩ ?_;rintro k _ an ⟨u,rfl,G,hu⟩;simp;split;rename_i m;refine⟨m,ae, ?_⟩;rw[bC (show k<Y q from ae) (show Y q<=140737488355328 from ae)];exact⟨_,rfl,G.iB (H.cell (show k<Y q from ae)),bY⟩
 ·repeat'(first|intro _|split)
  all_goals first
   |exact⟨u,rfl,λ_=>G,ae⟩|(refine⟨ae,_,rfl,λe=>bF e md, ?_⟩;simp;omega)|(refine⟨⟨ae,ae⟩,_,rfl,λe=>bF e md, ?_⟩;simp;omega)
 simp(maxSteps:=9999999) [BL,wk,aY Q,aY P.1,N,M,V];have hT:1<=B/\B<=3:=ht.2.2;obtain⟨eN,A⟩:∃n:Nat,B=n:=⟨B.toNat,ae⟩;subst A;refine bQ 9 (λi W=>∃v,W=[.r (ap v)]/\jM v/\Y v<=3*i) ⟨0,rfl,ae,[],rfl,jM.nil,aw⟩ ?_;rintro i _ hi ⟨v,rfl,X,z⟩;simp;split;rename_i af;have y:i<9:=ae;refine bQ (eN+1) (λj W=>1<=j/\∃v,W=[.r (ap v)]/\jM v/\Y v+1<=3*i+j) ⟨1,rfl,ae,ae,v,rfl,X,ae⟩ ?_;rintro j _ hj ⟨ag,v,rfl,X,z⟩;simp;split
 ·rename_i al;have w:j<eN+1:=ae;simp[bC w (show eN+1<=140737488355328 from ae)]
  repeat'(first|intro _|split)
  all_goals first
   |exact⟨v,rfl,X,ae⟩
   |(refine⟨ae,_,rfl,X.iB rfl,bY⟩)
   |(refine⟨⟨ae,ae⟩,_,rfl,X.iB rfl,bY⟩)
 simp[bC y (show 9<=140737488355328 from ae)];exact⟨v,rfl,X,ae⟩
 first|rw[yK]|rw[Gk]
 refine⟨_,ajx bY, ?_⟩;have s:(bN (bu.lex [4] J).lt v).length=Y v:=pN;simp;have H:jM (bN (bu.lex [4] J).lt v):=λx p=>X x ((BR v).mem_iff.1 p)
 generalize hq:bN (bu.lex [4] J).lt v=q at s H;refine bQ (Y q) (λi W=>∃u,W=[.r (ap u)]/\jM u/\Y u=i) ⟨0,rfl,ae,[],rfl,jM.nil,rfl⟩ ?_;rintro k _ an ⟨u,rfl,G,hu⟩;simp;split;rename_i m;refine⟨m,ae, ?_⟩;rw[bC (show k<Y q from ae) (show Y q<=140737488355328 from ae)];exact⟨_,rfl,G.iB (H.cell (show k<Y q from ae)),bY⟩
 ·repeat'(first|intro _|split)
  all_goals first
   |exact⟨u,rfl,λ_=>G,ae⟩|(refine⟨ae,_,rfl,λe=>bF e md, ?_⟩;simp;omega)|(refine⟨⟨ae,ae⟩,_,rfl,λe=>bF e md, ?_⟩;simp;omega)
 ·simp(maxSteps:=9999999) [BL,wk,aY Q,aY P.1,N,M,k1,k2,k3,k4,k5,k6]
  repeat' split
  all_goals first|exact⟨_,rfl,λe=>bF e md,aw⟩|exact⟨_,rfl,λ_=>by simp[jM,jp],aw⟩
 simp(maxSteps:=9999999) [BL,wk,aY Q,aY P.1,N,M]
 first|exact⟨_,rfl,λe=>bF e md,aw⟩|exact⟨_,rfl,λ_=>by simp[jM,jp],aw⟩
 ·simp(maxSteps:=9999999) [BL,wk,aY Q,aY P.1,N]
  repeat'(first|intro _|split)
  all_goals first|exact⟨_,rfl,λe=>bF e md,aw⟩|exact⟨_,rfl,λ_=>by simp[jM,jp],aw⟩
def t78(u:At)(h:dS)(id:Int)(X:RV)(s:DZ X)(W V Q P N M H G F D B A z y x w:Int):∃o,TB.Ev 145 (wk++[.i id,.r X,.i W,.i V,.i Q,.i P,.i N,.i M,.i H,.i G,.i F,.i D,.i B,.i A,.i z,.i y,.i x,.i w]) o/\∃v e,o=.ret [.r (ap v),.i e]/\Y v<=100:=by
 obtain⟨o,g,v,e,q,_,p⟩:=aB3 u h id X s W V Q P N M H G F D B A z y x w
 grind

def vB(v:RV)(i:Nat):Bool:=eQ (ci v i 0) (ci v i 1) (ci v i 2) (ci v i 3)
def mK(u:RV)(i:Nat)(w:RV)(k:Nat):Bool:=vB u i&&vB w k&&BM (ci u i 0) (ci u i 1) (ci u i 2) (ci u i 3) (ci w k 0) (ci w k 1) (ci w k 2) (ci w k 3)
def D0(oS oT:Int)(u:RV)(i:Nat):Bool:=vB u i&&eQ 0 (be .mul I 841 oS) 0 (be .mul I 841 oT)&&I6 (ci u i 0) (ci u i 1) (ci u i 2) (ci u i 3) 0 (be .mul I 841 oS) 0 (be .mul I 841 oT)
def mL(X:RV):Nat->av
 |0=>[]|i+1=>iE 2 [.mk (.int I (ci X i 0)) [],.mk (.int I (ci X i 1)) [],.mk (.bool J) []] (mL X i)
def kj(X:av)(a b:Nat):Bool:=BE.ai ⟨[(a:Int),(b:Int)],[],[ap X],[]⟩ (.look (.v 0) 2 (.v 0) (.v 1) (.c 0) 2)
def Jc(X:RV)(ao:Int):Nat->av
 |0=>[]|i+1=>Jc X ao i++[[.mk (.int I (mJ (ci X i) ao 0)) [],.mk (.int I (mJ (ci X i) ao 1)) [],.mk (.int I (mJ (ci X i) ao 2)) [],.mk (.int I (mJ (ci X i) ao 3)) []]]
def Qr(X:RV)(ao:Int):∀i,(Jc X ao i).length=i
 |0=>rfl|i+1=>by simp[Jc,Qr X ao i]
def atn(X:RV)(ao:Int){k:Nat}:∀{i},k<i->(Jc X ao i)[k]?=U [.mk (.int I (mJ (ci X k) ao 0)) [],.mk (.int I (mJ (ci X k) ao 1)) [],.mk (.int I (mJ (ci X k) ao 2)) [],.mk (.int I (mJ (ci X k) ao 3)) []]
 |0,h=>ae
 |i+1,h=>by
  by_cases W:k=i;subst W;rw[Jc,ji (by rw[Qr];omega),Qr];simp;rw[Jc,f8 (by rw[Qr];omega)];exact atn X ao ae
def t6(u:RV)(i:Nat)(X:RV)(ao:Int)(g:Nat):Bool:=vB u i&&eQ (mJ (ci X g) ao 0) (mJ (ci X g) ao 1) (mJ (ci X g) ao 2) (mJ (ci X g) ao 3)&&BM (ci u i 0) (ci u i 1) (ci u i 2) (ci u i 3) (mJ (ci X g) ao 0) (mJ (ci X g) ao 1) (mJ (ci X g) ao 2) (mJ (ci X g) ao 3)
def ptC(X:RV)(ao:Int){k:Nat}(h:k<W)(j:Nat)(V:j<4):bn (aN (Jc X ao W) (k:Int) j).val=mJ (ci X k) ao j:=by
 simp only[aN,rM,dM,atn X ao h]
 match j,V with|0,_|1,_|2,_|3,_=>rfl
def aB5{V:Type}{v:List V}{Q:Prop}{P:Nat->Prop}(h:v=[]<->Q/\∀X<W,P X)(N:P W):v=[]<->Q/\∀X<W+1,P X:=by
 grind
def aB6{V:Type}{v:List V}{Q:Prop}{P:Nat->Nat->Prop}{n:Nat}(h:v=[]<->(Q/\∀X<W,∀b<n,P X b)/\∀N<n,P W N):v=[]<->Q/\∀X<W+1,∀b<n,P X b:=by
 grind
structure ClE(wg:RV)(ao:Int)(mv hd pr:RV):Prop where
 wk:jL=0
 nw:Y wg.ah<=8
 inb:jh ao 0 (eD-1)=J
 lm:Y mv.ah=Y ay.ah
 lh:Y hd.ah=Y ay.ah
 vm:∀i<Y mv.ah,vB mv i=J
 vh:∀i<Y hd.ah,vB hd i=J
 UM:∀i<Y pr.ah,0<=ci pr i 0/\ci pr i 0<ci pr i 1/\ci pr i 1<Y ay.ah
 pth:∀g<Y wg.ah,mJ (ci wg g) ao 4=0
structure ClN(oS oT:Int)(ay:RV)(wg:RV)(ao:Int)(mv hd pr:RV):Prop where
 n1:∀a<Y ay.ah,∀b,a<b->b<Y ay.ah->kj (mL pr (Y pr.ah)) a b=J\/mK mv a mv b=J
 n2:∀a<Y ay.ah,∀b,a<b->b<Y ay.ah->kj (mL pr (Y pr.ah)) a b=J\/mK mv a hd b=J
 n3:∀a<Y ay.ah,∀b,a<b->b<Y ay.ah->kj (mL pr (Y pr.ah)) a b=J\/mK hd a mv b=J
 n4:∀a<Y ay.ah,∀b,a<b->b<Y ay.ah->kj (mL pr (Y pr.ah)) a b=J\/mK hd a hd b=J
 wgs:∀a<Y ay.ah,∀g<Y wg.ah,t6 mv a wg ao g=J/\t6 hd a wg ao g=J
 aB8:∀a<Y ay.ah,D0 oS oT mv a=J/\D0 oS oT hd a=J
structure abi(wg:RV)(ao:Int)(mv hd pr:RV):Prop extends ClE wg ao mv hd pr,ClN oS oT ay wg ao mv hd pr
def w4{P:Nat->Prop}(h:∀k<W,P k)(X:P W):∀k<W+1,P k:=λk V=>by
 grind
def Jd{wZ Q:Prop}{P:Nat->Prop}(h:wZ<->Q):wZ<->Q/\∀X<0,P X:=by simp[h]
def abj{wZ Q:Prop}{P:Nat->Prop}(h:wZ<->Q):wZ<->Q/\∀X,W<X->X<W+1->P X:=by
 grind
def BT{e:Int}{X N:Prop}(V:e≠0)(Q:¬X):∃v W,(ap []=ap v/\e=W)/\(¬W=0->v=[])/\Y v<=1000000/\(W=0<->X)/\(W=0->(v=[]<->N)):=⟨[],e,⟨rfl,rfl⟩,λ_=>rfl,aw,by simp[V,Q],λh=>bF h V⟩
def aB9(h:dS)(P:RV)(ao:Int)(N M V:RV)(aa:Sl P)(f:Sl N)(d:Sl M)(a4:Sl V):∃o,TB.Ev 150 (wk++[.r P,.i ao,.r N,.r M,.r V]) o/\∃v e,o=.ret [.r (ap v),.i e]/\(e≠0->v=[])/\Y v<=1000000/\(e=0<->ClE P ao N M V)/\(e=0->(v=[]<->ClN oS oT ay P ao N M V)):=by
 refine eJ ?_;obtain⟨h1,h2⟩:=yM oU h;simp only[wk] at h1;simp(maxSteps:=9999999) [ai0,wk,h.rl.len,aa.len,f.len,d.len,aY h1];split
 case isFalse a9=>exact BT a9 λX=>a9 X.wk
 rename_i h0;have hw:=h2 h0;have hn:=hw.nr;have b1:=hw.br;split
 case isTrue h8=>exact BT ae λX=>by have:=X.nw;omega
 rename_i h8;rw[show be .sub I eD 1=eD-1 by simp only[be];exact i8 ae ae];split
 case isFalse hb=>exact BT ae λX=>hb (by simpa using X.inb)
 rename_i hb;split
 case isFalse hl=>exact BT ae λX=>by have:=X.lm;omega
 rename_i bk;split
 case isFalse hl=>exact BT ae λX=>by have:=X.lh;omega
 rename_i bl;refine bQ (Y N.ah) (λi H=>H=[]/\∀k<i,vB N k=J) ⟨0,rfl,ae,rfl,ae⟩ ?_;rintro i _ F ⟨rfl,ba⟩;simp[f.len];split;rename_i F;simp[bC F f.sm,F];split;rename_i A;exact w4 ba A;rename_i A;exact BT ae λX=>A (X.vm i F)
 rename_i ab;have s:i=Y N.ah:=ae;subst s;refine bQ (Y M.ah) (λi H=>H=[]/\∀k<i,vB M k=J) ⟨0,rfl,ae,rfl,ae⟩ ?_;rintro i _ F ⟨rfl,bb⟩;simp[d.len];split;rename_i F;simp[bC F d.sm,F];split;rename_i A;exact w4 bb A;rename_i A;exact BT ae λX=>A (X.vh i F)
 rename_i ab;have s:i=Y M.ah:=ae;subst s;refine bQ (Y V.ah) (λi H=>H=[.r (ap []),.r (ap (mL V i))]/\∀k<i,0<=ci V k 0/\ci V k 0<ci V k 1/\ci V k 1<Y ay.ah) ⟨0,rfl,ae,rfl,ae⟩ ?_;rintro i _ F ⟨rfl,bc⟩;simp[h.rl.len,a4.len];split;rename_i F;simp[bC F a4.sm,F];split;rename_i A;exact BT ae λX=>by have:=X.UM i F;simp only[ci] at this;omega
 split;rename_i A;exact BT ae λX=>by have:=X.UM i F;simp only[ci] at this;omega
 split;rename_i A;exact BT ae λX=>by have:=X.UM i F;simp only[ci] at this;omega
 exact⟨rfl,w4 bc (by simp only[ci];omega)⟩;rename_i ab;have s:i=Y V.ah:=ae;subst s;refine bQ (Y P.ah) (λi H=>H=[.r (ap (Jc P ao i)),.r (ap [])]/\∀k<i,mJ (ci P k) ao 4=0) ⟨0,rfl,ae,rfl,ae⟩ ?_;rintro i _ F ⟨rfl,bd⟩;simp[aa.len];split;rename_i F;have bf:=f25 (ci P i) ao;simp only[LU,ci,cJ,da] at bf;simp[bC F aa.sm,F,aY bf];split;rename_i A;exact⟨by rw[Qr];omega,rfl,w4 bd A⟩;rename_i A;exact BT A λX=>A (X.pth i F)
 rename_i ab;have s:i=Y P.ah:=ae;subst s;have q:lenOf N.val=(Y ay.ah:Int):=by rw[f.len];exact bk
 have p:lenOf M.val=(Y ay.ah:Int):=by rw[d.len];exact bl
 have bs:=Qr P ao (Y P.ah);have l:Y ay.ah<=140737488355328:=ae;obtain⟨c,bg⟩:∃Q:Prop,Q:=⟨True,trivial⟩;refine bQ 0 (λi H=>H=[.r (ap [])]) ⟨0,rfl,ae,rfl⟩ ?_;rintro z _ hz rfl;have bt:z=0:=ae;subst bt;simp;refine bQ (Y ay.ah) (λa H=>∃v,H=[.r (ap v)]/\Y v<=0+64*a/\(v=[]<->c/\∀W<a,∀b,W<b->b<Y ay.ah->kj (mL V (Y V.ah)) W b=J\/mK N W N b=J)) ⟨0,rfl,ae,_,rfl,aw,Jd (by simp[bg]:([]:av)=[]<->c)⟩ ?_;rintro a _ B ⟨v,rfl,u,G⟩;simp[q];split;rename_i B;refine bQ (Y ay.ah) (λb H=>a<b/\∃v,H=[.r (ap v)]/\Y v<=0+64*a+b/\(v=[]<->(c/\∀W<a,∀b,W<b->b<Y ay.ah->kj (mL V (Y V.ah)) W b=J\/mK N W N b=J)/\∀D,a<D->D<b->kj (mL V (Y V.ah)) a D=J\/mK N a N D=J)) ⟨a+1,wX ae,ae,ae,v,rfl,ae,abj G⟩ ?_;rintro b _ ac ⟨af,v,rfl,u,G⟩;simp[h.rl.len,q];split;rename_i n;simp[bC n l];by_cases x:kj (mL V (Y V.ah)) a b=J;have y:=x;simp[kj] at y
 grind
 have y:=x;simp[kj] at y
 grind [mK,vB,ci]
 grind [bC]
 rename_i j;have w:a=Y ay.ah:=ae;subst w;obtain⟨Q2,ag⟩:∃Q:Prop,Q<->(c/\∀W<Y ay.ah,∀b,W<b->b<Y ay.ah->kj (mL V (Y V.ah)) W b=J\/mK N W N b=J):=⟨_,Iff.rfl⟩;rw[<-ag] at G;refine bQ (Y ay.ah) (λa H=>∃v,H=[.r (ap v)]/\Y v<=5000+64*a/\(v=[]<->Q2/\∀W<a,∀b,W<b->b<Y ay.ah->kj (mL V (Y V.ah)) W b=J\/mK N W M b=J)) ⟨0,rfl,ae,_,rfl,ae,Jd G⟩ ?_;rintro a _ B ⟨v,rfl,u,G⟩;simp[q];split;rename_i B;refine bQ (Y ay.ah) (λb H=>a<b/\∃v,H=[.r (ap v)]/\Y v<=5000+64*a+b/\(v=[]<->(Q2/\∀W<a,∀b,W<b->b<Y ay.ah->kj (mL V (Y V.ah)) W b=J\/mK N W M b=J)/\∀D,a<D->D<b->kj (mL V (Y V.ah)) a D=J\/mK N a M D=J)) ⟨a+1,wX ae,ae,ae,v,rfl,ae,abj G⟩ ?_;rintro b _ ac ⟨af,v,rfl,u,G⟩;simp[h.rl.len,q,p];split;rename_i n;simp[bC n l];by_cases x:kj (mL V (Y V.ah)) a b=J;have y:=x;simp[kj] at y
 grind
 have y:=x;simp[kj] at y
 grind [mK,vB,ci]
 grind [bC]
 rename_i j;have w:a=Y ay.ah:=ae;subst w;obtain⟨Q3,al⟩:∃Q:Prop,Q<->(Q2/\∀W<Y ay.ah,∀b,W<b->b<Y ay.ah->kj (mL V (Y V.ah)) W b=J\/mK N W M b=J):=⟨_,Iff.rfl⟩;rw[<-al] at G;refine bQ (Y ay.ah) (λa H=>∃v,H=[.r (ap v)]/\Y v<=10000+64*a/\(v=[]<->Q3/\∀W<a,∀b,W<b->b<Y ay.ah->kj (mL V (Y V.ah)) W b=J\/mK M W N b=J)) ⟨0,rfl,ae,_,rfl,ae,Jd G⟩ ?_;rintro a _ B ⟨v,rfl,u,G⟩;simp[p];split;rename_i B;refine bQ (Y ay.ah) (λb H=>a<b/\∃v,H=[.r (ap v)]/\Y v<=10000+64*a+b/\(v=[]<->(Q3/\∀W<a,∀b,W<b->b<Y ay.ah->kj (mL V (Y V.ah)) W b=J\/mK M W N b=J)/\∀D,a<D->D<b->kj (mL V (Y V.ah)) a D=J\/mK M a N D=J)) ⟨a+1,wX ae,ae,ae,v,rfl,ae,abj G⟩ ?_;rintro b _ ac ⟨af,v,rfl,u,G⟩;simp[h.rl.len,q,p];split;rename_i n;simp[bC n l];by_cases x:kj (mL V (Y V.ah)) a b=J;have y:=x;simp[kj] at y
 grind
 have y:=x;simp[kj] at y
 grind [mK,vB,ci]
 grind [bC]
 rename_i j;have w:a=Y ay.ah:=ae;subst w;obtain⟨Q4,an⟩:∃Q:Prop,Q<->(Q3/\∀W<Y ay.ah,∀b,W<b->b<Y ay.ah->kj (mL V (Y V.ah)) W b=J\/mK M W N b=J):=⟨_,Iff.rfl⟩;rw[<-an] at G;refine bQ (Y ay.ah) (λa H=>∃v,H=[.r (ap v)]/\Y v<=15000+64*a/\(v=[]<->Q4/\∀W<a,∀b,W<b->b<Y ay.ah->kj (mL V (Y V.ah)) W b=J\/mK M W M b=J)) ⟨0,rfl,ae,_,rfl,ae,Jd G⟩ ?_;rintro a _ B ⟨v,rfl,u,G⟩;simp[p];split;rename_i B;refine bQ (Y ay.ah) (λb H=>a<b/\∃v,H=[.r (ap v)]/\Y v<=15000+64*a+b/\(v=[]<->(Q4/\∀W<a,∀b,W<b->b<Y ay.ah->kj (mL V (Y V.ah)) W b=J\/mK M W M b=J)/\∀D,a<D->D<b->kj (mL V (Y V.ah)) a D=J\/mK M a M D=J)) ⟨a+1,wX ae,ae,ae,v,rfl,ae,abj G⟩ ?_;rintro b _ ac ⟨af,v,rfl,u,G⟩;simp[h.rl.len,p];split;rename_i n;simp[bC n l];by_cases x:kj (mL V (Y V.ah)) a b=J;have y:=x;simp[kj] at y
 grind
 have y:=x;simp[kj] at y
 grind [mK,vB,ci]
 grind [bC]
 rename_i j;have w:a=Y ay.ah:=ae;subst w;obtain⟨Q5,a0⟩:∃Q:Prop,Q<->(Q4/\∀W<Y ay.ah,∀b,W<b->b<Y ay.ah->kj (mL V (Y V.ah)) W b=J\/mK M W M b=J):=⟨_,Iff.rfl⟩;rw[<-a0] at G;have b2:Y P.ah<=8:=ae;refine bQ (Y ay.ah) (λa H=>∃v,H=[.r (ap v)]/\Y v<=20000+64*a/\(v=[]<->Q5/\∀W<a,∀g<Y P.ah,t6 N W P ao g=J/\t6 M W P ao g=J)) ⟨0,rfl,ae,_,rfl,ae,Jd G⟩ ?_;rintro a _ B ⟨v,rfl,u,G⟩;simp[h.rl.len];split;rename_i B;refine bQ (Y P.ah) (λg H=>∃v,H=[.r (ap v)]/\Y v<=20000+64*a+g/\(v=[]<->(Q5/\∀W<a,∀g<Y P.ah,t6 N W P ao g=J/\t6 M W P ao g=J)/\∀g'<g,t6 N a P ao g'=J/\t6 M a P ao g'=J)) ⟨0,rfl,ae,v,rfl,ae,Jd G⟩ ?_;rintro g _ m ⟨v,rfl,u,G⟩;simp[q,p,bs];split;rename_i m;have c0:=ptC P ao m 0 ae;have c1:=ptC P ao m 1 ae;have c2:=ptC P ao m 2 ae;have c3:=ptC P ao m 3 ae;simp[bC m (show Y P.ah<=140737488355328 from ae),c0,c1,c2,c3];refine⟨m,B, ?_⟩;by_cases a1:t6 N a P ao g=J;have fJ:=a1;simp[t6,vB,ci] at fJ;rw[aS (by simp[fJ])];refine⟨B, ?_⟩;by_cases bx:t6 M a P ao g=J
 grind [t6,vB,ci]
 grind [t6,vB,ci]
 grind [t6,vB,ci]
 rename_i b3;have b0:g=Y P.ah:=ae;subst b0;simp[bC B l];exact⟨v,rfl,ae,aB6 G⟩;rename_i j;have w:a=Y ay.ah:=ae;subst w;obtain⟨Q6,a3⟩:∃Q:Prop,Q<->(Q5/\∀W<Y ay.ah,∀g<Y P.ah,t6 N W P ao g=J/\t6 M W P ao g=J):=⟨_,Iff.rfl⟩;rw[<-a3] at G;refine bQ (Y ay.ah) (λa H=>∃v,H=[.r (ap v)]/\Y v<=30000+a/\(v=[]<->Q6/\∀W<a,D0 oS oT N W=J/\D0 oS oT M W=J)) ⟨0,rfl,ae,_,rfl,ae,Jd G⟩ ?_;rintro a _ B ⟨v,rfl,u,G⟩;simp[h.rl.len,q,p];split;rename_i B;simp[bC B l];refine⟨B, ?_⟩;by_cases a1:D0 oS oT N a=J;have fJ:=a1;simp[D0,vB,ci] at fJ;by_cases bx:D0 oS oT M a=J
 grind [D0,vB,ci]
 grind [D0,vB,ci]
 grind [D0,vB,ci]
 rename_i j;have w:a=Y ay.ah:=ae;subst w;refine⟨v,0,⟨rfl,rfl⟩,aw,ae,⟨λ_=>⟨h0,ae,by simpa using hb,ae,ae,ba,bb,bc,bd⟩,λ_=>rfl⟩,λ_=> ?_⟩;rw[G];refine⟨λ⟨q6,ed⟩=> ?_,λX=>⟨a3.2 ⟨a0.2 ⟨an.2 ⟨al.2 ⟨ag.2 ⟨bg,X.n1⟩,X.n2⟩,X.n3⟩,X.n4⟩,X.wgs⟩,X.aB8⟩⟩;obtain⟨q5,w1⟩:=a3.1 q6;obtain⟨q4,n4⟩:=a0.1 q5;obtain⟨q3,n3⟩:=an.1 q4;obtain⟨q2,n2⟩:=al.1 q3;obtain⟨_,n1⟩:=ag.1 q2;exact⟨n1,n2,n3,n4,w1,ed⟩
def aCa(h:dS)(W:RV)(ao:Int)(V Q P:RV)(H:Sl W)(G:Sl V)(F:Sl Q)(D:Sl P):∃o,TB.Ev 150 (wk++[.r W,.i ao,.r V,.r Q,.r P]) o/\∃v e,o=.ret [.r (ap v),.i e]/\(e≠0->v=[])/\Y v<=1000000/\((e=0/\v=[])<->abi W ao V Q P):=by
 obtain⟨o,B,v,e,A,z,y,N,M⟩:=aB9 h W ao V Q P H G F D;exact⟨o,B,v,e,A,z,y,λk=>{toClE:=N.1 k.1,toClN:=(M k.1).1 k.2},λX=>⟨N.2 X.toClE,(M (N.2 X.toClE)).2 X.toClN⟩⟩
end
section
variable{lt:aE->aE->Bool}
def D4(lt:aE->aE->Bool)(l:av):Prop:=l.Pairwise λx y=>lt x y=J
theorem D4.eq(W:∀x,lt x x=E)(V:∀x y z,lt x y=J->lt y z=J->lt x z=J):∀{l X:av},D4 lt l->D4 lt X->l.Perm X->l=X
 |[],X,_,_,h=>(List.Perm.nil_eq h)|x::l,[],_,_,h=>(by have:=h.length_eq;simp at this)
 |x::l,y::X,R,Q,h=>by
  have P:=jO.1 R;have O:=jO.1 Q;have N:x=y:=by
   have M:x∈y::X:=h.mem_iff.1 aw;have L:y∈x::l:=h.mem_iff.2 aw
   grind
  subst N;rw[D4.eq W V P.2 O.2 (List.perm_cons x|>.1 h)]
def atq(R:∀x y z,lt x y=J->lt y z=J->lt x z=J){x:aE}:∀{l:av},D4 lt l->(∀y∈l,lt x y=J\/lt y x=J)->D4 lt (fl lt x l)
 |[],_,_=>aIP _ _
 |y::r,h,W=>by
  have g:=jO.1 h;simp only[fl];split;rename_i V;refine jO.2 ⟨λz X=> ?_,h⟩
  grind
  rename_i V;have Q:lt y x=true:=(W y aw).resolve_left V;refine jO.2 ⟨λz X=> ?_,atq R g.2 λz X=>W z (by simp[X])⟩;rcases WR.1 X with rfl|X;exact Q
  grind
def atr(W:∀x y z,lt x y=J->lt y z=J->lt x z=J):∀(l acc:av),D4 lt acc->(∀x∈l,∀y∈acc,lt x y=J\/lt y x=J)->l.Pairwise (λx y=>lt x y=J\/lt y x=J)->D4 lt (l.foldl (λacc x=>fl lt x acc) acc)
 |[],acc,h,_,_=>h
 |x::l,acc,h,V,R=>by
  have g:=jO.1 R;refine atr W l _ (atq W h λy X=>V x aw y X) (λz Q y X=> ?_) g.2;rcases WR.1 X with rfl|X
  grind
  grind
def ats(W:∀x y z,lt x y=J->lt y z=J->lt x z=J)(h:X.Pairwise (λx y=>lt x y=J\/lt y x=J)):D4 lt (bN lt X):=atr W X [] xo aw h
def att(Q:∀x,lt x x=E)(V:∀x y z,lt x y=J->lt y z=J->lt x z=J){W:av}(R:W.Perm X)(h:X.Pairwise (λx y=>lt x y=J\/lt y x=J)):bN lt W=bN lt X:=by
 have P:W.Pairwise (λx y=>lt x y=J\/lt y x=J):=(R.symm.pairwise_iff (λ{x y} h=>h.symm)).1 h;exact D4.eq Q V (ats V P) (ats V h) (((BR W).trans R).trans (BR X).symm)
end
def ajA(d:Bool):∀(X:ar)(x:aE),jD d X x x=E
 |[],_=>rfl|c::X,x=>by simp[jD,ajA d X x]
def ajB(d:Bool):∀(X:ar)(x y z:aE),jD d X x y=J->jD d X y z=J->jD d X x z=J
 |[],_,_,_,h,_=>by simp[jD] at h
 |c::X,x,y,z,W,V=>by
  simp only[jD] at W V⊢;by_cases R:aW c x=aW c y;by_cases Q:aW c y=aW c z;rw[aH R] at W;rw[aH Q] at V;rw[aH (R.trans Q)];exact ajB d X x y z W V
  grind
  grind
def ajC(d:Bool):∀(X:ar)(x y:aE),(∃c∈X,aW c x≠aW c y)->jD d X x y=J\/jD d X y x=J
 |[],_,_,⟨_,h,_⟩=>by cases h
 |c::X,x,y,h=>by
  simp only[jD];by_cases e:aW c x=aW c y;rw[aH e,aH e.symm];obtain⟨V,W,R⟩:=h;rcases fh.1 W with rfl|W;omega;exact ajC d X x y ⟨V,W,R⟩
  grind
def BU(X:ar)(W:av):Prop:=W.Pairwise λx y=>∃c∈X,aW c x≠aW c y
def atu{X:ar}{d:Bool}:∀{W:av},BU X W->vU (bu.lex X d).lt W=J
 |[],_=>rfl
 |x::r,h=>by
  have g:=jO.1 h;simp only[vU,aC,gz,lg];exact⟨λy V=>ajC d X x y (g.1 y V),atu g.2⟩
def atv{W:ar}{d R:Bool}{aF:av}(Q:Y X<=1099511627776)(h:BU W X)(V:aF.Perm X):ip (.lex W d) R aF=U (bN (bu.lex W d).lt X):=by
 have P:BU W aF:=(V.symm.pairwise_iff (λ{x y} h=>by obtain⟨c,O,N⟩:=h;exact⟨c,O,λe=>N e.symm⟩)).1 h;have M:Y aF<=1099511627776:=by rw[V.length_eq];exact Q
 simp only[ip];rw[aH (by simp[M,atu P,bu.ok])];exact jY U (att (ajA d W) (ajB d W) V (h.imp λL=>ajC d W _ _ L))
def aCb(n:Nat)(X:aE)(m:av):iE n X m≠[]:=by
 cases m with|nil=>simp[iE]|cons r W=>simp only[iE];split<;>simp
def vn(n:Nat)(X:aE):∀m:av,(iE n X m).length<=Y m+1
 |[]=>by simp[iE]
 |r::W=>by
  have:=vn n X W;simp only[iE];split<;>simp<;>omega
def abk{n:Nat}{X y:aE}:∀{m:av},y∈iE n X m->y=X\/y∈m
 |[],h=>by simp[iE] at h;exact .inl h
 |r::W,h=>by
  simp only[iE] at h;split at h;rcases fh.1 h with h|h;exact .inl h;exact .inr (by simp[h]);rcases fh.1 h with h|h;exact .inr (by simp[h]);rcases abk h with h|h;exact .inl h;exact .inr (by simp[h])
def aCc{X r:aE}(W:Y X=4)(V:Y r=4):mi 3 ((X.take 3).map λc=>bn c.val) r=J<->∀c∈[0,1,2],aW c r=aW c X:=by
 match X,W,r,V with|[a,b,c,d],_,[R,Q,P,O],_=>simp[mi,aW]
structure km(m:av):Prop where
 keys:BU [0,1,2] m
 four:∀x∈m,Y x=4
def km.nil:km []:=⟨xo,aw⟩
def km.ins{O:aE}(R:Y O=4):∀{m:av},km m->km (iE 3 O m)
 |[],_=>⟨by simp[iE,BU],by simp[iE,R]⟩
 |r::M,h=>by
  have g:=jO.1 h.keys;have bZ:km M:=⟨g.2,λx X=>h.four x (by simp[X])⟩;have L:=km.ins R bZ;have N:=aCc R (h.four r aw);refine⟨?_,λx X=> ?_⟩;simp only[iE];split;rename_i W;have W:=N.1 W;refine jO.2 ⟨λy V=> ?_,g.2⟩;obtain⟨c,Q,P⟩:=g.1 y V;exact⟨c,Q,by rw[<-W c Q];exact P⟩;rename_i W;refine jO.2 ⟨λy V=> ?_,L.keys⟩;rcases abk V with rfl|V;have:¬∀c∈[0,1,2],aW c r=aW c y:=λH=>W (N.2 H)
  simp only[Classical.not_forall] at this;obtain⟨c,Q,P⟩:=this;exact⟨c,Q,P⟩;exact g.1 y V;rcases abk X with rfl|X;exact R;exact h.four x X
section
variable{R:aX->Prop}{G:aL}{t:T}{O:aj}{L:ck}
variable[Inhabited cm]
@[simp] def aJQ (v:RV) (X W V Q P N M H F D B A z y x w:Int):gW TB.Ev R 41 [.r (cH .str v),.i X,.i W,.i V,.i Q,.i P,.i N,.i M,.i H,.i F,.i D,.i B,.i A,.i z,.i y,.i x,.i w] G t O L=ik TB.Ev R (.ret [.i (Qp (cH .str v) X W V Q P N M H F D B A z y x w)]) G t O L:=c75 _ (UL v) X W V Q P N M H F D B A z y x w
def Qs(X W V Q P N M H G F D B A:Int)(s:RV)(z y x w v u q p o n m l j h g f:Int)(k:Nat):Int:=oi 115 [.i X,.i W,.i V,.i Q,.i P,.i N,.i M,.i H,.i G,.i F,.i D,.i B,.i A,.r s,.i z,.i y,.i x,.i w,.i v,.i u,.i q,.i p,.i o,.i n,.i m,.i l,.i j,.i h,.i g,.i f] k
@[simp] def c27 (X W V Q P N M H F D B A z:Int) (v:RV) (y x w u s q p o n m l k j h g f:Int):gW TB.Ev R 115 [.i X,.i W,.i V,.i Q,.i P,.i N,.i M,.i H,.i F,.i D,.i B,.i A,.i z,.r (cH .str v),.i y,.i x,.i w,.i u,.i s,.i q,.i p,.i o,.i n,.i m,.i l,.i k,.i j,.i h,.i g,.i f] G t O L=ik TB.Ev R (.ret [.i (Qs X W V Q P N M H F D B A z (cH .str v) y x w u s q p o n m l k j h g f 0),.i (Qs X W V Q P N M H F D B A z (cH .str v) y x w u s q p o n m l k j h g f 1),.i (Qs X W V Q P N M H F D B A z (cH .str v) y x w u s q p o n m l k j h g f 2),.i (Qs X W V Q P N M H F D B A z (cH .str v) y x w u s q p o n m l k j h g f 3),.i (Qs X W V Q P N M H F D B A z (cH .str v) y x w u s q p o n m l k j h g f 4)]) G t O L:=aY (nz (kI 5) (t27 X W V Q P N M H F D B A z _ (UL v) y x w u s q p o n m l k j h g f))
def LW(X:RV)(i:Nat):Int:=Qp (cH .str (aN X.ah (i:Int) 0)) (ci X i 1) (ci X i 2) (ci X i 3) (ci X i 4) (ci X i 5) (ci X i 6) (ci X i 7) (ci X i 8) (ci X i 9) (ci X i 10) (ci X i 11) (ci X i 12) (ci X i 13) (ci X i 14) (ci X i 15) (ci X i 16)
def Je(v:RV)(i:Nat):Int:=o74 (ci v i 0) (ci v i 1) (ci v i 2) (ci v i 3) (ci v i 4) (ci v i 5) (ci v i 6) (ci v i 7) (ci v i 8) (ci v i 9) (ci v i 10) (ci v i 11) (ci v i 12)
def iM(v X:RV)(i k:Nat):Int:=Qs (ci v i 0) (ci v i 1) (ci v i 2) (ci v i 3) (ci v i 4) (ci v i 5) (ci v i 6) (ci v i 7) (ci v i 8) (ci v i 9) (ci v i 10) (ci v i 11) (ci v i 12) (cH .str (aN X.ah (i:Int) 0)) (ci X i 1) (ci X i 2) (ci X i 3) (ci X i 4) (ci X i 5) (ci X i 6) (ci X i 7) (ci X i 8) (ci X i 9) (ci X i 10) (ci X i 11) (ci X i 12) (ci X i 13) (ci X i 14) (ci X i 15) (ci X i 16) k
def UN(ao:Int)(X:RV)(i:Nat):Int:=oi 45 (wk++[.i i,.i ao,.r (cr 96 X i)]) 0
def m89(ao:Int)(X W:RV)(i k:Nat):Int:=oi 113 (wk++[.i i,.i ao,.i (ci X i 0),.i (ci X i 1),.i (ci X i 2),.i (ci X i 3),.i (ci X i 4),.i (ci X i 5),.i (ci X i 6),.i (ci X i 7),.i (ci X i 8),.i (ci X i 9),.i (ci X i 10),.i (ci X i 11),.i (ci X i 12),.r (cr 96 W i)]) k
def m90(ao:Int)(W X V:RV)(i k:Nat):Int:=oi 114 (wk++[.i i,.i ao,.i (ci W i 0),.i (ci W i 1),.i (ci W i 2),.i (ci W i 3),.i (ci W i 4),.i (ci W i 5),.i (ci W i 6),.i (ci W i 7),.i (ci W i 8),.i (ci W i 9),.i (ci W i 10),.i (ci W i 11),.i (ci W i 12),.r (cH .str (aN X.ah (i:Int) 0)),.i (ci X i 1),.i (ci X i 2),.i (ci X i 3),.i (ci X i 4),.i (ci X i 5),.i (ci X i 6),.i (ci X i 7),.i (ci X i 8),.i (ci X i 9),.i (ci X i 10),.i (ci X i 11),.i (ci X i 12),.i (ci X i 13),.i (ci X i 14),.i (ci X i 15),.i (ci X i 16),.r (cr 96 V i)]) k
def gS(ao:Int)(W X V:RV)(i k:Nat):Int:=if cb W i 0 then m89 ao X V i k else ci X i k
def gB(ao:Int)(V X W Q:RV)(i k:Nat):Int:=if cb V i 0 then m90 ao X W Q i k else iM X W i k
structure Gn(ay wg bd mv bf af re bx:RV):Prop where
 wg:Sl wg
 bd:Sl bd
 mv:Sl mv
 bf:Sl bf
 af:Sl af
 Qt:Sl re
 bx:Sl bx
 fz:∀i<Y re.ah,Sl (cr 96 re i)/\(cr 96 re i).ah.length<=100
structure aty(ao:Int)(wg bd mv bf af re bx:RV):Prop where
 wk:jL=0
 nw:Y wg.ah<=8
 br:0<=ao/\ao<eD
 Jf:Y af.ah=Y ay.ah
 UO:Y bx.ah=Y ay.ah
 yN:Y bd.ah=Y ay.ah
 D5:Y mv.ah=Y ay.ah
 Av:Y bf.ah=Y ay.ah
 BV:Y re.ah=Y ay.ah
 fM:∀i<Y ay.ah,LW bd i=0/\Je bf i=0/\(if cb mv i 0 then UN ao re i=0 else(cr 96 re i).ah=[])
 box:∀i<Y ay.ah,vB bx i=J/\Je af i=0
 pth:∀g<Y wg.ah,mJ (ci wg g) ao 4=0
def vo(ao:Int)(Q X W V:RV)(i:Nat):Prop:=if cb Q i 0 then m89 ao X V i 13=0/\m90 ao X W V i 4=0 else iM X W i 4=0
def Fst(v:RV)(id:Int)(m:Nat):Prop:=m<Y v.ah/\ci v m 0=id/\∀X<m,ci v X 0≠id
def m78(X:RV)(id:Int)(i:Nat):aZ:=out 145 (wk++[.i id,.r (cH .str (aN X.ah (i:Int) 0)),.i (ci X i 1),.i (ci X i 2),.i (ci X i 3),.i (ci X i 4),.i (ci X i 5),.i (ci X i 6),.i (ci X i 7),.i (ci X i 8),.i (ci X i 9),.i (ci X i 10),.i (ci X i 11),.i (ci X i 12),.i (ci X i 13),.i (ci X i 14),.i (ci X i 15),.i (ci X i 16)])
def abl(ao:Int)(X W V Q P:RV)(c:Nat->Int):Bool:=ob 147 (wk++[.i ao,.r X,.r W,.r V,.r Q,.r P]++lY c) 0
def abm(ao:Int)(W V Q P X N:RV)(i k:Nat):Prop:=∀m,Fst (cr 96 X i) (bX (dU i ao) k 0) m->
 xi (m78 W (bX (dU i ao) k 0) i) 1=0/\
 ob 146 [.r (xr (m78 W (bX (dU i ao) k 0) i) 0),.i (ci (cr 96 X i) m 0),.i (ci (cr 96 X i) m 1),.i (ci (cr 96 X i) m 2),.b (cb (cr 96 X i) m 3)] 0=J/\
 (bX (dU i ao) k 4=7\/bX (dU i ao) k 4=8->cb (cr 96 X i) m 3=J\/abl ao V Q P X N (bX (dU i ao) k)=J)
def UP(ao:Int)(X W V:RV)(i:Nat):aZ:=out 148 (wk++[.i i,.i ao,.i (ci X i 0),.i (ci X i 1),.i (ci X i 2),.i (ci X i 3),.i (ci X i 4),.i (ci X i 5),.i (ci X i 6),.i (ci X i 7),.i (ci X i 8),.i (ci X i 9),.i (ci X i 10),.i (ci X i 11),.i (ci X i 12),.r W,.r (cr 96 V i)])
structure LX(ao:Int)(bd mv bf af re bx:RV)(i:Nat):Prop where
 aft:∀j<13,ci af i j=gS ao mv bf re i j
 inb:eQ (gB ao mv bf bd re i 0) (gB ao mv bf bd re i 1) (gB ao mv bf bd re i 2) (gB ao mv bf bd re i 3)=J/\vB bx i=J
 ins:I6 (gB ao mv bf bd re i 0) (gB ao mv bf bd re i 1) (gB ao mv bf bd re i 2) (gB ao mv bf bd re i 3) (ci bx i 0) (ci bx i 1) (ci bx i 2) (ci bx i 3)=J
 UH:cb mv i 0=J->(∀k<(dU i ao).length,abm ao bd mv bf af re bx i k)/\xi (UP ao bf bd re i) 1=0/\(xr (UP ao bf bd re i) 0).ah=[]
def vp(ao:Int):aZ:=out 71 (wk++[.i ao])
def yO(v X:RV):Nat->av
 |0=>[]|i+1=>yO v X i++[[.mk (.int I (iM v X i 0)) [],.mk (.int I (iM v X i 1)) [],.mk (.int I (iM v X i 2)) [],.mk (.int I (iM v X i 3)) []]]
def Gp(v X:RV)(i k:Nat):Bool:=eQ (iM v X i 0) (iM v X i 1) (iM v X i 2) (iM v X i 3)&&eQ (iM v X k 0) (iM v X k 1) (iM v X k 2) (iM v X k 3)&&BM (iM v X i 0) (iM v X i 1) (iM v X i 2) (iM v X i 3) (iM v X k 0) (iM v X k 1) (iM v X k 2) (iM v X k 3)
structure Jg(ao:Int)(wg bd mv bf af re bx:RV):Prop where
 ex:aty ao wg bd mv bf af re bx
 LY:∀i<Y ay.ah,vo ao mv bf bd re i
 ro:∀i<Y ay.ah,LX ao bd mv bf af re bx i
 UM:xi (vp ao) 1=0
 st1:∀i<Y ay.ah,iM bf bd i 4=0
 st2:∀i<Y ay.ah,iM af bd i 4=0
 cl:abi wg ao bx (ap (yO bf bd (Y ay.ah))) (xr (vp ao) 0)
 mK:∀p<(xr (vp ao) 0).ah.length,Gp bf bd (ci (xr (vp ao) 0) p 0).toNat (ci (xr (vp ao) 0) p 1).toNat=J/\Gp af bd (ci (xr (vp ao) 0) p 0).toNat (ci (xr (vp ao) 0) p 1).toNat=J
def Brc:Prop:=∀(_:dS)(bz ao:Int)(x:Nat->Int)(X r:RV)(_:Sl X)(_:Sl r),∃o,TB.Ev 148 (wk++[.i bz,.i ao,.i (x 0),.i (x 1),.i (x 2),.i (x 3),.i (x 4),.i (x 5),.i (x 6),.i (x 7),.i (x 8),.i (x 9),.i (x 10),.i (x 11),.i (x 12),.r X,.r r]) o/\∃v e,o=.ret [.r (ap v),.i e]/\Y v<=100000
def Aw{V:aE}{j:Nat}(h:Y X=W):aN (X++[V]) (W:Int) j=V.getD j default:=by
 subst h;simp[aN]
theorem Jh{w:av}{j:Nat}(h:W<Y X):aN (X++w) (W:Int) j=aN X (W:Int) j:=by
 grind [aN]
def D6{V:aE}{Q:Prop}(h:¬Q):iE W V X=[]<->Q:=⟨λe=>bF e (aCb W V X),λq=>bF q h⟩
def aCd{P:Nat->Prop}:(∀k<W+1,P k)<->(∀k<W,P k)/\P W:=⟨λh=>⟨λk X=>h k ae,h W ae⟩,λh=>w4 h.1 h.2⟩
def Qu{a b:Bool}(h:a=J->b=E):¬(a=J/\b=J):=by cases a<;>cases b<;>simp_all
def atA{a b:Bool}(h:¬(a=J->b=E)):a=J/\b=true:=by cases a<;>cases b<;>simp_all
def aCe{a b c:Bool}(h:¬(a=J->b=E))(X:(a=E\/b=E)\/c=E):¬c=true:=by cases a<;>cases b<;>cases c<;>simp_all
def aCf{a b c:Bool}(h:¬(a=J->b=E))(X:¬((a=E\/b=E)\/c=E)):c=true:=by cases a<;>cases b<;>cases c<;>simp_all
def atB{P:Nat->Prop}(X:P 0)(W:P 1)(V:P 2)(Q:P 3)(N:P 4)(M:P 5)(H:P 6)(G:P 7)(F:P 8)(D:P 9)(B:P 10)(A:P 11)(z:P 12):∀j<13,P j:=λj y=>by
 match j,y with|0,_=>exact X|1,_=>exact W|2,_=>exact V|3,_=>exact Q|4,_=>exact N|5,_=>exact M|6,_=>exact H|7,_=>exact G|8,_=>exact F|9,_=>exact D|10,_=>exact B|11,_=>exact A|12,_=>exact z
def Ji(v X:RV):∀i,(yO v X i).length=i
 |0=>rfl|i+1=>by simp[yO,Ji v X i]
def atC(v X:RV){k:Nat}:∀{i},k<i->(yO v X i)[k]?=U [.mk (.int I (iM v X k 0)) [],.mk (.int I (iM v X k 1)) [],.mk (.int I (iM v X k 2)) [],.mk (.int I (iM v X k 3)) []]
 |0,h=>ae
 |i+1,h=>by
  by_cases W:k=i;subst W;rw[yO,ji (by rw[Ji];omega),Ji];simp;rw[yO,f8 (by rw[Ji];omega)];exact atC v X ae
def t7(v X:RV){z:Int}(h:z.toNat<W)(j:Nat)(V:j<4):bn (aN (yO v X W) z j).val=iM v X z.toNat j:=by
 simp only[aN,dM,atC v X h]
 match j,V with|0,_|1,_|2,_|3,_=>rfl
end
def T.at:ar->T->T
 |[],t=>t|0::p,.aI _ t _=>t.at p|_::p,.aI _ _ f=>f.at p|_::p,.aQ _ t=>t.at p|_::p,.call _ _ _ _ _ _ t=>t.at p|_::p,.loop _ _ _ t=>t.at p|_::p,.new _ _ _ _ t=>t.at p|_::p,.ah _ _ _ t=>t.at p|0::p,.gq _ _ t _=>t.at p|_::p,.gq _ _ _ f=>f.at p|0::p,.pick _ _ _ t _=>t.at p|_::p,.pick _ _ _ _ f=>f.at p|_::p,.eE _ _ _ _ _ _ _ t=>t.at p|_,t=>t
section
variable[Inhabited cm]
section
def w5(x:aE):aE:=[iV (aW 0 x),iV (aW 1 x),iV (aW 2 x)]
def mM(js:ar):av:=js.map λ(j:Nat)=>[iV (j:Int)]
def UQ(js:ar):(mM js).length=Y js:=by simp[mM]
def abo{js:ar}{j:Nat}:(mj 1 [(j:Int),0,0] (mM js)).isSome=decide (j∈js):=by
 induction js with
 |nil=>rfl
 |cons a l X=>
  simp only[mM,dH,mj,awa] at X⊢;by_cases h:a=j;subst h;simp[mi,iV,bn];have W:¬j=a:=λe=>h e.symm
  have:mi 1 [(j:Int),0,0] [iV a]=false:=by simp[mi,iV,bn];omega
  grind
def atD{js:ar}{j:Nat}(h:j∉js):iE 1 [iV j] (mM js)=mM (js++[j]):=by
 induction js with
 |nil=>rfl
 |cons a l X=>
  simp at h;have:¬mi 1 (([iV j].take 1).map λc=>bn c.val) [iV a]=true:=by simp[mi,iV,bn];omega
  grind [mM,iE]
def UR{X:Type}[DecidableEq X]:∀{a b:List X},a.Nodup->(∀x∈a,x∈b)->Y a<=Y b
 |[],_,_,_=>rN _
 |x::a,b,R,W=>by
  have g:=Et.1 R;have Q:x∈b:=W x aw;have:=UR (a:=a) (b:=b.erase x) g.2 λy V=>(avU (λe=>g.1 (by rw[<-e];exact V))).2 (W y (by simp[V]))
  grind
def atE{X:Type}[DecidableEq X]:∀{a b:List X},a.Nodup->(∀x∈a,x∈b)->Y b<=Y a->a.Perm b
 |[],b,_,_,W=>by
  grind
 |x::a,b,Q,V,W=>by
  have g:=Et.1 Q;have P:x∈b:=V x aw;have:=atE (a:=a) (b:=b.erase x) g.2 (λy R=>(avU (λe=>g.1 (by rw[<-e];exact R))).2 (V y (by simp[R]))) (by rw[List.length_erase_of_mem P];simp at W;omega)
  grind
structure Pk(n:Nat)(js:ar):Prop where
 nd:js.Nodup
 lt:∀j∈js,j<n
def Pk.nil(n:Nat):Pk n []:=⟨List.nodup_nil,aw⟩
theorem Pk.add{j:Nat}{js:ar}(h:Pk W js)(R:j∉js)(P:j<W):Pk W (js++[j]):=⟨xp.2 ⟨h.nd,aw,by intro a Q b V e;simp at V;subst V;subst e;exact R Q⟩,by
 intro k X;rcases fg.1 X with X|X;exact h.lt k X;simp at X;omega⟩
theorem Pk.len{js:ar}(h:Pk W js):Y js<=W:=by
 have:=UR (b:=di W) h.nd λj X=>sL.2 (h.lt j X)
 grind
def Pk.perm{js:ar}(h:Pk W js)(X:W<=Y js):js.Perm (di W):=atE h.nd (λj V=>sL.2 (h.lt j V)) (by simpa using X)
def Pk.more{js:ar}(Q:¬W<=Y js):∃j<W,j∉js:=by
 apply Classical.byContradiction;intro X;have:∀x∈di W,x∈js:=λx V=>Classical.byContradiction λR=>X ⟨x,sL.1 V,R⟩
 have:=UR List.nodup_range this
 grind
def US(M:av)(js:ar):av:=js.map λj=>w5 (M.getD j [])
def atF(M:av)(js:ar):(US M js).length=Y js:=by simp[US]
def aCg(M:av):(di (Y M)).map (λj=>w5 (M.getD j []))=M.map w5:=by
 apply List.ext_getElem;simp
 grind
def aCh{js:ar}(h:Pk (Y X) js)(W:Y X<=Y js):(US X js).Perm (X.map w5):=by
 rw[<-aCg];exact(h.perm W).map _
theorem aCi{x:aE}:∀c∈[0,1,2],aW c (w5 x)=aW c x:=by
 intro c X;simp at X;rcases X with rfl|rfl|rfl<;>simp[w5,aW,iV,bn]
def BU.aCj(h:BU [0,1,2] X):BU [0,1,2] (X.map w5):=by
 refine akZ.2 (h.imp λ{x y} W=> ?_)
 grind [aCi]
def UT(M:av):av:=(bN (bu.lex [0,1,2] E).lt (M.map w5)).map w5
theorem aCk:UT X=[]<->X=[]:=by
 rw[UT,List.map_eq_nil_iff];constructor;intro h;have:=(BR (lt:=(bu.lex [0,1,2] E).lt) (X.map w5)).length_eq
 grind
 rintro rfl;rfl
end
section
variable{L:ck}
def atG:ar:=[0,1,1,0,0,0,1,0,0,0,1,0,1,0,1,0,1,0,0,0,1,0,1,0,1,0,1,0,1,0,0,0,1,0,1,0,1]
def aCl(R:aX->Prop)(N H G D B A z y x w u t s w6 q p n m l:Int)(g f e d c a r6 r7 r8 r9 aa ab ac af UU ag al an a0 a1 a3 a4 a9:RV)(M:av)(ba:km M)(hl:Y M<=536870912)(hR:R (.ret [.r (ap (UT M)),.i 0])):
  T.wp TB.Ev R (qb.at atG) ⟨[N,H,G,D,B,A,z,y,x,w,u,t,s,w6,q,p,n,m,l],[],[g,f,e,d,c,a,r6,r7,r8,r9,aa,ab,ac,af,UU,ag,al,an,a0,a1,a3,a4,a9,ap M],[]⟩ L:=by
 rw[show qb.at atG=T.loop _ _ _ _ from rfl];refine asV (· =.ret [.r (ap (UT M)),.i 0]) (λo h=>h▸hR) (λQ=>∃js,Q=[.r (ap (US M js)),.r (ap (mM js))]/\Pk (Y M) js) (λQ=>match Q with|[_,.r v]=>Y M-Y v.ah|_=>0) ⟨[],rfl,Pk.nil _⟩ ?_;rintro _ ⟨js,rfl,V⟩;have bf:=V.len;rw[asU];refine⟨single ?_, ?_, ?_, ?_⟩;exact Hz _;by_cases hn:Y M<=Y js;exact akX (afe (by simp[UQ];omega));obtain⟨j,X,W⟩:=Pk.more hn;refine akX (afd (j:=(j:Int)) ae bY ?_);simp[abo,W];intro j h0 X W;obtain⟨j,rfl⟩:∃k:Nat,j=k:=⟨j.toNat,ae⟩;have X:j<Y M:=by simp at X;omega
 have W:j∉js:=by simp[abo] at W;exact W
 have P:=UR (b:=di (Y M)) (V.add W X).nd λj P=>sL.2 ((V.add W X).lt j P)
 simp at P;have fo:iE 1 [RV.mk (Value.int I (j:Int)) []] (mM js)=mM (js++[j]):=atD W;have dX:(mM (js++[j])).length=Y js+1:=by simp[mM]
 have fJ:be BinOp.sub I ((Y js:Int)+1) 1=(Y js:Int):=by
  grind [be,i8]
 have bq:bn (aN (mM (js++[j])) (Y js:Int) 0).val=(j:Int):=by
  rw[mM,GH];rw[show Cj (λ(j:Nat)=>[iV (j:Int)]) [j]=[[iV (j:Int)]] from rfl,Aw aw];rfl
 simp[UQ,atF,fo,fJ,bq];rw[BN];refine⟨⟨ae,X⟩,ae,⟨js++[j], ?_,V.add W X⟩, ?_⟩
 grind [US,w5,aW,aN,iV]
 simp[mM];omega;intro X;have X:Y M<=Y js:=by simp[UQ] at X;omega
 have bb:=aCh V X
 first|rw[yK]|rw[Gk]
 refine⟨_,atv bY (BU.aCj ba.keys) (by simpa using bb), ?_⟩;generalize hF:bN (bu.lex [0,1,2] E).lt (M.map w5)=F;have bg:Y F=Y M:=by rw[<-hF,(BR _).length_eq];simp
 have bc:=atF M js;refine bQ (Y M) (λi bd=>bd=[.r (ap ((F.take i).map w5))]) ⟨0,rfl,rN _,rfl⟩ ?_;rintro i _ O rfl;simp[bc];refine aV (λO=>⟨O,ae, ?_⟩) (λbk=> ?_)
 grind [bC,av5,w5,aW,aN,iV]
 grind [Jt,UT]
end
end
section
variable{R:aX->Prop}{G:aL}{t:T}{O:aj}{L:ck}
def aCm(a b:Int)(h:b≠0):∃o,TB.Ev 280 [.i a,.i b] o/\∃X,o=.ret X/\fA (kI 1) X=true:=by
 refine eJ ?_;simp[air,h]
def aCn(a b:Int)(h:b≠0):gW TB.Ev R 280 [.i a,.i b] G t O L=ik TB.Ev R (.ret [.i (oi 280 [.i a,.i b] 0)]) G t O L:=aY (nz _ (aCm a b h))
def aCo{a b:Int}(h:mo a b=J):b≠0:=by
 simp[mo] at h;omega
def aCp(a b c:Int):∃o,TB.Ev 273 [.i a,.i b,.i c] o/\∃X,o=.ret X/\fA (kI 3) X=true:=by
 refine eJ ?_;by_cases h:mo a b=J;simp[aaP,h,aCn _ _ (aCo h)];simp[aaP,h]
@[simp] def aJS (a b c:Int):gW TB.Ev R 273 [.i a,.i b,.i c] G t O L=ik TB.Ev R (.ret [.i (oi 273 [.i a,.i b,.i c] 0),.i (oi 273 [.i a,.i b,.i c] 1),.i (oi 273 [.i a,.i b,.i c] 2)]) G t O L:=aY (nz _ (aCp a b c))
def aCq(Q:Int)(X W V:RV)(N:Sl X)(M:Sl W)(H:Sl V)(ao:Int):∃o,TB.Ev 272 [.i Q,.r X,.r W,.r V,.i ao] o/\∃P,o=.ret P/\fA (kI 2) P=true:=by
 refine eJ ?_;obtain⟨G,F⟩:=oU Q X W V N M H;simp[aiC,aY G];intro D B;rw[as3 Q ao X W V (F D).1 (by first|omega|(simp[jh] at B;omega))];simp
def aCr(Q:Int)(X W V:RV)(P:Sl X)(N:Sl W)(M:Sl V)(ao:Int):gW TB.Ev R 272 [.i Q,.r X,.r W,.r V,.i ao] G t O L=ik TB.Ev R (.ret [.i (oi 272 [.i Q,.r X,.r W,.r V,.i ao] 0),.i (oi 272 [.i Q,.r X,.r W,.r V,.i ao] 1)]) G t O L:=aY (nz _ (aCq Q X W V P N M ao))
def aCs(Q:Int)(X W V:RV)(N:Sl X)(M:Sl W)(H:Sl V)(ao a b:Int):∃o,TB.Ev 255 [.i Q,.r X,.r W,.r V,.i ao,.i a,.i b] o/\∃P,o=.ret P/\fA (kI 3) P=true:=by
 refine eJ ?_;simp[aiD,aCr Q X W V N M H ao]
def aCt(Q:Int)(X W V:RV)(P:Sl X)(N:Sl W)(M:Sl V)(ao a b:Int):gW TB.Ev R 255 [.i Q,.r X,.r W,.r V,.i ao,.i a,.i b] G t O L=ik TB.Ev R (.ret [.i (oi 255 [.i Q,.r X,.r W,.r V,.i ao,.i a,.i b] 0),.i (oi 255 [.i Q,.r X,.r W,.r V,.i ao,.i a,.i b] 1),.i (oi 255 [.i Q,.r X,.r W,.r V,.i ao,.i a,.i b] 2)]) G t O L:=aY (nz _ (aCs Q X W V P N M ao a b))
def aCu(Q:Int)(X W V:RV)(N:Sl X)(M:Sl W)(H:Sl V)(G F D B A z y x w v u s q p:Int):∃o,TB.Ev 220 [.i Q,.r X,.r W,.r V,.i G,.i F,.i D,.i B,.i A,.i z,.i y,.i x,.i w,.i v,.i u,.i s,.i q,.i p] o/\∃P,o=.ret P/\fA (kI 1) P=true:=by
 refine eJ ?_;simp[aiE,aCt Q X W V N M H]
def ajE(Q:Int)(X W V:RV)(s:Sl X)(q:Sl W)(p:Sl V)(P N M H F D B A z y x w v u:Int):gW TB.Ev R 220 [.i Q,.r X,.r W,.r V,.i P,.i N,.i M,.i H,.i F,.i D,.i B,.i A,.i z,.i y,.i x,.i w,.i v,.i u] G t O L=ik TB.Ev R (.ret [.i (oi 220 [.i Q,.r X,.r W,.r V,.i P,.i N,.i M,.i H,.i F,.i D,.i B,.i A,.i z,.i y,.i x,.i w,.i v,.i u] 0)]) G t O L:=aY (nz _ (aCu Q X W V s q p P N M H F D B A z y x w v u))
end
section
variable[Inhabited cm]
section
def abp(id:Int)(m:Nat):aE:=[iV ((m:Int)+1),iV id]
def ou(b:Nat->Bool)(id:Int)(js:ar):av:=(js.filter b).map (abp id)
def aCv{b:Nat->Bool}{id:Int}{js:ar}(h:b W=J):ou b id (js++[W])=ou b id js++[abp id W]:=by simp[ou,h]
def aCw{b:Nat->Bool}{id:Int}{js:ar}(h:b W=E):ou b id (js++[W])=ou b id js:=by simp[ou,h]
def atH(b:Nat->Bool)(id:Int)(js:ar):(ou b id js).length<=Y js:=by simp only[ou,oW];exact aIW _ _
def rJ(X:RV)(id:Int)(k:Nat):Int:=match mj 1 [id,0,0] X.ah with|U W=>bn (W[k]?.getD default).val|none=>0
def abq(X W a2 V R q:Int):Int:=if q=0 then X else if q=1 then W else if q=2 then a2 else if q=3 then V else if q=4 then R else 0
def aCx(v w:Nat->Int):Int:=max 0 (max (be .sub I (v 0) (w 0)) (max (be .sub I 0 (be .sub I (v 0) (w 0))) (max (be .sub I (v 1) (w 1)) (max (be .sub I 0 (be .sub I (v 1) (w 1))) (max (be .sub I (v 2) (w 2)) (be .sub I 0 (be .sub I (v 2) (w 2))))))))
def ajF(eD:Int)(l8 nu ny X:RV)(W:Nat)(x:Nat->Int)(V R q d l:Int)(k:Nat):Bool:=decide (be .mul I (be .mul I 841 (ci X W (k+9))) (oi 220 ([.i eD,.r l8,.r nu,.r ny]++lY x) 0)<be .mul I (be .mul I 1000 (ci X W (k+6))) (aCx (oi 219 [.i V,.i R,.i q]) (oi 219 [.i d,.i l,.i q])))
def fQ(X:RV)(W:Nat)(V:RV)(x s:Nat->Int):Nat->Bool
 |0=>if x 4=3 then decide (ci X W 12<rJ V (x 0) 3) else if x 4=4\/x 4=9 then decide (ci X W 13<rJ V (x 0) 3) else if x 4=5 then decide (ci X W 14<rJ V (x 0) 3) else E|1=>if x 4=3 then ajF eD l8 nu ny X W x (rJ V (x 0) 2) (rJ V (x 0) 3) (x 5-1) (abq (s 3) (s 5) (s 7) (s 9) (s 11) (x 5-1)) (abq (s 4) (s 6) (s 8) (s 10) (s 12) (x 5-1)) 0 else if x 4=4 then ajF eD l8 nu ny X W x (rJ V (x 0) 2) (rJ V (x 0) 3) (x 5+1) (abq (s 3) (s 5) (s 7) (s 9) (s 11) (x 5+1)) (abq (s 4) (s 6) (s 8) (s 10) (s 12) (x 5+1)) 1 else if x 4=5 then ajF eD l8 nu ny X W x (rJ V (x 0) 2) (rJ V (x 0) 3) 4 (s 11) (s 12) 2 else E|2=>if x 4=1 then decide (ci X W 4<x 8) else if x 4=2 then decide (ci X W 5<x 8) else E|3=>if x 4=7 then decide (ci X W 2<ci X ((x 9).toNat-1) 1) else E|_=>E
def LZ(l:bA)(k:Nat):Int:=l.getD k 0
end
section
structure atI(k:Int)(o0:aX)(n i rn:Nat)(bd mp:RV)(rs acc:av)(b:Nat->Bool)(s:bA):Prop where
 ho:Bf o0 o0=J
 h:dS
 hb:b=fQ bd rn mp (bX rs i) (LZ s)
 hi:i<n
 hn:n<=4096
 bZ:Y rs=n
 Gq:Y acc<=100000
 qV:rn<Y bd.ah
 ce:Sl bd
 jc:Y bd.ah=Y ay.ah
 ov:Y ay.ah<=64
 fG:BQ (Y ay.ah) eD (bX rs i)
 hk:bX rs i 4=k
structure aCy(js:ar)(j:Nat)(z:Int)(b:Nat->Bool)(id:Int):Prop where
 z4:z=0/\j=0\/z=1/\j=1\/z=2/\j=2\/z=3/\j=3
 hlen:Y js<4
 fo:iE 1 [RV.mk (Value.int I z) []] (mM js)=mM (js++[j])
 dX:(mM (js++[j])).length=Y js+1
 fJ:be BinOp.sub I ((Y js:Int)+1) 1=(Y js:Int)
 bq:bn (aN (mM (js++[j])) (Y js:Int) 0).val=z
 D7:(ou b id js).length<=Y js
 fm:b j=J->ou b id (js++[j])=ou b id js++[abp id j]
 ow:b j=E->ou b id (js++[j])=ou b id js
def atJ(X:aZ):Nat:=match X.reverse with|.r v::_=>4-Y v.ah|_=>0
def BW(k:Int)(t:T):Prop:=∀{W D A B X ao x8 x9 aa ab ac w6 af ag al an a0 a1 a3 a4 a9 ba bb bc bf bg bk bl br bs bt bx b0 b1 b2 UV Q P O N M H G F z y x UW UX b3:Int}{V:Nat->aZ->Prop}{L:ck}{re:RV}{w:aX}{v u s q p o m l j h g f e:Int}{n i d:Nat}{c a:RV}{R acc:av}{b:Nat->Bool},atI k w n i d c a R acc b [Q,P,O,N,M,H,G,F,z,y,x,UW,UX]->(∀js,js.Perm (di 4)->V (i+1) [.i v,.i u,.i s,.i q,.i p,.i o,.i m,.i l,.i j,.i h,.i g,.i f,.i e,.r (ap (acc++ou b (bX R i 0) js))])->T.wp TB.Ev (· =w) t (⟨[W,D,A,B,X,eD,(d:Int),ao,x8,x9,aa,ab,ac,w6,af,ag,al,an,a0,a1,a3,a4,a9,ba,bb,bc,bf,bg,bk,bl,br,bs,bt,bx,b0,b1,b2,UV,(i:Int),Q,P,O,N,M,H,G,F,z,y,x,UW,UX,v,u,s,q,p,o,m,l,j,h,g,f,e,b3],[],[ay,l8,nu,ny,dh,c,re,a,ap R,ap acc],[]⟩:aj) (⟨2,DY n V,BP n,n-i⟩::L)
def D8(k:Int)(t:T):Prop:=∀{W D A B X ao x8 x9 ab ac af w6 ag al an a0 a1 a3 a4 a9 ba bb bc bf bg bk bl br bs bt bx b0 b1 b2 b3 UV p o l h g f e d c a aa UW UX b4:Int}{V:Nat->aZ->Prop}{L:ck}{re:RV}{o0:aX}{P O N H G F y x w v u s q:Int}{n i rn:Nat}{bd mp:RV}{Q acc:av}{b:Nat->Bool},atI k o0 n i rn bd mp Q acc b [p,o,l,h,g,f,e,d,c,a,aa,UW,UX]->∀{js:ar}{j:Nat}{z:Int}{R:aZ->Prop}{μ:aZ->Nat}{m:Nat},aCy js j z b (bX Q i 0)->(∀M,M=[.i P,.i O,.i N,.i H,.i G,.i F,.i y,.i x,.i w,.i v,.i u,.i s,.i q,.r (ap (acc++ou b (bX Q i 0) (js++[j]))),.r (ap (mM (js++[j])))]->I4 (U ⟨3,R,μ,m⟩) M)->T.wp TB.Ev (· =o0) t (((⟨[W,D,A,B,X,eD,(rn:Int),ao,x8,x9,ab,ac,af,w6,ag,al,an,a0,a1,a3,a4,a9,ba,bb,bc,bf,bg,bk,bl,br,bs,bt,bx,b0,b1,b2,b3,UV,(i:Int),p,o,l,h,g,f,e,d,c,a,aa,UW,UX,P,O,N,H,G,F,y,x,w,v,u,s,q,b4],[],[ay,l8,nu,ny,dh,bd,re,mp,ap Q,ap acc],[]⟩:aj).ext [.i P,.i O,.i N,.i H,.i G,.i F,.i y,.i x,.i w,.i v,.i u,.i s,.i q,.r (ap (acc++ou b (bX Q i 0) js)),.r (ap (mM js))]).add (.i z)) (⟨3,R,μ,m⟩::⟨2,DY n V,BP n,n-i⟩::L)
def BX(t:T):T:=match fq.at [0,1,0,0,1,0,1,0,0,0,0,0,0,0,0,1,0] with|.loop a b c (.pick d e f _ g)=>.loop a b c (.pick d e f t g)|x=>x
def Gr{k:Int}{t:T}(O:D8 k t):BW k (BX t):=by
 unfold BW;intros;rename_i N M L H G F D B A y x w v n i p o m u acc b R l;rw[show BX t=T.loop _ _ _ (T.pick _ _ _ t _) from rfl];refine As (λs=>∃js,s=[.i N,.i M,.i L,.i H,.i G,.i F,.i D,.i B,.i A,.i y,.i x,.i w,.i v,.r (ap (acc++ou b (bX u i 0) js)),.r (ap (mM js))]/\Pk 4 js) atJ ⟨[],by simp[ou,mM],Pk.nil _⟩ ?_;rintro _ ⟨js,rfl,V⟩;have h:=V.len;rw[asU];refine⟨single R.ho, ?_, ?_, ?_⟩;by_cases q:4<=Y js;exact akX (afe (by simp[UQ];omega));obtain⟨j,X,W⟩:=Pk.more q;refine akX (afd (j:=(j:Int)) ae bY ?_);simp[abo,W];intro z g X W;obtain⟨j,Q⟩:∃k:Nat,(k:Int)=z:=⟨z.toNat,ae⟩;have X:j<4:=by simp at X;omega
 have W:j∉js:=by rw[<-Q] at W;simp[abo] at W;exact W
 have P:=UR (b:=di 4) (V.add W X).nd λj P=>sL.2 ((V.add W X).lt j P)
 simp at P;refine O (js:=js) (j:=j) (z:=z) R ⟨ae,ae,by rw[<-Q];exact atD W,by simp[mM],by simp only[be];rw[i8 ae ae];omega, ?_,atH _ _ _,aCv,aCw⟩ ?_;rw[<-Q,mM,GH];rw[show Cj (λ(j:Nat)=>[iV (j:Int)]) [j]=[[iV (j:Int)]] from rfl,Aw aw];rfl;rintro _ rfl;rw[BN];exact⟨⟨_,rfl,V.add W X⟩,by simp[atJ,mM];omega⟩;intro X;have X:4<=Y js:=by simp[UQ] at X;omega
 have f:=V.perm X;simp[bC R.hi (show n<=140737488355328 by have:=R.hn;omega)]
 grind
def br1:BW 1 (fq.at [0,1,0,0,1,0,1,0,0,0,0,0,0,0,0,1,0]):=by
 rw[show fq.at [0,1,0,0,1,0,1,0,0,0,0,0,0,0,0,1,0]=BX (fq.at [0,1,0,0,1,0,1,0,0,0,0,0,0,0,0,1,0,0,0]) from rfl];refine Gr ?_;rw[show fq.at [0,1,0,0,1,0,1,0,0,0,0,0,0,0,0,1,0,0,0]=T.ah _ _ _ _ from rfl];unfold D8;intros;rename_i n i N M L Q acc b P js j z _ _ _ O R;obtain⟨H,h,X,G,F,bZ,Gq,qV,ce,jc,ov,fG,W⟩:=P;obtain⟨D,B,fo,dX,fJ,bq,D7,fm,ow⟩:=O;have A:(i:Int)<Y Q:=ae;rcases(show z=0/\j=0\/z=1/\j=1\/z=2/\j=2\/z=3/\j=3 from ae) with⟨rfl,rfl⟩|⟨rfl,rfl⟩|⟨rfl,rfl⟩|⟨rfl,rfl⟩;have e:b 0=false:=by rw[X];simp[fQ,W]
 simp[fo,fJ,bq,dX]
 grind
 have e:b 1=false:=by rw[X];simp[fQ,W]
 simp[fo,fJ,bq,dX]
 grind
 simp[fo,fJ,bq,dX];refine⟨ae, ?_⟩;refine aV (λV=>⟨ae,R _ ?_⟩) (λV=>R _ ?_);have e:b 2=true:=by
  rw[X];simp only[fQ,W];exact decide_eq_true V
 rw[fm e];rfl;have e:b 2=false:=by
  rw[X];simp only[fQ,W];exact decide_eq_false V
 rw[ow e];have e:b 3=false:=by rw[X];simp[fQ,W]
 simp[fo,fJ,bq,dX]
 grind
def br2:BW 2 (fq.at [0,1,0,0,1,0,1,0,0,0,0,0,0,0,0,1,1,0]):=by
 rw[show fq.at [0,1,0,0,1,0,1,0,0,0,0,0,0,0,0,1,1,0]=BX (fq.at [0,1,0,0,1,0,1,0,0,0,0,0,0,0,0,1,1,0,0,0]) from rfl];refine Gr ?_;rw[show fq.at [0,1,0,0,1,0,1,0,0,0,0,0,0,0,0,1,1,0,0,0]=T.ah _ _ _ _ from rfl];unfold D8;intros;rename_i n i N M L Q acc b P js j z _ _ _ O R;obtain⟨H,h,X,G,F,bZ,Gq,qV,ce,jc,ov,fG,W⟩:=P;obtain⟨D,B,fo,dX,fJ,bq,D7,fm,ow⟩:=O;have A:(i:Int)<Y Q:=ae;rcases(show z=0/\j=0\/z=1/\j=1\/z=2/\j=2\/z=3/\j=3 from ae) with⟨rfl,rfl⟩|⟨rfl,rfl⟩|⟨rfl,rfl⟩|⟨rfl,rfl⟩;have e:b 0=false:=by rw[X];simp[fQ,W]
 simp[fo,fJ,bq,dX]
 grind
 have e:b 1=false:=by rw[X];simp[fQ,W]
 simp[fo,fJ,bq,dX]
 grind
 simp[fo,fJ,bq,dX];refine⟨ae, ?_⟩;refine aV (λV=>⟨ae,R _ ?_⟩) (λV=>R _ ?_);have e:b 2=true:=by
  rw[X];simp only[fQ,W];exact decide_eq_true V
 rw[fm e];rfl;have e:b 2=false:=by
  rw[X];simp only[fQ,W];exact decide_eq_false V
 rw[ow e];have e:b 3=false:=by rw[X];simp[fQ,W]
 simp[fo,fJ,bq,dX]
 grind
def br3:BW 3 (fq.at [0,1,0,0,1,0,1,0,0,0,0,0,0,0,0,1,1,1,0]):=by
 rw[show fq.at [0,1,0,0,1,0,1,0,0,0,0,0,0,0,0,1,1,1,0]=BX (fq.at [0,1,0,0,1,0,1,0,0,0,0,0,0,0,0,1,1,1,0,0,0]) from rfl];refine Gr ?_;rw[show fq.at [0,1,0,0,1,0,1,0,0,0,0,0,0,0,0,1,1,1,0,0,0]=T.ah _ _ _ _ from rfl];unfold D8;intros;rename_i n i H G F W acc b N js j z _ _ _ M Q;obtain⟨D,h,V,B,A,bZ,Gq,qV,ce,jc,ov,fG,R⟩:=N;obtain⟨y,x,fo,dX,fJ,bq,D7,fm,ow⟩:=M;have w:(i:Int)<Y W:=ae;have L:bn (aN W (i:Int) 5).val=1\/bn (aN W (i:Int) 5).val=2:=by
  have:=fG.side
  grind [bX]
 have P:be .sub I (bn (aN W (i:Int) 5).val) 1=bn (aN W (i:Int) 5).val-1:=by simp only[be];rw[i8 ae ae]
 have O:be .quo I (bn (aN W (i:Int) 5).val-1) 2=0:=by rcases L with h|h<;>rw[h]<;>decide
 rcases(show z=0/\j=0\/z=1/\j=1\/z=2/\j=2\/z=3/\j=3 from ae) with⟨rfl,rfl⟩|⟨rfl,rfl⟩|⟨rfl,rfl⟩|⟨rfl,rfl⟩;simp[fo,fJ,bq,dX,P,O];refine⟨ae, ?_⟩;refine aV (λX=>⟨ae,Q _ ?_⟩) (λX=>Q _ ?_);have e:b 0=true:=by
  rw[V];simp only[fQ,R];exact decide_eq_true X
 rw[fm e];rfl;have e:b 0=false:=by
  rw[V];simp only[fQ,R];exact decide_eq_false X
 rw[ow e];simp[fo,fJ,bq,dX,P,O,ajE eD l8 nu ny h.tp h.ps h.sp];refine⟨ae,⟨ae,ae⟩,ae, ?_⟩;refine aV (λX=>⟨ae,Q _ ?_⟩) (λX=>Q _ ?_);have e:b 1=true:=by
  rw[V];simp only[fQ,R];exact decide_eq_true X
 rw[fm e];rfl;have e:b 1=false:=by
  rw[V];simp only[fQ,R];exact decide_eq_false X
 rw[ow e];have e:b 2=false:=by rw[V];simp[fQ,R]
 simp[fo,fJ,bq,dX]
 grind
 have e:b 3=false:=by rw[V];simp[fQ,R]
 simp[fo,fJ,bq,dX]
 grind
def br4:BW 4 (fq.at [0,1,0,0,1,0,1,0,0,0,0,0,0,0,0,1,1,1,1,0]):=by
 rw[show fq.at [0,1,0,0,1,0,1,0,0,0,0,0,0,0,0,1,1,1,1,0]=BX (fq.at [0,1,0,0,1,0,1,0,0,0,0,0,0,0,0,1,1,1,1,0,0,0]) from rfl];refine Gr ?_;rw[show fq.at [0,1,0,0,1,0,1,0,0,0,0,0,0,0,0,1,1,1,1,0,0,0]=T.ah _ _ _ _ from rfl];unfold D8;intros;rename_i n i H G F W acc b N js j z _ _ _ M Q;obtain⟨D,h,V,B,A,bZ,Gq,qV,ce,jc,ov,fG,R⟩:=N;obtain⟨y,x,fo,dX,fJ,bq,D7,fm,ow⟩:=M;have w:(i:Int)<Y W:=ae;have L:bn (aN W (i:Int) 5).val=1\/bn (aN W (i:Int) 5).val=2:=by
  have:=fG.side
  grind [bX]
 have P:be .add I (bn (aN W (i:Int) 5).val) 1=bn (aN W (i:Int) 5).val+1:=by simp only[be];rw[i8 ae ae]
 have O:be .quo I (bn (aN W (i:Int) 5).val+1) 2=1:=by rcases L with h|h<;>rw[h]<;>decide
 rcases(show z=0/\j=0\/z=1/\j=1\/z=2/\j=2\/z=3/\j=3 from ae) with⟨rfl,rfl⟩|⟨rfl,rfl⟩|⟨rfl,rfl⟩|⟨rfl,rfl⟩;simp[fo,fJ,bq,dX,P,O];refine⟨ae, ?_⟩;refine aV (λX=>⟨ae,Q _ ?_⟩) (λX=>Q _ ?_);have e:b 0=true:=by
  rw[V];simp only[fQ,R];exact decide_eq_true X
 rw[fm e];rfl;have e:b 0=false:=by
  rw[V];simp only[fQ,R];exact decide_eq_false X
 rw[ow e];simp[fo,fJ,bq,dX,P,O,ajE eD l8 nu ny h.tp h.ps h.sp];refine⟨ae,⟨ae,ae⟩,ae, ?_⟩;refine aV (λX=>⟨ae,Q _ ?_⟩) (λX=>Q _ ?_);have e:b 1=true:=by
  rw[V];simp only[fQ,R];exact decide_eq_true X
 rw[fm e];rfl;have e:b 1=false:=by
  rw[V];simp only[fQ,R];exact decide_eq_false X
 rw[ow e];have e:b 2=false:=by rw[V];simp[fQ,R]
 simp[fo,fJ,bq,dX]
 grind
 have e:b 3=false:=by rw[V];simp[fQ,R]
 simp[fo,fJ,bq,dX]
 grind
def br5:BW 5 (fq.at [0,1,0,0,1,0,1,0,0,0,0,0,0,0,0,1,1,1,1,1,0]):=by
 rw[show fq.at [0,1,0,0,1,0,1,0,0,0,0,0,0,0,0,1,1,1,1,1,0]=BX (fq.at [0,1,0,0,1,0,1,0,0,0,0,0,0,0,0,1,1,1,1,1,0,0,0]) from rfl];refine Gr ?_;rw[show fq.at [0,1,0,0,1,0,1,0,0,0,0,0,0,0,0,1,1,1,1,1,0,0,0]=T.ah _ _ _ _ from rfl];unfold D8;intros;rename_i n i N M L Q acc b P js j z _ _ _ O R;obtain⟨H,h,W,G,F,bZ,Gq,qV,ce,jc,ov,fG,V⟩:=P;obtain⟨D,B,fo,dX,fJ,bq,D7,fm,ow⟩:=O;have A:(i:Int)<Y Q:=ae;rcases(show z=0/\j=0\/z=1/\j=1\/z=2/\j=2\/z=3/\j=3 from ae) with⟨rfl,rfl⟩|⟨rfl,rfl⟩|⟨rfl,rfl⟩|⟨rfl,rfl⟩;simp[fo,fJ,bq,dX];refine⟨ae, ?_⟩;refine aV (λX=>⟨ae,R _ ?_⟩) (λX=>R _ ?_);have e:b 0=true:=by
  rw[W];simp only[fQ,V];exact decide_eq_true X
 rw[fm e];rfl;have e:b 0=false:=by
  rw[W];simp only[fQ,V];exact decide_eq_false X
 rw[ow e];simp[fo,fJ,bq,dX,ajE eD l8 nu ny h.tp h.ps h.sp];refine⟨ae, ?_⟩;refine aV (λX=>⟨ae,R _ ?_⟩) (λX=>R _ ?_);have e:b 1=true:=by
  rw[W];simp only[fQ,V];exact decide_eq_true X
 rw[fm e];rfl;have e:b 1=false:=by
  rw[W];simp only[fQ,V];exact decide_eq_false X
 rw[ow e];have e:b 2=false:=by rw[W];simp[fQ,V]
 simp[fo,fJ,bq,dX]
 grind
 have e:b 3=false:=by rw[W];simp[fQ,V]
 simp[fo,fJ,bq,dX]
 grind
def br6:BW 6 (fq.at [0,1,0,0,1,0,1,0,0,0,0,0,0,0,0,1,1,1,1,1,1,0]):=by
 rw[show fq.at [0,1,0,0,1,0,1,0,0,0,0,0,0,0,0,1,1,1,1,1,1,0]=BX (fq.at [0,1,0,0,1,0,1,0,0,0,0,0,0,0,0,1,1,1,1,1,1,0,0,0]) from rfl];refine Gr ?_;rw[show fq.at [0,1,0,0,1,0,1,0,0,0,0,0,0,0,0,1,1,1,1,1,1,0,0,0]=T.ah _ _ _ _ from rfl];unfold D8;intros;rename_i n i P O N V acc b R js j z _ _ _ Q M;obtain⟨L,h,X,H,G,bZ,Gq,qV,ce,jc,ov,fG,W⟩:=R;obtain⟨F,D,fo,dX,fJ,bq,D7,fm,ow⟩:=Q;have B:(i:Int)<Y V:=ae;rcases(show z=0/\j=0\/z=1/\j=1\/z=2/\j=2\/z=3/\j=3 from ae) with⟨rfl,rfl⟩|⟨rfl,rfl⟩|⟨rfl,rfl⟩|⟨rfl,rfl⟩;have e:b 0=false:=by rw[X];simp[fQ,W]
 simp[fo,fJ,bq,dX]
 grind
 have e:b 1=false:=by rw[X];simp[fQ,W]
 simp[fo,fJ,bq,dX]
 grind
 have e:b 2=false:=by rw[X];simp[fQ,W]
 simp[fo,fJ,bq,dX]
 grind
 have e:b 3=false:=by rw[X];simp[fQ,W]
 simp[fo,fJ,bq,dX]
 grind
def br7:BW 7 (fq.at [0,1,0,0,1,0,1,0,0,0,0,0,0,0,0,1,1,1,1,1,1,1,0]):=by
 rw[show fq.at [0,1,0,0,1,0,1,0,0,0,0,0,0,0,0,1,1,1,1,1,1,1,0]=BX (fq.at [0,1,0,0,1,0,1,0,0,0,0,0,0,0,0,1,1,1,1,1,1,1,0,0,0]) from rfl];refine Gr ?_;rw[show fq.at [0,1,0,0,1,0,1,0,0,0,0,0,0,0,0,1,1,1,1,1,1,1,0,0,0]=T.ah _ _ _ _ from rfl];unfold D8;intros;rename_i n i M L H X acc b P js j z _ _ _ O Q;obtain⟨G,h,W,F,D,bZ,Gq,qV,ce,jc,ov,fG,V⟩:=P;obtain⟨B,A,fo,dX,fJ,bq,D7,fm,ow⟩:=O;have y:(i:Int)<Y X:=ae;have x:1<=bX X i 9/\bX X i 9<=Y ay.ah:=by
  have:=fG.wth
  grind
 have N:be .sub I (bn (aN X (i:Int) 9).val) 1=(((bX X i 9).toNat-1:Nat):Int):=by
  have:bn (aN X (i:Int) 9).val=bX X i 9:=rfl
  grind [be,i8]
 rcases(show z=0/\j=0\/z=1/\j=1\/z=2/\j=2\/z=3/\j=3 from ae) with⟨rfl,rfl⟩|⟨rfl,rfl⟩|⟨rfl,rfl⟩|⟨rfl,rfl⟩;have e:b 0=false:=by rw[W];simp[fQ,V]
 simp[fo,fJ,bq,dX]
 grind
 have e:b 1=false:=by rw[W];simp[fQ,V]
 simp[fo,fJ,bq,dX]
 grind
 have e:b 2=false:=by rw[W];simp[fQ,V]
 simp[fo,fJ,bq,dX]
 grind
 simp[fo,fJ,bq,dX,ce.len,N];refine⟨ae,ae, ?_⟩;refine aV (λR=>⟨ae,Q _ ?_⟩) (λR=>Q _ ?_);have e:b 3=true:=by
  rw[W];simp only[fQ,V];exact decide_eq_true R
 rw[fm e];rfl;have e:b 3=false:=by
  rw[W];simp only[fQ,V];exact decide_eq_false R
 rw[ow e]
def br9:BW 9 (fq.at [0,1,0,0,1,0,1,0,0,0,0,0,0,0,0,1,1,1,1,1,1,1,1,0]):=by
 rw[show fq.at [0,1,0,0,1,0,1,0,0,0,0,0,0,0,0,1,1,1,1,1,1,1,1,0]=BX (fq.at [0,1,0,0,1,0,1,0,0,0,0,0,0,0,0,1,1,1,1,1,1,1,1,0,0,0]) from rfl];refine Gr ?_;rw[show fq.at [0,1,0,0,1,0,1,0,0,0,0,0,0,0,0,1,1,1,1,1,1,1,1,0,0,0]=T.ah _ _ _ _ from rfl];unfold D8;intros;rename_i n i H G F X acc b P js j z _ _ _ O Q;obtain⟨D,h,W,B,A,bZ,Gq,qV,ce,jc,ov,fG,V⟩:=P;obtain⟨y,x,fo,dX,fJ,bq,D7,fm,ow⟩:=O;have w:(i:Int)<Y X:=ae;have N:bn (aN X (i:Int) 5).val=1\/bn (aN X (i:Int) 5).val=2:=by
  have:=fG.side
  grind [bX]
 have M:be .add I (bn (aN X (i:Int) 5).val) 1=bn (aN X (i:Int) 5).val+1:=by simp only[be];rw[i8 ae ae]
 have L:be .quo I (bn (aN X (i:Int) 5).val+1) 2=1:=by rcases N with h|h<;>rw[h]<;>decide
 rcases(show z=0/\j=0\/z=1/\j=1\/z=2/\j=2\/z=3/\j=3 from ae) with⟨rfl,rfl⟩|⟨rfl,rfl⟩|⟨rfl,rfl⟩|⟨rfl,rfl⟩;simp[fo,fJ,bq,dX,M,L];refine⟨ae, ?_⟩;refine aV (λR=>⟨ae,Q _ ?_⟩) (λR=>Q _ ?_);have e:b 0=true:=by
  rw[W];simp only[fQ,V];exact decide_eq_true R
 rw[fm e];rfl;have e:b 0=false:=by
  rw[W];simp only[fQ,V];exact decide_eq_false R
 rw[ow e];have e:b 1=false:=by rw[W];simp[fQ,V]
 simp[fo,fJ,bq,dX]
 grind
 have e:b 2=false:=by rw[W];simp[fQ,V]
 simp[fo,fJ,bq,dX]
 grind
 have e:b 3=false:=by rw[W];simp[fQ,V]
 simp[fo,fJ,bq,dX]
 grind
def br8:BW 8 (fq.at [0,1,0,0,1,0,1,0,0,0,0,0,0,0,0,1,1,1,1,1,1,1,1,1]):=by
 rw[show fq.at [0,1,0,0,1,0,1,0,0,0,0,0,0,0,0,1,1,1,1,1,1,1,1,1]=BX (fq.at [0,1,0,0,1,0,1,0,0,0,0,0,0,0,0,1,1,1,1,1,1,1,1,1,0,0]) from rfl];refine Gr ?_;rw[show fq.at [0,1,0,0,1,0,1,0,0,0,0,0,0,0,0,1,1,1,1,1,1,1,1,1,0,0]=T.ah _ _ _ _ from rfl];unfold D8;intros;rename_i n i O N M V acc b Q js j z _ _ _ P L;obtain⟨H,h,W,G,F,bZ,Gq,qV,ce,jc,ov,fG,X⟩:=Q;obtain⟨D,B,fo,dX,fJ,bq,D7,fm,ow⟩:=P;have A:(i:Int)<Y V:=ae;have R:bn (aN V (i:Int) 4).val=8:=X;rcases(show z=0/\j=0\/z=1/\j=1\/z=2/\j=2\/z=3/\j=3 from ae) with⟨rfl,rfl⟩|⟨rfl,rfl⟩|⟨rfl,rfl⟩|⟨rfl,rfl⟩;have e:b 0=false:=by rw[W];simp[fQ,X]
 simp[fo,fJ,bq,dX]
 grind
 have e:b 1=false:=by rw[W];simp[fQ,X]
 simp[fo,fJ,bq,dX,R]
 grind
 have e:b 2=false:=by rw[W];simp[fQ,X]
 simp[fo,fJ,bq,dX]
 grind
 have e:b 3=false:=by rw[W];simp[fQ,X]
 simp[fo,fJ,bq,dX,R]
 grind
end

section
variable{p:FuncId->aZ->aX->Prop}{R:aX->Prop}{O:aj}{L:ck}
def aCI{M:aL}{N:aq}{t:T}(V:aX->Prop)(H:∀o,V o->R o)(n:Nat)(X:Nat->aZ->Prop)(G:DY n X (N.map (C.xv O)))(h:∀(i:Nat) Q,i<=n->X i Q->t.wp p V (O.ext (.i i::Q)) [⟨W,DY n X,BP n,n-i⟩]):T.wp p R (.loop W M N t) O L:=by
 refine asV V H (DY n X) (BP n) G λF P=> ?_
 match F,P with
 |.i j::Q,P=>
  obtain⟨i,rfl,D,B⟩:=P
  grind [BP]
def Qv(X:RV)(id:Int)(k:Nat):Bool:=match mj 1 [id,0,0] X.ah with|U W=>jp (W[k]?.getD default).val|none=>E
def bO(W:RV)(X:av)(V:Nat->Int):Nat->Nat->Int
 |0,j=>V j|k+1,j=>oi 171 ([.i (bO W X V k 0),.i (bO W X V k 1),.i (bO W X V k 2),.i (bO W X V k 3),.i (bO W X V k 4),.i (bO W X V k 5),.i (bO W X V k 6),.i (bO W X V k 7),.i (bO W X V k 8),.i (bO W X V k 9),.i (bO W X V k 10),.i (bO W X V k 11),.i (bO W X V k 12)]++lY (bX X k)++[.i (rJ W (bX X k 0) 1),.i (rJ W (bX X k 0) 2),.i (rJ W (bX X k 0) 3),.b (Qv W (bX X k 0) 4)]) j
def qc(Q:RV)(P:Nat)(W:RV)(X:av)(V:Nat->Int):Nat->av
 |0=>[]|k+1=>qc Q P W X V k++if Qv W (bX X k 0) 4 then[] else ou (fQ Q P W (bX X k) (LZ [bO W X V k 0,bO W X V k 1,bO W X V k 2,bO W X V k 3,bO W X V k 4,bO W X V k 5,bO W X V k 6,bO W X V k 7,bO W X V k 8,bO W X V k 9,bO W X V k 10,bO W X V k 11,bO W X V k 12])) (bX X k 0) (di 4)
def aCJ{b:Nat->Bool}{id:Int}{js X:ar}(h:js.Perm X):(ou b id js).Perm (ou b id X):=(h.filter b).map _
def abr(Q:RV)(P:Nat)(W:RV)(X:av)(V:Nat->Int):∀k,(qc Q P W X V k).length<=4*k
 |0=>by simp[qc]
 |k+1=>by
  have N:=abr Q P W X V k;have M:=atH (fQ Q P W (bX X k) (LZ [bO W X V k 0,bO W X V k 1,bO W X V k 2,bO W X V k 3,bO W X V k 4,bO W X V k 5,bO W X V k 6,bO W X V k 7,bO W X V k 8,bO W X V k 9,bO W X V k 10,bO W X V k 11,bO W X V k 12])) (bX X k 0) (di 4)
  grind [qc,f9,aJd]
def atK(V:RV)(Q:Nat)(P:RV)(W:av)(N:Nat->Int):∀k,∀x∈qc V Q P W N k,∃q<k,aW 1 x=bX W q 0
 |0,x,X=>by simp[qc] at X
 |k+1,x,X=>by
  rw[qc] at X;rcases fg.1 X with h|h;obtain⟨q,M,H⟩:=atK V Q P W N k x h
  grind
  split at h;simp at h;obtain⟨m,-,rfl⟩:=fw.1 h;exact⟨k,ae,rfl⟩
def aCK(b:Nat->Bool)(id:Int){js:ar}(h:js.Nodup):BU [1,0] (ou b id js):=by
 refine akZ.2 ((h.sublist List.filter_sublist).imp λ{x y} X=>⟨0,aw, ?_⟩);simp[abp,aW,iV,bn];omega
def aCL(V:wY X){k:Nat}(Q:W<k)(P:k<Y X):bX X W 0≠bX X k 0:=by
 have:=aca.1 V W k ae P Q
 grind [bX,aN,aW]
def atL(W:RV)(V:Nat)(Q:RV)(X:av)(P:Nat->Int)(N:wY X):∀k≤Y X,BU [1,0] (qc W V Q X P k)
 |0,_=>xo
 |k+1,h=>by
  rw[qc];refine oB.2 ⟨atL W V Q X P N k ae, ?_, ?_⟩;split;simp;exact aCK _ _ List.nodup_range;intro x H y M;obtain⟨q,G,F⟩:=atK W V Q X P k x H;split at M
  grind
  obtain⟨m,-,rfl⟩:=fw.1 M;refine⟨1,aw, ?_⟩;rw[F];exact aCL N G ae
end
section
def aCM(R:aX->Prop)(L:ck)(h:dS)(N:Nat)(ao z y x w v w6 u t s q p n m g f e d c a aa ab ac af ag al an a0 a1 a3 UV:Int)(Q re V:RV)(X:av)(W:Nat->Int)(l:[z,y,x,w,v,w6,u,t,s,q,p,n,m]=[W 0,W 1,W 2,W 3,W 4,W 5,W 6,W 7,W 8,W 9,W 10,W 11,W 12])
  (G:Y X<=4096)(qV:N<Y Q.ah)(ce:Sl Q)(jc:Y Q.ah=Y ay.ah)(ov:Y ay.ah<=64)(fG:∀i<Y X,BQ (Y ay.ah) eD (bX X i))(hk:wY X)
  (hR:R (.ret [.r (ap (bN (bu.lex [1,0] E).lt (qc Q N V X W (Y X)))),.i 0])):
  T.wp TB.Ev R (fq.at [0,1,0,0,1,0,1,0,0,0]) ⟨[oS,oT,wZ,I8,I9,eD,(N:Int),ao,z,y,x,w,v,w6,u,t,s,q,p,n,m,g,f,e,d,c,a,aa,ab,ac,af,ag,al,an,a0,a1,a3,UV],[],[ay,l8,nu,ny,dh,Q,re,V,ap X],[]⟩ L:=by
 rw[show fq.at [0,1,0,0,1,0,1,0,0,0]=(T.loop _ _ _ (T.aI _ (T.aQ _ (T.aQ _ (T.call _ _ _ _ _ _ (T.aI _ _ (T.aI _ (fq.at [0,1,0,0,1,0,1,0,0,0,0,0,0,0,0,1,0]) (T.aI _ (fq.at [0,1,0,0,1,0,1,0,0,0,0,0,0,0,0,1,1,0]) (T.aI _ (fq.at [0,1,0,0,1,0,1,0,0,0,0,0,0,0,0,1,1,1,0]) (T.aI _ (fq.at [0,1,0,0,1,0,1,0,0,0,0,0,0,0,0,1,1,1,1,0]) (T.aI _ (fq.at [0,1,0,0,1,0,1,0,0,0,0,0,0,0,0,1,1,1,1,1,0]) (T.aI _ (fq.at [0,1,0,0,1,0,1,0,0,0,0,0,0,0,0,1,1,1,1,1,1,0]) (T.aI _ (fq.at [0,1,0,0,1,0,1,0,0,0,0,0,0,0,0,1,1,1,1,1,1,1,0]) (T.aI _ (fq.at [0,1,0,0,1,0,1,0,0,0,0,0,0,0,0,1,1,1,1,1,1,1,1,0]) (fq.at [0,1,0,0,1,0,1,0,0,0,0,0,0,0,0,1,1,1,1,1,1,1,1,1]))))))))))))) _)) from rfl];simp at l;obtain⟨rfl,rfl,rfl,rfl,rfl,rfl,rfl,rfl,rfl,rfl,rfl,rfl,rfl⟩:=l;have a4:∀acc:av,acc.Perm (qc Q N V X W (Y X))->ip (.lex [1,0] E) E acc=U (bN (bu.lex [1,0] E).lt (qc Q N V X W (Y X))):=λacc B=>atv (by have:=abr Q N V X W (Y X);omega) (atL Q N V X W hk _ (cd _)) B
 have F:Bf (.ret [.r (ap (bN (bu.lex [1,0] E).lt (qc Q N V X W (Y X)))),.i 0]) (.ret [.r (ap (bN (bu.lex [1,0] E).lt (qc Q N V X W (Y X)))),.i 0])=true:=Hz _;refine aCI (· =.ret [.r (ap (bN (bu.lex [1,0] E).lt (qc Q N V X W (Y X)))),.i 0]) (λo h=>h▸hR) (Y X) (λi a9=>∃acc,a9=[.i (bO V X W i 0),.i (bO V X W i 1),.i (bO V X W i 2),.i (bO V X W i 3),.i (bO V X W i 4),.i (bO V X W i 5),.i (bO V X W i 6),.i (bO V X W i 7),.i (bO V X W i 8),.i (bO V X W i 9),.i (bO V X W i 10),.i (bO V X W i 11),.i (bO V X W i 12),.r (ap acc)]/\acc.Perm (qc Q N V X W i)) ⟨0,rfl,rN _,[],rfl,awl _⟩ ?_;rintro i _ M ⟨acc,rfl,B⟩;have ba:=B.length_eq;have D7:=abr Q N V X W i;simp;refine aV (λM=> ?_) (λbf=> ?_);have k:=nz _ (aju (bO V X W i 0) (bO V X W i 1) (bO V X W i 2) (bO V X W i 3) (bO V X W i 4) (bO V X W i 5) (bO V X W i 6) (bO V X W i 7) (bO V X W i 8) (bO V X W i 9) (bO V X W i 10) (bO V X W i 11) (bO V X W i 12) (bX X i) (rJ V (bX X i 0) 1) (rJ V (bX X i 0) 2) (rJ V (bX X i 0) 3) (Qv V (bX X i 0) 4));simp only[lY,cJ,da,Jb,Qo,tZ] at k;change _/\gW TB.Ev _ _ [.i (bO V X W i 0),.i (bO V X W i 1),.i (bO V X W i 2),.i (bO V X W i 3),.i (bO V X W i 4),.i (bO V X W i 5),.i (bO V X W i 6),.i (bO V X W i 7),.i (bO V X W i 8),.i (bO V X W i 9),.i (bO V X W i 10),.i (bO V X W i 11),.i (bO V X W i 12),.i (bX X i 0),.i (bX X i 1),.i (bX X i 2),.i (bX X i 3),.i (bX X i 4),.i (bX X i 5),.i (bX X i 6),.i (bX X i 7),.i (bX X i 8),.i (bX X i 9),.i (bX X i 10),.i (bX X i 11),.i (bX X i 12),.i (bX X i 13),.i (rJ V (bX X i 0) 1),.i (rJ V (bX X i 0) 2),.i (rJ V (bX X i 0) 3),.b (Qv V (bX X i 0) 4)] _ _ _ _;rw[aY k];simp[M,bC M (show Y X<=140737488355328 from ae)];have H:=fG i M;refine aV (λA=> ?_) (λA=> ?_);refine⟨acc,⟨rfl,rfl,rfl,rfl,rfl,rfl,rfl,rfl,rfl,rfl,rfl,rfl,rfl,rfl⟩, ?_⟩;rw[qc,aH (show Qv V (bX X i 0) 4=J from A),Mq];exact B;have bb:Qv V (bX X i 0) 4=false:=Bool.eq_false_iff.2 A;have D:∀js,js.Perm (di 4)->∃j,[.i (bO V X W (i+1) 0),.i (bO V X W (i+1) 1),.i (bO V X W (i+1) 2),.i (bO V X W (i+1) 3),.i (bO V X W (i+1) 4),.i (bO V X W (i+1) 5),.i (bO V X W (i+1) 6),.i (bO V X W (i+1) 7),.i (bO V X W (i+1) 8),.i (bO V X W (i+1) 9),.i (bO V X W (i+1) 10),.i (bO V X W (i+1) 11),.i (bO V X W (i+1) 12),XV.r (ap (acc++ou (fQ Q N V (bX X i) (LZ [bO V X W i 0,bO V X W i 1,bO V X W i 2,bO V X W i 3,bO V X W i 4,bO V X W i 5,bO V X W i 6,bO V X W i 7,bO V X W i 8,bO V X W i 9,bO V X W i 10,bO V X W i 11,bO V X W i 12])) (bX X i 0) js))]=[.i (bO V X W (i+1) 0),.i (bO V X W (i+1) 1),.i (bO V X W (i+1) 2),.i (bO V X W (i+1) 3),.i (bO V X W (i+1) 4),.i (bO V X W (i+1) 5),.i (bO V X W (i+1) 6),.i (bO V X W (i+1) 7),.i (bO V X W (i+1) 8),.i (bO V X W (i+1) 9),.i (bO V X W (i+1) 10),.i (bO V X W (i+1) 11),.i (bO V X W (i+1) 12),.r (ap j)]/\j.Perm (qc Q N V X W (i+1)):=λjs hj=>⟨_,rfl,by
  rw[qc,bb];exact B.append (aCJ hj)⟩
 have h4:=H.kind;refine aV (λP=>br1 ⟨F,h,rfl,M,G,rfl,ae,qV,ce,jc,ov,H,P⟩ D) (λbg=> ?_);refine aV (λP=>br2 ⟨F,h,rfl,M,G,rfl,ae,qV,ce,jc,ov,H,P⟩ D) (λbk=> ?_);refine aV (λP=>br3 ⟨F,h,rfl,M,G,rfl,ae,qV,ce,jc,ov,H,P⟩ D) (λbl=> ?_);refine aV (λP=>br4 ⟨F,h,rfl,M,G,rfl,ae,qV,ce,jc,ov,H,P⟩ D) (λbr=> ?_);refine aV (λP=>br5 ⟨F,h,rfl,M,G,rfl,ae,qV,ce,jc,ov,H,P⟩ D) (λbs=> ?_);refine aV (λP=>br6 ⟨F,h,rfl,M,G,rfl,ae,qV,ce,jc,ov,H,P⟩ D) (λbt=> ?_);refine aV (λP=>br7 ⟨F,h,rfl,M,G,rfl,ae,qV,ce,jc,ov,H,P⟩ D) (λbx=> ?_);refine aV (λP=>br9 ⟨F,h,rfl,M,G,rfl,ae,qV,ce,jc,ov,H,P⟩ D) (λb0=> ?_);exact br8 ⟨F,h,rfl,M,G,rfl,ae,qV,ce,jc,ov,H,(by simp only[bX] at h4⊢;omega)⟩ D;have bc:i=Y X:=ae;subst bc
 first|rw[yK]|rw[Gk]
 refine⟨_,a4 acc B, ?_⟩;simp[ap,ba,(BR _).length_eq]
end
end
