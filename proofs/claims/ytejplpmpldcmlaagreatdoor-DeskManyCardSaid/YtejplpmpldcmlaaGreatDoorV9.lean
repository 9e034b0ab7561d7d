/- Part 9 of the proof. -/
import Derived.Test.YtejplpmpldcmlaaGreatDoorV4
import Derived.Test.YtejplpmpldcmlaaGreatDoorProg
import Derived.ChangeKeysEq
import Derived.Laws.StructEq
import Derived.KernelRfl
import Derived.LoopTactic
import Derived.Lib.Hide
import Derived.Outline
import Derived.OwnWalk
import Derived.RegionTactic
import Derived.BigQuiet
import Derived.Deep.QuietTactic
import Derived.WalkSpells
import Derived.WalkLawsBesides
import Derived.WalkSmall
import Derived.Deep.RegionWith
set_option linter.all false
set_option maxRecDepth 100000
set_option maxHeartbeats 100000000
open Bool renaming and_eq_true->aw,not_eq_true'->iw,false_eq_true->jB,or_eq_true->jL,and_assoc->avK,true->J,false->E
open List renaming getD_eq_getElem?_getD->cw,getElem?_eq_some_iff->cu,getElem?_eq_getElem->cP,getElem?_append_left->dN,getElem?_map->dS,getElem?_append_right->iJ,cons_append->ef,nil_append->eK,mem_append->eW,map_cons->dU,mem_cons->dV,replicate->eF,length_append->gP,all_eq_true->fZ,mem_of_getElem?->jK,mem_map->iD,ext_getElem?->kU,eq_nil_of_length_eq_zero->tM,length_eq_one_iff->oZ,length_cons->kV,pairwise_append->oc,getElem?_take->nD,getElem?_of_mem->tO,getElem_mem->pM,length_map->pN,drop_eq_getElem_cons->Bj,getElem?_drop->uN,map_map->oJ,getElem?_cons_zero->Bk,getElem?_eq_none_iff->Dc,getElem?_set->wc,map_nil->pP,mem_or_eq_of_mem_set->E0,mem_of_mem_drop->Bl,nodup_append->xS,length_eq_zero_iff->E1,append_assoc->Bn,mem_of_mem_take->E2,take_of_length_le->Hj,length_drop->Df,getD_cons_zero->Hl,take_append_drop->J9,length_take->E4,range'->xV,length_nil->E6,getD_cons_succ->Oi,range_eq_range'->SN,append_nil->Kb,set_append_right->ZE,drop_drop->Ol,map->Bp,take_append_of_le_length->avl,all_map->Oo,range'_succ->ZK,getElem?_modify->ai9,drop_left'->ZN,take_succ_eq_append_getElem->aIQ,take_add_one->avD,set_cons_zero->aJk,length->Y
open Go.Result renaming andThen_ok->du
open Nat renaming le_refl->bY,le_trans->pO,add_zero->wh,min_eq_left->Hp,add_sub_cancel_left->ZA,zero_le->Hx,lt_of_lt_of_le->ZG,min_eq_right->ZM,sub_self->ZT,mul_one->ZV
open Option renaming isSome_iff_exists->lF,map_eq_some_iff->SL,some->U,none->Z
open Go.Sem renaming run_bind->dC,run_pure->fz
open Array renaming ext'->nF,getElem?_modify->SM,getElem?_eq_none->aI3
open Go.Op renaming equalIn->Di,equal->E9,eqFields->avU
open Go.World renaming cell?->oK,setCell->ZQ,size_alloc->ajh
open Int renaming toNat_natCast->su,fdiv_eq_ediv_of_nonneg->aIU
open List.cons renaming injEq->xU
open Go.IntKind renaming i64->I
namespace Go.Proofs.YtejplpmpldcmlaaGreatDoor.Y
open Go.RowKit
noncomputable section
variable{R:TypeId}{X x n:Nat}{w:Bool}{z:bA}{G:FuncId}{v:Func}{y:Code}{B:List (Nat×Nat×fP)}{c:ap}{u:T}{M:World}
def v6:Option TypeDesc->Bool
 |U (.struct _)|U (.array _ _)=>J
 |_=>E
def xL(P:Program)(t:TypeId)(X:gG):Value:=if v6 (P.underlying t) then .agg X.toArray else X.getD 0 undef
def Sk(P:Program)(iF:TypeId->fu->Bool):Nat->List Field->fu->Bool
 |_,[],aj=>aj.isEmpty
 |X,f::W,aj=>f.name != "_"&&f.offset==X&&(P.info? f.type).isSome&&decide (P.cellsOf f.type<=Y aj)&&iF f.type (aj.take (P.cellsOf f.type))&&Sk P iF (X+P.cellsOf f.type) W (aj.drop (P.cellsOf f.type))
def Sm(iF:fu->Bool)(c:Nat):Nat->fu->Bool
 |0,aj=>aj.isEmpty
 |n+1,aj=>decide (c<=Y aj)&&iF (aj.take c)&&Sm iF c n (aj.drop c)
def v7(P:Program):Nat->TypeId->fu->Bool
 |0,_,_=>E
 |d+1,t,aj=>match P.underlying t with
  |U .bool=>(match aj with
   |[.bool]=>J
   |_=>E)
  |U (.int k)=>(match aj with
   |[.int X]=>decide (k=X)
   |_=>E)
  |U .string=>(match aj with
   |[.ae _ .str]=>J
   |_=>E)
  |U (.struct W)=> !P.stoodInHeld t&&Sk P (v7 P d) 0 W.toList aj
  |U (.array n e)=>(P.info? e).isSome&&Sm (v7 P d e) (P.cellsOf e) n aj
  |_=>E
def xM:∀{X:fu}{W:gG},lI X W->Y W=Y X
 |[],[],_=>rfl
 |[],_::_,h=>h.elim
 |_::_,[],h=>h.elim
 |_::_,_::_,h=>by simp[xM h.2]
def ain:∀{X:fu}{W:gG}(n:Nat),lI X W->lI (X.take n) (W.take n)/\lI (X.drop n) (W.drop n)
 |[],[],n,_=>by simp[lI]
 |[],_::_,n,h=>h.elim
 |_::_,[],n,h=>h.elim
 |_::_,_::_,0,h=>⟨trivial,h⟩
 |_::_,_::_,n+1,h=>by
  obtain⟨a,b⟩:=ain n h.2;exact⟨⟨h.1,a⟩,b⟩
def atX:∀{X W:gG}{r:Bool}(n:Nat),ky X W=U r->∃a b,ky (X.take n) (W.take n)=U a/\ky (X.drop n) (W.drop n)=U b/\r=(a&&b)
 |[],[],r,n,h=>by simp[ky] at h;subst h;exact⟨J,J,by simp[ky],by simp[ky],rfl⟩
 |[],_::_,r,n,h=>by simp[ky] at h
 |_::_,[],r,n,h=>by simp[ky] at h
 |x::X,y::W,r,0,h=>⟨J,r,rfl,h,av⟩
 |x::X,y::W,r,n+1,h=>by
  simp only[ky] at h;split at h;rename_i a b V R;cases h;obtain⟨c,d,Q,O,rfl⟩:=atX n R;exact⟨a&&c,d,by simp[ky,V,Q],by simpa using O,by simp[avK]⟩;cases h
section
variable{P:Program}
def atY(w:World){i:TypeInfo}(M:P.info? R=U i){W:gG}(h:v6 (P.underlying R)=J\/X<Y W/\P.cellsOf R=1)(L:(P.underlying R).isSome=J):(part R W.toArray X).run P w=.ok (xL P R ((W.drop X).take (P.cellsOf R))) w:=by
 obtain⟨d,Q⟩:=lF.1 L;unfold xL;by_cases V:v6 (P.underlying R)=J;rw[aL V];have:(W.toArray.extract X (X+P.cellsOf R))=((W.drop X).take (P.cellsOf R)).toArray:=by
  apply nF;simp[List.extract]
 rw[Q] at V;unfold v6 at V;split at V;rename_i O;cases O;simp[part,isAgg,run_underlying Q,run_sizeOf w M];rename_i O;cases O;simp[part,isAgg,run_underlying Q,run_sizeOf w M];cases V;rw[aT V];obtain⟨N,H⟩:=h.resolve_left V;have F:W.toArray[X]?=U W[X]:=by simp[N]
 have G:((W.drop X).take (P.cellsOf R)).getD 0 undef=W[X]:=by rw[H];simp[cw,N]
 rw[G];rw[Q] at V;cases d<;>first|(exact aZ rfl V)|simp[part,isAgg,run_underlying Q,N]
def aDQ{aj:fu}(h:v7 P X R aj=J):(P.underlying R).isSome=J/\(v6 (P.underlying R)=J\/Y aj=1):=by
 cases X with
 |zero=>simp[v7] at h
 |succ X=>
  simp only[v7] at h;split at h;rename_i W;rw[W];split at h;exact⟨rfl,.inr rfl⟩;cases h;rename_i W;rw[W];split at h;exact⟨rfl,.inr rfl⟩;cases h;rename_i W;rw[W];split at h;exact⟨rfl,.inr rfl⟩;cases h;rename_i W;rw[W];exact⟨rfl,.inl rfl⟩;rename_i W;rw[W];exact⟨rfl,.inl rfl⟩;cases h
def Za(P:Program)(V m:Nat):Prop:=∀(t:TypeId)(aj:fu)(X W:gG)(r:Bool)(w:World),v7 P m t aj=J->lI aj X->lI aj W->ky X W=U r->(Di V t (xL P t X) (xL P t W)).run P w=.ok r w
def atZ(y:Za P X x)(W:World){aj:fu}{V Q:gG}(M:(P.info? R).isSome=J)(j:P.cellsOf R<=Y aj)(G:v7 P x R (aj.take (P.cellsOf R))=J)
  (F:lI aj (V.drop n))(D:lI aj (Q.drop n))(v:ky (V.drop n) (Q.drop n)=U w):
  ∃a b q L,(part R V.toArray n).run P W=.ok a W/\(part R Q.toArray n).run P W=.ok b W/\(Di X R a b).run P W=.ok q W/\ky (V.drop (n+P.cellsOf R)) (Q.drop (n+P.cellsOf R))=U L/\w=(q&&L)/\
   lI (aj.drop (P.cellsOf R)) (V.drop (n+P.cellsOf R))/\lI (aj.drop (P.cellsOf R)) (Q.drop (n+P.cellsOf R)):=by
 obtain⟨i,M⟩:=lF.1 M;obtain⟨B,N⟩:=aDQ G;obtain⟨u,a2⟩:=ain (P.cellsOf R) F;obtain⟨t,A⟩:=ain (P.cellsOf R) D;obtain⟨q,L,s,H,p⟩:=atX (P.cellsOf R) v;have o:=xM F;have l:=xM D;have z:∀O:gG,(O.drop n).length=Y aj->v6 (P.underlying R)=J\/n<Y O/\P.cellsOf R=1:=by
  intro O k;rcases N with N|N;exact .inl N;right;simp only[E4,Df] at N k;omega
 rw[Ol] at a2 A H;exact⟨_,_,q,L,atY W M (z V o) B,atY W M (z Q l) B,y R _ _ _ q W G u t s,by rw[<-Ol] at H⊢;simpa using H,p,a2,A⟩
def at0{L m:Nat}(H:Za P L m)(X W:gG):∀(O:List Field)(V:Nat)(aj:fu)(r:Bool)(w:World),Sk P (v7 P m) V O aj=J->lI aj (X.drop V)->lI aj (W.drop V)->ky (X.drop V) (W.drop V)=U r->
  (avU L X.toArray W.toArray O).run P w=.ok r w
 |[],V,aj,r,w,R,N,M,Q=>by
  simp only[Sk,List.isEmpty_iff] at R;subst R;have:=xM N;have:=xM M;rw[E1.1 ‹(X.drop V).length=_›,E1.1 ‹(W.drop V).length=_›] at Q;simp[ky] at Q;subst Q;simp[avU]
 |f::O,V,aj,r,w,R,N,M,Q=>by
  simp only[Sk,aw,bne_iff_ne,dK,ce] at R;obtain⟨⟨⟨⟨⟨G,F⟩,D⟩,B⟩,A⟩,z⟩:=R;obtain⟨a,b,q,y,x,v,u,t,rfl,s,p⟩:=atZ H w D B A N M Q;have o:=at0 H X W O _ _ y w z s p t;simp only[avU,G,ne_eq,not_false_eq_true,cS,dC,F,x,v,u,du];cases q;simp;simpa using o
def at1{N m:Nat}(M:Za P N m){e:TypeId}(L:(P.info? e).isSome=J)(X W:gG):∀(n j:Nat)(aj:fu)(r:Bool)(w:World),Sm (v7 P m e) (P.cellsOf e) n aj=J->lI aj (X.drop (j*P.cellsOf e))->lI aj (W.drop (j*P.cellsOf e))->ky (X.drop (j*P.cellsOf e)) (W.drop (j*P.cellsOf e))=U r->
  (Op.eqItems N e (P.cellsOf e) X.toArray W.toArray (xV j n)).run P w=.ok r w
 |0,j,aj,r,w,V,Q,O,R=>by
  simp only[Sm,List.isEmpty_iff] at V;subst V;have:=xM Q;have:=xM O;rw[E1.1 ‹(X.drop _).length=_›,E1.1 ‹(W.drop _).length=_›] at R;simp[ky] at R;subst R;simp[Op.eqItems]
 |n+1,j,aj,r,w,V,Q,O,R=>by
  simp only[Sm,aw,ce] at V;obtain⟨⟨D,B⟩,A⟩:=V;obtain⟨a,b,q,z,y,x,v,H,rfl,G,F⟩:=atZ M w L D B Q O R;have u:j*P.cellsOf e+P.cellsOf e=(j+1)*P.cellsOf e:=by rw[Nat.succ_mul]
  rw[u] at H G F;have t:=at1 M L X W n (j+1) _ z w A G F H;rw[ZK];simp only[Op.eqItems,dC,y,x,v,du];cases q;simp;simpa using t
def aio(d:Nat):∀m,Za P (d+m) m
 |0=>λt aj H G r w h=>by simp[v7] at h
 |m+1=>by
  intro t aj H G r w X V R Q;have F:=aio d m;simp only[v7] at X;split at X;rename_i W;split at X;obtain⟨x,rfl⟩:=oZ.1 (xM V);obtain⟨y,rfl⟩:=oZ.1 (xM R);have N:=V.1;have M:=R.1;cases x<;>simp only[DG] at N;cases y<;>simp only[DG] at M;simp[ky,DF] at Q;subst Q;simp[xL,W,v6,Di,run_underlying W];cases X;rename_i k W;split at X;obtain⟨x,rfl⟩:=oZ.1 (xM V);obtain⟨y,rfl⟩:=oZ.1 (xM R);have N:=V.1;have M:=R.1;cases x<;>simp only[DG] at N;cases y<;>simp only[DG] at M;subst N M;simp[ky,DF] at Q;subst Q;simp[xL,W,v6,Di,run_underlying W];cases X;rename_i W;split at X;obtain⟨x,rfl⟩:=oZ.1 (xM V);obtain⟨y,rfl⟩:=oZ.1 (xM R);have N:=V.1;have M:=R.1;cases x<;>simp only[DG] at N;cases y<;>simp only[DG] at M;simp[ky,DF] at Q;subst Q;simp[xL,W,v6,Di,run_underlying W,beq_toListBytes];cases X;rename_i D W;simp only[aw,iw] at X;have B:P.fieldsOf t=D:=by simp[Program.fieldsOf,W]
  have L:∀O:gG,xL P t O=.agg O.toArray:=λO=>by simp[xL,W,v6]
  rw[L,L,show d+(m+1)=(d+m)+1 from rfl,run_equalIn_struct w (d+m) t _ _ (by rw[B];exact W) X.1,B];exact at0 F H G D.toList 0 aj r w X.2 V R Q;rename_i n e W;simp only[aw] at X;obtain⟨i,A⟩:=lF.1 X.1;have L:∀O:gG,xL P t O=.agg O.toArray:=λO=>by simp[xL,W,v6]
  rw[L,L,show d+(m+1)=(d+m)+1 from rfl,run_equalIn_array w (d+m) _ _ W A,SN];exact at1 F X.1 H G n 0 aj r w X.2 (by simpa using V) (by simpa using R) (by simpa using Q);cases X
def aip(P:Program)(t:TypeId)(X:TI):Bool:=v6 (P.underlying t)&&v7 P 20 t X.aj&& !P.eqGuardType P.depth t
def aDR{V:TI}(h:aip P R V=J):∀(X W:gG)(r:Bool)(x y:Operand)(w:World),lI V.aj X->lI V.aj W->ky X W=U r->
  (do eqGuard .eql R x y (.agg X.toArray) (.agg W.toArray);binOp .eql R (.agg X.toArray) (.agg W.toArray)).run P w=.ok (.bool r) w/\
  (do eqGuard .neq R x y (.agg X.toArray) (.agg W.toArray);binOp .neq R (.agg X.toArray) (.agg W.toArray)).run P w=.ok (.bool !r) w:=by
 intro X W r x y w O N M;simp only[aip,aw,iw] at h;have:=aio (P:=P) 9980 20 R V.aj X W r w h.1.2 O N M;simp only[xL,h.1.1,cS] at this;have Q:(E9 R (.agg X.toArray) (.agg W.toArray)).run P w=.ok r w:=this;constructor;rw[dC];simp[eqGuard,h.2,binOp,Q];rw[dC];simp[eqGuard,h.2,binOp,Q]

def aDS{ag:Bool}(W:Y z=X)(V:ag=E->X=1):yp (ip ag z)=z:=by
 cases ag with
 |false=>
  have:=V rfl;subst this;obtain⟨x,rfl⟩:=oZ.1 W;rfl
 |true=>simp[ip,yp,Function.comp_def,bn]
def aDT(O:P.underlying R=U (.int I)):u4 P R 1 false:=by
 refine⟨λ_=>rfl,λl X W M L=>⟨λb=>MapKept.run_checkKey O (by trivial) b 9999,MapKept.run_findKey O ?_⟩⟩;obtain⟨x,rfl⟩:=oZ.1 M;have:∀(X:List MapEntry)(i:Nat),(∀e∈X,∃V:bA,Y V=1/\e.key=ip E V)->Instr.findNow (.int I) (ip E [x]) X i=U (oQ [x] X i):=by
  intro X;induction X with
  |nil=>intro i _;rfl
  |cons e X H=>
   intro i N;obtain⟨V,G,F⟩:=N e av;obtain⟨y,rfl⟩:=oZ.1 G;simp only[Instr.findNow,F,oQ];simp only[ip,jB,gw,List.headD_cons,Instr.sameNow,cS,yp,xU,and_true];by_cases Q:x=y;subst Q;simp;have:¬y=x:=λe=>Q e.symm
   simp only[this,gw,show(x==y)=E by simpa using Q];exact H (i+1) (λe D=>N e (by simp[D]))
 exact this X 0 L
def aDU(d:TypeDesc)(X:mR)(v:Value):Instr.sameNow d (.agg X) v=none:=by
 cases d<;>rfl
def at2:∀(l X:bA),Y l=Y X->ky (l.map (Value.int I)) (X.map (Value.int I))=U (l==X)
 |[],[],_=>rfl
 |[],_::_,h=>by simp at h
 |_::_,[],h=>by simp at h
 |x::W,y::V,h=>by
  have R:=at2 W V (by simpa using h);simp only[dU,ky,DF,R];rfl
def aiq:∀(l:bA),lI (eF (Y l) (.int I)) (l.map (Value.int I))
 |[]=>trivial
 |x::X=>⟨rfl,aiq X⟩
def at3(X:P.underlying R=U (.int I)){l:bA}{off:Nat}(V:off<Y l)(W:World):∃a,(part R (l.map (Value.int I)).toArray off).run P W=.ok (.int I a) W:=by
 refine⟨l[off],run_part_plain W (by simp[Program.plainKey,X]) ?_⟩;simp[V]
def aDV{e:TypeId}{i:TypeInfo}(N:P.underlying R=U (.array X e))(Q:P.underlying e=U (.int I))(M:P.info? e=U i)(L:P.cellsOf e=1)(H:Y z=X)(b:Bool)(m:Nat)(W:World):(Instr.checkKey b (m+2) R (ip J z)).run P W=.ok () W:=by
 rw[show m+2=(m+1)+1 from rfl,Instr.checkKey];simp only[dC,fw.iL N,du,ip,cS];simp only[Std.Legacy.Range.forIn_eq_forIn_range',Std.Legacy.Range.size,Nat.sub_zero,Nat.add_one_sub_one,Nat.div_one];have V:∀j∈xV 0 X,j<X:=λj G=>by simpa[List.mem_range'] using G
 generalize xV 0 X=O at V;induction O with
 |nil=>simp
 |cons j O F=>
  obtain⟨a,D⟩:=at3 Q (l:=z) (off:=j*P.cellsOf e) (by rw[L,H,ZV];exact V j av) W;have B:=MapKept.run_checkKey (w:=W) (k:=.int I a) Q (by trivial) b m;simp only[List.forIn_cons,dC,run_sizeOf W M,du,D,B,fz];exact F (λy A=>V y (by simp[A]))
def aDW{V:Array Field}(N:P.underlying R=U (.struct V))(Q:∀f∈V.toList,f.name≠ "_"/\P.underlying f.type=U (.int I)/\f.offset<X)(M:Y z=X)(b:Bool)(m:Nat)(W:World):(Instr.checkKey b (m+2) R (ip J z)).run P W=.ok () W:=by
 rw[show m+2=(m+1)+1 from rfl,Instr.checkKey];simp only[dC,fw.iL N,du,ip,cS];rw[<-Array.forIn_toList];generalize V.toList=L at Q;induction L with
 |nil=>simp
 |cons f L H=>
  obtain⟨G,O,F⟩:=Q f av;obtain⟨a,D⟩:=at3 O (l:=z) (off:=f.offset) (by rw[M];exact F) W;have B:=MapKept.run_checkKey (w:=W) (k:=.int I a) O (by trivial) b m;simp only[List.forIn_cons,dC,G,ne_eq,not_false_eq_true,cS,du,D,B,fz];exact H (λy A=>Q y (by simp[A]))
def at4{d:TypeDesc}(L:P.underlying R=U d)(D:v6 (P.underlying R)=J)(B:v7 P 20 R (eF X (.int I))=J)
  (A:∀(l:bA)(b:Bool)(W:World),Y l=X->(Instr.checkKey b 10000 R (ip J l)).run P W=.ok () W):u4 P R X true:=by
 refine⟨λh=>(by cases h),λl V W O z=>⟨λb=> ?_, ?_⟩⟩;exact A l b W O;have y:∀l:bA,ip J l=.agg (l.map (Value.int I)).toArray:=λl=>rfl
 have x:∀(V:List MapEntry)(i:Nat),(∀e∈V,∃Q:bA,Y Q=X/\e.key=ip J Q)->(Instr.findAsking R (ip J l) V i).run P W=.ok (oQ l V i) W:=by
  intro V;induction V with
  |nil=>intro i _;rfl
  |cons e V w=>
   intro i H;obtain⟨Q,N,G⟩:=H e av;have F:=aio (P:=P) 9980 20 R (eF X (.int I)) (l.map (Value.int I)) (Q.map (Value.int I)) (l==Q) W B (by rw[<-O];exact aiq l) (by rw[<-N];exact aiq Q) (at2 l Q (by rw[O,N]));simp only[xL,D,cS] at F;have v:(E9 R (ip J l) e.key).run P W=.ok (l==Q) W:=by rw[G];exact F
   simp only[Instr.findAsking,dC,v,du];simp only[oQ,G,aDS (ag:=J) N av];by_cases M:Q=l;rw[M];simp;have u:(l==Q)=false:=by
    cases t:l==Q;rfl;exact aZ (eq_of_beq t).symm M
   simp only[M,u,jB,gw];exact w (i+1) (λe s=>H e (by simp[s]))
 have r:=x V 0 z;cases V with
 |nil=>simp[Instr.findKey,fw.iL L,Instr.findNow,oQ,Result.andThen]
 |cons e V=>
  have:Instr.findNow d (ip J l) (e::V) 0=none:=by simp only[Instr.findNow,y,aDU]
  simp only[Instr.findKey,dC,fw.iL L,du,this];exact r
end
def aX{p:Prop}(h:p:=by kernel_rfl):p:=h
def TT:List (List Fa):=[
[Z,U ⟨.one,[.ae .nilFunc .ae],E⟩,U ⟨.one,[.int I],E⟩,U ⟨.one,[.int I],E⟩,U ⟨.one,[.bool],E⟩,U ⟨.one,[.int .u8],E⟩,U ⟨.one,[.int .u8],E⟩,U ⟨(.struct [(0,2),(1,3),(2,4),(3,6)]),[.int I,.int I,.bool,.int .u8],J⟩,U ⟨(.struct [(0,2),(1,3),(2,4),(3,6)]),[.int I,.int I,.bool,.int .u8],J⟩,U ⟨.str,[.ae (.string ⟨#[]⟩) .str],E⟩,U ⟨.str,[.ae (.string ⟨#[]⟩) .str],E⟩,U ⟨.str,[.ae (.string ⟨#[]⟩) .str],E⟩,U ⟨.one,[.int .u64],E⟩,U ⟨(.struct [(0,9),(1,12)]),[.ae (.string ⟨#[]⟩) .str,.int .u64],E⟩,U ⟨(.struct [(0,9),(1,12)]),[.ae (.string ⟨#[]⟩) .str,.int .u64],E⟩,U ⟨.one,[.ae (.pointer Z) .ae],E⟩],
 [U ⟨.one,[.ae (.pointer Z) .ae],E⟩,U ⟨.one,[.ae (.pointer Z) .ae],E⟩,U ⟨(.struct [(0,17)]),[.ae (.pointer Z) .ae],E⟩,U ⟨(.struct [(0,17)]),[.ae (.pointer Z) .ae],E⟩,U ⟨.ik,[.ae .nilIface .ae],E⟩,U ⟨.one,[.int .i32],E⟩,U ⟨(.struct [(0,3),(1,3),(2,3)]),[.int I,.int I,.int I],J⟩,U ⟨(.struct [(0,3),(1,3),(2,3)]),[.int I,.int I,.int I],J⟩,U ⟨(.slice 130),[.ae (.slice Z 0 0) (.sl 130)],E⟩,U ⟨(.slice 132),[.ae (.slice Z 0 0) (.sl 132)],E⟩,U ⟨(.slice 253),[.ae (.slice Z 0 0) (.sl 253)],E⟩,U ⟨(.slice 255),[.ae (.slice Z 0 0) (.sl 255)],E⟩,U ⟨(.struct [(0,3),(1,25),(2,26),(3,27)]),[.int I,.ae (.slice Z 0 0) (.sl 132),.ae (.slice Z 0 0) (.sl 253),.ae (.slice Z 0 0) (.sl 255)],E⟩,U ⟨(.struct [(0,3),(1,25),(2,26),(3,27)]),[.int I,.ae (.slice Z 0 0) (.sl 132),.ae (.slice Z 0 0) (.sl 253),.ae (.slice Z 0 0) (.sl 255)],E⟩,U ⟨(.slice 128),[.ae (.slice Z 0 0) (.sl 128)],E⟩,U ⟨(.struct [(0,3),(1,3),(2,23),(5,24),(6,29),(10,30)]),[.int I,.int I,.int I,.int I,.int I,.ae (.slice Z 0 0) (.sl 130),.int I,.ae (.slice Z 0 0) (.sl 132),.ae (.slice Z 0 0) (.sl 253),.ae (.slice Z 0 0) (.sl 255),.ae (.slice Z 0 0) (.sl 128)],E⟩],
 [U ⟨(.struct [(0,3),(1,3),(2,23),(5,24),(6,29),(10,30)]),[.int I,.int I,.int I,.int I,.int I,.ae (.slice Z 0 0) (.sl 130),.int I,.ae (.slice Z 0 0) (.sl 132),.ae (.slice Z 0 0) (.sl 253),.ae (.slice Z 0 0) (.sl 255),.ae (.slice Z 0 0) (.sl 128)],E⟩,U ⟨(.slice 141),[.ae (.slice Z 0 0) (.sl 141)],E⟩,U ⟨(.struct [(0,33)]),[.ae (.slice Z 0 0) (.sl 141)],E⟩,U ⟨(.struct [(0,33)]),[.ae (.slice Z 0 0) (.sl 141)],E⟩,U ⟨(.slice 94),[.ae (.slice Z 0 0) (.sl 94)],E⟩,U ⟨(.slice 39),[.ae (.slice Z 0 0) (.sl 39)],E⟩,U ⟨(.slice 66),[.ae (.slice Z 0 0) (.sl 66)],E⟩,U ⟨(.slice 3),[.ae (.slice Z 0 0) (.sl 3)],E⟩,U ⟨(.struct [(0,32),(11,35),(12,36),(13,37),(14,38),(15,39)]),[.int I,.int I,.int I,.int I,.int I,.ae (.slice Z 0 0) (.sl 130),.int I,.ae (.slice Z 0 0) (.sl 132),.ae (.slice Z 0 0) (.sl 253),.ae (.slice Z 0 0) (.sl 255),.ae (.slice Z 0 0) (.sl 128),.ae (.slice Z 0 0) (.sl 141),.ae (.slice Z 0 0) (.sl 94),.ae (.slice Z 0 0) (.sl 39),.ae (.slice Z 0 0) (.sl 66),.ae (.slice Z 0 0) (.sl 3)],E⟩,U ⟨(.struct [(0,32),(11,35),(12,36),(13,37),(14,38),(15,39)]),[.int I,.int I,.int I,.int I,.int I,.ae (.slice Z 0 0) (.sl 130),.int I,.ae (.slice Z 0 0) (.sl 132),.ae (.slice Z 0 0) (.sl 253),.ae (.slice Z 0 0) (.sl 255),.ae (.slice Z 0 0) (.sl 128),.ae (.slice Z 0 0) (.sl 141),.ae (.slice Z 0 0) (.sl 94),.ae (.slice Z 0 0) (.sl 39),.ae (.slice Z 0 0) (.sl 66),.ae (.slice Z 0 0) (.sl 3)],E⟩,U ⟨(.slice 70),[.ae (.slice Z 0 0) (.sl 70)],E⟩,U ⟨(.struct [(0,39),(1,3),(2,42),(3,39),(4,4)]),[.ae (.slice Z 0 0) (.sl 3),.int I,.ae (.slice Z 0 0) (.sl 70),.ae (.slice Z 0 0) (.sl 3),.bool],E⟩,U ⟨(.struct [(0,39),(1,3),(2,42),(3,39),(4,4)]),[.ae (.slice Z 0 0) (.sl 3),.int I,.ae (.slice Z 0 0) (.sl 70),.ae (.slice Z 0 0) (.sl 3),.bool],E⟩,U ⟨.one,[.ae .nilFunc .ae],E⟩,U ⟨.one,[.ae .nilFunc .ae],E⟩,U ⟨.one,[.ae .nilFunc .ae],E⟩],
 [U ⟨.one,[.int I],E⟩,U ⟨.one,[.ae .nilFunc .ae],E⟩,U ⟨(.slice 96),[.ae (.slice Z 0 0) (.sl 96)],E⟩,Z,U ⟨.one,[.ae .nilFunc .ae],E⟩,U ⟨.one,[.ae .nilFunc .ae],E⟩,U ⟨.one,[.ae .nilFunc .ae],E⟩,U ⟨.one,[.ae .nilFunc .ae],E⟩,U ⟨.one,[.int .u16],E⟩,U ⟨(.slice 79),[.ae (.slice Z 0 0) (.sl 79)],E⟩,Z,U ⟨.one,[.ae .nilFunc .ae],E⟩,Z,U ⟨.one,[.ae .nilFunc .ae],E⟩,Z,U ⟨.one,[.ae .nilFunc .ae],E⟩],
 [U ⟨(.slice 4),[.ae (.slice Z 0 0) (.sl 4)],E⟩,U ⟨(.slice 67),[.ae (.slice Z 0 0) (.sl 67)],E⟩,U ⟨(.slice 69),[.ae (.slice Z 0 0) (.sl 69)],E⟩,U ⟨(.slice 134),[.ae (.slice Z 0 0) (.sl 134)],E⟩,U ⟨(.struct [(0,64),(1,65)]),[.ae (.slice Z 0 0) (.sl 4),.ae (.slice Z 0 0) (.sl 67)],E⟩,U ⟨(.struct [(0,64),(1,65)]),[.ae (.slice Z 0 0) (.sl 4),.ae (.slice Z 0 0) (.sl 67)],E⟩,U ⟨(.slice 76),[.ae (.slice Z 0 0) (.sl 76)],E⟩,U ⟨.one,[.ae .nilFunc .ae],E⟩,U ⟨(.struct [(0,3),(1,3)]),[.int I,.int I],J⟩,U ⟨(.struct [(0,3),(1,3)]),[.int I,.int I],J⟩,U ⟨(.arr 5 73),[.int I,.int I,.int I,.int I,.int I,.int I,.int I,.int I,.int I,.int I],J⟩,U ⟨(.struct [(0,3),(1,3),(2,3),(3,74)]),[.int I,.int I,.int I,.int I,.int I,.int I,.int I,.int I,.int I,.int I,.int I,.int I,.int I],J⟩,U ⟨(.struct [(0,3),(1,3),(2,3),(3,74)]),[.int I,.int I,.int I,.int I,.int I,.int I,.int I,.int I,.int I,.int I,.int I,.int I,.int I],J⟩,U ⟨(.slice 124),[.ae (.slice Z 0 0) (.sl 124)],E⟩,U ⟨(.struct [(0,3),(1,64),(2,70),(3,70),(4,65),(5,77)]),[.int I,.ae (.slice Z 0 0) (.sl 4),.ae (.slice Z 0 0) (.sl 76),.ae (.slice Z 0 0) (.sl 76),.ae (.slice Z 0 0) (.sl 67),.ae (.slice Z 0 0) (.sl 124)],E⟩,U ⟨(.struct [(0,3),(1,64),(2,70),(3,70),(4,65),(5,77)]),[.int I,.ae (.slice Z 0 0) (.sl 4),.ae (.slice Z 0 0) (.sl 76),.ae (.slice Z 0 0) (.sl 76),.ae (.slice Z 0 0) (.sl 67),.ae (.slice Z 0 0) (.sl 124)],E⟩],
 [Z,U ⟨.one,[.ae .nilFunc .ae],E⟩,U ⟨.one,[.ae .nilFunc .ae],E⟩,U ⟨.one,[.ae .nilFunc .ae],E⟩,U ⟨.one,[.ae .nilFunc .ae],E⟩,Z,U ⟨.one,[.ae .nilFunc .ae],E⟩,U ⟨.one,[.ae .nilFunc .ae],E⟩,U ⟨(.struct [(0,3),(1,3),(2,3)]),[.int I,.int I,.int I],J⟩,U ⟨(.struct [(0,3),(1,3),(2,3)]),[.int I,.int I,.int I],J⟩,Z,U ⟨.one,[.ae .nilFunc .ae],E⟩,U ⟨(.arr 3 3),[.int I,.int I,.int I],J⟩,U ⟨(.struct [(0,9),(1,3),(2,3),(3,3),(4,3),(5,3),(6,92),(9,92),(12,92),(15,3),(16,3)]),[.ae (.string ⟨#[]⟩) .str,.int I,.int I,.int I,.int I,.int I,.int I,.int I,.int I,.int I,.int I,.int I,.int I,.int I,.int I,.int I,.int I],J⟩,U ⟨(.struct [(0,9),(1,3),(2,3),(3,3),(4,3),(5,3),(6,92),(9,92),(12,92),(15,3),(16,3)]),[.ae (.string ⟨#[]⟩) .str,.int I,.int I,.int I,.int I,.int I,.int I,.int I,.int I,.int I,.int I,.int I,.int I,.int I,.int I,.int I,.int I],J⟩,U ⟨(.struct [(0,3),(1,3),(2,3),(3,3)]),[.int I,.int I,.int I,.int I],J⟩],
 [U ⟨(.struct [(0,3),(1,3),(2,3),(3,3)]),[.int I,.int I,.int I,.int I],J⟩,U ⟨.one,[.ae .nilFunc .ae],E⟩,U ⟨.one,[.ae .nilFunc .ae],E⟩,U ⟨.one,[.ae .nilFunc .ae],E⟩,U ⟨.one,[.ae .nilFunc .ae],E⟩,U ⟨.one,[.ae .nilFunc .ae],E⟩,U ⟨.one,[.ae .nilFunc .ae],E⟩,U ⟨.one,[.ae .nilFunc .ae],E⟩,U ⟨.one,[.ae .nilFunc .ae],E⟩,U ⟨.one,[.ae .nilFunc .ae],E⟩,U ⟨.one,[.ae (.pointer Z) .ae],E⟩,U ⟨.one,[.ae .nilFunc .ae],E⟩,U ⟨.one,[.ae .nilFunc .ae],E⟩,U ⟨.one,[.ae .nilFunc .ae],E⟩,U ⟨.one,[.ae .nilFunc .ae],E⟩,U ⟨.one,[.ae .nilFunc .ae],E⟩],
 [U ⟨.one,[.ae .nilFunc .ae],E⟩,U ⟨.one,[.ae .nilFunc .ae],E⟩,U ⟨.one,[.ae .nilFunc .ae],E⟩,U ⟨.one,[.ae .nilFunc .ae],E⟩,U ⟨.one,[.ae .nilFunc .ae],E⟩,U ⟨.one,[.ae .nilFunc .ae],E⟩,U ⟨.one,[.ae .nilFunc .ae],E⟩,U ⟨.one,[.ae .nilFunc .ae],E⟩,U ⟨.one,[.ae .nilFunc .ae],E⟩,U ⟨(.struct [(0,3),(1,3)]),[.int I,.int I],J⟩,U ⟨(.struct [(0,3),(1,3)]),[.int I,.int I],J⟩,U ⟨(.struct [(0,122),(2,122)]),[.int I,.int I,.int I,.int I],J⟩,U ⟨(.struct [(0,122),(2,122)]),[.int I,.int I,.int I,.int I],J⟩,U ⟨(.struct [(0,3),(1,3)]),[.int I,.int I],J⟩,U ⟨(.struct [(0,3),(1,3)]),[.int I,.int I],J⟩,U ⟨(.struct [(0,3),(1,3),(2,3),(3,3),(4,3),(5,3),(6,3),(7,3),(8,3),(9,3),(10,126),(12,126)]),[.int I,.int I,.int I,.int I,.int I,.int I,.int I,.int I,.int I,.int I,.int I,.int I,.int I,.int I],J⟩],
 [U ⟨(.struct [(0,3),(1,3),(2,3),(3,3),(4,3),(5,3),(6,3),(7,3),(8,3),(9,3),(10,126),(12,126)]),[.int I,.int I,.int I,.int I,.int I,.int I,.int I,.int I,.int I,.int I,.int I,.int I,.int I,.int I],J⟩,U ⟨(.struct [(0,9),(1,3),(2,3),(3,3)]),[.ae (.string ⟨#[]⟩) .str,.int I,.int I,.int I],J⟩,U ⟨(.struct [(0,9),(1,3),(2,3),(3,3)]),[.ae (.string ⟨#[]⟩) .str,.int I,.int I,.int I],J⟩,U ⟨(.struct [(0,3),(1,3),(2,3)]),[.int I,.int I,.int I],J⟩,U ⟨(.struct [(0,3),(1,3),(2,3)]),[.int I,.int I,.int I],J⟩,U ⟨(.struct [(0,3),(1,3),(2,3),(3,4)]),[.int I,.int I,.int I,.bool],J⟩,U ⟨(.struct [(0,3),(1,3),(2,3),(3,4)]),[.int I,.int I,.int I,.bool],J⟩,U ⟨.one,[.ae .nilFunc .ae],E⟩,Z,U ⟨.one,[.ae .nilFunc .ae],E⟩,U ⟨.one,[.ae .nilFunc .ae],E⟩,U ⟨.one,[.ae .nilFunc .ae],E⟩,U ⟨(.struct [(0,124),(4,3),(5,3),(6,3),(7,3)]),[.int I,.int I,.int I,.int I,.int I,.int I,.int I,.int I],J⟩,U ⟨(.struct [(0,124),(4,3),(5,3),(6,3),(7,3)]),[.int I,.int I,.int I,.int I,.int I,.int I,.int I,.int I],J⟩,Z,U ⟨.one,[.ae .nilFunc .ae],E⟩],
 [U ⟨.one,[.ae .nilFunc .ae],E⟩,U ⟨.one,[.ae .nilFunc .ae],E⟩,U ⟨(.map 3 4 1 E),[.ae (.map Z) .ae],E⟩,U ⟨.one,[.ae .nilFunc .ae],E⟩,U ⟨.one,[.ae .nilFunc .ae],E⟩,U ⟨.one,[.ae .nilFunc .ae],E⟩,U ⟨.one,[.ae .nilFunc .ae],E⟩,U ⟨.one,[.ae .nilFunc .ae],E⟩,U ⟨.one,[.ae .nilFunc .ae],E⟩,U ⟨.one,[.ae .nilFunc .ae],E⟩,U ⟨.one,[.ae .nilFunc .ae],E⟩,U ⟨.one,[.ae .nilFunc .ae],E⟩,U ⟨.one,[.ae .nilFunc .ae],E⟩,U ⟨(.struct [(0,48)]),[.int I],J⟩,U ⟨(.struct [(0,48)]),[.int I],J⟩,U ⟨(.map 3 3 1 E),[.ae (.map Z) .ae],E⟩],
 [U ⟨.one,[.ae .nilFunc .ae],E⟩,U ⟨.one,[.ae .nilFunc .ae],E⟩,Z,U ⟨.one,[.ae .nilFunc .ae],E⟩,U ⟨.one,[.ae .nilFunc .ae],E⟩,U ⟨.one,[.ae .nilFunc .ae],E⟩,U ⟨.one,[.ae .nilFunc .ae],E⟩,U ⟨(.struct [(0,3),(1,4),(2,94),(19,76),(32,67)]),[.int I,.bool,.ae (.string ⟨#[]⟩) .str,.int I,.int I,.int I,.int I,.int I,.int I,.int I,.int I,.int I,.int I,.int I,.int I,.int I,.int I,.int I,.int I,.int I,.int I,.int I,.int I,.int I,.int I,.int I,.int I,.int I,.int I,.int I,.int I,.int I,.ae (.slice Z 0 0) (.sl 134)],E⟩,U ⟨(.struct [(0,3),(1,4),(2,94),(19,76),(32,67)]),[.int I,.bool,.ae (.string ⟨#[]⟩) .str,.int I,.int I,.int I,.int I,.int I,.int I,.int I,.int I,.int I,.int I,.int I,.int I,.int I,.int I,.int I,.int I,.int I,.int I,.int I,.int I,.int I,.int I,.int I,.int I,.int I,.int I,.int I,.int I,.int I,.ae (.slice Z 0 0) (.sl 134)],E⟩,U ⟨.one,[.ae .nilFunc .ae],E⟩,U ⟨.one,[.ae .nilFunc .ae],E⟩,U ⟨.one,[.ae .nilFunc .ae],E⟩,U ⟨.one,[.ae .nilFunc .ae],E⟩,U ⟨.one,[.ae .nilFunc .ae],E⟩,U ⟨.one,[.ae .nilFunc .ae],E⟩,U ⟨.one,[.ae .nilFunc .ae],E⟩],
 [U ⟨(.struct [(0,94)]),[.ae (.string ⟨#[]⟩) .str,.int I,.int I,.int I,.int I,.int I,.int I,.int I,.int I,.int I,.int I,.int I,.int I,.int I,.int I,.int I,.int I],J⟩,U ⟨(.struct [(0,94)]),[.ae (.string ⟨#[]⟩) .str,.int I,.int I,.int I,.int I,.int I,.int I,.int I,.int I,.int I,.int I,.int I,.int I,.int I,.int I,.int I,.int I],J⟩,U ⟨.one,[.ae .nilFunc .ae],E⟩,U ⟨.one,[.ae .nilFunc .ae],E⟩,U ⟨.one,[.ae .nilFunc .ae],E⟩,U ⟨(.struct [(0,180),(1,3),(2,3),(3,3)]),[.ae .nilFunc .ae,.int I,.int I,.int I],E⟩,U ⟨(.struct [(0,180),(1,3),(2,3),(3,3)]),[.ae .nilFunc .ae,.int I,.int I,.int I],E⟩,U ⟨(.arr 7 182),[.ae .nilFunc .ae,.int I,.int I,.int I,.ae .nilFunc .ae,.int I,.int I,.int I,.ae .nilFunc .ae,.int I,.int I,.int I,.ae .nilFunc .ae,.int I,.int I,.int I,.ae .nilFunc .ae,.int I,.int I,.int I,.ae .nilFunc .ae,.int I,.int I,.int I,.ae .nilFunc .ae,.int I,.int I,.int I],E⟩,U ⟨.one,[.ae .nilFunc .ae],E⟩,U ⟨(.slice 182),[.ae (.slice Z 0 0) (.sl 182)],E⟩,U ⟨.one,[.ae (.pointer Z) .ae],E⟩,U ⟨.one,[.ae (.pointer Z) .ae],E⟩,U ⟨.one,[.ae .nilFunc .ae],E⟩,U ⟨.one,[.ae .nilFunc .ae],E⟩,U ⟨.one,[.ae .nilFunc .ae],E⟩,U ⟨.one,[.ae .nilFunc .ae],E⟩],
 [U ⟨.one,[.ae .nilFunc .ae],E⟩,U ⟨(.slice 197),[.ae (.slice Z 0 0) (.sl 197)],E⟩,Z,U ⟨.one,[.ae .nilFunc .ae],E⟩,U ⟨.one,[.ae .nilFunc .ae],E⟩,U ⟨(.arr 2 3),[.int I,.int I],J⟩,Z,U ⟨.one,[.ae .nilFunc .ae],E⟩,U ⟨(.slice 226),[.ae (.slice Z 0 0) (.sl 226)],E⟩,Z,U ⟨.one,[.ae .nilFunc .ae],E⟩,U ⟨.one,[.ae .nilFunc .ae],E⟩,U ⟨.one,[.ae .nilFunc .ae],E⟩,U ⟨(.struct [(0,4),(1,4),(2,4),(3,3),(4,3),(5,3)]),[.bool,.bool,.bool,.int I,.int I,.int I],J⟩,U ⟨(.struct [(0,4),(1,4),(2,4),(3,3),(4,3),(5,3)]),[.bool,.bool,.bool,.int I,.int I,.int I],J⟩,U ⟨(.arr 10 206),[.bool,.bool,.bool,.int I,.int I,.int I,.bool,.bool,.bool,.int I,.int I,.int I,.bool,.bool,.bool,.int I,.int I,.int I,.bool,.bool,.bool,.int I,.int I,.int I,.bool,.bool,.bool,.int I,.int I,.int I,.bool,.bool,.bool,.int I,.int I,.int I,.bool,.bool,.bool,.int I,.int I,.int I,.bool,.bool,.bool,.int I,.int I,.int I,.bool,.bool,.bool,.int I,.int I,.int I,.bool,.bool,.bool,.int I,.int I,.int I],J⟩],
 [U ⟨.one,[.ae .nilFunc .ae],E⟩,U ⟨(.arr 2 126),[.int I,.int I,.int I,.int I],J⟩,U ⟨(.slice 209),[.ae (.slice Z 0 0) (.sl 209)],E⟩,Z,U ⟨.one,[.ae .nilFunc .ae],E⟩,U ⟨.one,[.ae .nilFunc .ae],E⟩,U ⟨.one,[.ae .nilFunc .ae],E⟩,U ⟨.one,[.ae .nilFunc .ae],E⟩,U ⟨.one,[.ae .nilFunc .ae],E⟩,U ⟨(.slice 275),[.ae (.slice Z 0 0) (.sl 275)],E⟩,Z,U ⟨.one,[.ae .nilFunc .ae],E⟩,U ⟨.one,[.ae .nilFunc .ae],E⟩,U ⟨.one,[.ae .nilFunc .ae],E⟩,U ⟨.one,[.ae .nilFunc .ae],E⟩,U ⟨.one,[.ae .nilFunc .ae],E⟩],
 [U ⟨(.arr 5 4),[.bool,.bool,.bool,.bool,.bool],J⟩,U ⟨(.struct [(0,128),(14,134)]),[.int I,.int I,.int I,.int I,.int I,.int I,.int I,.int I,.int I,.int I,.int I,.int I,.int I,.int I,.int I,.int I,.int I,.bool],J⟩,U ⟨(.struct [(0,128),(14,134)]),[.int I,.int I,.int I,.int I,.int I,.int I,.int I,.int I,.int I,.int I,.int I,.int I,.int I,.int I,.int I,.int I,.int I,.bool],J⟩,U ⟨(.arr 2 39),[.ae (.slice Z 0 0) (.sl 3),.ae (.slice Z 0 0) (.sl 3)],E⟩,U ⟨(.arr 10 227),[.ae (.slice Z 0 0) (.sl 3),.ae (.slice Z 0 0) (.sl 3),.ae (.slice Z 0 0) (.sl 3),.ae (.slice Z 0 0) (.sl 3),.ae (.slice Z 0 0) (.sl 3),.ae (.slice Z 0 0) (.sl 3),.ae (.slice Z 0 0) (.sl 3),.ae (.slice Z 0 0) (.sl 3),.ae (.slice Z 0 0) (.sl 3),.ae (.slice Z 0 0) (.sl 3),.ae (.slice Z 0 0) (.sl 3),.ae (.slice Z 0 0) (.sl 3),.ae (.slice Z 0 0) (.sl 3),.ae (.slice Z 0 0) (.sl 3),.ae (.slice Z 0 0) (.sl 3),.ae (.slice Z 0 0) (.sl 3),.ae (.slice Z 0 0) (.sl 3),.ae (.slice Z 0 0) (.sl 3),.ae (.slice Z 0 0) (.sl 3),.ae (.slice Z 0 0) (.sl 3)],E⟩,U ⟨.one,[.ae .nilFunc .ae],E⟩,U ⟨.one,[.ae .nilFunc .ae],E⟩,U ⟨.one,[.ae .nilFunc .ae],E⟩,U ⟨(.struct [(0,3),(1,3),(2,3)]),[.int I,.int I,.int I],J⟩,U ⟨(.struct [(0,3),(1,3),(2,3)]),[.int I,.int I,.int I],J⟩,Z,U ⟨.one,[.ae .nilFunc .ae],E⟩,U ⟨.one,[.ae .nilFunc .ae],E⟩,U ⟨.one,[.ae .nilFunc .ae],E⟩,U ⟨.one,[.ae .nilFunc .ae],E⟩,U ⟨.one,[.ae .nilFunc .ae],E⟩],
 [U ⟨.one,[.ae .nilFunc .ae],E⟩,U ⟨.one,[.ae .nilFunc .ae],E⟩,U ⟨.one,[.ae .nilFunc .ae],E⟩,U ⟨(.struct [(0,122),(2,122)]),[.int I,.int I,.int I,.int I],J⟩,U ⟨.one,[.ae .nilFunc .ae],E⟩,U ⟨(.map 197 4 2 J),[.ae (.map Z) .ae],E⟩,U ⟨.one,[.ae .nilFunc .ae],E⟩,U ⟨.one,[.ae .nilFunc .ae],E⟩,U ⟨.one,[.ae .nilFunc .ae],E⟩,U ⟨.one,[.ae .nilFunc .ae],E⟩,U ⟨.one,[.ae .nilFunc .ae],E⟩,U ⟨.one,[.ae .nilFunc .ae],E⟩,U ⟨(.struct [(0,3),(1,3),(2,3),(3,3)]),[.int I,.int I,.int I,.int I],J⟩,U ⟨(.struct [(0,3),(1,3),(2,3),(3,3)]),[.int I,.int I,.int I,.int I],J⟩,U ⟨(.struct [(0,3),(1,3),(2,3),(3,3)]),[.int I,.int I,.int I,.int I],J⟩,U ⟨(.struct [(0,3),(1,3),(2,3),(3,3)]),[.int I,.int I,.int I,.int I],J⟩],
 [U ⟨.one,[.ae .nilFunc .ae],E⟩,U ⟨.one,[.ae .nilFunc .ae],E⟩,U ⟨.one,[.ae .nilFunc .ae],E⟩,U ⟨.one,[.ae .nilFunc .ae],E⟩,U ⟨.one,[.ae .nilFunc .ae],E⟩,U ⟨.one,[.ae .nilFunc .ae],E⟩,U ⟨.one,[.ae .nilFunc .ae],E⟩,U ⟨.one,[.ae .nilFunc .ae],E⟩,U ⟨.one,[.ae .nilFunc .ae],E⟩,U ⟨(.map 267 4 3 J),[.ae (.map Z) .ae],E⟩,U ⟨(.struct [(0,3),(1,3),(2,3)]),[.int I,.int I,.int I],J⟩,U ⟨(.struct [(0,3),(1,3),(2,3)]),[.int I,.int I,.int I],J⟩,U ⟨.one,[.ae .nilFunc .ae],E⟩,U ⟨.one,[.ae .nilFunc .ae],E⟩,U ⟨.one,[.ae .nilFunc .ae],E⟩,U ⟨(.slice 267),[.ae (.slice Z 0 0) (.sl 267)],E⟩],
 [U ⟨.one,[.ae .nilFunc .ae],E⟩,U ⟨.one,[.ae .nilFunc .ae],E⟩,U ⟨.one,[.ae .nilFunc .ae],E⟩,U ⟨(.struct [(0,3),(1,3),(2,3)]),[.int I,.int I,.int I],J⟩,U ⟨.one,[.ae .nilFunc .ae],E⟩,U ⟨.one,[.ae .nilFunc .ae],E⟩,U ⟨(.arr 8 197),[.int I,.int I,.int I,.int I,.int I,.int I,.int I,.int I,.int I,.int I,.int I,.int I,.int I,.int I,.int I,.int I],J⟩,U ⟨.one,[.ae .nilFunc .ae],E⟩,U ⟨.one,[.ae .nilFunc .ae],E⟩,U ⟨.one,[.ae .nilFunc .ae],E⟩,U ⟨.one,[.ae .nilFunc .ae],E⟩,U ⟨.one,[.ae .nilFunc .ae],E⟩,U ⟨.one,[.ae .nilFunc .ae],E⟩,U ⟨.one,[.int .u64],E⟩,U ⟨.one,[.ae .nilFunc .ae],E⟩,U ⟨.one,[.ae .nilFunc .ae],E⟩],
 [U ⟨.one,[.ae .nilFunc .ae],E⟩,U ⟨.one,[.ae .nilFunc .ae],E⟩,U ⟨.one,[.ae .nilFunc .ae],E⟩,U ⟨.one,[.ae .nilFunc .ae],E⟩,U ⟨.one,[.ae .nilFunc .ae],E⟩,U ⟨.one,[.ae .nilFunc .ae],E⟩,U ⟨.one,[.ae .nilFunc .ae],E⟩,U ⟨.one,[.ae .nilFunc .ae],E⟩,U ⟨.one,[.ae .nilFunc .ae],E⟩,U ⟨.one,[.ae .nilFunc .ae],E⟩,Z,U ⟨.one,[.ae .nilFunc .ae],E⟩,U ⟨.one,[.ae .nilFunc .ae],E⟩,U ⟨.one,[.ae .nilFunc .ae],E⟩,U ⟨(.slice 306),[.ae (.slice Z 0 0) (.sl 306)],E⟩,Z],
 [U ⟨.one,[.ae .nilFunc .ae],E⟩,U ⟨(.struct [(0,3),(1,3)]),[.int I,.int I],J⟩,U ⟨(.struct [(0,3),(1,3)]),[.int I,.int I],J⟩,U ⟨.one,[.ae .nilFunc .ae],E⟩,U ⟨(.slice 312),[.ae (.slice Z 0 0) (.sl 312)],E⟩,Z,U ⟨.one,[.ae .nilFunc .ae],E⟩,U ⟨(.struct [(0,3),(1,3),(2,3)]),[.int I,.int I,.int I],J⟩,U ⟨(.struct [(0,3),(1,3),(2,3)]),[.int I,.int I,.int I],J⟩,U ⟨.one,[.ae .nilFunc .ae],E⟩,U ⟨(.arr 4 197),[.int I,.int I,.int I,.int I,.int I,.int I,.int I,.int I],J⟩,U ⟨(.arr 2 197),[.int I,.int I,.int I,.int I],J⟩,U ⟨.one,[.ae .nilFunc .ae],E⟩,U ⟨(.struct [(0,314),(8,315),(12,316)]),[.int I,.int I,.int I,.int I,.int I,.int I,.int I,.int I,.int I,.int I,.int I,.int I,.ae .nilFunc .ae],E⟩,U ⟨(.struct [(0,314),(8,315),(12,316)]),[.int I,.int I,.int I,.int I,.int I,.int I,.int I,.int I,.int I,.int I,.int I,.int I,.ae .nilFunc .ae],E⟩,Z],
 [U ⟨(.map 3 318 1 E),[.ae (.map Z) .ae],E⟩,U ⟨.one,[.ae .nilFunc .ae],E⟩,U ⟨.one,[.ae .nilFunc .ae],E⟩,U ⟨(.arr 4 3),[.int I,.int I,.int I,.int I],J⟩,U ⟨(.struct [(0,76),(13,128),(27,134)]),[.int I,.int I,.int I,.int I,.int I,.int I,.int I,.int I,.int I,.int I,.int I,.int I,.int I,.int I,.int I,.int I,.int I,.int I,.int I,.int I,.int I,.int I,.int I,.int I,.int I,.int I,.int I,.int I,.int I,.int I,.bool],J⟩,U ⟨(.struct [(0,76),(13,128),(27,134)]),[.int I,.int I,.int I,.int I,.int I,.int I,.int I,.int I,.int I,.int I,.int I,.int I,.int I,.int I,.int I,.int I,.int I,.int I,.int I,.int I,.int I,.int I,.int I,.int I,.int I,.int I,.int I,.int I,.int I,.int I,.bool],J⟩,U ⟨.one,[.ae (.pointer Z) .ae],E⟩,U ⟨.one,[.ae .nilFunc .ae],E⟩,U ⟨.one,[.int I],E⟩,Z,U ⟨.one,[.ae .nilFunc .ae],E⟩,U ⟨.one,[.ae .nilFunc .ae],E⟩,U ⟨.one,[.ae .nilFunc .ae],E⟩,Z,U ⟨.one,[.ae .nilFunc .ae],E⟩,U ⟨.one,[.ae .nilFunc .ae],E⟩],
 [U ⟨.one,[.int .u32],E⟩,U ⟨.one,[.ae .nilFunc .ae],E⟩,U ⟨.one,[.int .u64],E⟩,U ⟨.one,[.ae .nilFunc .ae],E⟩,U ⟨.one,[.ae .nilFunc .ae],E⟩,U ⟨.one,[.ae .nilFunc .ae],E⟩,U ⟨.one,[.ae .nilFunc .ae],E⟩,U ⟨.one,[.ae .nilFunc .ae],E⟩,U ⟨.one,[.ae .nilFunc .ae],E⟩,Z,U ⟨.one,[.ae .nilFunc .ae],E⟩,U ⟨.one,[.ae .nilFunc .ae],E⟩,U ⟨.one,[.ae .nilFunc .ae],E⟩,Z,U ⟨.one,[.ae .nilFunc .ae],E⟩,U ⟨.one,[.ae .nilFunc .ae],E⟩],
 [Z,U ⟨(.map 3 351 1 E),[.ae (.map Z) .ae],E⟩,U ⟨.one,[.ae .nilFunc .ae],E⟩,U ⟨.one,[.ae .nilFunc .ae],E⟩,U ⟨.one,[.ae .nilFunc .ae],E⟩,U ⟨.one,[.ae .nilFunc .ae],E⟩,U ⟨.one,[.ae .nilFunc .ae],E⟩,U ⟨.one,[.ae .nilFunc .ae],E⟩,U ⟨.one,[.ae .nilFunc .ae],E⟩,U ⟨(.map 3 134 1 E),[.ae (.map Z) .ae],E⟩,U ⟨.one,[.ae .nilFunc .ae],E⟩,U ⟨.one,[.ae .nilFunc .ae],E⟩,U ⟨.one,[.ae .nilFunc .ae],E⟩,U ⟨(.arr 2 77),[.ae (.slice Z 0 0) (.sl 124),.ae (.slice Z 0 0) (.sl 124)],E⟩,U ⟨(.arr 5 365),[.ae (.slice Z 0 0) (.sl 124),.ae (.slice Z 0 0) (.sl 124),.ae (.slice Z 0 0) (.sl 124),.ae (.slice Z 0 0) (.sl 124),.ae (.slice Z 0 0) (.sl 124),.ae (.slice Z 0 0) (.sl 124),.ae (.slice Z 0 0) (.sl 124),.ae (.slice Z 0 0) (.sl 124),.ae (.slice Z 0 0) (.sl 124),.ae (.slice Z 0 0) (.sl 124)],E⟩,U ⟨.one,[.ae .nilFunc .ae],E⟩],
 [U ⟨.one,[.ae .nilFunc .ae],E⟩,U ⟨.one,[.ae .nilFunc .ae],E⟩,U ⟨.one,[.ae .nilFunc .ae],E⟩,U ⟨.one,[.ae .nilFunc .ae],E⟩,U ⟨.one,[.ae .nilFunc .ae],E⟩,U ⟨.one,[.int .u64],E⟩,U ⟨.one,[.ae .nilFunc .ae],E⟩,U ⟨.one,[.ae .nilFunc .ae],E⟩,U ⟨.one,[.ae .nilFunc .ae],E⟩,U ⟨.one,[.ae .nilFunc .ae],E⟩,U ⟨.one,[.ae .nilFunc .ae],E⟩,U ⟨.one,[.ae .nilFunc .ae],E⟩,U ⟨.one,[.ae .nilFunc .ae],E⟩,U ⟨.one,[.ae .nilFunc .ae],E⟩,U ⟨.one,[.ae .nilFunc .ae],E⟩,U ⟨.one,[.ae .nilFunc .ae],E⟩],
 [U ⟨.one,[.ae .nilFunc .ae],E⟩,U ⟨.one,[.ae .nilFunc .ae],E⟩,U ⟨.one,[.ae .nilFunc .ae],E⟩,U ⟨.one,[.ae .nilFunc .ae],E⟩,U ⟨.one,[.ae .nilFunc .ae],E⟩,U ⟨(.map 3 394 1 E),[.ae (.map Z) .ae],E⟩,U ⟨.one,[.ae .nilFunc .ae],E⟩,U ⟨.one,[.ae .nilFunc .ae],E⟩,U ⟨.one,[.ae .nilFunc .ae],E⟩,U ⟨(.struct [(0,391),(1,4),(2,382),(3,4),(4,392)]),[.ae .nilFunc .ae,.bool,.ae .nilFunc .ae,.bool,.ae .nilFunc .ae],E⟩,U ⟨(.struct [(0,391),(1,4),(2,382),(3,4),(4,392)]),[.ae .nilFunc .ae,.bool,.ae .nilFunc .ae,.bool,.ae .nilFunc .ae],E⟩,U ⟨.one,[.ae .nilFunc .ae],E⟩,U ⟨.one,[.ae .nilFunc .ae],E⟩,U ⟨(.map 3 45 1 E),[.ae (.map Z) .ae],E⟩,U ⟨.one,[.ae .nilFunc .ae],E⟩,U ⟨.one,[.ae .nilFunc .ae],E⟩],
 [U ⟨.one,[.ae .nilFunc .ae],E⟩,U ⟨.one,[.ae .nilFunc .ae],E⟩,U ⟨.one,[.ae (.pointer Z) .ae],E⟩,Z,U ⟨.one,[.ae .nilFunc .ae],E⟩,U ⟨.one,[.ae .nilFunc .ae],E⟩,U ⟨.one,[.ae .nilFunc .ae],E⟩,U ⟨.one,[.ae .nilFunc .ae],E⟩,U ⟨.one,[.ae .nilFunc .ae],E⟩,U ⟨.one,[.ae .nilFunc .ae],E⟩,U ⟨.one,[.ae .nilFunc .ae],E⟩,U ⟨.one,[.ae .nilFunc .ae],E⟩,U ⟨.one,[.ae .nilFunc .ae],E⟩,Z,U ⟨.one,[.ae .nilFunc .ae],E⟩,U ⟨.one,[.ae .nilFunc .ae],E⟩],
 [U ⟨.one,[.ae .nilFunc .ae],E⟩,U ⟨(.slice 419),[.ae (.slice Z 0 0) (.sl 419)],E⟩,U ⟨(.struct [(0,134),(4,3)]),[.int I,.int I,.int I,.bool,.int I],J⟩,U ⟨(.struct [(0,134),(4,3)]),[.int I,.int I,.int I,.bool,.int I],J⟩,U ⟨.one,[.ae .nilFunc .ae],E⟩,U ⟨.one,[.ae .nilFunc .ae],E⟩,U ⟨.one,[.ae .nilFunc .ae],E⟩,U ⟨.one,[.ae .nilFunc .ae],E⟩,U ⟨.one,[.ae .nilFunc .ae],E⟩,U ⟨.one,[.ae .nilFunc .ae],E⟩,U ⟨.one,[.ae .nilFunc .ae],E⟩,U ⟨.one,[.ae .nilFunc .ae],E⟩,U ⟨.one,[.ae .nilFunc .ae],E⟩,U ⟨.one,[.ae .nilFunc .ae],E⟩,U ⟨.one,[.ae .nilFunc .ae],E⟩,U ⟨.one,[.ae .nilFunc .ae],E⟩],
 [U ⟨.one,[.ae .nilFunc .ae],E⟩,U ⟨.one,[.ae .nilFunc .ae],E⟩,U ⟨.one,[.ae .nilFunc .ae],E⟩,U ⟨.one,[.ae .nilFunc .ae],E⟩,U ⟨.one,[.ae .nilFunc .ae],E⟩,U ⟨.one,[.ae .nilFunc .ae],E⟩,U ⟨.one,[.ae .nilFunc .ae],E⟩,U ⟨(.struct [(0,17),(1,17),(2,17),(3,9)]),[.ae (.pointer Z) .ae,.ae (.pointer Z) .ae,.ae (.pointer Z) .ae,.ae (.string ⟨#[]⟩) .str],E⟩,U ⟨(.struct [(0,17),(1,17),(2,17),(3,9)]),[.ae (.pointer Z) .ae,.ae (.pointer Z) .ae,.ae (.pointer Z) .ae,.ae (.string ⟨#[]⟩) .str],E⟩,U ⟨(.arr 0 16),[],J⟩,U ⟨(.struct [(0,441)]),[],E⟩,U ⟨(.struct [(0,441)]),[],E⟩,U ⟨.one,[.ae .nilFunc .ae],E⟩,U ⟨.one,[.int .u8],E⟩,U ⟨.one,[.int .u8],E⟩,U ⟨.one,[.ae .nilFunc .ae],E⟩],
 [U ⟨.one,[.ae (.pointer Z) .ae],E⟩,U ⟨.one,[.int .i32],E⟩,U ⟨.one,[.int .i32],E⟩,U ⟨(.struct [(0,12),(1,12),(2,336),(3,445),(4,5),(5,5),(6,446),(7,447),(8,448),(9,449),(10,450)]),[.int .u64,.int .u64,.int .u32,.int .u8,.int .u8,.int .u8,.int .u8,.ae .nilFunc .ae,.ae (.pointer Z) .ae,.int .i32,.int .i32],E⟩,U ⟨(.struct [(0,12),(1,12),(2,336),(3,445),(4,5),(5,5),(6,446),(7,447),(8,448),(9,449),(10,450)]),[.int .u64,.int .u64,.int .u32,.int .u8,.int .u8,.int .u8,.int .u8,.ae .nilFunc .ae,.ae (.pointer Z) .ae,.int .i32,.int .i32],E⟩,Z]]
def SG:List (List sC):=[
[Z,Z,Z,Z,U [4],U [4],U [4],U [4],U [48],U [44,50,48],Z,U [4],U [48],U [57,48],U [39,48],U [36,48]],
 [U [70],U [79,48],U [4],U [41],U [44,48],U [44,48],U [4,48],U [48],U [48],U [4],U [4],U [48],U [4],Z,U [4],U [4]],
 [U [4],U [],U [],U [48],U [48],U [64],Z,U [36],U [],Z,Z,Z,Z,U [4],U [4],U [94]],
 [U [76,48],U [48],U [4],U [124,48],U [39,48],U [48],U [48],U [4],U [48],U [4],U [48],U [4],U [48],U [4],U [4],U [4]],
 [U [4],U [4],Z,Z,Z,Z,U [4,48],U [4],Z,Z,Z,Z,U [64],U [70],U [67],U [76,48]],
 [U [124,48],U [124,48],U [4],U [4],Z,Z,U [4],U [4],Z,U [124,48],U [193,48],U [3],U [30,48],U [200,4],U [],Z],
 [U [23],U [4],U [3,48],U [48],U [4],U [4],Z,Z,U [124,48],U [4],U [3],U [48],Z,U [217,48],Z,Z],
 [Z,Z,U [3,48],U [233,48],U [124,48],Z,U [3],Z,Z,Z,Z,Z,Z,Z,U [4],U [48]],
 [U [],U [3],Z,U [],U [3],U [3],U [4],Z,Z,U [3],Z,U [48],U [4],Z,Z,Z],
 [U [4],U [48],U [4],U [4],Z,Z,U [4],U [4],U [124,48],U [124,48],U [39],U [48],Z,U [],Z,U [4,48]],
 [Z,Z,U [],U [3],Z,U [76,48],Z,Z,Z,U [3],Z,Z,Z,U [4],U [4],Z],
 [Z,U [285],U [285],U [3],U [3],Z,U [48],U [3,48],Z,U [4],U [124,48],Z,U [39],U [193],U [30,48],U [4]],
 [Z,Z,Z,Z,U [67,48],U [4],Z,U [302,48],Z,U [308,48],U [4,48],Z,Z,Z,Z,Z],
 [Z,Z,Z,Z,Z,Z,Z,Z,Z,Z,Z,Z,Z,Z,Z,U [4]],
 [Z,U [4],U [30],Z,Z,U [128,48],Z,U [3],Z,Z,Z,Z,U [3],Z,Z,Z],
 [Z,Z,Z,Z,Z,Z,Z,Z,Z,Z,Z,Z,Z,Z,Z,Z],
 [Z,Z,Z,Z,Z,Z,Z,Z,Z,Z,U [3],U [3],Z,Z,Z,Z],
 [Z,Z,Z,Z,Z,Z,Z,Z,U [],Z,Z,Z,Z,Z,Z,Z],
 [Z,Z,Z,Z,Z,Z,Z,Z,Z,Z,U [4],Z,Z,Z,Z,Z],
 [Z,Z,Z,Z,Z,Z,Z,Z,Z,Z,Z,Z,Z,U [3,3,48],U [],U [3]]]
def PT:List (List sC):=[
[Z,Z,Z,Z,U [41,44,3,56],U [],U [41],U [44],U [41,44],U [41,44,3],Z,U [44,44],U [41,44],U [41,44,3],U [41,44,3],U [41,3]],
 [U [44,56],U [32,35,36,3,64,70,65],U [79,79],U [],U [41],U [41,44,89],U [41,44,3],U [41],U [32],U [66],U [32],U [41],U [41,44],Z,U [41,44,57],U [39,39]],
 [U [70,70],U [106],U [4,48],U [76],U [41,44,3],U [41,44,3],Z,U [41,3],Z,Z,Z,Z,Z,U [64,64],U [65,65],U [9]],
 [U [130],U [94],U [39,3],U [141,3],U [32,3],U [32,3,3,67],U [29],U [3,3,3],U [23],U [128,3,3],U [32],U [41],U [94],U [41],U [41],U [41]],
 [U [41],U [44,3],Z,Z,Z,Z,U [32,35,36,79],U [3,3,3],Z,Z,Z,Z,U [64],U [70],U [67],U [32,3,3,76,67]],
 [U [32,3,3,76,94,67],U [76,94],U [67,67],U [9],Z,Z,U [124],U [3,3,3],Z,U [124,124],U [32,3],Z,U [32,3,3],U [30,67],Z,Z],
 [U [23],U [3,4,3,3],U [126,126],U [29],U [32],U [9],Z,Z,U [141,3],U [32,3,69],U [30,3],U [76],Z,U [32,35,36,79],Z,Z],
 [Z,Z,U [3,3],U [3,3],U [124,3,3],Z,U [5],Z,Z,Z,Z,Z,Z,Z,U [243],U [32,3]],
 [U [30,247],U [128,128],Z,U [30,247],U [128,128],U [3,3],U [128,134],Z,Z,U [29,3],Z,U [126],U [3,3,3],Z,Z,Z],
 [U [3,3,3],U [23],U [128,3],U [128],Z,Z,U [141],U [3,3,3],U [141,3],U [124,124],U [32,3],U [32,3,3,67],Z,Z,Z,U [124,124]],
 [Z,Z,U [271,273],U [267,267],Z,U [76,128,134],Z,Z,Z,U [9,5],Z,Z,Z,U [3],U [3,3,3],Z],
 [Z,U [285,285],U [3],U [29,3],U [3,3],Z,U [126],U [126,126],Z,U [124],U [124,3,3],Z,U [3,193],U [32,3],U [32,3,3],U [30,67]],
 [Z,Z,Z,Z,U [32,3,94],U [67,134],Z,U [32,3,3,76,36,67],Z,U [32,35,3,77,77,193],U [124,124],Z,Z,Z,Z,Z],
 [Z,Z,Z,Z,Z,Z,Z,Z,Z,Z,Z,Z,Z,Z,Z,U [122]],
 [Z,U [32,3,3,3],U [32,3,3],Z,Z,U [32,3],Z,U [67,134],Z,Z,Z,Z,U [306,306],Z,Z,Z],
 [Z,Z,Z,Z,Z,Z,Z,Z,Z,Z,Z,Z,Z,Z,Z,Z],
 [Z,Z,Z,Z,Z,Z,Z,Z,Z,Z,U [3,3],U [3],Z,Z,Z,Z],
 [Z,Z,Z,Z,Z,Z,Z,Z,U [302,363],Z,Z,Z,Z,Z,Z,Z],
 [Z,Z,Z,Z,Z,Z,Z,Z,Z,Z,U [128,128],Z,Z,Z,Z,Z],
 [Z,Z,Z,Z,Z,Z,Z,Z,Z,Z,Z,Z,Z,U [3],U [417,421],U [419,419]]]
def at5:TD->Bool
 |.map k _ n X=>(k==3&&n==1&& !X)||(k==197&&n==2&&X)||(k==267&&n==3&&X)
 |_=>J
def aDX:u4 Tryz.prog 3 1 false:=aDT aX
def aDY:u4 Tryz.prog 197 2 true:=by
 have X:Tryz.prog.underlying 197=U (.array 2 3):=aX;obtain⟨i,V⟩:∃i,Tryz.prog.info? 3=U i:=lF.1 aX;exact at4 X aX aX (λl b W R=>aDV X aX V aX R b 9998 W)
def at6(P:Program)(k n:Nat):Bool:=match P.underlying k with
 |U (.struct X)=>X.toList.all λf=>f.name != "_"&&(match P.underlying f.type with
  |U (.int I)=>J
  |_=>E)&&decide (f.offset<n)
 |_=>E
def aDZ{P:Program}(h:at6 P X x=J)(Q:v6 (P.underlying X)=J)(O:v7 P 20 X (eF x (.int I))=J):u4 P X x true:=by
 unfold at6 at h;split at h;rename_i L V;refine at4 V Q O (λl b W N=>aDW V (λf M=> ?_) N b 9998 W);have:=fZ.1 h f M;simp only[aw,bne_iff_ne,ne_eq,ce] at this;refine⟨this.1.1, ?_,this.2⟩;have R:=this.1.2;split at R;assumption;cases R;cases h
def aD0:u4 Tryz.prog 267 3 true:=aDZ aX aX aX
def aD1:FN (λt X=>acf Tryz.prog t X&&(!X.eq||aip Tryz.prog t X)&&at5 X.d) 0 TT=true:=aX
def Sn:FN (λg _=>wF Tryz.prog g) 0 SG=true:=aX
def JZ:jq Tryz.prog (look TT):=by
 intro t R h;have:=am4 aD1 h;simp only[aw,jL,iw] at this;refine ay0 this.1.1 (λW=>aDR (this.1.2.resolve_left (by rw[W];simp))) (λk e n Q V=> ?_);have X:=this.2;rw[V] at X;simp only[at5,jL,aw,dK,iw] at X;rcases X with(⟨⟨rfl,rfl⟩,rfl⟩|⟨⟨rfl,rfl⟩,rfl⟩)|⟨⟨rfl,rfl⟩,rfl⟩;exact aDX;exact aDY;exact aD0
def Sq:Tryz.prog.follows .mixedOrders=true:=aX
def GL:nG:=[(0,0,6),(1,1,2),(2,2,2)]
def GLK:bz:=[.sl 206,.sl 227,.sl 197]
def GW(W:World):Prop:=∃X,LU (look TT) GL GLK lw W X
def GW.grow{W X:World}(V:Below W.heap.size W X)(h:GW W):GW X:=by
 obtain⟨R,Q,P,O,N⟩:=h;exact⟨R,Q,P,λk e M L H=>(O k e M L H).grow V,N⟩
def v8(X:Bq):Prop:=∀x∈X,mY Tryz.prog (look TT) x.1 x.2.1 x.2.2.1 x.2.2.2.1 x.2.2.2.2
def GZ(z:Bool)(W:World):Prop:=z=J->GW W
def GZ.grow{z:Bool}{W X:World}(V:Below W.heap.size W X)(h:GZ z W):GZ z X:=λe=>(h e).grow V
abbrev tI(z:Bool)(f:FuncId)(F:bv->kK):Prop:=D4 Tryz.prog (look TT) (look PT) (look SG) (GZ z) f F
def at7:∀{X:aU},qJ X=J->∀(k:Nat)(t:TypeId),(jT X)[k]?≠U (.own t)
 |[],_,k,t=>by simp[jT]
 |x::X,h,k,t=>by
  simp only[qJ,aw] at h;have W:=at7 h.2;cases x with
  |int _=>exact W k t
  |bool=>exact W k t
  |ah e=>
   cases k with
   |zero=>
    intro V;simp[jT] at V;subst V;simp[HZ] at h
   |succ k=>simpa[jT] using W k t
def He(g:Bool):nG:=if g then GL else[]
def tJ(g:Bool):bz:=if g then GLK else[]
def ais(g:Bool)(X:g=J->w=J)(W:World)(h:GZ w W):∃V,LU (look TT) (He g) (tJ g) (mH g) W V:=by
 cases g with
 |true=>exact h (X rfl)
 |false=>exact⟨[],rfl,λk v Q h=>by simp[mH] at h,λk e P h=>by simp[tJ] at h,λO x R=>by simp[He] at R⟩
def aD2{bB:nQ}(af:∀G,tI w G (bB G))(hf:Tryz.prog.funcs[G]?=U v)(hb:v.body=U y){A:aq}(hi:A.all (wF Tryz.prog)=J){s:Bq}(ag:v8 s){ma:Bool}{a:Dj}{g:Bool}{dT:Option TypeId}
  {ps qs:j5}{L qk:aU}{l:ap}{H:bz}{F:bv->kK}
  (al:look PT G=U ps)(an:look SG G=U qs)(aA:iO (look TT) ps=U L)(aC:iO (look TT) qs=U qk)
  (bb:qJ L=J)(hl:kA (look TT) ps c=U l)(a0:sN 0 0 (tJ g).length L l=J)(m:H=tJ g++jT L)(hq:g=E\/vf qk=J)
  (bc:((⟨[],[],0,0,[],0,0,[]⟩:S).cT L).2.ni=x)(bd:((⟨[],[],0,0,[],0,0,[]⟩:S).cT L).2.nb=n)
  (a1:∀(p:Sp)(O:ai),u.aS p O []->(evX (p9 Tryz.prog TT SG (He g) A B s ma a) dT X G y v.ntmps v.results.toList c ⟨[],[],x,n,H,0,0,[]⟩).aS p O [])
  (a4:ac4 Tryz.prog y dT)(a9:dT≠Z->∀P V,F P≠U (.bI V))
  (hc:u.iF (look TT) (look PT) (look SG) qs x n H []=J)(hF:∀P o,eY L P->F P=U o->wJ bB u (gg (mH g) P) [] o)(hz:g=J->w=J):tI w G F:=by
 have e1:∀D P,eY L P->(gg D P).i.length=x:=λD P M=>by
  have h1:=(Ah L P ⟨[],[],0,0,[],0,0,[]⟩ ⟨[],[],[],[]⟩ M rfl rfl rfl).1;have h2:=(FQ (O:=⟨[],[],[],[]⟩) M).1;have h3:=(FQ (O:=⟨[],[],D,[]⟩) M).1;rw[<-bc,<-h1,gg,h3,h2]
 have e2:∀D P,eY L P->(gg D P).b.length=n:=λD P M=>by
  have h1:=(Ah L P ⟨[],[],0,0,[],0,0,[]⟩ ⟨[],[],[],[]⟩ M rfl rfl rfl).2.1;have h2:=(FQ (O:=⟨[],[],[],[]⟩) M).2.1;have h3:=(FQ (O:=⟨[],[],D,[]⟩) M).2.1;rw[<-bd,<-h1,gg,h3,h2]
 have e3:∀P,eY L P->(gg (mH g) P).r.length=Y H:=λP M=>by rw[m];exact P2 M (by cases g<;>rfl)
 have e4:∀(k:Nat)(u:TypeId),H[k]?≠U (.own u):=by
  rw[m];intro k u hk;by_cases ba:k<(tJ g).length;rw[dN ba] at hk;cases g with
  |false=>simp[tJ] at ba
  |true=>rcases k with _|_|_|k<;>simp[tJ,GLK] at hk
  rw[iJ aa] at hk;exact at7 bb _ u hk
 have e5:mH g=[]\/vf qk=true:=hq.imp (λh=>by subst h;rfl) id;have a3:∀P o,eY L P->F P=U o->∃N,run (look TT) (look PT) (look SG) bB qs N u (gg (mH g) P) H []=U o:=λP o M ho=>by
  obtain⟨N,hN⟩:=hF P o M ho;exact⟨N,vg N u _ H [] [] [] o hN (by rw[e1 _ P M,e2 _ P M];exact hc) (e3 P M) B5.nil⟩
 cases dT with
 |none=>exact azq (cf:=p9 Tryz.prog TT SG (He g) A B s ma a) (glk:=tJ g) (glv:=mH g) (λQ R j=>PU JZ Sn hi Sq j ag) rfl af (λ_ _ e h=>h.grow e) hf hb al an aA aC hl (by cases g<;>exact a0) m e4 (by cases g<;>rfl) e5 e1 e2 (λW h=>ais g hz W h) (λp O h=>(azJ _ _ _ _ _ _ _ _).subst (motive:=λq=>T.aS p q O []) (a1 p O h)) a3
 |some eT=>
  cases eT with
  |zero=>exact azR (cf:=p9 Tryz.prog TT SG (He g) A B s ma a) (glk:=tJ g) (glv:=mH g) (λQ R j=>PU JZ Sn hi Sq j ag) rfl af (λ_ _ e h=>h.grow e) hf hb a4 al an aA aC hl (by cases g<;>exact a0) m e4 (by cases g<;>rfl) e5 e1 e2 (λW h=>ais g hz W h) a1 (a9 av) a3
  |succ eT=>
   obtain⟨d,hd,bf⟩:=a4;exact azr (cf:=p9 Tryz.prog TT SG (He g) A B s ma a) (glk:=tJ g) (glv:=mH g) (λQ R j=>PU JZ Sn hi Sq j ag) rfl af (λ_ _ e h=>h.grow e) hf hb hd bf al an aA aC hl (by cases g<;>exact a0) m e4 (by cases g<;>rfl) e5 e1 e2 (λW h=>ais g hz W h) (λp O h=>(azK _ _ _ _ _ _ _ _ _).subst (motive:=λq=>T.aS p q O []) (a1 p O h)) (a9 av) a3
def ait(f:FuncId):tI w f (λ_=>Z):=λ_ _ _ _ _ _ _ _ _ _ _ h=>by cases h
def bC(f:FuncId)(g d:Bool)(t:T):Prop:=∀(z:Bool),(g=J->z=J)->∀(bB:nQ),(∀g,tI z g (bB g))->∀n,tI z f (λX=>B6 d (exec bB n t (gg (mH g) X) []))
def aD3(k:Tryz.prog.funcs[G]?=U v)(j:v.body=U y){H:aq}(i:H.all (wF Tryz.prog)=J){D:Bq}(e:v8 D){d:Dj}{g:Bool}{Q:Option TypeId}
  {N M:j5}{V A:aU}{l:ap}{L:bz}
  (b:look PT G=U N)(a:look SG G=U M)(af:iO (look TT) N=U V)(ag:iO (look TT) M=U A)
  (al:qJ V=J)(hl:kA (look TT) N c=U l)(an:sN 0 0 (tJ g).length V l=J)(aA:L=tJ g++jT V)(hq:g=E\/vf A=J)
  (aC:((⟨[],[],0,0,[],0,0,[]⟩:S).cT V).2.ni=x)(a0:((⟨[],[],0,0,[],0,0,[]⟩:S).cT V).2.nb=n)
  (a1:ac4 Tryz.prog y Q)
  {s:Bool}(ht:ctE s u (evX (p9 Tryz.prog TT SG (He g) H B D w d) Q X G y v.ntmps v.results.toList c ⟨[],[],x,n,L,0,0,[]⟩)=u)
  (hc:u.iF (look TT) (look PT) (look SG) M x n L []=J):bC G g Q.isSome u:=
 λz hz bB a3 m=>aD2 (F:=λP=>B6 Q.isSome (exec bB m u (gg (mH g) P) [])) a3 k j i e b a af ag al hl an aA hq aC a0 (λp O h=>azp (g:=u) (c:=s) (Eq.mpr (ko (λq=>T.aS p q O []) ht) h))
  a1 (λa4 P W h=>by
   cases Q with
   |none=>exact a4 rfl
   |some eT=>
   simp only[Option.isSome_some] at h;cases R:exec bB m u (gg (mH g) P) [] with
   |none=>rw[R] at h;cases h
   |some o=>rw[R] at h;cases o<;>simp[B6] at h) hc (λP o _ h=>by
   cases R:exec bB m u (gg (mH g) P) [] with
   |none=>simp only[R,B6] at h;cases h
   |some r=>
    simp only[R] at h;have:o=r:=by
     cases r with
     |ret ys=>simp only[B6,cX] at h;exact h.symm
     |bI W=>
      simp only[B6] at h;split at h;cases h;cases h;rfl
    subst this;exact⟨m,R⟩) hz
def Zb:fu->Nat->Nat->Nat->ap×Nat×Nat×Nat
 |[],a,b,c=>([],a,b,c)
 |.int k::l,a,b,c=>let r:=Zb l (a+1) b c;(.int k (.v a)::r.1,r.2)
 |.bool::l,a,b,c=>let r:=Zb l a (b+1) c;(.bool (.v b)::r.1,r.2)
 |.ae _ _::l,a,b,c=>let r:=Zb l a b (c+1);(.ah (.v c)::r.1,r.2)
def mkA:j5->Nat->Nat->Nat->ap
 |[],_,_,_=>[]
 |t::W,a,b,c=>match look TT t with
  |U X=>let r:=Zb X.aj a b c;(if X.d.isAgg then .agg r.1 else r.1.headD .any)::mkA W r.2.1 r.2.2.1 r.2.2.2
  |none=>[]
def pkF(f:FuncId):aU:=(iO (look TT) ((look PT f).getD [])).getD []
abbrev Zc:S:=⟨[],[],0,0,[],0,0,[]⟩
def tk{W V:j5}{X O:aU}(M:Tryz.prog.funcs[G]?=U v)(loops:List (Nat×Nat×fP):=[])(inl:aq:=[])(srts:Bq:=[])(ma:Bool:=E)(chs:Dj:=[])(g:Bool:=E)(dT:Option TypeId:=Z)(n:Nat:=300)
  (N:ap:=mkA ((look PT G).getD []) 0 0 (tJ g).length)(R:Nat:=(Zc.cT (pkF G)).2.ni)(Q:Nat:=(Zc.cT (pkF G)).2.nb)(P:bz:=tJ g++jT (pkF G))
  (hsr:v8 srts:=by exact λx L=>by cases L)(hdc:ac4 Tryz.prog (v.body.getD .skip) dT:=by exact trivial)
  (H:v.body=U (v.body.getD .skip):=by rfl)(F:inl.all (wF Tryz.prog)=true:=by kernel_rfl)
  (D:look PT G=U W:=by exact rfl)(B:look SG G=U V:=by exact rfl)(A:iO (look TT) W=U X:=by exact rfl)(z:iO (look TT) V=U O:=by exact rfl)
  (y:qJ X=true:=by exact rfl)(w:kA (look TT) W N=U c:=by exact rfl)(s:sN 0 0 (tJ g).length X c=true:=by exact rfl)(r:P=tJ g++jT X:=by exact rfl)(q:g=E\/vf O=true:=by first|exact .inl rfl|exact .inr rfl)
  (p:(Zc.cT X).2.ni=R:=by exact rfl)(o:(Zc.cT X).2.nb=Q:=by exact rfl)
  (ct:Bool:=E)(m:ctE ct u (evX (p9 Tryz.prog TT SG (He g) inl loops srts ma chs) dT n G (v.body.getD .skip) v.ntmps v.results.toList N ⟨[],[],R,Q,P,0,0,[]⟩)=u:=by kernel_rfl)
  (k:u.iF (look TT) (look PT) (look SG) V R Q P []=true:=by kernel_rfl):bC G g dT.isSome u:=
 aD3 M H F hsr D B A z y w s r q p o hdc m k
structure aiv(tb:lM)(z:Bool):Prop where
 tree:∀f fn,tb.tree f=U fn->bC f fn.g fn.d fn.t
 laid:∀f fn,tb.tree f=U fn->fn.g=J->z=J
 ui:∀f,tI z f (tb.ui f)
def tI.or{F X:bv->kK}(h:tI w G F)(k:tI w G X):tI w G (λV=>match F V with|U o=>U o|none=>X V):=by
 intro P O N M L H D B R V o W;simp only at W;cases Q:F R with
 |some A=>rw[Q] at W;simp only[cX] at W;subst W;exact h P O N M L H D B R V A Q
 |none=>rw[Q] at W;exact k P O N M L H D B R V o W
def Zd{V:lM}{z:Bool}(X:aiv V z):∀n f,tI z f (V.bB n f)
 |0,f=>X.ui f
 |n+1,f=>by
  cases R:V.tree f with
  |none=>
   have:=tI.or (X.ui f) (ait f);intro Q P O N M L H G F D o W;simp only[lM.bB,R] at W;exact this Q P O N M L H G F D o W
  |some t=>
   have:=tI.or (X.ui f) (X.tree f t R z (X.laid f t R) (V.bB n) (Zd X n) n);intro Q P O N M L H G F D o W;simp only[lM.bB,R] at W;exact this Q P O N M L H G F D o W
def at9(h:D8 y=U G)(k:D7 Tryz.prog G):∀X,D8 y=U X->D7 Tryz.prog X:=λX W=>by rw[h] at W;cases W;exact k
def aiw(h:(zV y).map DI.g=U G)(k:yA Tryz.prog G R):∃d,zV y=U d/\yA Tryz.prog d.g R:=by
 cases X:zV y with
 |none=>rw[X] at h;cases h
 |some d=>rw[X] at h;cases h;exact⟨d,rfl,k⟩
def Ze:∀X:bv,BZ X X
 |[]=>trivial
 |x::X=>⟨by cases x with
  |i n=>rfl
  |b n=>rfl
  |r v=>exact cU.refl v,Ze X⟩
def Zf{V:Ty}{X:aU}{R:bv}(h:∀e,LK.ah e∉X):Ar V M X R:=λq e P Q _=>(h e (jK Q)).elim
def aua{V:Ty}{W:aU}{R:bv}(h:∀e,LK.ah e∉W):¬Aq V W R X:=λ⟨q,e,P,Q,_,_⟩=>h e (jK Q)
def tK:Bq:=[(162,163,267,.lex [0,1,2] E,E),(128,129,128,.ratio 10 11,J),(131,132,128,.lex [0] E,E),(280,236,306,.lex [1,0] E,E),(318,319,419,.lex [4] J,J),(91,91,3,.dD 0 (.lex [] E) [],J)]
end
end Go.Proofs.YtejplpmpldcmlaaGreatDoor.Y
namespace Go.Proofs.YtejplpmpldcmlaaGreatDoor
open Go.RowKit
variable{M:World}{X x:Nat}{w:Bool}{R:TypeId}{H:Array Value}
section
def aD4{P:Program}(X:Array TypeId)(t:TypeId)(x y:Int):(Builtin.min_ X t #[.int I x,.int I y]).run P M=.ok (.int I (min x y)) M:=by
 simp[Builtin.min_,Builtin.min2];omega
def aD5{P:Program}(X:Array TypeId)(t:TypeId)(x y:Int):(Builtin.max_ X t #[.int I x,.int I y]).run P M=.ok (.int I (max x y)) M:=by
 simp[Builtin.max_,Builtin.max2];omega
attribute[go_sem high] aD4 aD5
def Sl{R:Type}(P:R->List Value)(k:Nat)(w:World)(v:Value)(X:List R):Prop:=
 ∃(a:Option Addr)(W V:Nat),v=.slice a W V/\Y X=W/\W<=V/\V<=4611686018427387904/\
  ∀i(h:i<Y X),∃b Q,a=U ⟨b,Q,Z⟩/\b<w.heap.size/\∀j,j<k->w.cell? ⟨b,Q+i*k+j,Z⟩=(P X[i])[j]?
def Sl.below{W:Type}{V:W->List Value}{R:World}{v:Value}{Q:List W}(h:Sl V X M v Q)(P:Below M.heap.size M R):Sl V X R v Q:=by
 obtain⟨a,N,L,H,G,F,D,B⟩:=h;refine⟨a,N,L,H,G,F,D,λi A=> ?_⟩;obtain⟨b,z,e,O,y⟩:=B i A;exact⟨b,z,e,ZG O P.size,λj x=>(P.cell (p:=⟨b,_,Z⟩) O).trans (y j x)⟩
def Zg(n:Int):List Value:=[.int I n]
def N8{b:Bool}(h:w=b):Ending.returned (.bool w)=.returned (.bool b):=by rw[h]
def aub{X:World}(V:Below M.heap.size M X):(∀b o,b<M.heap.size->X.cell? ⟨b,o,Z⟩=M.cell? ⟨b,o,Z⟩)/\(∀b o,b<M.heap.size->X.frozen? ⟨b,o,Z⟩=M.frozen? ⟨b,o,Z⟩):=
 ⟨λb o h=>V.cell (p:=⟨b,o,Z⟩) h,λb o h=>V.frozen (p:=⟨b,o,Z⟩) h⟩
def aD6:List Value:=[.int I 0,.int I 29,.int I 20,.int I 21,.int I 29,.int I 0,.int I 20,.int I (-21),.int I 0,.int I (-29),.int I (-20),.int I (-21),.int I (-29),.int I 0,.int I (-20),.int I 21]
def aix(w:World):Prop:=4<=w.heap.size/\∀i,i<16->w.cell? ⟨2,i,Z⟩=aD6[i]?
def aix.below{X:World}(h:aix M)(W:Below M.heap.size M X):aix X:=
 ⟨pO h.1 W.size,λi V=>(W.cell (p:=⟨2,i,Z⟩) (by have:=h.1;show 2<_;omega)).trans (h.2 i V)⟩
def Bc{X:World}(h:Below M.heap.size M X)(o:Obj):Below M.heap.size M (X.alloc o):=h.alloc h.size o
def aiy{X:World}(h:Below M.heap.size M X){p:Addr}(W:M.heap.size<=p.block)(u:Value):Below M.heap.size M (X.setCell p u):=h.setCell W u
def EU{X W:World}(h:Below M.heap.size M X)(k:Below X.heap.size X W):Below M.heap.size M W:=h.trans (k.mono h.size)
def aiz{X:World}(h:Below M.heap.size M X):Below M.heap.size M X.drew:=h.drew
def Bx(W:World)(b:Nat)(t:TypeId)(X:Array Value):Prop:=W.heap[b]?=U (.cells X t (0,0))
def Bx.lt(h:Bx M X R H):X<M.heap.size:=by
 unfold Bx at h;by_cases V:X<M.heap.size;exact V;rw[aI3 (by omega)] at h;cases h
def Bx.cell(h:Bx M X R H):∀i,M.cell? ⟨X,i,Z⟩=H[i]?:=by
 intro i;unfold Bx at h;simp[oK,h]
def Bx.new(w:World)(X:Array Value)(t:TypeId):Bx (w.alloc (.cells X t)) w.heap.size t X:=by
 show(w.heap.push _)[w.heap.size]?=_;simp
def Bx.alloc(h:Bx M X R H)(o:Obj):Bx (M.alloc o) X R H:=
 (Below.heap_alloc M o X h.lt).trans h
def Bx.drew(h:Bx M X R H):Bx M.drew X R H:=h
def Bx.drewN(h:Bx M X R H)(n:Nat):Bx (M.drewN n) X R H:=h
def Bx.below{V:World}(h:Bx M X R H)(Q:Below M.heap.size M V):Bx V X R H:=
 (Q.block X h.lt).trans h
def Bx.set(h:Bx M X R H)(u:Value):Bx (M.setCell ⟨X,x,Z⟩ u) X R (H.setIfInBounds x u):=by
 unfold Bx at*;simp[ZQ,SM,h]
end
end Go.Proofs.YtejplpmpldcmlaaGreatDoor
namespace Go.Proofs.YtejplpmpldcmlaaGreatDoor.K
structure Range where
 Lo:Int
 Hi:Int
 deriving DecidableEq
structure lZ where
 X:Range
 Y:Range
 deriving DecidableEq
structure Vec where
 X:Int
 Y:Int
 Z:Int
 deriving DecidableEq
def lZ.zero:lZ:=⟨⟨0,0⟩,⟨0,0⟩⟩
def Be(m:Int)(X:List Int):Bool:=X.all λn=> !(n< -m||n>m)
def lZ.valid(b:lZ):Bool:=Be 1099511627776 [b.X.Lo,b.X.Hi,b.Y.Lo,b.Y.Hi]&&decide (b.X.Lo<=b.X.Hi)&&decide (b.Y.Lo<=b.Y.Hi)
def Range.uK(x y:Range):Bool:=decide (x.Lo<=y.Hi)&&decide (y.Lo<=x.Hi)
def lZ.uK(a b:lZ):Bool:=a.X.uK b.X&&a.Y.uK b.Y
def aD7(m:Int)(X:List Int)(k:Nat)(h:k<Y X):Be m (X.take (k+1))=(Be m (X.take k)&& !(X[k]< -m||X[k]>m)):=by
 unfold Be;rw[aIQ h,List.all_append];simp
def aD8{m:Int}{X:List Int}{k:Nat}(h:Be m (X.take k)=E):Be m X=false:=by
 unfold Be at*;rw[List.all_eq_false] at*;obtain⟨x,W,h⟩:=h;exact⟨x,E2 W,h⟩
end Go.Proofs.YtejplpmpldcmlaaGreatDoor.K
namespace Go.Proofs.YtejplpmpldcmlaaGreatDoor
open Go.RowKit
abbrev K.Range.v(x:K.Range):Value:=.agg #[.int I x.Lo,.int I x.Hi]
abbrev K.lZ.v(x:K.lZ):Value:=.agg #[.int I x.X.Lo,.int I x.X.Hi,.int I x.Y.Lo,.int I x.Y.Hi]
def aD9(m:Int)(v:Value)(X:List Int)(w:World)(z:0<=m)(x:m<=4611686018427387904)(G:Sl Zg 1 w v X):
  Calls Tryz.prog 167 #[.int I m,v] w λe F=>e=.returned (.bool (K.Be m X))/\w=F:=by
 obtain⟨a,W,u,rfl,R,t,s,Q⟩:=G;have D:=Lib.hid Q;clear Q;have P:=Lib.hid R;clear R;go_enter Tryz.func167,Tryz.ntmps167;go_wp2
 go_loop [9] (λi=>∃k:Nat,k<=W/\i=.int I k/\K.Be m (X.take k)=J) (λi=>W-(intOf i).toNat)
 case atStart=>exact⟨0,Hx _,rfl,rfl⟩
 case round=>
  obtain⟨k,r,rfl,O⟩:=hrel;have V:=Lib.hid O;clear O;by_cases B:k<W
  ·have N:k<Y X:=by rw[P.out];exact B
   have M:=K.aD7 m X k N;have L:=Lib.hid M;clear M;obtain⟨b,q,rfl,p,H⟩:=D.out k N;have A:=H 0 (by omega);clear H;simp only[Zg,Bk,wh,ZV] at A;generalize X[k]=y at*;go_wp2
   all_goals first
    |(go_ret;exact⟨N8 (K.aD8 (k:=k+1) (by rw[L.out,V.out];simp<;>omega)).symm,rfl⟩)
    |(go_round
      case rel=>exact⟨k+1,by omega,by go_num,by rw[L.out,V.out];simp<;>omega⟩
      case measure=>simp[intOf];omega)
  ·go_wp2;go_ret;exact⟨N8 (by rw[<-V.out,Hj (by rw[P.out];omega)]),rfl⟩
def Sr(x:K.lZ)(r:Bool)(R:x.valid=r)(w:World):
  Calls Tryz.prog 126 #[x.v] w λe W=>e=.returned (.bool r)/\Below w.heap.size w W:=by
 subst R;have Q:Sl Zg 1 ((w.alloc (.cells #[.int I x.X.Lo,.int I x.X.Hi,.int I x.Y.Lo,.int I x.Y.Hi] 243)).alloc (.cells #[.int I x.X.Lo,.int I x.X.Hi,.int I x.Y.Lo,.int I x.Y.Hi] 3)) (.slice (U ⟨w.heap.size+1,0,Z⟩) 4 4) [x.X.Lo,x.X.Hi,x.Y.Lo,x.Y.Hi]:=by
  refine⟨_,_,_,rfl,rfl,by omega,by omega,λi P=>⟨w.heap.size+1,0,rfl,by simp,λj O=> ?_⟩⟩;obtain rfl:j=0:=by omega
  simp at P;rcases i with _|_|_|_|i<;>first|omega|simp[Zg,go_sem]
 cases V:K.Be 1099511627776 [x.X.Lo,x.X.Hi,x.Y.Lo,x.Y.Hi]
 all_goals
  go_enter Tryz.func126,Tryz.ntmps126
  go_wp2_with (go_at_call 167;refine(aD9 _ _ _ _ (by omega) (by omega) Q).mono ?_;rw[V];rintro e W ⟨rfl,rfl⟩)
  all_goals(go_ret;exact⟨N8 (by simp[K.lZ.valid,V]<;>omega),Bc (Bc (Below.refl _ _) _) _⟩)
def aiA(x y:K.Range)(r:Bool)(X:x.uK y=r)(w:World):
  Calls Tryz.prog 240 #[x.v,y.v] w λe W=>e=.returned (.bool r)/\Below w.heap.size w W:=by
 subst X;by_cases V:x.Lo<=y.Hi
 all_goals
  go_enter Tryz.func240,Tryz.ntmps240;go_wp2
  all_goals(go_ret;exact⟨N8 (by simp[K.Range.uK]<;>omega),Bc (Bc (Below.refl _ _) _) _⟩)
def aEa(a b:K.lZ)(w:World):
  Calls Tryz.prog 192 #[a.v,b.v,.func (.func 240) #[] #[]] w λe O=>e=.returned (.bool (a.uK b))/\Below w.heap.size w O:=by
 cases R:a.X.uK b.X
 ·have W:=Lib.hid R;clear R;go_enter Tryz.func192,Tryz.ntmps192
  go_wp2_with (go_at_call 240;refine(aiA ⟨_,_⟩ ⟨_,_⟩ E W.out _).mono ?_;rintro e N ⟨rfl,V⟩;obtain⟨M,L⟩:=aub V)
  go_ret;exact⟨N8 (by simp[K.lZ.uK,W.out]),EU (Bc (Bc (Below.refl _ _) _) _) V⟩
 ·have W:=Lib.hid R;clear R;cases Q:a.Y.uK b.Y
  all_goals
   have P:=Lib.hid Q;clear Q;go_enter Tryz.func192,Tryz.ntmps192
   go_wp2_with fail
   refine(aiA ⟨_,_⟩ ⟨_,_⟩ J W.out _).mono ?_;rintro e N ⟨rfl,V⟩;obtain⟨M,L⟩:=aub V
   go_wp2_with fail
   refine(aiA ⟨_,_⟩ ⟨_,_⟩ _ P.out _).mono ?_;rintro e G ⟨rfl,H⟩;go_wp2;go_ret;exact⟨N8 (by simp[K.lZ.uK,W.out,P.out]),EU (EU (Bc (Bc (Below.refl _ _) _) _) V) H⟩
abbrev K.Vec.v(x:K.Vec):Value:=.agg #[.int I x.X,.int I x.Y,.int I x.Z]
def aEb(a b:K.lZ)(Q:a.valid=J)(P:b.valid=J)(r:Bool)(O:a.uK b= !r)(w:World):
  Calls Tryz.prog 202 #[a.v,b.v] w λe N=>e=.returned (.tuple #[.bool r,.int I 0])/\Below w.heap.size w N:=by
 have M:=Lib.hid Q;clear Q;have L:=Lib.hid P;clear P;have H:=Lib.hid O;clear O;go_enter Tryz.func202,Tryz.ntmps202
 go_wp2_with fail
 refine(Sr ⟨⟨_,_⟩,⟨_,_⟩⟩ J M.out _).mono ?_;rintro e D ⟨rfl,W⟩;have V:=((Bx.new w _ _).alloc _).below W;have X:=(Bx.new (w.alloc _) _ _).below W;simp only[ajh] at X;have G:=X.cell
 go_wp2_with fail
 refine(Sr ⟨⟨_,_⟩,⟨_,_⟩⟩ J L.out _).mono ?_;rintro e B ⟨rfl,R⟩;replace V:=V.below R;replace X:=X.below R;have A:=V.cell;have G:=X.cell
 go_wp2_with fail
 refine(aEa ⟨⟨_,_⟩,⟨_,_⟩⟩ ⟨⟨_,_⟩,⟨_,_⟩⟩ _).mono ?_;rw[show K.lZ.uK ⟨⟨_,_⟩,⟨_,_⟩⟩ ⟨⟨_,_⟩,⟨_,_⟩⟩= !r from H.out];rintro e z ⟨rfl,F⟩;go_wp2
 go_ret2
 refine⟨by simp, ?_⟩
 repeat' first|with_reducible apply Bc|with_reducible apply aiz|(with_reducible refine aiy ?_ (by dsimp only;omega) _)|with_reducible exact Below.refl _ _|(refine EU ?_ F)|(refine EU ?_ R)|(refine EU ?_ W)
end Go.Proofs.YtejplpmpldcmlaaGreatDoor
namespace Go.Proofs.YtejplpmpldcmlaaGreatDoor.Y
open Go.RowKit
noncomputable section
variable{G:FuncId}{v:Func}{y:Code}{X x n:Nat}{c:ap}{u:T}{R:TypeId}{Q F:ar}{A:bu}{z:bA}{M:World}{w:Bool}{B:List (Nat×Nat×fP)}
def aEc(a b:K.lZ)(X:a.valid=E)(w:World):Calls Tryz.prog 202 #[a.v,b.v] w λe R=>e=.returned (.tuple #[.bool E,.int I 150])/\Below w.heap.size w R:=by
 have Q:=Lib.hid X;clear X;go_enter Tryz.func202,Tryz.ntmps202
 go_wp2_with fail
 refine(Sr ⟨⟨_,_⟩,⟨_,_⟩⟩ E Q.out _).mono ?_;rintro e P ⟨rfl,W⟩;have V:=(Bx.new (w.alloc _) _ _).below W;simp only[ajh] at V;have O:=V.cell;go_wp2
 go_ret2
 refine⟨av, ?_⟩
 repeat' first|with_reducible apply Bc|with_reducible apply aiz|(with_reducible refine aiy ?_ (by dsimp only;omega) _)|with_reducible exact Below.refl _ _|(refine EU ?_ W)
def aEd(a b:K.lZ)(Q:a.valid=J)(P:b.valid=E)(w:World):Calls Tryz.prog 202 #[a.v,b.v] w λe O=>e=.returned (.tuple #[.bool E,.int I 150])/\Below w.heap.size w O:=by
 have N:=Lib.hid Q;clear Q;have M:=Lib.hid P;clear P;go_enter Tryz.func202,Tryz.ntmps202
 go_wp2_with fail
 refine(Sr ⟨⟨_,_⟩,⟨_,_⟩⟩ J N.out _).mono ?_;rintro e H ⟨rfl,W⟩;have V:=((Bx.new w _ _).alloc _).below W;have X:=(Bx.new (w.alloc _) _ _).below W;simp only[ajh] at X;have L:=X.cell
 go_wp2_with fail
 refine(Sr ⟨⟨_,_⟩,⟨_,_⟩⟩ E M.out _).mono ?_;rintro e G ⟨rfl,R⟩;replace V:=V.below R;replace X:=X.below R;have F:=V.cell;have L:=X.cell;go_wp2
 go_ret2
 refine⟨av, ?_⟩
 repeat' first|with_reducible apply Bc|with_reducible apply aiz|(with_reducible refine aiy ?_ (by dsimp only;omega) _)|with_reducible exact Below.refl _ _|(refine EU ?_ R)|(refine EU ?_ W)
def S.bare(s:S):S:=⟨[],[],s.ni,s.nb,s.rs,0,0,s.pd⟩
def Zh:XE->S->T:=λe s=>.out e s.bare
section
variable{g:aq}{q:World}{D:cq}{V:aq}{O:ai}{s:S}{a:Act}{W:World}{o:Ty}{cf:bF}{p:Sp}
def az.bare(R:az g q D o V O s a W):az g q D o [] O s.bare ⟨#[],a.defers⟩ W where
 mem:=⟨R.mem.base,λi h=>by simp[S.bare,aP,cz] at h,λi j h=>by simp[S.bare,aP,cz] at h,λi t M h=>by simp[S.bare,cz] at h,λk e X Q P=>⟨(R.mem.ah k e X Q P).1,λb L i h=>by simp[S.bare,aP,cz] at h⟩⟩
 gV:=rfl
 ei:=R.ei
 eb:=R.eb
 er:=R.er
 dp:=R.dp
 size:=rfl
 tmps:=λt H h=>by simp[S.bare] at h
 gD:=λk e X b Q P N=>⟨(R.gD k e X b Q P N).own,(R.gD k e X b Q P N).mem,λi h=>by simp[S.bare,aP,cz] at h,(R.gD k e X b Q P N).alone,(R.gD k e X b Q P N).inner⟩
def aEe(F:jS p cf)(m:p.P.funcs[G]?=U v)(b:v.body=U y)(h0:v.results.toList=[])(hD:p.D=cq.none){s:S}{O:ai}{V:aq}
  (ht:gp cf X G y {s with tmps:=c++eF (v.ntmps-Y c) (.bO [])} jg Zh=u)(z:u.aS p O [])(hg:fk cf.gl O)(R:az p.S0 p.w0 cq.none cf.ty V O {s with tmps:=[]} ⟨#[],[]⟩ p.w0)
  (hQ:∀e a W,p.Q e a W->(e=.normal\/e=.ret)/\p.R (.returned (.tuple #[])) W):
  Calls p.P G (C.aG O V c).toArray p.w0 p.R:=by
 subst ht;refine Lv m b ?_;have RE:=R.enter c v.ntmps R.dp;refine(LG F X).1 cq.none ⟨{s with tmps:=c++eF (v.ntmps-Y c) (.bO [])},O,V,[]⟩ jg Z G y _ _ [] O V _ p.w0 _ (FM _ _) (j8.here _ _ _ _) rfl (λhh=>by cases hh) ⟨v,m⟩ z RE hg ?_ ?_;intro k L x pd N hA hR;obtain⟨af,B,q0,w,A⟩:=hA.mE;show LeavesInM Fence.wide 0 p.P v L.tmps p.R L.defers (.panicking k) x;rw[B];exact uh av (xS.1 w).1 (λd H=>(A d (by simp[H])).1) (PK (F.Um k) (λd H=>(A d (by simp[H])).2) hR);intro e s' O' V' L x L' hl hL j z;obtain⟨af,B,q0,w,A⟩:=j.dp.mE;have i:=j.rM B;have r:=hQ _ _ _ (z O'.y [] _ _ (by rw[F.pt,hD];exact i.bare));have h:LeavesInM Fence.wide 0 p.P v L.tmps p.R L.defers .returning (x):=by
  rw[B];refine uh av (xS.1 w).1 (λd H=>(A d (by simp[H])).1) ⟨_,Lg (l:=[]) i F.ll (by rw[h0];rfl), ?_⟩;exact r.2
 cases e with
 |normal=>exact h
 |ret=>exact h
 |bI M=>have:=r.1;simp[XE.to] at this
 |exit id=>have:=r.1;simp[XE.to] at this
def aEf{A:oL}(P:az (lJ A n).toList q D cf.ty V O s a W)(z:s.rs[X]?=U (.own R))(y:O.rv X=.mk (.slice A x n) Q):
  q.grownBy W (lJ A n)/\FB q W R (bE cf.ty (.sl R)).length (lJ A n) Q A n:=by
 obtain⟨m,l,j,N,L,G⟩:=Pj P z;rw[y] at N L;simp only[RV.nN] at N L;injection N with N _;injection N with w F v;subst w;subst F;subst v;obtain⟨F,g⟩:=ue L;have M:=P.mem.base;refine⟨⟨M.os,M.tape,M.output,M.size,λi u t=>M.block i u (λH=>t ?_)⟩,⟨aa,G.nil, ?_⟩⟩;exact((by simpa[Option.mem_toList] using H:lJ A n=U i)).symm;rcases G.mem with h|⟨b,di,rfl,B,H,r⟩;exact .inl h;cases n with
 |zero=>exact .inl rfl
 |succ c=>exact .inr ⟨b,di,rfl,B,H,r,aaY L B,.inr rfl⟩
end
def jP:my->aF->Prop
 |[],x=>x=[]
 |b::X,c::r=>(if b then∃n,c=.mk (.int I n) [] else∃q,c=.mk (.bool q) [])/\jP X r
 |_::_,[]=>False
def EV(b:Bool):CT:=if b then .int I else .bool
def wa(c:RV):RV:=.mk c.val []
def fH(X:ar):ar:=X.map λW=>W.map wa
def aiB(c:Nat)(x:aF):aM c (x.map wa)=aM c x:=by
 simp only[aM,cw,dS];cases x[c]?<;>rfl
def aud(d:Bool)(x y:aF):∀X,jR d X (x.map wa) (y.map wa)=jR d X x y
 |[]=>rfl
 |c::X=>by simp only[jR,aiB,aud d x y X]
def aiC(o:bu)(x y:aF):o.lt (x.map wa) (y.map wa)=o.lt x y:=by
 cases o with
 |lex X d=>exact aud d x y X
 |ratio n d=>simp only[bu.lt,aiB]
 |dD k o W=>rfl
def aEg(o:bu)(x:aF):o.ok (x.map wa)=o.ok x:=by
 cases o with
 |lex X d=>rfl
 |ratio n d=>simp only[bu.ok,aiB]
 |dD k o W=>rfl
def aue(o:bu)(x:aF):∀l,eI o.lt (x.map wa) (fH l)=fH (eI o.lt x l)
 |[]=>rfl
 |y::r=>by
  have X:=aue o x r;simp only[fH,dU,eI,aiC] at X⊢;split;rfl;rw[X];rfl
def auf(o:bu)(l:ar):bT o.lt (fH l)=fH (bT o.lt l):=by
 have:∀l acc,(fH l).foldl (λacc x=>eI o.lt x acc) (fH acc)=fH (l.foldl (λacc x=>eI o.lt x acc) acc):=by
  intro l;induction l with
  |nil=>intro acc;rfl
  |cons x l X=>
   intro acc;have:=X (eI o.lt x acc);rw[<-aue] at this;exact this
 exact this l []
def aug(o:bu)(l:ar):(fH l).all o.ok=l.all o.ok:=by
 simp only[fH,Oo];congr 1;funext x;exact aEg o x
def aEh(l:ar)(a b:Nat):bp (fH l) a b=fH (bp l a b):=by simp[bp,fH]
def auh(o:bu):∀l,yo o.lt (fH l)=yo o.lt l
 |[]=>rfl
 |x::r=>by
  have X:=auh o r;simp only[fH,dU,yo,Oo] at X⊢;rw[X];congr 2;funext y;simp only[Function.comp,aiC]
def aEi(l:ar)(a:Nat):(fH l).take a=fH (l.take a):=by simp[fH]
def aEj(l:ar)(a:Nat):(fH l).drop a=fH (l.drop a):=by simp[fH]
def aEk(l m:ar):fH (l++m)=fH l++fH m:=by simp[fH]
def Bf(l:ar):(fH l).length=Y l:=by simp[fH]
def aEl(h:nO X A z Q=U F):nO X A z (fH Q)=U (fH F):=by
 unfold nO at h⊢;split at h
 all_goals first|(split at h<;>first|(cases h;done)|skip)|skip
 all_goals first|(cases h;done)|skip
 all_goals
  rename_i W;cases h;simp only[Bf,aug,aEh,auh,aEi,aEj,auf,<-aEk];rw[aL W]
def aEm(h:p7 X A z Q=U F):p7 X A z (fH Q)=U (fH F):=by
 obtain⟨W,V⟩:=BU h;unfold p7;rw[Bf,aL W];exact aEl V
def aui(l:ar):eO (fH l)=eO l:=by
 simp only[eO,fH,List.flatMap_map];congr 1;funext x;simp only[oJ];rfl
def auj:∀(X:my)(W:aF),Y W=Y X->(∀(j:Nat)(c:RV)(k:IntKind),W[j]?=U c->(X.map EV)[j]?=U (.int k)->∃n,c.val=.int k n)->(∀(j:Nat)(c:RV),W[j]?=U c->(X.map EV)[j]?=U .bool->∃x,c.val=.bool x)->jP X (W.map wa)
 |[],[],_,_,_=>rfl
 |[],_::_,h,_,_=>by simp at h
 |_::_,[],h,_,_=>by simp at h
 |b::N,c::r,M,P,O=>by
  refine⟨?_,auj N r (by simpa using M) (λj c k V R=>P (j+1) c k (by simpa using V) (by simpa using R)) (λj c V R=>O (j+1) c (by simpa using V) (by simpa using R))⟩;cases b with
  |true=>
   obtain⟨n,Q⟩:=P 0 c I rfl rfl;exact⟨n,by simp[wa,Q]⟩
  |false=>
   obtain⟨n,Q⟩:=O 0 c rfl rfl;exact⟨n,by simp[wa,Q]⟩
def auk{H:Ty}{X:my}(P:bE H (.sl R)=X.map EV)(h:gc M H R Q):∀x∈fH Q,jP X x:=by
 intro x G;obtain⟨V,F,rfl⟩:=iD.1 G;obtain⟨i,O⟩:=tO F;refine auj X V ?_ (λj c k N L=>h.int i j V c k O N (by rw[P];exact L)) (λj c N L=>h.bool i j V c O N (by rw[P];exact L));have:=h.len i V O;rw[P,pN] at this;exact this
def aul{w:Ty}{A:oL}(s:∀(j:Nat)(z:Value)(k:RK),(bE w (.sl R))[j]?≠U (.ae z k))(h:bJ M w (.sl R) (.mk (.slice A X x) Q)):bJ M w (.sl R) (.mk (.slice A X x) (fH Q)):=by
 have v:∀{i:Nat}{O:aF},(fH Q)[i]?=U O->∃V,Q[i]?=U V/\O=V.map wa:=by
  intro i O y;simp only[fH,dS,SL] at y;obtain⟨V,H,G⟩:=y;exact⟨V,H,G.symm⟩
 have u:∀{V:aF}{j:Nat}{c:RV},(V.map wa)[j]?=U c->∃P,V[j]?=U P/\c=wa P:=by
  intro V j c t;simp only[dS,SL] at t;obtain⟨P,H,G⟩:=t;exact⟨P,H,G.symm⟩
 cases h with
 |sl R A f x Q H G r y q d=>
  refine bJ.sl R A X x (fH Q) (by rw[Bf];exact H) G (λi O N=> ?_) (λi j O c k N L F=> ?_) (λi j O c N L F=> ?_) (λi j O c z k N L F=>(s j z k F).elim);obtain⟨V,D,rfl⟩:=v N;obtain⟨p,b,o,m,l,g⟩:=r i V D;refine⟨by simpa using p,b,o,m,l,λj c L=> ?_⟩;obtain⟨P,B,rfl⟩:=u L;exact g j P B;obtain⟨V,D,rfl⟩:=v N;obtain⟨P,B,rfl⟩:=u L;exact y i j V P k D B F;obtain⟨V,D,rfl⟩:=v N;obtain⟨P,B,rfl⟩:=u L;exact q i j V P D B F
def Tgt(p:Sp)(e:TypeId)(v:Value)(aE:ar):Prop:=∀(X:Exit)(s:S)(O:ai)(V:aq)(a:Act)(W:World)(k:Nat),(X=.normal\/X=.ret)->az p.S0 p.w0 p.D p.ty V O s a W->s.rs[k]?=U (.own e)->O.rv k=.mk v aE->p.Q X a W
def J0(P:Program)(X:my)(g:FuncId)(o:bu):Prop:=∀(W:World)(x y:aF),jP X x->jP X y->o.ok x=J->o.ok y=J->
 Calls P g #[.agg (x.map RV.val).toArray,.agg (y.map RV.val).toArray] W λV R=>Below W.heap.size W R/\∃c:Int,V=.returned (.int I c)/\(c<0<->o.lt x y=J)
def Zi(X:my)(e g:Nat)(o:bu)(F:bA->ar->DD)(N:Nat)(t:T):Prop:=∀(p:Sp)(v:Value)(W aE:ar)(V:bA),p.P=Tryz.prog->J0 Tryz.prog X g o->(∃A n R,v=.slice A n R/\Y W=n/\n<=1099511627776)->(∀x∈W,jP X x)->Y V=N->F V W=U aE->Tgt p e v aE->t.aS p ⟨V,[],[.mk v W],[]⟩ []
abbrev Ss(X:my)(e g:Nat)(o:bu)(k N:Nat)(t:T):Prop:=Zi X e g o (p7 k o) N t
def aiD{N n:Nat}{o:bu}{F:bA->ar->DD}{K:my}{t:T}{args:ap}{inl:aq}{loops:List (Nat×Nat×fP)}{srts:Bq}{chs:Dj}
  (hf:Tryz.prog.funcs[G]?=U v)(d:v.body=U y)(h0:v.results.toList=[])(hi:inl.all (wF Tryz.prog)=J)(an:v8 srts)(hK:bE (look TT) (.sl x)=K.map EV)(aA:J0 Tryz.prog K X o)
  (ht:gp (p9 Tryz.prog TT SG [] inl loops srts E chs) n G y ⟨args++eF (v.ntmps-Y args) (.bO []),[],N,0,[.own x],0,0,[]⟩ jg Zh=t)(hh:Zi K x X o F N t)
  (aC:∀(B:bA)(m:RV),Y B=N->C.aG ⟨B,[],[m],[]⟩ [] args=m.val::(B.map (Value.int I)++[.func (.func X) #[] #[]]))
  (a0:∀(B:bA)(Q aE:ar),F B Q=U aE->F B (fH Q)=U (fH aE))
  (af:∀(B:bA)(Q aE:ar),F B Q=U aE->Y B=N/\Y Q<=1099511627776){A:oL}{H L:Nat}{aE:ar}(hH:bJ M (look TT) (.sl x) (.mk (.slice A H L) Q))(hR:K7 M x (bE (look TT) (.sl x)).length A L)(hT:F z Q=U aE):
  Calls Tryz.prog G (Pr (.slice A H L) z X) M λen D=>en=.returned (.tuple #[])/\M.grownBy D (lJ A L)/\FB M D x (bE (look TT) (.sl x)).length (lJ A L) aE A L:=by
 have hN:=(af _ _ _ hT).1;have hp:∀(j:Nat)(P:Value)(q:RK),(bE (look TT) (.sl x))[j]?≠U (.ae P q):=by
  intro j P q u;rw[hK,dS] at u;cases d:K[j]? with
  |none=>rw[d] at u;cases u
  |some b=>rw[d] at u;cases b<;>simp[EV] at u
 have ag:=aul hp hH;have al:=a0 _ _ _ hT;obtain⟨a1,a3⟩:=ue ag;let O0:ai:=⟨z,[],[.mk (.slice A H L) (fH Q)],[]⟩;let R:Ending->World->Prop:=λen D=>en=.returned (.tuple #[])/\M.grownBy D (lJ A L)/\FB M D x (bE (look TT) (.sl x)).length (lJ A L) aE A L
 let p:Sp:=⟨Tryz.prog,look TT,(lJ A L).toList,M,cq.none,R,λex a D=>(ex=.normal\/ex=.ret)/\R (.returned (.tuple #[])) D⟩;have ok:jS p (p9 Tryz.prog TT SG [] inl loops srts E chs):=PU JZ Sn hi Sq (λch D b ob _ h=>by have:=h.1;cases this) an;have a4:(C.aG O0 [] args).toArray=Pr (.slice A H L) z X:=by rw[aC z _ hN];rfl
 rw[<-a4];have a9:∀b,(RV.mk (.slice A H L) (fH Q)).lH=U b->lJ A L=U b:=λb h=>by rw[K6] at h;exact h
 have ba:az p.S0 p.w0 cq.none (look TT) [] O0 {(⟨[],[],N,0,[.own x],0,0,[]⟩:S) with tmps:=[]} ⟨#[],[]⟩ p.w0:=by
  refine⟨⟨im.refl _ _,λi h=>by simp[aP,cz] at h,λi j h=>by simp[aP,cz] at h,λi t cs h=>by simp[cz] at h,λq e' m w r=> ?_⟩,rfl,hN,rfl,rfl,UU _ _,rfl,λt sv h=>by simp at h,λq e' m b w r h3=> ?_⟩;cases q with
  |succ q=>simp at w
  |zero=>
   simp only[Bk,cX] at w;have r:m=.mk (.slice A H L) (fH Q):=(mQ r).symm;subst w;subst r;refine⟨bJ.own x _ ag λl y hv=> ?_,λb _ i h=>by simp[aP,cz] at h⟩;simp only[RV.nM,Value.slice.injEq] at hv;rw[<-hv.2.2];exact hR.nil hv.1
  cases q with
  |succ q=>simp at w
  |zero=>
   simp only[Bk,cX] at w;have r:m=.mk (.slice A H L) (fH Q):=(mQ r).symm;injection w with w;subst w;subst r;have k:=a9 b h3;refine⟨.inr (by show b∈(lJ A L).toList;rw[k];simp), ?_,λi h=>by simp[aP,cz] at h,λk' e' bk hk h=> ?_, ?_⟩;rcases hR.mem with u|⟨b',di,rfl,hg,hm,bb⟩
   ·subst u;unfold lJ at k;split at k<;>first|(cases k;done)|omega|skip
    all_goals simp_all
   have bc:b'=b:=by
    cases L with
    |zero=>cases k
    |succ y=>exact mQ k
   subst bc;exact⟨H,L,di,rfl,hg,a3,hm,bb⟩;cases k' with
   |zero=>exact aZ rfl hk
   |succ k'=>simp at h
   rintro⟨i,j,bl,y,P,q,_,_,hq,_⟩;exact hp j P q hq
 have bd:H<=1099511627776:=by
  have:=(af _ _ _ al).2;omega
 have bf:=hh p (.slice A H L) (fH Q) (fH aE) z rfl aA ⟨A,H,L,rfl,a1,bd⟩ (auk hK (gc.yr hH)) hN al (λex s O1 V a D k' bg RR hk hr=>by
  refine⟨bg,rfl, ?_⟩;obtain⟨g1,g2⟩:=aEf (cf:=p9 Tryz.prog TT SG [] inl loops srts E chs) RR hk hr;exact⟨g1,⟨by have:=g2.le;rwa [Bf] at this,g2.nil,by have:=g2.mem;rwa [aui,Bf] at this⟩⟩)
 exact aEe ok hf d h0 rfl ht bf (λO hx=>by simp[p9] at hx) ba (λex a D h=>h)
def aEn{V:Nat}{H:bu}{F:bA->ar->DD}{R:my}{D:Bq}{s:Dj}
  (r:Tryz.prog.funcs[G]?=U v)(q:v.body=U y)(p:v.results.toList=[])(m:wF Tryz.prog G=J)(l:v8 D)(k:bE (look TT) (.sl x)=R.map EV)(j:J0 Tryz.prog R X A)
  (i:gp (p9 Tryz.prog TT SG [] [] B D E s) V G y ⟨c++eF (v.ntmps-Y c) (.bO []),[],n,0,[.own x],0,0,[]⟩ jg Zh=u)(h:Zi R x X A F n u)
  (d:∀(P:bA)(z:RV),Y P=n->C.aG ⟨P,[],[z],[]⟩ [] c=z.val::(P.map (Value.int I)++[.func (.func X) #[] #[]]))
  (b:∀(P:List K)(L:bu)(O:ai)(M aE:ar),H.fill P=U L->lg O L w M=U aE->F (P.map (K.ab O)) M=U aE)(a:∀(P:bA)(M aE:ar),F P M=U aE->F P (fH M)=U (fH aE))
  (af:∀(P:bA)(M aE:ar),F P M=U aE->Y P=n/\Y M<=1099511627776):qO Tryz.prog (look TT) G X x H w:=
 ⟨wG m,λW Q n' al M aE O P L ag hH hR hT=>aiD (inl:=[]) r q p rfl l k j i h d a af hH hR (b P L O M aE ag hT)⟩
def J1(W:X≠2)(h:nO X A z Q=U F):Y z=3:=by
 unfold nO at h;split at h
 all_goals first|rfl|(exact aZ rfl W)|cases h
def aun(h:nO 2 A z Q=U F):Y z=2:=by
 unfold nO at h;split at h
 all_goals first|rfl|cases h|(rename_i X;cases X)
def Hf{k N n:Nat}{K:my}{t:T}{args:ap}{loops:List (Nat×Nat×fP)}{srts:Bq}{chs:Dj}
  (P:Tryz.prog.funcs[G]?=U v)(M:v.body=U y)(L:v.results.toList=[])(H:wF Tryz.prog G=J)(D:v8 srts)(B:bE (look TT) (.sl x)=K.map EV)(z:J0 Tryz.prog K X A)
  (w:gp (p9 Tryz.prog TT SG [] [] loops srts E chs) n G y ⟨args++eF (v.ntmps-Y args) (.bO []),[],N,0,[.own x],0,0,[]⟩ jg Zh=t)(u:Ss K x X A k N t)
  (s:∀(W:bA)(R:RV),Y W=N->C.aG ⟨W,[],[R],[]⟩ [] args=R.val::(W.map (Value.int I)++[.func (.func X) #[] #[]]))
  (r:∀(W:bA)(V aE:ar),nO k A W V=U aE->Y W=N):qO Tryz.prog (look TT) G X x (.dD k A []) false:=
 aEn (F:=p7 k A) P M L H D B z w u s (λW p O V aE Q q=>by
  simp only[bu.fill,cX] at Q;subst Q;exact q) (λW V aE h=>aEm h) (λW V aE h=>⟨r W V aE (BU h).2,(BU h).1⟩)
abbrev ec(a b:K):K:=.bin .add I a b
abbrev eE(a b:K):K:=.bin .sub I a b
abbrev i8(a b:K):BE:=.cmp .lss a b
abbrev fO(a:K):C:=.int I a
abbrev gv(x:K)(k:Nat)(t:T):T:=.bi (.and (.cmp .leq (.c 0) x) (.cmp .lss x (.len (.v k)))) t
section
variable(e g i h j f N:Nat)(o:bu)(d:RE->K->ap)
def Zj:T:=(.loop 0 [.ah (.own e),.int I] [(.ah (.v 0)),(fO (.c 0))]
 (.aV (i8 (.v 3) (.v 2))
 (gv (ec (.v 1) (.v 3)) 1
 (gv (ec (.v 1) (.v 3)) 1
 (gv (ec (.v 0) (.v 3)) 1
 (gv (ec (.v 0) (.v 3)) 1
 (gv (ec (.v 0) (.v 3)) 1
 (gv (ec (.v 0) (.v 3)) 1
 (.new e (.set (.ah (.v 1)) (ec (.v 0) (.v 3)) 0 (d (.v 1) (ec (.v 1) (.v 3)))) [.am,(.own e)] [.am,.am,(.own e)]
 (gv (ec (.v 1) (.v 3)) 2
 (gv (ec (.v 1) (.v 3)) 2
 (.new e (.set (.ah (.v 2)) (ec (.v 1) (.v 3)) 0 (d (.v 1) (ec (.v 0) (.v 3)))) [.am,.am,(.own e)] [.am,.am,.am,(.own e)]
 (.back 0 [(.ah (.v 3)),(fO (ec (.v 3) (.c 1)))])))))))))))
 (.out .normal ⟨[],[],4,0,[.am,(.own e)],0,0,[]⟩)))
def Zk:T:=(.loop 0 [.ah (.own e),.int I,.int I] [(.ah (.v 0)),(fO (eE (.v 1) (.v 0))),(fO (eE (.v 2) (.v 1)))]
 (.aV (.cmp .neq (.v 3) (.v 4))
 (.aV (.cmp .gtr (.v 3) (.v 4))
  (.eL i g e (.dD 0 o [(eE (.v 1) (.v 3)),(.v 1),(.v 4)]) E (.v 1) [.am,(.own e)]
  (.back 0 [(.ah (.v 2)),(fO (eE (.v 3) (.v 4))),(fO (.v 4))]))
  (.eL i g e (.dD 0 o [(eE (.v 1) (.v 3)),(eE (ec (.v 1) (.v 4)) (.v 3)),(.v 3)]) E (.v 1) [.am,(.own e)]
  (.back 0 [(.ah (.v 2)),(fO (.v 3)),(fO (eE (.v 4) (.v 3)))])))
 (.eL i g e (.dD 0 o [(eE (.v 1) (.v 3)),(.v 1),(.v 3)]) E (.v 1) [.am,(.own e)]
 (.out .normal ⟨[],[],5,0,[.am,.am,(.own e)],0,0,[]⟩))))
def Zl:T:=(.loop 0 [.ah (.own e),.int I] [(.ah (.v 0)),(fO (ec (.v 0) (.c 1)))]
 (.aV (i8 (.v 2) (.v 1))
 (.loop 1 [.ah (.own e),.int I] [(.ah (.v 1)),(fO (.v 2))]
  (.aV (.cmp .gtr (.v 3) (.v 0))
  (gv (.v 3) 2
  (gv (.v 3) 2
  (gv (eE (.v 3) (.c 1)) 2
  (gv (eE (.v 3) (.c 1)) 2
  (.call g [(.agg (d (.v 2) (.v 3))),(.agg (d (.v 2) (eE (.v 3) (.c 1))))] [] [.am,.am,.am] [.int I] (fO (.v 4))
  (.aV (i8 (.v 4) (.c 0))
   (gv (eE (.v 3) (.c 1)) 2
   (gv (eE (.v 3) (.c 1)) 2
   (gv (.v 3) 2
   (gv (.v 3) 2
   (gv (.v 3) 2
   (gv (.v 3) 2
   (.new e (.set (.ah (.v 2)) (.v 3) 0 (d (.v 2) (eE (.v 3) (.c 1)))) [.am,.am,(.own e)] [.am,.am,.am,(.own e)]
   (gv (eE (.v 3) (.c 1)) 3
   (gv (eE (.v 3) (.c 1)) 3
   (.new e (.set (.ah (.v 3)) (eE (.v 3) (.c 1)) 0 (d (.v 2) (.v 3))) [.am,.am,.am,(.own e)] [.am,.am,.am,.am,(.own e)]
   (.back 1 [(.ah (.v 4)),(fO (eE (.v 3) (.c 1)))])))))))))))
   (.back 0 [(.ah (.v 2)),(fO (ec (.v 2) (.c 1)))])))))))
  (.back 0 [(.ah (.v 2)),(fO (ec (.v 2) (.c 1)))])))
 (.out .normal ⟨[],[],3,0,[.am,(.own e)],0,0,[]⟩)))
abbrev rq:K:=(.conv I (.bin .shr .u64 (.conv .u64 (ec (.v 3) (.v 4))) (.c 1)))
abbrev eA:K:=(.conv I (.bin .shr .u64 (.conv .u64 (ec (.v 0) (.v 2))) (.c 1)))
def St:T:=(.aV (i8 (.v 3) (.v 1))
   (.aV (i8 (.v 1) (eE (ec eA (.v 1)) (.v 3)))
    (.eL h g e (.dD 1 o [(.v 3),(.v 1),(eE (ec eA (.v 1)) (.v 3))]) E (.v 1) [.am,(.own e)]
    (.aV (i8 (.v 0) (.v 3))
    (.aV (i8 (.v 3) eA)
     (.eL f g e (.dD (N+3) o [(.v 0),(.v 3),eA]) E (.v 2) [.am,.am,(.own e)]
     (.aV (i8 eA (eE (ec eA (.v 1)) (.v 3)))
     (.aV (i8 (eE (ec eA (.v 1)) (.v 3)) (.v 2))
      (.eL f g e (.dD (N+3) o [eA,(eE (ec eA (.v 1)) (.v 3)),(.v 2)]) E (.v 3) [.am,.am,.am,(.own e)]
      (.out .normal ⟨[],[],5,0,[.am,.am,.am,.am,(.own e)],0,0,[]⟩))
      (.out .normal ⟨[],[],5,0,[.am,.am,.am,(.own e)],0,0,[]⟩))
     (.out .normal ⟨[],[],5,0,[.am,.am,.am,(.own e)],0,0,[]⟩)))
     (.aV (i8 eA (eE (ec eA (.v 1)) (.v 3)))
     (.aV (i8 (eE (ec eA (.v 1)) (.v 3)) (.v 2))
      (.eL f g e (.dD (N+3) o [eA,(eE (ec eA (.v 1)) (.v 3)),(.v 2)]) E (.v 2) [.am,.am,(.own e)]
      (.out .normal ⟨[],[],5,0,[.am,.am,.am,(.own e)],0,0,[]⟩))
      (.out .normal ⟨[],[],5,0,[.am,.am,(.own e)],0,0,[]⟩))
     (.out .normal ⟨[],[],5,0,[.am,.am,(.own e)],0,0,[]⟩)))
    (.aV (i8 eA (eE (ec eA (.v 1)) (.v 3)))
     (.aV (i8 (eE (ec eA (.v 1)) (.v 3)) (.v 2))
     (.eL f g e (.dD (N+3) o [eA,(eE (ec eA (.v 1)) (.v 3)),(.v 2)]) E (.v 2) [.am,.am,(.own e)]
     (.out .normal ⟨[],[],5,0,[.am,.am,.am,(.own e)],0,0,[]⟩))
     (.out .normal ⟨[],[],5,0,[.am,.am,(.own e)],0,0,[]⟩))
     (.out .normal ⟨[],[],5,0,[.am,.am,(.own e)],0,0,[]⟩))))
    (.aV (i8 (.v 0) (.v 3))
    (.aV (i8 (.v 3) eA)
     (.eL f g e (.dD (N+3) o [(.v 0),(.v 3),eA]) E (.v 1) [.am,(.own e)]
     (.aV (i8 eA (eE (ec eA (.v 1)) (.v 3)))
     (.aV (i8 (eE (ec eA (.v 1)) (.v 3)) (.v 2))
      (.eL f g e (.dD (N+3) o [eA,(eE (ec eA (.v 1)) (.v 3)),(.v 2)]) E (.v 2) [.am,.am,(.own e)]
      (.out .normal ⟨[],[],5,0,[.am,.am,.am,(.own e)],0,0,[]⟩))
      (.out .normal ⟨[],[],5,0,[.am,.am,(.own e)],0,0,[]⟩))
     (.out .normal ⟨[],[],5,0,[.am,.am,(.own e)],0,0,[]⟩)))
     (.aV (i8 eA (eE (ec eA (.v 1)) (.v 3)))
     (.aV (i8 (eE (ec eA (.v 1)) (.v 3)) (.v 2))
      (.eL f g e (.dD (N+3) o [eA,(eE (ec eA (.v 1)) (.v 3)),(.v 2)]) E (.v 1) [.am,(.own e)]
      (.out .normal ⟨[],[],5,0,[.am,.am,(.own e)],0,0,[]⟩))
      (.out .normal ⟨[],[],5,0,[.am,(.own e)],0,0,[]⟩))
     (.out .normal ⟨[],[],5,0,[.am,(.own e)],0,0,[]⟩)))
    (.aV (i8 eA (eE (ec eA (.v 1)) (.v 3)))
     (.aV (i8 (eE (ec eA (.v 1)) (.v 3)) (.v 2))
     (.eL f g e (.dD (N+3) o [eA,(eE (ec eA (.v 1)) (.v 3)),(.v 2)]) E (.v 1) [.am,(.own e)]
     (.out .normal ⟨[],[],5,0,[.am,.am,(.own e)],0,0,[]⟩))
     (.out .normal ⟨[],[],5,0,[.am,(.own e)],0,0,[]⟩))
     (.out .normal ⟨[],[],5,0,[.am,(.own e)],0,0,[]⟩))))
   (.aV (i8 (.v 0) (.v 3))
    (.aV (i8 (.v 3) eA)
    (.eL f g e (.dD (N+3) o [(.v 0),(.v 3),eA]) E (.v 1) [.am,(.own e)]
    (.aV (i8 eA (eE (ec eA (.v 1)) (.v 3)))
     (.aV (i8 (eE (ec eA (.v 1)) (.v 3)) (.v 2))
     (.eL f g e (.dD (N+3) o [eA,(eE (ec eA (.v 1)) (.v 3)),(.v 2)]) E (.v 2) [.am,.am,(.own e)]
     (.out .normal ⟨[],[],5,0,[.am,.am,.am,(.own e)],0,0,[]⟩))
     (.out .normal ⟨[],[],5,0,[.am,.am,(.own e)],0,0,[]⟩))
     (.out .normal ⟨[],[],5,0,[.am,.am,(.own e)],0,0,[]⟩)))
    (.aV (i8 eA (eE (ec eA (.v 1)) (.v 3)))
     (.aV (i8 (eE (ec eA (.v 1)) (.v 3)) (.v 2))
     (.eL f g e (.dD (N+3) o [eA,(eE (ec eA (.v 1)) (.v 3)),(.v 2)]) E (.v 1) [.am,(.own e)]
     (.out .normal ⟨[],[],5,0,[.am,.am,(.own e)],0,0,[]⟩))
     (.out .normal ⟨[],[],5,0,[.am,(.own e)],0,0,[]⟩))
     (.out .normal ⟨[],[],5,0,[.am,(.own e)],0,0,[]⟩)))
    (.aV (i8 eA (eE (ec eA (.v 1)) (.v 3)))
    (.aV (i8 (eE (ec eA (.v 1)) (.v 3)) (.v 2))
     (.eL f g e (.dD (N+3) o [eA,(eE (ec eA (.v 1)) (.v 3)),(.v 2)]) E (.v 1) [.am,(.own e)]
     (.out .normal ⟨[],[],5,0,[.am,.am,(.own e)],0,0,[]⟩))
     (.out .normal ⟨[],[],5,0,[.am,(.own e)],0,0,[]⟩))
    (.out .normal ⟨[],[],5,0,[.am,(.own e)],0,0,[]⟩))))
def aiE:T:=(.loop 0 [.ah (.own e),.int I,.int I] [(.ah (.v 0)),(fO (.v 1)),(fO (.v 2))]
 (.aV (i8 (.v 3) (.v 4))
  (gv rq 1
  (gv rq 1
  (gv (.v 0) 1
  (gv (.v 0) 1
  (.call g [(.agg (d (.v 1) rq)),(.agg (d (.v 1) (.v 0)))] [] [.am,.am] [.int I] (fO (.v 5))
  (.bi (.c J)
  (.aV (i8 (.v 5) (.c 0))
  (.back 0 [(.ah (.v 1)),(fO (ec rq (.c 1))),(fO (.v 4))])
  (.back 0 [(.ah (.v 1)),(fO (.v 3)),(fO rq)]))))))))
  (.loop 1 [.ah (.own e),.int I] [(.ah (.v 1)),(fO (.v 0))]
  (.aV (i8 (.v 5) (eE (.v 3) (.c 1)))
   (gv (ec (.v 5) (.c 1)) 2
   (gv (ec (.v 5) (.c 1)) 2
   (gv (.v 5) 2
   (gv (.v 5) 2
   (gv (.v 5) 2
   (gv (.v 5) 2
   (.new e (.set (.ah (.v 2)) (.v 5) 0 (d (.v 2) (ec (.v 5) (.c 1)))) [.am,.am,(.own e)] [.am,.am,.am,(.own e)]
   (gv (ec (.v 5) (.c 1)) 3
   (gv (ec (.v 5) (.c 1)) 3
   (.new e (.set (.ah (.v 3)) (ec (.v 5) (.c 1)) 0 (d (.v 2) (.v 5))) [.am,.am,.am,(.own e)] [.am,.am,.am,.am,(.own e)]
   (.back 1 [(.ah (.v 4)),(fO (ec (.v 5) (.c 1)))])))))))))))
   (.out .ret ⟨[],[],6,0,[.am,.am,(.own e)],0,0,[]⟩)))))
def aiF:T:=(.loop 0 [.ah (.own e),.int I,.int I] [(.ah (.v 0)),(fO (.v 0)),(fO (.v 1))]
  (.aV (i8 (.v 3) (.v 4))
  (gv (.v 1) 1
  (gv (.v 1) 1
  (gv rq 1
  (gv rq 1
  (.call g [(.agg (d (.v 1) (.v 1))),(.agg (d (.v 1) rq))] [] [.am,.am] [.int I] (fO (.v 5))
  (.bi (.c J)
  (.bi (.c J)
  (.aV (.not (i8 (.v 5) (.c 0)))
   (.back 0 [(.ah (.v 1)),(fO (ec rq (.c 1))),(fO (.v 4))])
   (.back 0 [(.ah (.v 1)),(fO (.v 3)),(fO rq)])))))))))
  (.loop 1 [.ah (.own e),.int I] [(.ah (.v 1)),(fO (.v 1))]
   (.aV (.cmp .gtr (.v 5) (.v 3))
   (gv (eE (.v 5) (.c 1)) 2
   (gv (eE (.v 5) (.c 1)) 2
   (gv (.v 5) 2
   (gv (.v 5) 2
   (gv (.v 5) 2
   (gv (.v 5) 2
   (.new e (.set (.ah (.v 2)) (.v 5) 0 (d (.v 2) (eE (.v 5) (.c 1)))) [.am,.am,(.own e)] [.am,.am,.am,(.own e)]
   (gv (eE (.v 5) (.c 1)) 3
   (gv (eE (.v 5) (.c 1)) 3
   (.new e (.set (.ah (.v 3)) (eE (.v 5) (.c 1)) 0 (d (.v 2) (.v 5))) [.am,.am,.am,(.own e)] [.am,.am,.am,.am,(.own e)]
   (.back 1 [(.ah (.v 4)),(fO (eE (.v 5) (.c 1)))])))))))))))
   (.out .ret ⟨[],[],6,0,[.am,.am,(.own e)],0,0,[]⟩)))))
def Zm:T:=(gv (eE (eE (ec eA (.v 1)) (.c 1)) rq) 1
   (gv (eE (eE (ec eA (.v 1)) (.c 1)) rq) 1
   (gv rq 1
   (gv rq 1
   (.call g [(.agg (d (.v 1) (eE (eE (ec eA (.v 1)) (.c 1)) rq))),(.agg (d (.v 1) rq))] [] [.am,.am] [.int I] (fO (.v 5))
   (.bi (.c J)
   (.bi (.c J)
   (.aV (.not (i8 (.v 5) (.c 0)))
   (.back 0 [(.ah (.v 1)),(fO (ec rq (.c 1))),(fO (.v 4))])
   (.back 0 [(.ah (.v 1)),(fO (.v 3)),(fO rq)])))))))))
def aEo:T:=(.loop 0 [.ah (.own e),.int I,.int I] [(.ah (.v 0)),(fO (eE (ec eA (.v 1)) (.v 2))),(fO eA)]
 (.aV (i8 (.v 3) (.v 4)) (Zm g d) (St e g h f N o)))
def aEp:T:=(.loop 0 [.ah (.own e),.int I,.int I] [(.ah (.v 0)),(fO (.v 0)),(fO (.v 1))]
 (.aV (i8 (.v 3) (.v 4)) (Zm g d) (St e g h f N o)))
def Zn:T:=(.aV (.cmp .eql (eE (.v 1) (.v 0)) (.c 1)) (aiE e g d) (.aV (.cmp .eql (eE (.v 2) (.v 1)) (.c 1)) (aiF e g d) (.aV (.cmp .gtr (.v 1) eA) (aEo e g h f N o d) (aEp e g h f N o d))))
def Zo:T:=(.loop 0 [.ah (.own e),.int I,.int I] [(.ah (.v 0)),(fO (.c 20)),(fO (.c 0))]
 (.aV (.cmp .leq (.v 0) (.len (.v 0)))
 (.eL j g e (.dD 2 o [(.v 1),(.v 0)]) E (.v 1) [.am,(.own e)]
 (.back 0 [(.ah (.v 2)),(fO (ec (.v 0) (.c 20))),(fO (.v 0))]))
 (.eL j g e (.dD 2 o [(.v 1),(.len (.v 0))]) E (.v 1) [.am,(.own e)]
 (.loop 1 [.ah (.own e),.int I] [(.ah (.v 2)),(fO (.c 20))]
  (.aV (i8 (.v 2) (.len (.v 0)))
  (.loop 2 [.ah (.own e),.int I,.int I] [(.ah (.v 3)),(fO (.bin .mul I (.c 2) (.v 2))),(fO (.c 0))]
   (.aV (.cmp .leq (.v 3) (.len (.v 0)))
   (.eL f g e (.dD (N+3) o [(.v 4),(ec (.v 4) (.v 2)),(.v 3)]) E (.v 4) [.am,.am,.am,.am,(.own e)]
   (.back 2 [(.ah (.v 5)),(fO (ec (.v 3) (.bin .mul I (.c 2) (.v 2)))),(fO (.v 3))]))
   (.aV (i8 (ec (.v 4) (.v 2)) (.len (.v 0)))
    (.eL f g e (.dD (N+3) o [(.v 4),(ec (.v 4) (.v 2)),(.len (.v 0))]) E (.v 4) [.am,.am,.am,.am,(.own e)]
    (.back 1 [(.ah (.v 5)),(fO (.bin .mul I (.v 2) (.c 2)))]))
    (.back 1 [(.ah (.v 4)),(fO (.bin .mul I (.v 2) (.c 2)))]))))
  (.out .normal ⟨[],[],3,0,[.am,.am,.am,(.own e)],0,0,[]⟩))))))
end
structure HP where
 K:my
 g:Nat
 o:bu
 e:TypeId
 v:Value
 aE:ar
def aiG(O:ai)(l:ap)(x:aF):Prop:=∀y V,C.aG (O.at y) V l=x.map RV.val
def J2(c:Option LC)(X:bv):Prop:=match c with
 |U c=>c.I X/\c.μ X<c.m
 |none=>False
def aEq(h:HP)(f:FuncId)(V:ap)(R:aU)(jM:C)(O:ai)(k:Int->Prop):Prop:=f=h.g/\R=[.int I]/\jM=.int I (.v (Y O.i))/\∃X W x y,V=[.agg X,.agg W]/\aiG O X x/\aiG O W y/\jP h.K x/\jP h.K y/\h.o.ok x=J/\h.o.ok y=J/\∀c:Int,(c<0<->h.o.lt x y=J)->k c
def T.hw(h:HP):T->ai->dG->Prop
 |.out V s,O,_=>(V=.normal\/V=.ret)/\∃k,s.rs[k]?=U (.own h.e)/\O.rv k=.mk h.v h.aE
 |.aV b t f,O,L=>if b.ab O=J then t.hw h O L else f.hw h O L
 |.bi b t,O,L=>b.ab O=J/\t.hw h O L
 |.call f P _ _ N jM t,O,L=>aEq h f P N jM O λc=>t.hw h (O.add (.i c)) L
 |.loop ax _ M t,O,L=>∃X R,X (M.map (C.xv O))/\∀W,X W->t.hw h (O.ext W) (⟨ax,X,R,R W⟩::L)
 |.back ax x,O,L=>J2 (oP ax L) (x.map (C.xv O))
 |.new _ (.set (.ah (.v k)) i H G) _ _ t,O,L=>t.hw h (O.add (.r (.mk (O.rv k).val (LE.ac O (.set (.ah (.v k)) i H G))))) L
 |.eL _ _ _ F D r _ t,O,L=>∃Q,lg O F D (r.rv O).ac=U Q/\t.hw h (O.add (.r (.mk (r.rv O).val Q))) L
 |_,_,_=>False
def zA(h:HP){p:Sp}(F:J0 p.P h.K h.g h.o)(D:Tgt p h.e h.v h.aE):∀(t:T)(O:ai)(L:dG),t.hw h O L->t.aS p O L
 |.out ex s,O,L,Q=>by
  obtain⟨B,k,z,u⟩:=Q;intro y V a W R;refine D _ s (O.at y) V a W k ?_ R z u;rcases B with rfl|rfl;exact .inl rfl;exact .inr rfl
 |.aV b t f,O,L,Q=>by
  simp only[T.hw] at Q;refine⟨λq=>zA h F D t O L ?_,λq=>zA h F D f O L ?_⟩
  rwa [aL q] at Q
  rwa [aT (by simp[q])] at Q
 |.bi b t,O,L,Q=>⟨Q.1,zA h F D t O L Q.2⟩
 |.call f al bx N d jM t,O,L,Q=>by
  obtain⟨rfl,rfl,rfl,l1,l2,x,y,rfl,B,z,u,h4,h5,h6,h7⟩:=Q;intro m V W R;have e:(C.aG (O.at m) V [.agg l1,.agg l2]).toArray= #[.agg (x.map RV.val).toArray,.agg (y.map RV.val).toArray]:=by
   simp only[C.aG,C.ab,B m V,z m V]
  rw[e];refine(F W x y u h4 h5 h6).mono ?_;rintro en W' ⟨hB,c,rfl,af⟩;refine⟨[.i c],⟨trivial,trivial⟩, ?_,hB,⟨trivial,trivial⟩, ?_⟩;simp[C.ab,K.ab,ai.ext,ai.add,ai.at];exact zA h F D t (O.add (.i c)) L (h7 c af)
 |.loop ax d x0 t,O,L,Q=>by
  obtain⟨X,μ,B,z⟩:=Q;exact⟨X,μ,B,λxs _ hx=>zA h F D t _ _ (z xs hx)⟩
 |.back ax x,O,L,Q=>by
  simp only[T.hw,J2] at Q;simp only[T.aS];cases j:oP ax L with
  |none=>rw[j] at Q;exact Q
  |some c=>rw[j] at Q;exact Q
 |.new e (.set (.ah (.v k)) i G H) N M t,O,L,Q=>by
  intro rv hn;obtain⟨⟨A,n,c,rfl,hl⟩,_,w⟩:=hn;have w:=w k i G H rfl;refine zA h F D t _ L ?_;simp only[RV.nM] at w;rw[w];exact Q
 |.new e (.ah r) N M t,O,L,Q=>by simp[T.hw] at Q
 |.new e (.lit l) N M t,O,L,Q=>by simp[T.hw] at Q
 |.new e (.kq a b) N M t,O,L,Q=>by simp[T.hw] at Q
 |.new e (.tR n an) N M t,O,L,Q=>by simp[T.hw] at Q
 |.new e (.sub a lo hi) N M t,O,L,Q=>by simp[T.hw] at Q
 |.new e (.ins a n H) N M t,O,L,Q=>by simp[T.hw] at Q
 |.new e (.set (.ah (.k _)) i G H) N M t,O,L,Q=>by simp[T.hw] at Q
 |.new e (.set (.lit _) i G H) N M t,O,L,Q=>by simp[T.hw] at Q
 |.new e (.set (.kq _ _) i G H) N M t,O,L,Q=>by simp[T.hw] at Q
 |.new e (.set (.tR _ _) i G H) N M t,O,L,Q=>by simp[T.hw] at Q
 |.new e (.set (.set _ _ _ _) i G H) N M t,O,L,Q=>by simp[T.hw] at Q
 |.new e (.set (.sub _ _ _) i G H) N M t,O,L,Q=>by simp[T.hw] at Q
 |.new e (.set (.ins _ _ _) i G H) N M t,O,L,Q=>by simp[T.hw] at Q
 |.new e (.set (.ah (.cell _ _ _ _)) i G H) N M t,O,L,Q=>by simp[T.hw] at Q
 |.eL f g e sp st r N t,O,L,Q=>by
  obtain⟨ag,B,z⟩:=Q;exact⟨ag,B,zA h F D t _ L z⟩
 |.ret ..,_,_,Q=>by simp[T.hw] at Q
 |.bI ..,_,_,Q=>by simp[T.hw] at Q
 |.ac ..,_,_,Q=>by simp[T.hw] at Q
 |.gQ ..,_,_,Q=>by simp[T.hw] at Q
 |.pick ..,_,_,Q=>by simp[T.hw] at Q
 |.stuck _,_,_,Q=>by simp[T.hw] at Q
section
variable{h:HP}{O:ai}{L:dG}
def J3{X:ai}(e:O=X):T.hw h u O L=T.hw h u X L:=by rw[e]
def xN(b:BE)(t f:T):T.hw h (.aV b t f) O L=(if b.ab O=J then t.hw h O L else f.hw h O L):=rfl
def J4(b:BE)(t:T):T.hw h (.bi b t) O L=(b.ab O=J/\t.hw h O L):=rfl
def J5(ax:Nat)(x:ap):T.hw h (.back ax x) O L=J2 (oP ax L) (x.map (C.xv O)):=rfl
def J6(e:TypeId)(k:Nat)(i:K)(X:Nat)(W:ap)(V R:bz)(t:T):T.hw h (.new e (.set (.ah (.v k)) i X W) V R t) O L=t.hw h (O.add (.r (.mk (O.rv k).val (LE.ac O (.set (.ah (.v k)) i X W))))) L:=rfl
def C8(f g:FuncId)(e:TypeId)(X:bu)(W:Bool)(r:RE)(R:bz)(t:T):T.hw h (.eL f g e X W r R t) O L=(∃V,lg O X W (r.rv O).ac=U V/\t.hw h (O.add (.r (.mk (r.rv O).val V))) L):=rfl
def C9(X:XE)(s:S):T.hw h (.out X s) O L=((X=.normal\/X=.ret)/\∃k,s.rs[k]?=U (.own h.e)/\O.rv k=.mk h.v h.aE):=rfl
def zB{Q:aU}(W:bv->Prop)(V:bv->Nat)(P:W (c.map (C.xv O)))(N:∀R,W R->u.hw h (O.ext R) (⟨X,W,V,V R⟩::L)):T.hw h (.loop X Q c u) O L:=⟨W,V,P,N⟩
end
section
attribute[local simp] K.ab BE.ab RE.rv RE.ab fA ai.rv ai.ext ai.add C.xv xN J4 J5 J6 C8 C9 LE.ac oP
attribute[local congr] J3
structure EW(d:my)(f:RE->K->ap):Prop where
 cj:∀(O:ai)(r:RE)(i:K)(x:aF),(r.rv O).ac[(i.ab O).toNat]?=U x->jP d x->(f r i).map (C.cj O)=x
 ab:∀(O:ai)(r:RE)(i:K)(x:aF),(r.rv O).ac[(i.ab O).toNat]?=U x->jP d x->aiG O (f r i) x
def aiH:∀{d:my}{x:aF},jP d x->Y x=Y d
 |[],_,h=>by cases h;rfl
 |_::_,[],h=>h.elim
 |_::_,_::_,h=>by simp[aiH h.2]
def auo:∀(x W X:aF),Y W=Y x->gT (X++W) (Y X) x=X++x
 |[],W,X,h=>by
  have:W=[]:=tM h;subst this;rfl
 |v::r,[],X,h=>by simp at h
 |v::r,c::W,X,h=>by
  have V:=auo r W (X++[v]) (by simpa using h);simp only[gP,kV,E6,Bn,ef,eK] at V;simp only[gT];rw[ZE _ _ (bY _),ZT,aJk];exact V
def Hg{d:my}{x:aF}(P:∀y∈Q,jP d y)(O:jP d x):(Q.modify X λW=>gT W 0 x)=Q.set X x:=by
 apply kU;intro k;rw[ai9,wc];by_cases R:X=k;subst R;simp only[cS];cases V:Q[X]? with
 |none=>
  have:=Dc.1 V;rw[aT aa];rfl
 |some W=>
  obtain⟨N,_⟩:=cu.1 V;rw[aL N];have:=auo x W [] (by rw[aiH (P W (jK V)),aiH O]);simpa using this
 simp[R]
def Su{n:Int}(X:-9223372036854775808<=n)(W:n<9223372036854775808):IntKind.i64.wrap n=n:=by
 rw[IntKind.wrap_i64];omega
def Bg{a b:Nat}(h:a+b<=4398046511104):aH .add I (a:Int) (b:Int)=((a+b:Nat):Int):=by
 simp only[aH];rw[Su aa aa];omega
def zC{a b:Nat}(h:b<=a)(X:a<=4398046511104):aH .sub I (a:Int) (b:Int)=((a-b:Nat):Int):=by
 simp only[aH];rw[Su aa aa];omega
def EX{a:Nat}(h:a<=4398046511103):aH .add I (a:Int) 1=((a+1:Nat):Int):=Bg (b:=1) aa
def Zp{a:Nat}(h:1<=a)(X:a<=4398046511104):aH .sub I (a:Int) 1=((a-1:Nat):Int):=zC (b:=1) h X
def aEr(W:ar)(M:X+n<=x)(V:x+n<=Y W)(k:Nat):
  (W.take X++(bp W x (x+n)++(bp W (X+n) x++(bp W X (X+n)++W.drop (x+n)))))[k]?=if X<=k/\k<X+n then W[k-X+x]? else if x<=k/\k<x+n then W[k-x+X]? else W[k]?:=by
 have R:(W.take X).length=X:=dl;have Q:(bp W x (x+n)).length=n:=by rw[rO W V];omega
 have P:(bp W (X+n) x).length=x-(X+n):=rO W aa;have O:(bp W X (X+n)).length=n:=by rw[rO W aa];omega
 by_cases N:k<X;rw[dN aa,aT aa,aT aa,nD,aL N];rw[iJ aa,R];by_cases L:k<X+n;rw[dN aa,aL aa,Qg W aa];congr 1;omega;rw[iJ aa,Q,aT aa];by_cases H:k<x;rw[dN aa,aT aa,Qg W aa];congr 1;omega;rw[iJ aa,P];by_cases G:k<x+n;rw[dN aa,aL aa,Qg W aa];congr 1;omega;rw[iJ aa,O,aT aa,uN];congr 1;omega
def Da(h:Y z=3):∃a b c,z=[a,b,c]:=by
 match z,h with
 |[a,b,c],_=>exact⟨a,b,c,rfl⟩
def two(h:Y z=2):∃a b,z=[a,b]:=by
 match z,h with
 |[a,b],_=>exact⟨a,b,rfl⟩
def Bh{a:Int}(h:0<=a):∃n:Nat,a=n:=⟨a.toNat,aa⟩
section
variable{d:my}{e g:Nat}{o:bu}{f:RE->K->ap}
def aup(B:EW d f):Ss d e g o 0 3 (Zj e f):=by
 rintro p _ W aE ns hP af ⟨A,n,R,rfl,ag,hn⟩ hT hN V al;obtain⟨a,b,m,rfl⟩:=Da hN;obtain⟨_,V⟩:=BU V;simp only[nO] at V;split at V;rename_i O;simp only[aw,ce] at O;obtain⟨a,rfl⟩:=Bh O.1.1.1;obtain⟨m,rfl⟩:=Bh O.1.1.2;obtain⟨b,rfl⟩:=Bh (a:=b) aa;have h1:a+m<=b:=aa;have h2:b+m<=Y W:=aa;simp only[cX] at V;have e1:((a:Int)).toNat=a:=rfl;have e2:((b:Int)).toNat=b:=rfl;have e3:((b:Int)+(m:Int)).toNat=b+m:=aa;have e4:((a:Int)+(m:Int)).toNat=a+m:=aa;rw[e1,e2,e3,e4] at V;have w:=aEr W h1 h2;rw[V] at w;clear V;refine zA ⟨d,g,o,e,.slice A n R,aE⟩ (hP▸af) al _ _ _ ?_;unfold Zj;refine zB (λN=>∃(i:Nat)(X:ar),N=[.r (.mk (.slice A n R) X),.i i]/\i<=m/\Y X=n/\(∀x∈X,jP d x)/\∀k:Nat,X[k]?=if a<=k/\k<a+i then W[k-a+b]? else if b<=k/\k<b+i then W[k-b+a]? else W[k]?) (λN=>match N with|[_,.i j]=>m-j.toNat|_=>0) ⟨0,W,rfl,aa,ag,hT,λk=>by rw[aT aa,aT aa]⟩ ?_;rintro _ ⟨i,X,rfl,hi,hl,Q,P⟩;by_cases an:i<m;obtain⟨x,M⟩:∃x,X[a+i]?=U x:=cu.2 ⟨aa,rfl⟩|>λh=>⟨_,h⟩
 obtain⟨y,L⟩:∃y,X[b+i]?=U y:=cu.2 ⟨aa,rfl⟩|>λh=>⟨_,h⟩
 have H:=Q x (jK M);have G:=Q y (jK L);have u:=Bg (a:=a) (b:=i) aa;have t:=Bg (a:=b) (b:=i) aa;have c1:Bp (C.cj ⟨[(a:Int),b,m,i],[],[.mk (.slice A n R) W,.mk (.slice A n R) X],[]⟩) (f (.v 1) (.bin .add I (.v 1) (.v 3)))=y:=B.cj _ _ _ y (by simp only[RE.rv,ai.rv,K.ab,Oi,Hl,RV.nN,t,su];exact L) G;have c2:∀s,Bp (C.cj ⟨[(a:Int),b,m,i],[],[.mk (.slice A n R) W,.mk (.slice A n R) X,s],[]⟩) (f (.v 1) (.bin .add I (.v 0) (.v 3)))=x:=λs=>B.cj _ _ _ x (by simp only[RE.rv,ai.rv,K.ab,Oi,Hl,RV.nN,u,su];exact M) H
 have m1:(X.modify (a+i) λF=>gT F 0 y)=X.set (a+i) y:=Hg Q G;have q:∀z∈X.set (a+i) y,jP d z:=λz D=>by
  rcases E0 D with h|rfl;exact Q z h;exact G
 have m2:((X.set (a+i) y).modify (b+i) λF=>gT F 0 x)=(X.set (a+i) y).set (b+i) x:=Hg q H;have t1:((a:Int)+(i:Int)).toNat=a+i:=aa;have t2:((b:Int)+(i:Int)).toNat=b+i:=aa;simp[u,t,EX (a:=i) aa,an,c1,c2,t1,t2,m1,m2,lenOf];refine⟨aa,aa,aa,⟨i+1,_,rfl,aa,by simp[hl],λz D=> ?_,λk=> ?_⟩,show m-((i:Int)+1).toNat<m-i from aa⟩;rcases E0 D with h|rfl;exact q z h;exact H;have aA:W[a+i]?=U x:=by
  have:=P (a+i);rw[aT aa,aT aa] at this;rw[<-this];exact M
 have aC:W[b+i]?=U y:=by
  have:=P (b+i);rw[aT aa,aT aa] at this;rw[<-this];exact L
 rw[wc,wc];by_cases l:b+i=k;subst l;rw[aL rfl,aL dl,aT aa,aL aa,<-aA];congr 1;omega;rw[aT l];by_cases c:a+i=k;subst c;rw[aL rfl,aL aa,aL aa,<-aC];congr 1;omega;rw[aT c,P k];by_cases k3:a<=k/\k<a+i;rw[aL k3,aL aa];rw[aT k3];by_cases k4:b<=k/\k<b+i;rw[aL k4,aT aa,aL aa];rw[aT k4,aT aa,aT aa];have a0:i=m:=aa;subst a0;have a1:X=aE:=kU λk=>by rw[P k,w k]
 subst a1;simp;exact⟨1,rfl,rfl⟩;cases V
end
end
section
attribute[local simp] K.ab BE.ab RE.rv RE.ab fA ai.rv ai.ext ai.add C.xv xN J4 J5 J6 C8 C9 LE.ac oP lg
attribute[local congr] J3
def Sv(P S Q:ar):bp (P++(S++Q)) (Y P) (Y P+Y S)=S:=by simp[bp]
def Sw{W P Q:ar}(h:W=P++(F++Q))(V:X=Y P)(R:x=X+Y F):bp W X x=F:=by
 subst h;subst V;subst R;exact Sv P F Q
def aiI{o:bu}{P X M Y Q:ar}{a b n:Int}(W:a=P.length)(V:b=P.length+X.length+M.length)(R:n=X.length)(y:Y.length=X.length)(O:(P++(X++(M++(Y++Q)))).length<=1099511627776):
  p7 0 o [a,b,n] (P++(X++(M++(Y++Q))))=U (P++(Y++(M++(X++Q)))):=by
 subst W;subst V;subst R;unfold p7;rw[aL O];simp only[nO];rw[aL (by simp only[aw,ce,gP];omega)];have N:((P.length:Int)).toNat=P.length:=rfl;have L:((P.length:Int)+X.length+M.length).toNat=P.length+X.length+M.length:=aa;have H:((P.length:Int)+X.length+M.length+X.length).toNat=P.length+X.length+M.length+X.length:=aa;have G:((P.length:Int)+X.length).toNat=P.length+X.length:=aa;rw[N,L,H,G];have F:(P++(X++(M++(Y++Q)))).take P.length=P:=av;have D:bp (P++(X++(M++(Y++Q)))) (P.length+X.length+M.length) (P.length+X.length+M.length+X.length)=Y:=Sw (P:=P++(X++M)) (Q:=Q) av dl aa;have B:bp (P++(X++(M++(Y++Q)))) (P.length+X.length) (P.length+X.length+M.length)=M:=Sw (P:=P++X) (Q:=Y++Q) av av rfl;have A:bp (P++(X++(M++(Y++Q)))) P.length (P.length+X.length)=X:=Sv P X _;have z:(P++(X++(M++(Y++Q)))).drop (P.length+X.length+M.length+X.length)=Q:=by
  have:P++(X++(M++(Y++Q)))=(P++(X++(M++Y)))++Q:=av;rw[this,ZN dl]
 rw[F,D,B,A,z]
def auq(W:ar)(V:X<=x)(R:x<=n):W.take X++(bp W X x++(bp W x n++W.drop n))=W:=by
 rw[<-Bn (bp W X x),<-qf W V R,L4 W aa]
def uL{c:Prop}[Decidable c]{A B:Prop}(X:c->A)(W:¬c->B):if c then A else B:=by
 by_cases h:c;rw[aL h];exact X h;rw[aT h];exact W h
section
variable{d:my}{e g f:Nat}{o:bu}{k:RE->K->ap}
def aur:Ss d e g o 1 3 (Zk e g f o):=by
 rintro p _ W aE ns s q ⟨y,n,x,rfl,l,hn⟩ hT k L h;obtain⟨a,m,b,rfl⟩:=Da k;obtain⟨_,L⟩:=BU L;simp only[nO] at L;split at L;rename_i w;simp only[aw,ce] at w;obtain⟨a,rfl⟩:=Bh w.1.1.1;obtain⟨m,rfl⟩:=Bh (a:=m) aa;obtain⟨b,rfl⟩:=Bh (a:=b) aa;simp only[cX,su] at L;have v:b<=W.length:=aa;refine zA ⟨d,g,o,e,.slice y n x,aE⟩ (s▸q) h _ _ _ ?_;unfold Zk;refine zB (λF=>∃(P A B Q:ar),F=[.r (.mk (.slice y n x) (P++(A++(B++Q)))),.i A.length,.i B.length]/\1<=A.length/\1<=B.length/\P.length+A.length=m/\m+B.length<=b/\(P++(A++(B++Q))).length=n/\P++(B++(A++Q))=aE) (λF=>match F with|[_,.i i,.i j]=>i.toNat+j.toNat|_=>0) ⟨W.take a,bp W a m,bp W m b,W.drop b, ?_, ?_⟩ ?_;have c:W.take a++(bp W a m++(bp W m b++W.drop b))=W:=by
  exact auq W aa aa
 have u:(bp W a m).length=m-a:=rO W aa;have t:(bp W m b).length=b-m:=rO W v;simp only[dU,pP,C.xv,RE.rv,ai.rv,Hl,Oi,K.ab,c,u,t];rw[zC (a:=m) (b:=a) aa aa,zC (a:=b) (b:=m) aa aa];have u:(bp W a m).length=m-a:=rO W aa;have t:(bp W m b).length=b-m:=rO W v;refine⟨aa,aa,dl,aa, ?_,L⟩;rw[auq W aa aa];exact l;rintro _ ⟨P,A,B,Q,rfl,hA,hB,a1,a3,af,D⟩;have ag:=zC (a:=m) (b:=A.length) aa aa;have al:((m-A.length:Nat):Int)=P.length:=aa;simp only[gP] at af;simp[ag,al];refine uL (λan=> ?_) (λan=>uL (λaA=> ?_) (λaA=> ?_));have H:=aiI (o:=o) (P:=P) (X:=A) (M:=[]) (Y:=B) (Q:=Q) (a:=P.length) (b:=m) (n:=A.length) rfl dl rfl aa dl;refine⟨P++(B++(A++Q)),by simpa using H,2,rfl, ?_⟩;simp[D];obtain⟨O,N,rfl,z⟩:∃O N,A=O++N/\O.length=B.length:=⟨A.take B.length,A.drop B.length,(J9 _ _).symm,dl⟩;simp only[gP] at*;have G:=zC (a:=O.length+N.length) (b:=B.length) aa aa;have H:=aiI (o:=o) (P:=P) (X:=O) (M:=N) (Y:=B) (Q:=Q) (a:=P.length) (b:=m) (n:=B.length) rfl aa aa aa dl;refine⟨P++(B++(N++(O++Q))),by simpa using H,⟨P++B,N,O,Q, ?_,aa,aa,dl,aa,dl, ?_⟩, ?_⟩;rw[G,z];simp;rw[<-D];simp;rw[G];show((O.length+N.length-B.length:Nat):Int).toNat+((B.length:Int)).toNat<O.length+N.length+B.length;omega;obtain⟨R,V,rfl,z⟩:∃R V,B=R++V/\V.length=A.length:=⟨B.take (B.length-A.length),B.drop (B.length-A.length),(J9 _ _).symm,dl⟩;simp only[gP] at*;have aC:=Bg (a:=m) (b:=R.length+V.length) aa;have G:=zC (a:=m+(R.length+V.length)) (b:=A.length) aa aa;have a0:=zC (a:=R.length+V.length) (b:=A.length) aa aa;have H:=aiI (o:=o) (P:=P) (X:=A) (M:=R) (Y:=V) (Q:=Q) (a:=P.length) (b:=((m+(R.length+V.length)-A.length:Nat):Int)) (n:=A.length) rfl aa rfl aa dl;rw[aC,G,a0];refine⟨P++(V++(R++(A++Q))),by simpa using H,⟨P,V,R,A++Q, ?_,aa,aa,aa,aa,dl, ?_⟩, ?_⟩;rw[z];simp;rw[<-D];simp;show((A.length:Int)).toNat+((R.length+V.length-A.length:Nat):Int).toNat<A.length+(R.length+V.length);omega;cases L
end
end
section
attribute[local simp] K.ab BE.ab RE.rv RE.ab fA ai.rv ai.ext ai.add C.xv xN J4 J5 J6 C8 C9 LE.ac oP lg
attribute[local congr] J3
def aEs{lt:aF->aF->Bool}(l:ar)(x:aF):bT lt (l++[x])=eI lt x (bT lt l):=by simp[bT]
def aus{lt:aF->aF->Bool}{x:aF}:∀{L G:ar},(∀l∈L,lt x l=E)->(∀g∈G,lt x g=J)->eI lt x (L++G)=L++x::G
 |[],[],_,_=>rfl
 |[],g::G,_,h=>by simp[eI,h g av]
 |l::L,G,X,W=>by
  have V:=aus (L:=L) (G:=G) (λy R=>X y (by simp[R])) W;simp only[ef,eI,X l av];rw[V];simp
def aut(A R:ar)(l x:aF)(W:X=Y A):((A++(l::x::R)).set (X+1) l).set X x=A++(x::l::R):=by
 subst W;rw[ZE _ _ aa,ZA,ZE _ _ aa,ZT];rfl
def Zq{h:HP}{O:ai}{L:dG}{d:RE->K->ap}(P:EW h.K d){W V:RE}{R Q:K}{H:bG}{G:bz}(F:X=Y O.i)(x y:aF)(D:(W.rv O).ac[(R.ab O).toNat]?=U x)(B:(V.rv O).ac[(Q.ab O).toNat]?=U y)(N:jP h.K x)(M:jP h.K y)(A:h.o.ok x=J)(z:h.o.ok y=J)
  (w:∀c:Int,(c<0<->h.o.lt x y=J)->u.hw h (O.add (.i c)) L):T.hw h (.call h.g [.agg (d W R),.agg (d V Q)] H G [.int I] (.int I (.v X)) u) O L:=by
 subst F;exact⟨rfl,rfl,rfl,_,_,x,y,rfl,P.ab O W R x D N,P.ab O V Q y B M,N,M,A,z,w⟩
section
variable{f:my}{e g:Nat}{o:bu}{d:RE->K->ap}
def auu(al:EW f d)(a0:mc o.lt (λx=>o.ok x=J)):Ss f e g o 2 2 (Zl e g d):=by
 rintro p _ X aE ns hP bd ⟨R,n,Q,rfl,ca,hn⟩ hT hN N bf;obtain⟨a,b,rfl⟩:=two hN;obtain⟨_,N⟩:=BU N;simp only[nO] at N;split at N;rename_i t;simp only[aw,ce,fZ] at t;obtain⟨⟨⟨bg,bk⟩,cc⟩,a1⟩:=t;obtain⟨a,rfl⟩:=Bh bg;obtain⟨b,rfl⟩:=Bh (a:=b) aa;simp only[cX,su] at N;have hb:b<=Y X:=aa;have bk:a<=b:=aa;refine zA ⟨f,g,o,e,.slice R n Q,aE⟩ (hP▸bd) bf _ _ _ ?_;unfold Zl;refine zB (λM=>∃(i:Nat)(s:ar),M=[.r (.mk (.slice R n Q) s),.i i]/\a<i/\i<=b+1/\s=X.take a++(bT o.lt (bp X a (min i b))++X.drop (min i b))) (λM=>match M with|[_,.i i]=>b+1-i.toNat|_=>0) ⟨a+1,X, ?_,aa,aa, ?_⟩ ?_;simp only[dU,pP,C.xv,RE.rv,ai.rv,Hl,K.ab];rw[EX aa];by_cases h:a+1<=b;rw[Hp h];have:bp X a (a+1)=[X[a]' aa]:=by
  simp only[bp,show a+1-a=1 from aa];rw[Bj aa];rfl
 rw[this];show X=_++([X[a]' aa]++_);rw[<-this,L4 X aa];have:b=a:=aa;subst this;rw[ZM aa];have:bp X b b=[]:=by simp[bp]
 rw[this];show X=X.take b++([]++X.drop b);simp;rintro _ ⟨i,s,rfl,cf,ch,H⟩;by_cases a3:i<b;rw[Hp aa] at H;obtain⟨x,hx⟩:∃x,x=X[i]' aa:=⟨_,rfl⟩;have hd:X.drop i=x::X.drop (i+1):=by rw[hx,Bj aa]
 have hS:(bT o.lt (bp X a i)).length=i-a:=by rw[mZ,rO X aa]
 have bl:bp X a (i+1)=bp X a i++[x]:=by
  rw[qf X (show a<=i from aa) (show i<=i+1 from aa)];congr 1;simp only[bp,ZA,hd];rfl
 have F:∀y,y∈X.take a\/y∈bT o.lt (bp X a i)\/y=x\/y∈X.drop (i+1)->jP f y/\o.ok y=true:=by
  intro y V;have:y∈X:=by
   rcases V with h|h|rfl|h;exact E2 h;exact u7 (ID h);rw[hx];exact pM _;exact Bl h
  exact⟨hT y this,a1 y this⟩
 have an:gW o.lt (bT o.lt (bp X a i)):=D9 a0 λz hz=>a1 z (u7 hz)
 have br:(X.take a).length=a:=dl;have bs:(X.drop (i+1)).length=n-(i+1):=dl;generalize bt:bT o.lt (bp X a i)=S at H hS F an;generalize cl:X.take a=P at H F br N;generalize bx:X.drop (i+1)=D at hd F bs;rw[hd] at H;have a4:∀L G,S=L++G->(∀l∈L,o.lt x l=E)->(∀g∈G,o.lt x g=J)->P++(L++x::(G++D))=P++(bT o.lt (bp X a (min (i+1) b))++X.drop (min (i+1) b)):=by
  intro L G q m h3;rw[Hp aa,bl,aEs,bt,q,aus m h3,bx];simp
 simp[a3];refine zB (λM=>∃(L G:ar),M=[.r (.mk (.slice R n Q) (P++(L++x::(G++D)))),.i ((a+Y L:Nat):Int)]/\S=L++G/\∀g∈G,o.lt x g=J) (λM=>match M with|[_,.i j]=>j.toNat|_=>0) ⟨S,[], ?_,av,av⟩ ?_;simp[H,hS];omega;rintro _ ⟨L,G,rfl,W,hG⟩;rcases List.eq_nil_or_concat L with rfl|⟨L,l,rfl⟩;simp;rw[EX aa];refine⟨⟨i+1,_,rfl,aa,aa, ?_⟩, ?_⟩;exact a4 [] G W av hG;show b+1-((i+1:Nat):Int).toNat<b+1-i;omega;simp only[List.concat_eq_append] at W⊢;have cn:a+Y L+1<=i:=by
  have:=ko Y W;simp only[gP,kV,E6] at this;omega
 have B:aH .sub I (((a+(Y L+1):Nat)):Int) 1=((a+Y L:Nat):Int):=by rw[Zp aa aa];omega
 have k:=F x av;have A:=F l (.inr (.inl (by rw[W];simp)));have e0:P++(L++[l]++x::(G++D))=(P++L)++(l::x::(G++D)):=av;have gx:((P++L)++(l::x::(G++D)))[a+(Y L+1)]?=U x:=by
  rw[iJ dl];simp[show a+(Y L+1)-(Y P+Y L)=1 from aa]
 have gl:((P++L)++(l::x::(G++D)))[a+Y L]?=U l:=by
  rw[iJ dl];simp[show a+Y L-(Y P+Y L)=0 from aa]
 have aA:∀y∈(P++L)++(l::x::(G++D)),jP f y/\o.ok y=true:=by
  intro y V;refine F y ?_;simp only[eW,dV] at V;rcases V with(h|h)|h|h|h|h;exact .inl h;exact .inr (.inl (by rw[W];simp[h]));subst h;exact .inr (.inl (by rw[W];simp));exact .inr (.inr (.inl h));exact .inr (.inl (by rw[W];simp[h]));exact .inr (.inr (.inr h))
 have a9:((P++L)++(l::x::(G++D))).length=n:=by
  have:=ko Y W;simp only[gP,kV,E6] at this;simp only[gP,kV];omega
 rw[e0];have b0:(((a+(L++[l]).length:Nat):Int))=((a+(Y L+1):Nat):Int):=av;rw[b0];have af:((a+(Y L+1):Nat):Int).toNat=a+(Y L+1):=rfl;have ag:((a+Y L:Nat):Int).toNat=a+Y L:=rfl;have ba:((a+(Y L+1):Nat):Int)=((a+Y L:Nat):Int)+1:=aa;have b1:((a+(Y L+1):Nat):Int)<n:=by
  have:=a9;simp only[gP,kV] at this;omega
 have bb:(a:Int)<((a+(Y L+1):Nat):Int):=aa;have b2:(0:Int)<=((a+Y L:Nat):Int):=aa;generalize hz:((a+(Y L+1):Nat):Int)=z at B af ba b1 bb⊢;generalize hw:((a+Y L:Nat):Int)=w at B ag ba b2⊢;generalize hR:(P++L)++(l::x::(G++D))=u at gx gl aA a9⊢;simp[B,bb];refine⟨⟨aa,by simp[lenOf];omega⟩,⟨aa,by simp[lenOf];omega⟩, ?_⟩;refine Zq al rfl x l ?_ ?_ k.1 A.1 k.2 A.2 (λc t=> ?_);simp[af];exact gx;simp[B,ag];exact gl;have c1:∀O:ai,O.r=[.mk (.slice R n Q) X,.mk (.slice R n Q) s,.mk (.slice R n Q) u]->O.i=[(a:Int),b,i,z,c]->Bp (C.cj O) (d (.v 2) (.bin .sub I (.v 3) (.c 1)))=l:=λO q m=>al.cj O _ _ l (by simp[q,m,B,ag];exact gl) A.1
 have c2:∀(O:ai) rv,O.r=[.mk (.slice R n Q) X,.mk (.slice R n Q) s,.mk (.slice R n Q) u,rv]->O.i=[(a:Int),b,i,z,c]->Bp (C.cj O) (d (.v 2) (.v 3))=x:=λO rv q m=>al.cj O _ _ x (by simp[q,m,af];exact gx) k.1
 simp[B];refine uL (λb3=> ?_) (λb4=> ?_);rw[c1 _ rfl rfl,c2 _ _ rfl rfl];have m1:(u.modify z.toNat λaC=>gT aC 0 l)=u.set (a+Y L+1) l:=by rw[af];exact Hg (λy V=>(aA y V).1) A.1
 have m2:((u.set (a+Y L+1) l).modify w.toNat λaC=>gT aC 0 x)=(u.set (a+Y L+1) l).set (a+Y L) x:=by
  rw[ag];refine Hg (λy V=> ?_) k.1;rcases E0 V with h|rfl;exact(aA y h).1;exact A.1
 rw[m1,m2,<-hR,aut (P++L) (G++D) l x dl];refine⟨⟨aa,by simp[lenOf];omega⟩,⟨aa,by simp[lenOf];omega⟩,⟨aa,by simp[lenOf];omega⟩,⟨L,l::G, ?_,by rw[W];simp,λg' b5=> ?_⟩, ?_⟩;simp;omega;rcases dV.1 b5 with rfl|h;exact t.1 b3;exact hG g' h;show w.toNat<z.toNat;omega;have bc:o.lt x l=false:=by
  cases h:o.lt x l;rfl;exact aZ (t.2 h) b4
 have b6:∀y∈L++[l],o.lt x y=false:=by
  intro y V;rcases eW.1 V with h|h;have:o.lt l y=false:=by
   rw[W] at an;exact(oc.1 (oc.1 an).1).2.2 y h l av
  have b7:=F y (.inr (.inl (by rw[W];simp[h])));exact a0.nt x l y k.2 A.2 b7.2 bc this;simp at h;subst h;exact bc
 rw[EX aa];refine⟨⟨i+1,_,rfl,aa,aa, ?_⟩, ?_⟩;rw[<-a4 (L++[l]) G W b6 hG,<-hR];simp;show b+1-((i+1:Nat):Int).toNat<b+1-i;omega;have b8:min i b=b:=ZM aa;rw[b8,N] at H;simp[a3];exact⟨1,rfl,by rw[H];rfl⟩;cases N
end
end
section
attribute[local simp] K.ab BE.ab RE.rv RE.ab fA ai.rv ai.ext ai.add C.xv xN J4 J5 J6 C8 C9 LE.ac oP lg
attribute[local congr] J3
def aEt(h:X<=4398046511104):IntKind.i64.wrap (aH .shr .u64 (IntKind.u64.wrap (X:Int)) 1)=((X/2:Nat):Int):=by
 have e1:IntKind.u64.wrap (X:Int)=(X:Int):=by
  rw[IntKind.wrap_u64];omega
 rw[e1];simp only[aH];have W:(2:Int)^min (Int.toNat 1) IntKind.u64.bits=2:=rfl;rw[W,aIU _ aa,Su aa aa];omega
def Zr{o:bu}{N:Nat}{P X Y Q:ar}{a m b:Int}(W:a=P.length)(V:m=P.length+X.length)(R:b=P.length+X.length+Y.length)(u:1<=X.length)(t:1<=Y.length)(q:X.length+Y.length<N)(M:(P++(X++(Y++Q))).length<=1099511627776)(H:∀z∈P++(X++(Y++Q)),o.ok z=J)(G:gW o.lt X)(F:gW o.lt Y):
  p7 (N+3) o [a,m,b] (P++(X++(Y++Q)))=U (P++(bT o.lt (X++Y)++Q)):=by
 subst W;subst V;subst R;unfold p7;rw[aL M];simp only[nO];have e1:((P.length:Int)).toNat=P.length:=rfl;have D:((P.length:Int)+X.length).toNat=P.length+X.length:=aa;have B:((P.length:Int)+X.length+Y.length).toNat=P.length+X.length+Y.length:=aa;rw[e1,D,B];have A:(P++(X++(Y++Q))).take P.length=P:=av;have y:bp (P++(X++(Y++Q))) P.length (P.length+X.length)=X:=Sv P X _;have x:bp (P++(X++(Y++Q))) (P.length+X.length) (P.length+X.length+Y.length)=Y:=Sw (P:=P++X) (Q:=Q) av av rfl;have w:bp (P++(X++(Y++Q))) P.length (P.length+X.length+Y.length)=X++Y:=Sw (P:=P) (Q:=Q) av rfl dl;have v:(P++(X++(Y++Q))).drop (P.length+X.length+Y.length)=Q:=by
  have:P++(X++(Y++Q))=(P++(X++Y))++Q:=av;rw[this,ZN dl]
 rw[A,y,x,w,v,aL];simp only[aw,ce,fZ,an7];refine⟨⟨⟨⟨⟨⟨⟨aa,aa⟩,aa⟩, ?_⟩,aa⟩,H⟩,G⟩,F⟩;simp only[gP];omega
def Zs{lt:aF->aF->Bool}(h:Q=[]\/F=[])(W:gW lt Q)(V:gW lt F):bT lt (Q++F)=Q++F:=by
 rcases h with rfl|rfl;simpa using Vh V;simpa using Vh W
def aEu{B X:ar}{a m b:Int}(W:a=Y Q)(V:m=Y Q+Y F)(R:b=Y Q+Y F+Y B)(w:1<=Y F)(v:1<=Y B)(M:(Q++(F++(B++X))).length<=1099511627776):
  p7 1 A [a,m,b] (Q++(F++(B++X)))=U (Q++(B++(F++X))):=by
 subst W;subst V;subst R;unfold p7;rw[aL M];simp only[nO];have e1:((Y Q:Int)).toNat=Y Q:=rfl;have H:((Y Q:Int)+Y F).toNat=Y Q+Y F:=aa;have G:((Y Q:Int)+Y F+Y B).toNat=Y Q+Y F+Y B:=aa;rw[e1,H,G];have D:(Q++(F++(B++X))).take (Y Q)=Q:=av;have z:bp (Q++(F++(B++X))) (Y Q) (Y Q+Y F)=F:=Sv Q F _;have y:bp (Q++(F++(B++X))) (Y Q+Y F) (Y Q+Y F+Y B)=B:=Sw (P:=Q++F) (Q:=X) av av rfl;have x:(Q++(F++(B++X))).drop (Y Q+Y F+Y B)=X:=by
  have:Q++(F++(B++X))=(Q++(F++B))++X:=av;rw[this,ZN dl]
 rw[D,z,y,x,aL];simp only[aw,ce,gP];omega
abbrev N9:K:=.bin .sub I (.bin .add I eA (.v 1)) (.v 3)
section
variable{f d g e N:Nat}{o:bu}{h:HP}{O:ai}{L:dG}{a m b s r mid e1:Nat}
structure J7(O:ai)(a m b s:Nat)(mid e1:Nat):Prop where
 va:O.i.getD 0 0=a
 vm:O.i.getD 1 0=m
 vb:O.i.getD 2 0=b
 vs:O.i.getD 3 0=s
 Sx:eA.ab O=mid
 ve:N9.ab O=e1
def J7.add{rv:RV}(H:J7 O a m b s mid e1):J7 (O.add (.r rv)) a m b s mid e1:=by
 have X:∀(x:Nat),K.ab (O.add (.r rv)) (.v x)=K.ab O (.v x):=λx=>rfl
 exact⟨H.va,H.vm,H.vb,H.vs,by rw[<-H.Sx];rfl,by rw[<-H.ve];rfl⟩
def EY(H:J7 O a m b s mid e1)(M:h.e=e){t:bz}{y x w:S}{v:Value}{W V:ar}(R:O.rv X=.mk v (Q++(F++(W++V))))(q:X+1=Y O.r)(G:h.v=v)(D:h.aE=Q++(bT o.lt (F++W)++V))
  (hP:Y Q=mid)(hX:Y F=e1-mid)(hY:Y W=b-e1)(h1:mid<=e1)(h2:e1<=b)(hN:b-mid<N)(p:(Q++(F++(W++V))).length<=1099511627776)(n:∀z∈Q++(F++(W++V)),o.ok z=J)(B:gW o.lt F)(A:gW o.lt W)
  (k:y.rs[X+1]?=U (.own e))(j:x.rs[X]?=U (.own e))(i:w.rs[X]?=U (.own e)):
  T.hw h (.aV (.cmp .lss eA N9) (.aV (.cmp .lss N9 (.v 2)) (.eL f g e (.dD (N+3) o [eA,N9,.v 2]) E (.v X) t (.out .normal y)) (.out .normal x)) (.out .normal w)) O L:=by
 have u:K.ab O (.v 2)=b:=H.vb;rw[xN];simp only[BE.ab,fA,H.Sx,H.ve,ce];refine uL (λd=> ?_) (λd=> ?_);rw[xN];simp only[BE.ab,fA,H.ve,u,ce];refine uL (λq2=> ?_) (λq2=> ?_);rw[C8];refine⟨Q++(bT o.lt (F++W)++V), ?_, ?_⟩;simp only[lg,dU,pP,H.Sx,H.ve,u,RE.rv,R,RV.nN];exact Zr aa aa aa aa aa aa p n B A;rw[C9];refine⟨.inl rfl,X+1,by rw[M];exact k, ?_⟩;have af:(O.rv X).val=v:=by rw[R];rfl
 rw[show(RE.v X).rv O=O.rv X from rfl,af,G,D];simp[ai.add,ai.rv,q];rw[C9];refine⟨.inl rfl,X,by rw[M];exact j, ?_⟩;rw[R,G,D,Zs (.inr (tM aa)) B A];simp;rw[C9];refine⟨.inl rfl,X,by rw[M];exact i, ?_⟩;rw[R,G,D,Zs (.inl (tM aa)) B A];simp
def aiJ(H:J7 O a m b s mid e1){x:bz}{B A:T}{v:Value}{W R:ar}(V:O.rv X=.mk v (Q++(F++(W++R))))
  (i:Y Q=a)(d:Y F=s-a)(hY:Y W=mid-s)(h1:a<=s)(h2:s<=mid)(hN:mid-a<N)(w:(Q++(F++(W++R))).length<=1099511627776)(t:∀z∈Q++(F++(W++R)),o.ok z=J)(M:gW o.lt F)(G:gW o.lt W)
  (q:T.hw h u (O.add (.r (.mk v (Q++(bT o.lt (F++W)++R))))) L)(p:O.rv X=.mk v (Q++(bT o.lt (F++W)++R))->T.hw h B O L)(n:O.rv X=.mk v (Q++(bT o.lt (F++W)++R))->T.hw h A O L):
  T.hw h (.aV (.cmp .lss (.v 0) (.v 3)) (.aV (.cmp .lss (.v 3) eA) (.eL f g e (.dD (N+3) o [.v 0,.v 3,eA]) E (.v X) x u) B) A) O L:=by
 have y:K.ab O (.v 0)=a:=H.va;have D:K.ab O (.v 3)=s:=H.vs;rw[xN];simp only[BE.ab,fA,y,D,ce];refine uL (λk=> ?_) (λk=> ?_);rw[xN];simp only[BE.ab,fA,H.Sx,D,ce];refine uL (λj=> ?_) (λj=> ?_);rw[C8];refine⟨Q++(bT o.lt (F++W)++R), ?_, ?_⟩;simp only[lg,dU,pP,H.Sx,y,D,RE.rv,V,RV.nN];exact Zr aa aa aa aa aa aa w t M G;simp only[RE.rv,V,RV.nM];exact q;refine p ?_;rw[V,Zs (.inr (tM aa)) M G];simp;refine n ?_;rw[V,Zs (.inl (tM aa)) M G];simp
def aEv(H:J7 O a m b s mid e1){z:bz}{M G:T}{v:Value}{B R:ar}(W:O.rv X=.mk v (Q++(F++(B++R))))
  (n:Y Q=s)(k:Y F=m-s)(j:Y B=e1-m)(i:s<=m)(f:m<=e1)(y:(Q++(F++(B++R))).length<=1099511627776)
  (x:T.hw h u (O.add (.r (.mk v (Q++(B++(F++R)))))) L)(w:O.rv X=.mk v (Q++(B++(F++R)))->T.hw h M O L)(t:O.rv X=.mk v (Q++(B++(F++R)))->T.hw h G O L):
  T.hw h (.aV (.cmp .lss (.v 3) (.v 1)) (.aV (.cmp .lss (.v 1) N9) (.eL d g e (.dD 1 o [.v 3,.v 1,N9]) E (.v X) z u) M) G) O L:=by
 have V:K.ab O (.v 1)=m:=H.vm;have D:K.ab O (.v 3)=s:=H.vs;rw[xN];simp only[BE.ab,fA,V,D,ce];refine uL (λq=> ?_) (λq=> ?_);rw[xN];simp only[BE.ab,fA,H.ve,V,ce];refine uL (λp=> ?_) (λp=> ?_);rw[C8];refine⟨Q++(B++(F++R)), ?_, ?_⟩;simp only[lg,dU,pP,H.ve,V,D,RE.rv,W,RV.nN];exact aEu aa aa aa aa aa y;simp only[RE.rv,W,RV.nM];exact x;refine w ?_;have:B=[]:=tM aa;rw[W,this];simp;refine t ?_;have:F=[]:=tM aa;rw[W,this];simp
end
section
variable{f d e g N:Nat}{o:bu}{O:ai}{L:dG}{a m b s mid e1:Nat}{l:my}
def vW{O:ai}{v:RV}(h:X=Y O.r):(O.add (.r v)).rv X=v:=by subst h;simp[ai.rv,ai.add]
def aEw(bc:mc o.lt (λx=>o.ok x=J))(H:J7 O a m b s mid e1){v:Value}(an:Y O.r=2)(hc:O.rv 1=.mk v Q)
  (h1:a<=s)(h2:s<=m)(h3:m<=e1)(D:e1<=b)(hb:b<=Y Q)(aC:s<=mid)(bl:mid+m=e1+s)(a0:mid-a<N)(w:b-mid<N)(hl:Y Q<=1099511627776)(a9:∀z∈Q,o.ok z=J)(sA:gW o.lt (bp Q a m))(sB:gW o.lt (bp Q m b))
  (q1:∀i j,a<=i->i<s->e1<=j->j<b->o.lt (Q.getD j []) (Q.getD i [])=E)(q2:∀i j,s<=i->i<m->m<=j->j<e1->o.lt (Q.getD j []) (Q.getD i [])=J)
  (ba:F=Q.take a++(bT o.lt (bp Q a b)++Q.drop b)):T.hw ⟨l,g,o,e,v,F⟩ (St e g d f N o) O L:=by
 have bd:=az3 bc a9 h1 h2 h3 D hb sA sB q1 q2;have e0:Q=Q.take a++(bp Q a s++(bp Q s m++(bp Q m e1++(bp Q e1 b++Q.drop b)))):=by
  have:=L4 Q (show a<=b from aa);rw[qf Q (show a<=s from aa) (show s<=b from aa),qf Q h2 (show m<=b from aa),qf Q h3 D] at this;simpa using this.symm
 have l1:(bp Q a s).length=s-a:=rO Q aa;have l2:(bp Q s m).length=m-s:=rO Q aa;have l3:(bp Q m e1).length=e1-m:=rO Q aa;have u:(bp Q e1 b).length=b-e1:=rO Q aa;have lP:(Q.take a).length=a:=dl;rw[qf Q h1 h2] at sA;rw[qf Q h3 D] at sB;have a1:gW o.lt (bp Q a s):=(oc.1 sA).1;have t:gW o.lt (bp Q s m):=(oc.1 sA).2.1;have a3:gW o.lt (bp Q m e1):=(oc.1 sB).1;have q:gW o.lt (bp Q e1 b):=(oc.1 sB).2.1;rw[bd] at ba;have bf:∀x,(x∈Q.take a\/x∈bp Q a s\/x∈bp Q s m\/x∈bp Q m e1\/x∈bp Q e1 b\/x∈Q.drop b)->o.ok x=true:=λx hx=>a9 x (by
  rcases hx with h|h|h|h|h|h;exact E2 h;exact u7 h;exact u7 h;exact u7 h;exact u7 h;exact Bl h)
 rw[e0] at hc hl;generalize Q.take a=P at*;generalize bp Q a s=W at*;generalize bp Q s m=B at*;generalize bp Q m e1=V at*;generalize bp Q e1 b=y at*;generalize Q.drop b=X at*;have p:F=(P++bT o.lt (W++V))++(bT o.lt (B++y)++X):=by rw[ba];simp
 have bg:∀x∈bT o.lt (W++V),x∈W\/x∈V:=λx hx=>by simpa using ID hx
 have bb:(bT o.lt (W++V)).length=mid-a:=by rw[mZ];simp;omega
 have br:Y P+(Y W+(Y B+(Y V+(Y y+Y X))))<=1099511627776:=by simpa using hl
 have aA:∀z∈P++(W++(V++(B++(y++X)))),o.ok z=true:=λz hz=>bf z (by
  simp only[eW] at hz;rcases hz with h|h|h|h|h|h;exact .inl h;exact .inr (.inl h);exact .inr (.inr (.inr (.inl h)));exact .inr (.inr (.inl h));exact .inr (.inr (.inr (.inr (.inl h))));exact .inr (.inr (.inr (.inr (.inr h)))))
 have n:∀z∈(P++bT o.lt (W++V))++(B++(y++X)),o.ok z=true:=λz hz=>aA z (by
  simp only[eW] at hz⊢;rcases hz with(h|h)|h|h|h;exact .inl h;rcases bg z h with h|h;exact .inr (.inl h);exact .inr (.inr (.inl h));exact .inr (.inr (.inr (.inl h)));exact .inr (.inr (.inr (.inr (.inl h))));exact .inr (.inr (.inr (.inr (.inr h)))))
 have lU:(P++(W++(V++(B++(y++X))))).length<=1099511627776:=dl;have k:((P++bT o.lt (W++V))++(B++(y++X))).length<=1099511627776:=by simp only[gP,bb];omega
 have c:(P++bT o.lt (W++V)).length=mid:=by simp only[gP,bb];omega
 have af:Y B=e1-mid:=aa;have bk:O.rv 1=.mk v ((P++W)++(B++(V++(y++X)))):=by rw[hc];simp
 have a4:∀R:ar,(P++W)++(V++R)=P++(W++(V++R)):=λR=>av
 have ag:∀R:ar,P++(bT o.lt (W++V)++R)=(P++bT o.lt (W++V))++R:=λR=>av
 unfold St;refine aEv H bk dl l2 l3 h2 h3 dl ?_ (λal=> ?_) (λal=> ?_);have al:=vW (v:=.mk v ((P++W)++(V++(B++(y++X))))) (show 2=Y O.r from aa);rw[a4] at al⊢;have M:=H.add (rv:=.mk v (P++(W++(V++(B++(y++X))))));have G:(O.add (.r (.mk v (P++(W++(V++(B++(y++X)))))))).r.length=3:=by simp[ai.add,an]
 refine aiJ M al lP l1 aa h1 aC a0 lU aA a1 a3 ?_ (λA=> ?_) (λA=> ?_);refine EY M.add rfl ((vW (show 3=_ from G.symm)).trans (by rw[ag])) (by simp[ai.add,an]) rfl p c af u aa D w k n t q rfl rfl rfl;refine EY M rfl (A.trans (by rw[ag])) (show 2+1=_ from G.symm) rfl p c af u aa D w k n t q rfl rfl rfl;refine EY M rfl (A.trans (by rw[ag])) (show 2+1=_ from G.symm) rfl p c af u aa D w k n t q rfl rfl rfl;rw[a4] at al;have M:=H;have G:=an;refine aiJ M al lP l1 aa h1 aC a0 lU aA a1 a3 ?_ (λA=> ?_) (λA=> ?_);refine EY M.add rfl ((vW (show 2=_ from G.symm)).trans (by rw[ag])) (by simp[ai.add,G]) rfl p c af u aa D w k n t q rfl rfl rfl;refine EY M rfl (A.trans (by rw[ag])) (show 1+1=_ from G.symm) rfl p c af u aa D w k n t q rfl rfl rfl;refine EY M rfl (A.trans (by rw[ag])) (show 1+1=_ from G.symm) rfl p c af u aa D w k n t q rfl rfl rfl;rw[a4] at al;have M:=H;have G:=an;refine aiJ M al lP l1 aa h1 aC a0 lU aA a1 a3 ?_ (λA=> ?_) (λA=> ?_);refine EY M.add rfl ((vW (show 2=_ from G.symm)).trans (by rw[ag])) (by simp[ai.add,G]) rfl p c af u aa D w k n t q rfl rfl rfl;refine EY M rfl (A.trans (by rw[ag])) (show 1+1=_ from G.symm) rfl p c af u aa D w k n t q rfl rfl rfl;refine EY M rfl (A.trans (by rw[ag])) (show 1+1=_ from G.symm) rfl p c af u aa D w k n t q rfl rfl rfl
end
end
section
attribute[local simp] K.ab BE.ab RE.rv RE.ab fA ai.rv ai.ext ai.add C.xv xN J4 J5 J6 C8 C9 LE.ac oP lg
attribute[local congr] J3
def getD_some(h:X<Y Q):Q[X]?=U (Q.getD X []):=by
 rw[cw,cP h];rfl
def Sy{i j:Nat}(h:i+j<=4398046511104):IntKind.i64.wrap (aH .shr .u64 (IntKind.u64.wrap (aH .add I (i:Int) (j:Int))) 1)=(((i+j)/2:Nat):Int):=by
 rw[Bg h];exact aEt h
def Sz(h:X<Y Q):bp Q X (X+1)=[Q.getD X []]:=by
 have e:Q.getD X []=Q[X]:=by rw[cw,cP h];rfl
 simp only[bp,ZA];rw[Bj h,e];rfl
def aEx(A R:ar)(y x:aF)(W:X=Y A):((A++(x::y::R)).set X y).set (X+1) x=A++(y::x::R):=by
 subst W;rw[ZE _ _ aa,ZT,ZE _ _ aa,ZA];rfl
def da(X:ar)(k:Nat):aF:=X.getD k []
def auv(h:X<Y Q):Q.drop X=da Q X::Q.drop (X+1):=by
 rw[Bj h,da,cw,cP h];rfl
section
variable{d:my}{e g:Nat}{o:bu}{f:RE->K->ap}
def aEy(al:EW d f)(an:mc o.lt (λW=>o.ok W=J)){R:oL}{m b:Nat}(b6:Y Q=X)(hn:X<=1099511627776)(u:∀W∈Q,jP d W)(a0:∀W∈Q,o.ok W=J)
  (hm:m=n+1)(b7:m<b)(hb:b<=Y Q)(sB:gW o.lt (bp Q m b))(bk:F=Q.take n++(bT o.lt (bp Q n b)++Q.drop b)):
  T.hw ⟨d,g,o,e,.slice R X x,F⟩ (aiE e g f) ⟨[(n:Int),m,b],[],[.mk (.slice R X x) Q],[]⟩ []:=by
 subst hm;have M:n<Y Q:=aa;have a1:∀k,k<Y Q->da Q k∈Q:=λk P=>jK (getD_some P)
 have t:∀k,k<Y Q->jP d (da Q k):=λk P=>u _ (a1 k P)
 have L:∀k,k<Y Q->o.ok (da Q k)=true:=λk P=>a0 _ (a1 k P)
 unfold aiE;refine zB (λG=>∃(i j:Nat),G=[.r (.mk (.slice R X x) Q),.i i,.i j]/\n+1<=i/\i<=j/\j<=b/\(∀k,n+1<=k->k<i->o.lt (da Q k) (da Q n)=J)/\∀k,j<=k->k<b->o.lt (da Q k) (da Q n)=E) (λG=>match G with|[_,.i i,.i j]=>j.toNat-i.toNat|_=>0) ⟨n+1,b,rfl,aa,aa,aa,aa,aa⟩ ?_;rintro _ ⟨i,j,rfl,a3,b8,s,a4,a9⟩;by_cases bl:i<j;have p:=Sy (i:=i) (j:=j) aa;have br:i<=(i+j)/2:=aa;have bs:(i+j)/2<j:=aa;generalize hq:(i+j)/2=q at p br bs;simp[bl,p,lenOf];refine⟨aa,aa, ?_⟩;refine Zq al rfl (da Q q) (da Q n) ?_ ?_ (t q aa) (t n M) (L q aa) (L n M) (λc hc=> ?_);simp[p];exact getD_some aa;simp;exact getD_some M;simp[p];refine uL (λbt=> ?_) (λbx=> ?_);rw[EX aa];refine⟨⟨q+1,j,rfl,aa,aa,s,λk D B=> ?_,a9⟩, ?_⟩;have A:=hc.1 bt;by_cases P:k=q;subst P;exact A;have hs:=L5 hb sB (i:=k) (j:=q) aa aa aa;cases h:o.lt (da Q k) (da Q n);have:=an.nt _ _ _ (L q aa) (L k aa) (L n M) hs h;rw[A] at this;cases this;rfl;show(j:Int).toNat-((q+1:Nat):Int).toNat<j-i;omega;have A:o.lt (da Q q) (da Q n)=false:=by
  cases h:o.lt (da Q q) (da Q n);rfl;exact aZ (hc.2 h) bx
 refine⟨⟨i,q,rfl,aa,aa,aa,a4,λk D B=> ?_⟩, ?_⟩;by_cases P:k=q;subst P;exact A;have hs:=L5 hb sB (i:=q) (j:=k) aa aa aa;exact an.nt _ _ _ (L k aa) (L q aa) (L n M) hs A;show((q:Nat):Int).toNat-(i:Int).toNat<j-i;omega;have b0:i=j:=aa;subst b0;simp;have ba:bT o.lt (bp Q n b)=bp Q (n+1) i++da Q n::bp Q i b:=by
  have e0:bp Q n b=da Q n::(bp Q (n+1) i++bp Q i b):=by
   rw[<-qf Q a3 s,qf Q (show n<=n+1 from aa) (show n+1<=b from aa)];have:bp Q n (n+1)=[da Q n]:=Sz M;rw[this];rfl
  rw[e0];refine az0 an (λz H=> ?_) (by rw[<-qf Q a3 s];exact sB) (λy hy=> ?_) (λy hy=> ?_);rw[<-e0] at H;exact a0 z (u7 H);obtain⟨k,k1,k2,_,rfl⟩:=FT hy;exact a4 k k1 k2;obtain⟨k,k1,k2,_,rfl⟩:=FT hy;exact a9 k k1 k2
 have b1:(Q.take n).length=n:=dl;refine zB (λG=>∃(k:Nat)(V:ar),G=[.r (.mk (.slice R X x) V),.i k]/\n<=k/\k+1<=i/\V=(Q.take n++bp Q (n+1) (k+1))++da Q n::Q.drop (k+1)) (λG=>match G with|[_,.i k]=>i-k.toNat|_=>0) ⟨n,Q,av,aa,aa, ?_⟩ ?_;have e1:bp Q (n+1) (n+1)=[]:=by simp[bp]
 have:=L4 Q (show n<=n+1 from aa);rw[Sz M] at this;rw[e1,Kb];exact this.symm;rintro _ ⟨k,V,rfl,ca,cc,N⟩;have bb:aH .sub I (i:Int) 1=((i-1:Nat):Int):=Zp aa aa;have l:(Q.take n++bp Q (n+1) (k+1)).length=k:=by rw[gP,b1,rO Q aa];omega
 by_cases P:k<i-1;have hd:Q.drop (k+1)=da Q (k+1)::Q.drop (k+1+1):=by
  exact auv aa
 have bc:bp Q (n+1) (k+1+1)=bp Q (n+1) (k+1)++[da Q (k+1)]:=by
  rw[qf Q (show n+1<=k+1 from aa) (show k+1<=k+1+1 from aa),Sz aa];rfl
 have af:=t n M;have ag:=t (k+1) aa;have bd:∀z∈V,jP d z:=λz H=>by
  rw[N] at H;simp only[eW,dV] at H;rcases H with(h|h)|h|h;exact u z (E2 h);exact u z (u7 h);subst h;exact af;exact u z (Bl h)
 rw[hd] at N;generalize da Q n=W at af N ba;generalize da Q (k+1)=y at ag N bc;have cf:Y V=X:=by
  rw[N,gP,l];simp;omega
 have gx:V[k]?=U W:=by rw[N,iJ aa,l];simp
 have gy:V[k+1]?=U y:=by rw[N,iJ aa,l];simp
 have c1:∀O:ai,O.r=[.mk (.slice R X x) Q,.mk (.slice R X x) Q,.mk (.slice R X x) V]->O.i=[(n:Int),((n+1:Nat):Int),b,i,i,k]->Bp (C.cj O) (f (.v 2) (.bin .add I (.v 5) (.c 1)))=y:=λO D B=>al.cj O _ _ y (by simp only[RE.rv,ai.rv,K.ab,D,B,Oi,Hl,RV.nN,EX (a:=k) aa];exact gy) ag
 have c2:∀(O:ai) rv,O.r=[.mk (.slice R X x) Q,.mk (.slice R X x) Q,.mk (.slice R X x) V,rv]->O.i=[(n:Int),((n+1:Nat):Int),b,i,i,k]->Bp (C.cj O) (f (.v 2) (.v 5))=W:=λO rv D B=>al.cj O _ _ W (by simp only[RE.rv,ai.rv,K.ab,D,B,Oi,Hl,RV.nN];exact gx) af
 have m1:(V.modify k λaA=>gT aA 0 y)=V.set k y:=Hg bd ag;have m2:((V.set k y).modify (k+1) λaA=>gT aA 0 W)=(V.set k y).set (k+1) W:=Hg (λz H=>by
  rcases E0 H with h|rfl;exact bd z h;exact ag) af
 have aC:(k:Int)<((i-1:Nat):Int):=aa;have bf:=EX (a:=k) aa;generalize hw:((k+1:Nat):Int)=w at bf;have b2:w.toNat=k+1:=aa;have bg:=aEx (Q.take n++bp Q (n+1) (k+1)) (Q.drop (k+1+1)) y W l.symm;rw[<-N] at bg;simp[bb,aC,bf,lenOf];rw[c1 _ rfl rfl,c2 _ _ rfl rfl,b2,m1,m2,bg];refine⟨aa,aa,aa,⟨k+1,_,by rw[hw],aa,aa, ?_⟩, ?_⟩;rw[bc];simp;show i-w.toNat<i-k;omega;have aC:¬(k:Int)<((i-1:Nat):Int):=aa;have b3:k+1=i:=aa;rw[b3] at N;have hd:=L4 (Q.drop 0) (show i<=i from aa);have b4:Q.drop i=bp Q i b++Q.drop b:=by
  have:=qf Q s (show b<=b from aa);simp only[bp];have e:Q.drop b=(Q.drop i).drop (b-i):=by rw[Ol];congr 1;omega
  rw[e,J9]
 have b5:V=F:=by
  rw[N,bk,ba,b4];simp
 simp[bb,aC];exact⟨2,rfl,by rw[b5];rfl⟩
def aEz(ag:EW d f)(al:mc o.lt (λW=>o.ok W=J)){R:oL}{m b:Nat}(b7:Y Q=X)(hn:X<=1099511627776)(u:∀W∈Q,jP d W)(a4:∀W∈Q,o.ok W=J)
  (hm:b=m+1)(b8:n<m)(hb:b<=Y Q)(sA:gW o.lt (bp Q n m))(bk:F=Q.take n++(bT o.lt (bp Q n b)++Q.drop b)):
  T.hw ⟨d,g,o,e,.slice R X x,F⟩ (aiF e g f) ⟨[(n:Int),m,b],[],[.mk (.slice R X x) Q],[]⟩ []:=by
 subst hm;have M:m<Y Q:=aa;have a9:∀k,k<Y Q->da Q k∈Q:=λk N=>jK (getD_some N)
 have t:∀k,k<Y Q->jP d (da Q k):=λk N=>u _ (a9 k N)
 have L:∀k,k<Y Q->o.ok (da Q k)=true:=λk N=>a4 _ (a9 k N)
 unfold aiF;refine zB (λP=>∃(i j:Nat),P=[.r (.mk (.slice R X x) Q),.i i,.i j]/\n<=i/\i<=j/\j<=m/\(∀k,n<=k->k<i->o.lt (da Q m) (da Q k)=E)/\∀k,j<=k->k<m->o.lt (da Q m) (da Q k)=J) (λP=>match P with|[_,.i i,.i j]=>j.toNat-i.toNat|_=>0) ⟨n,m,rfl,aa,aa,aa,aa,aa⟩ ?_;rintro _ ⟨i,j,rfl,an,ca,aA,ba,bb⟩;by_cases bl:i<j;have s:=Sy (i:=i) (j:=j) aa;have br:i<=(i+j)/2:=aa;have bs:(i+j)/2<j:=aa;generalize hq:(i+j)/2=q at s br bs;simp[bl,s,lenOf];refine⟨aa,aa, ?_⟩;refine Zq ag rfl (da Q m) (da Q q) ?_ ?_ (t m M) (t q aa) (L m M) (L q aa) (λc hc=> ?_);simp;exact getD_some M;simp[s];exact getD_some aa;simp[s];refine uL (λcc=> ?_) (λcf=> ?_);rw[EX aa];have D:o.lt (da Q m) (da Q q)=false:=by
  cases h:o.lt (da Q m) (da Q q);rfl;have:=hc.2 h;omega
 refine⟨⟨q+1,j,rfl,aa,aa,aA,λk B G=> ?_,bb⟩, ?_⟩;by_cases N:k=q;subst N;exact D;have hs:=L5 (show m<=Y Q from aa) sA (i:=k) (j:=q) aa aa aa;exact al.nt _ _ _ (L m M) (L q aa) (L k aa) D hs;show(j:Int).toNat-((q+1:Nat):Int).toNat<j-i;omega;have D:o.lt (da Q m) (da Q q)=true:=hc.1 aa;refine⟨⟨i,q,rfl,aa,aa,aa,ba,λk B G=> ?_⟩, ?_⟩;by_cases N:k=q;subst N;exact D;have hs:=L5 (show m<=Y Q from aa) sA (i:=q) (j:=k) aa aa aa;cases h:o.lt (da Q m) (da Q k);have:=al.nt _ _ _ (L m M) (L k aa) (L q aa) h hs;rw[D] at this;cases this;rfl;show((q:Nat):Int).toNat-(i:Int).toNat<j-i;omega;have bt:i=j:=aa;subst bt;simp;have bx:bT o.lt (bp Q n (m+1))=bp Q n i++da Q m::bp Q i m:=by
  have e0:bp Q n (m+1)=bp Q n i++bp Q i m++[da Q m]:=by
   rw[<-qf Q an aA,qf Q (show n<=m from aa) (show m<=m+1 from aa),Sz M];rfl
  rw[e0];refine az1 al (λz H=> ?_) (by rw[<-qf Q an aA];exact sA) (λy hy=> ?_) (λy hy=> ?_);rw[<-e0] at H;exact a4 z (u7 H);obtain⟨k,k1,k2,_,rfl⟩:=FT hy;exact ba k k1 k2;obtain⟨k,k1,k2,_,rfl⟩:=FT hy;exact bb k k1 k2
 refine zB (λP=>∃(k:Nat)(V:ar),P=[.r (.mk (.slice R X x) V),.i k]/\i<=k/\k<=m/\V=Q.take k++da Q m::(bp Q k m++Q.drop (m+1))) (λP=>match P with|[_,.i k]=>k.toNat|_=>0) ⟨m,Q,av,aa,aa, ?_⟩ ?_;have e1:bp Q m m=[]:=by simp[bp]
 rw[e1,eK,<-auv M,J9];rintro _ ⟨k,V,rfl,ch,cl,bc⟩;by_cases N:i<k;obtain⟨q,rfl⟩:∃q,k=q+1:=⟨k-1,aa⟩;have aC:aH .sub I (((q+1:Nat)):Int) 1=(q:Int):=by rw[Zp aa aa];omega
 have p:(Q.take q).length=q:=dl;have b0:Q.take (q+1)=Q.take q++[da Q q]:=by
  rw[avD,getD_some (show q<Y Q from aa)];rfl
 have b1:bp Q q m=da Q q::bp Q (q+1) m:=by
  rw[qf Q (show q<=q+1 from aa) (show q+1<=m from aa),Sz aa];rfl
 have a0:=t m M;have l:=t q aa;have A:V=Q.take q++(da Q q::da Q m::(bp Q (q+1) m++Q.drop (m+1))):=by rw[bc,b0];simp
 have bd:∀z∈V,jP d z:=λz H=>by
  rw[A] at H;simp only[eW,dV] at H;rcases H with h|h|h|h|h;exact u z (E2 h);subst h;exact l;subst h;exact a0;exact u z (u7 h);exact u z (Bl h)
 have bf:=aut (Q.take q) (bp Q (q+1) m++Q.drop (m+1)) (da Q q) (da Q m) p.symm;rw[<-A] at bf;have cn:Y V=X:=by
  rw[A,gP,p];simp only[kV,gP,rO Q (show m<=Y Q from aa),Df];omega
 have gx:V[q+1]?=U (da Q m):=by rw[A,iJ aa,p];simp
 have gy:V[q]?=U (da Q q):=by rw[A,iJ aa,p];simp
 have bg:(i:Int)<((q+1:Nat):Int):=aa;have b2:((q+1:Nat):Int)<X:=aa;have a1:((q+1:Nat):Int).toNat=q+1:=rfl;have b3:(0:Int)<=((q+1:Nat):Int):=aa;have b4:∀af,af=Q.take q++da Q m::(bp Q q m++Q.drop (m+1))->J2 (U ⟨1,λP=>∃(k:Nat)(V:ar),P=[.r (.mk (.slice R X x) V),.i k]/\i<=k/\k<=m/\V=Q.take k++da Q m::(bp Q k m++Q.drop (m+1)),λP=>match P with|[_,.i k]=>k.toNat|_=>0,q+1⟩) [.r (.mk (.slice R X x) af),.i q]:=λaf G=>⟨⟨q,af,rfl,aa,aa,G⟩,show(q:Int).toNat<q+1 from aa⟩
 generalize hw:((q+1:Nat):Int)=w at aC bg b2 a1 b3⊢;have c1:∀O:ai,O.r=[.mk (.slice R X x) Q,.mk (.slice R X x) Q,.mk (.slice R X x) V]->O.i=[(n:Int),m,((m+1:Nat):Int),i,i,w]->Bp (C.cj O) (f (.v 2) (.bin .sub I (.v 5) (.c 1)))=da Q q:=λO B G=>ag.cj O _ _ _ (by simp only[RE.rv,ai.rv,K.ab,B,G,Oi,Hl,RV.nN,aC];exact gy) l
 have c2:∀(O:ai) rv,O.r=[.mk (.slice R X x) Q,.mk (.slice R X x) Q,.mk (.slice R X x) V,rv]->O.i=[(n:Int),m,((m+1:Nat):Int),i,i,w]->Bp (C.cj O) (f (.v 2) (.v 5))=da Q m:=λO rv B G=>ag.cj O _ _ _ (by simp only[RE.rv,ai.rv,K.ab,B,G,Oi,Hl,RV.nN,a1];exact gx) a0
 have m1:(V.modify (q+1) λa3=>gT a3 0 (da Q q))=V.set (q+1) (da Q q):=Hg bd l;have m2:((V.set (q+1) (da Q q)).modify q λa3=>gT a3 0 (da Q m))=(V.set (q+1) (da Q q)).set q (da Q m):=Hg (λz H=>by
  rcases E0 H with h|rfl;exact bd z h;exact l) a0
 simp[aC,bg,lenOf];rw[c1 _ rfl rfl,c2 _ _ rfl rfl,a1,m1,m2,bf];refine⟨aa,aa,aa, ?_⟩;exact b4 _ (by rw[b1];simp);have b5:k=i:=aa;subst b5;have b6:V=F:=by
  have ht:Q.take k=Q.take n++bp Q n k:=by
   have e1:=L4 Q an;have e2:(Q.take n++bp Q n k).length=k:=by rw[gP,rO Q aa];simp;omega
   calc Q.take k=(Q.take n++bp Q n k++Q.drop k).take k:=by rw[Bn,e1]
    _=_:=by rw[avl aa,Hj aa]
  rw[bc,bk,bx,ht];simp
 simp;exact⟨2,rfl,by rw[b6];rfl⟩
end
end
section
attribute[local simp] K.ab BE.ab RE.rv RE.ab fA ai.rv ai.ext ai.add C.xv xN J4 J5 J6 C8 C9 LE.ac oP lg
attribute[local congr] J3
section
variable{d:my}{e g l t N:Nat}{o:bu}{f:RE->K->ap}
def auw(a4:EW d f)(O:mc o.lt (λW=>o.ok W=J)){G:oL}{m b lo hi:Nat}(bl:Y Q=X)(hn:X<=1099511627776)(hT:∀W∈Q,jP d W)(ag:∀W∈Q,o.ok W=J)
  (br:n<m)(bs:m<b)(hb:b<=Y Q)(hN:b-n<N+1)(bt:2<=b-n)(sA:gW o.lt (bp Q n m))(sB:gW o.lt (bp Q m b))(a9:F=Q.take n++(bT o.lt (bp Q n b)++Q.drop b))
  (l1:n<=lo)(l2:lo<=hi)(l3:hi<=m)(l4:hi<=(n+b)/2)(l5:(n+b)/2+m<=lo+b)(l6:lo=n\/lo+b=(n+b)/2+m)(l7:hi=m\/hi=(n+b)/2)
  {ks:aU}(ba:c.map (C.xv ⟨[(n:Int),m,b],[],[.mk (.slice G X x) Q],[]⟩)=[.r (.mk (.slice G X x) Q),.i lo,.i hi]):
  T.hw ⟨d,g,o,e,.slice G X x,F⟩ (.loop 0 ks c (.aV (.cmp .lss (.v 3) (.v 4)) (Zm g f) (St e g l t N o))) ⟨[(n:Int),m,b],[],[.mk (.slice G X x) Q],[]⟩ []:=by
 have al:∀k,k<Y Q->da Q k∈Q:=λk D=>jK (getD_some D)
 have an:∀k,k<Y Q->jP d (da Q k):=λk D=>hT _ (al k D)
 have R:∀k,k<Y Q->o.ok (da Q k)=true:=λk D=>ag _ (al k D)
 have w:=Sy (i:=n) (j:=b) aa;have bx:n<(n+b)/2/\(n+b)/2<b:=aa;generalize b0:(n+b)/2=P at*;have u:∀i j,n<=i->i<=j->j<m->o.lt (da Q j) (da Q i)=false:=λi j M B A=>by
  by_cases h:i=j;subst h;exact O.Vg _ (R i aa);exact L5 (show m<=Y Q from aa) sA M aa A
 have p:∀i j,m<=i->i<=j->j<b->o.lt (da Q j) (da Q i)=false:=λi j M B A=>by
  by_cases h:i=j;subst h;exact O.Vg _ (R i aa);exact L5 hb sB M aa A
 refine zB (λxs=>∃(s r:Nat),xs=[.r (.mk (.slice G X x) Q),.i s,.i r]/\lo<=s/\s<=r/\r<=hi/\(∀V,lo<=V->V<s->o.lt (da Q (P+m-1-V)) (da Q V)=E)/\∀V,r<=V->V<hi->o.lt (da Q (P+m-1-V)) (da Q V)=J) (λxs=>match xs with|[_,.i i,.i j]=>j.toNat-i.toNat|_=>0) ⟨lo,hi,ba,aa,l2,aa,aa,aa⟩ ?_;rintro _ ⟨s,r,rfl,b1,b2,bb,aA,aC⟩;by_cases bc:s<r;have z:=Sy (i:=s) (j:=r) aa;have bd:s<=(s+r)/2:=aa;have bf:(s+r)/2<r:=aa;generalize hq:(s+r)/2=q at z bd bf;have a0:=Bg (a:=P) (b:=m) aa;have a1:=Zp (a:=P+m) aa aa;have a3:=zC (a:=P+m-1) (b:=q) aa aa;unfold Zm;simp[bc,z,lenOf,w];rw[a0,a1,a3];refine⟨aa,aa, ?_⟩;refine Zq a4 rfl (da Q (P+m-1-q)) (da Q q) ?_ ?_ (an _ aa) (an q aa) (R _ aa) (R q aa) (λV hc=> ?_);simp[z,w];rw[a0,a1,a3];exact getD_some aa;simp[z];exact getD_some aa;simp[z];refine uL (λb3=> ?_) (λb4=> ?_);rw[EX aa];have af:o.lt (da Q (P+m-1-q)) (da Q q)=false:=by
  cases h:o.lt (da Q (P+m-1-q)) (da Q q);rfl;have:=hc.2 h;omega
 refine⟨⟨q+1,r,rfl,aa,aa,bb,λk M B=> ?_,aC⟩, ?_⟩;have L:=u k q aa aa aa;have H:=p (P+m-1-q) (P+m-1-k) aa aa aa;have t3:=O.nt _ _ _ (R _ aa) (R _ aa) (R q aa) H af;exact O.nt _ _ _ (R _ aa) (R q aa) (R k aa) t3 L;show(r:Int).toNat-((q+1:Nat):Int).toNat<r-s;omega;have af:o.lt (da Q (P+m-1-q)) (da Q q)=true:=hc.1 aa;refine⟨⟨s,q,rfl,aa,aa,aa,aA,λk M B=> ?_⟩, ?_⟩;cases h:o.lt (da Q (P+m-1-k)) (da Q k);have L:=u q k aa aa aa;have H:=p (P+m-1-k) (P+m-1-q) aa aa aa;have t3:=O.nt _ _ _ (R _ aa) (R _ aa) (R k aa) H h;have y:=O.nt _ _ _ (R _ aa) (R k aa) (R q aa) t3 L;rw[af] at y;cases y;rfl;show((q:Nat):Int).toNat-(s:Int).toNat<r-s;omega;have bg:s=r:=aa;subst bg;simp;refine aEw O (a:=n) (m:=m) (b:=b) (s:=s) (mid:=P) (e1:=P+m-s) ⟨rfl,rfl,rfl,rfl, ?_, ?_⟩ rfl rfl aa aa aa aa hb aa aa aa aa aa ag sA sB (λi j M B A h4=> ?_) (λi j M B A h4=> ?_) a9;simp[w];simp[w];rw[Bg aa,zC aa aa];have bk:lo<s:=by
  rcases l6 with h|h<;>omega
 have t0:=aA (s-1) aa aa;rw[show P+m-1-(s-1)=P+m-s from aa] at t0;have L:=u i (s-1) aa aa aa;have H:=p (P+m-s) j aa aa aa;have t3:=O.nt _ _ _ (R j aa) (R _ aa) (R (s-1) aa) H t0;exact O.nt _ _ _ (R j aa) (R (s-1) aa) (R i aa) t3 L;have bk:s<hi:=by
  rcases l7 with h|h<;>omega
 have t0:=aC s aa aa;cases h:o.lt (da Q j) (da Q i);have L:=u s i aa aa aa;have H:=p j (P+m-1-s) aa aa aa;have t3:=O.nt _ _ _ (R _ aa) (R j aa) (R i aa) H h;have y:=O.nt _ _ _ (R _ aa) (R i aa) (R s aa) t3 L;rw[t0] at y;cases y;exact h
def aEA{a m b:Int}:nO (X+4) A [a,m,b] Q=if decide (0<=a)&&decide (a<m)&&decide (m<b)&&decide (b<=Y Q)&&decide (b-a<((X+1:Nat):Int))&&Q.all A.ok&&yo A.lt (bp Q a.toNat m.toNat)&&yo A.lt (bp Q m.toNat b.toNat) then U (Q.take a.toNat++(bT A.lt (bp Q a.toNat b.toNat)++Q.drop b.toNat)) else none:=rfl
def aux(W:EW d f)(V:mc o.lt (λx=>o.ok x=J)):Ss d e g o (N+4) 3 (Zn e g l t N o f):=by
 rintro p _ A aE ns z y ⟨w,n,v,rfl,R,Q⟩ P u D s;obtain⟨a,m,b,rfl⟩:=Da u;obtain⟨_,X⟩:=BU D;clear D;rw[aEA] at X;split at X;rename_i B;simp only[aw,ce,fZ,an7] at B;obtain⟨⟨⟨⟨⟨⟨⟨r,af⟩,ag⟩,al⟩,an⟩,O⟩,M⟩,L⟩:=B;obtain⟨a,rfl⟩:=Bh r;obtain⟨m,rfl⟩:=Bh (a:=m) aa;obtain⟨b,rfl⟩:=Bh (a:=b) aa;simp only[cX,su] at X M L;have H:b<=Y A:=aa;refine zA ⟨d,g,o,e,.slice w n v,aE⟩ (z▸y) s _ _ _ ?_;unfold Zn;have F:=Sy (i:=a) (j:=b) aa;obtain⟨G,q⟩:∃G,G=(a+b)/2:=⟨_,rfl⟩;rw[<-q] at F;simp[zC (a:=m) (b:=a) aa aa,zC (a:=b) (b:=m) aa aa,F];refine uL (λk=> ?_) (λk=>uL (λh=> ?_) (λh=>uL (λc=> ?_) (λc=> ?_)));exact aEy W V R Q P O aa aa H L X.symm;exact aEz W V R Q P O aa aa H M X.symm;refine auw W V R Q P O (lo:=G+m-b) (hi:=G) aa aa H aa aa M L X.symm aa aa aa aa aa aa aa ?_;simp[F];rw[Bg aa,zC aa aa];refine auw W V R Q P O (lo:=a) (hi:=m) aa aa H aa aa M L X.symm aa aa aa aa aa aa aa ?_;simp;cases X
end
end
section
attribute[local simp] K.ab BE.ab RE.rv RE.ab fA ai.rv ai.ext ai.add C.xv xN J4 J5 J6 C8 C9 LE.ac oP lg
attribute[local congr] J3
section
variable{lt:aF->aF->Bool}
inductive lD(lt:List RV->List RV->Bool)(s:Nat):List (List RV)->List (List RV)->Prop
 |nil:lD lt s [] []
 |last (X:List (List RV)):1<=Y X->Y X<=s->lD lt s X (bT lt X)
 |cons (X R R':List (List RV)):Y X=s->lD lt s R R'->lD lt s (X++R) (bT lt X++R')
inductive xO(lt:List RV->List RV->Bool)(s:Nat):List (List RV)->List (List RV)->Prop
 |nil:xO lt s [] []
 |snoc (A A' X:List (List RV)):Y X=s->xO lt s A A'->xO lt s (A++X) (A'++bT lt X)
def xO.kq(h:xO lt X Q F):∀{R V:ar},lD lt X R V->lD lt X (Q++R) (F++V):=by
 induction h with
 |nil=>intro R V P;exact P
 |snoc Q F W O _ N=>
  intro R V P;have:=N (.cons W R V O P);simpa using this
def xO.len(h:xO lt X Q F):Y F=Y Q:=by
 induction h with
 |nil=>rfl
 |snoc Q F W R _ V=>simp[V,mZ]
def lD.len(h:lD lt X Q F):Y F=Y Q:=by
 induction h with
 |nil=>rfl
 |last W _ _=>simp[mZ]
 |cons W R P O _ V=>simp[V,mZ]
def xO.mem(h:xO lt X Q F):∀x∈F,x∈Q:=by
 induction h with
 |nil=>simp
 |snoc Q F W V _ R=>
  intro x V;rcases eW.1 V with h|h;simp[R x h];simp[ID h]
def lD.mem(h:lD lt X Q F):∀x∈F,x∈Q:=by
 induction h with
 |nil=>simp
 |last W _ _=>intro x V;exact ID V
 |cons W R O V _ P=>
  intro x V;rcases eW.1 V with h|h;simp[ID h];simp[P x h]
def lD.two(D:1<=X)(h:lD lt X Q F)(N:2*X<=Y Q):∃W V P O,Q=W++(V++P)/\F=bT lt W++(bT lt V++O)/\Y W=X/\Y V=X/\lD lt X P O:=by
 cases h with
 |nil=>simp at N;omega
 |last _ L H=>omega
 |cons W Q F M h=>
  simp only[gP] at N;cases h with
  |nil=>simp at N;omega
  |last _ L H=>exact⟨W,Q,[],[],av,av,M,aa,.nil⟩
  |cons V P O G h=>exact⟨W,V,P,O,rfl,rfl,M,G,h⟩
def lD.one(h:lD lt X Q F)(O:X<Y Q)(N:Y Q<2*X):∃W V,Q=W++V/\F=bT lt W++bT lt V/\Y W=X:=by
 cases h with
 |nil=>simp at O
 |last _ O N=>omega
 |cons W Q F M h=>
  simp only[gP] at O N;cases h with
  |nil=>simp at O;omega
  |last _ O N=>exact⟨W,Q,rfl,rfl,M⟩
  |cons V P L H h=>simp only[gP] at N;omega
def lD.short(h:lD lt X Q F)(O:Y Q<=X):F=bT lt Q:=by
 cases h with
 |nil=>rfl
 |last _ M L=>rfl
 |cons W Q F H h=>
  simp only[gP] at O;have V:Q=[]:=tM aa;have P:=h.len;rw[V] at P;have N:F=[]:=tM (by simpa using P);rw[V,N];simp
def lD.aiK(W:Y Q<=X):lD lt X Q (bT lt Q):=by
 cases Q with
 |nil=>exact .nil
 |cons x r=>exact .last _ av W
end
def auy{o:bu}{P X Q:ar}{a b:Int}(W:a=Y P)(V:b=Y P+Y X)(R:(P++(X++Q)).length<=1099511627776)(O:∀z∈P++(X++Q),o.ok z=J):
  p7 2 o [a,b] (P++(X++Q))=U (P++(bT o.lt X++Q)):=by
 subst W;subst V;unfold p7;rw[aL R];simp only[nO];have N:((Y P:Int)).toNat=Y P:=rfl;have M:((Y P:Int)+Y X).toNat=Y P+Y X:=aa;rw[N,M];have L:(P++(X++Q)).take (Y P)=P:=av;have H:bp (P++(X++Q)) (Y P) (Y P+Y X)=X:=Sv P X _;have G:(P++(X++Q)).drop (Y P+Y X)=Q:=by
  have:P++(X++Q)=(P++X)++Q:=av;rw[this,ZN av]
 rw[L,H,G,aL];simp only[aw,ce,fZ,gP];exact⟨⟨⟨aa,aa⟩,aa⟩,O⟩
section
variable{d:my}{e g j f:Nat}{o:bu}
def auz(c:mc o.lt (λx=>o.ok x=J)):Zi d e g o (λns H=>if ns=[]/\H.length<X then jh o J H else Z) 0 (Zo e g j f X o):=by
 rintro p _ H aE ns hP bt ⟨D,n,B,rfl,bg,hn⟩ hT hN y bx;simp only at y;split at y;rename_i G;obtain⟨rfl,b8⟩:=G;have ca:=abi y;have b0:(∀x∈H,o.ok x=J)/\aE=bT o.lt H:=by
  cases o with
  |dD k o zs=>simp[jh] at y
  |_=>
   simp only[jh] at y;split at y;rename_i hq;simp only[aw,fZ] at hq;exact⟨hq.2.1,(mQ y).symm⟩;cases y
 obtain⟨a0,b1⟩:=b0;clear y;refine zA ⟨d,g,o,e,.slice D n B,aE⟩ (hP▸bt) bx _ _ _ ?_;unfold Zo;refine zB (λM=>∃(A O R:ar),M=[.r (.mk (.slice D n B) (O++R)),.i ((A.length+20:Nat):Int),.i A.length]/\H=A++R/\xO o.lt 20 A O) (λM=>match M with|[_,_,.i a]=>n-a.toNat|_=>0) ⟨[],[],H,av,rfl,.nil⟩ ?_;rintro _ ⟨A,O,R,rfl,F,v⟩;have b2:=v.len;have a1:A.length+R.length=n:=by rw[<-bg,F];simp
 have ag:∀z∈O++R,o.ok z=true:=λz L=>a0 z (by
  rw[F];rcases eW.1 L with h|h;simp[v.mem z h];simp[h])
 by_cases b3:A.length+20<=n;obtain⟨W,R2,rfl,l⟩:∃W R2,R=W++R2/\W.length=20:=⟨R.take 20,R.drop 20,(J9 _ _).symm,dl⟩;have af:=auy (o:=o) (P:=O) (X:=W) (Q:=R2) (a:=A.length) (b:=((A.length+20:Nat):Int)) aa aa (by simp at a1⊢;omega) ag;have G:((A.length+20:Nat):Int)<=n:=aa;have a3:=Bg (a:=A.length+20) (b:=20) aa;have al:J2 (U ⟨0,λM=>∃(A O R:ar),M=[.r (.mk (.slice D n B) (O++R)),.i ((A.length+20:Nat):Int),.i A.length]/\H=A++R/\xO o.lt 20 A O,λM=>match M with|[_,_,.i a]=>n-a.toNat|_=>0,n-A.length⟩) [.r (.mk (.slice D n B) (O++(bT o.lt W++R2))),.i (aH .add I ((A.length+20:Nat):Int) 20),.i ((A.length+20:Nat):Int)]:=by
  refine⟨⟨A++W,O++bT o.lt W,R2, ?_,by rw[F];simp,.snoc A O W l v⟩, ?_⟩;rw[show((20:Int))=((20:Nat):Int) from rfl,a3];simp[l];show n-((A.length+20:Nat):Int).toNat<n-A.length;omega
 generalize L:((A.length+20:Nat):Int)=z at af G al⊢;simp[lenOf,G];exact⟨_,af,al⟩;have G:¬((A.length+20:Nat):Int)<=n:=aa;have af:=auy (o:=o) (P:=O) (X:=R) (Q:=[]) (a:=A.length) (b:=n) aa aa dl (by simpa using ag);simp only[Kb] at af;generalize L:((A.length+20:Nat):Int)=z at G⊢;have hB:lD o.lt 20 H (O++bT o.lt R):=by rw[F];exact v.kq (.aiK aa)
 simp[lenOf,G];refine⟨_,af, ?_⟩;clear af;generalize cc:O++bT o.lt R=b4 at hB⊢;have cf:∀{u:ar}{s:Nat},lD o.lt s H u->∀z∈u,o.ok z=true:=λh z L=>a0 z (h.mem z L)
 refine zB (λM=>∃(s:Nat)(u:ar),M=[.r (.mk (.slice D n B) u),.i s]/\20<=s/\s<=2*1099511627776/\lD o.lt s H u) (λM=>match M with|[_,.i s]=>4398046511104-s.toNat|_=>0) ⟨20,b4,rfl,aa,aa,hB⟩ ?_;rintro _ ⟨s,u,rfl,ch,cl,bk⟩;by_cases bl:s<n;have ba:aH .mul I 2 (s:Int)=((2*s:Nat):Int):=by simp only[aH];rw[Su aa aa];omega
 have bb:aH .mul I (s:Int) 2=((2*s:Nat):Int):=by simp only[aH];rw[Su aa aa];omega
 have bc:∀a4,lD o.lt (2*s) H a4->J2 (U ⟨1,λM=>∃(s:Nat)(u:ar),M=[.r (.mk (.slice D n B) u),.i s]/\20<=s/\s<=2*1099511627776/\lD o.lt s H u,λM=>match M with|[_,.i s]=>4398046511104-s.toNat|_=>0,4398046511104-s⟩) [.r (.mk (.slice D n B) a4),.i ((2*s:Nat):Int)]:=λa4 h'=>⟨⟨2*s,a4,rfl,aa,aa,h'⟩,show 4398046511104-((2*s:Nat):Int).toNat<4398046511104-s from aa⟩
 generalize br:((2*s:Nat):Int)=w at ba bb bc;simp[bl,lenOf];refine zB (λM=>∃(A O R t:ar),M=[.r (.mk (.slice D n B) (O++t)),.i ((A.length+2*s:Nat):Int),.i A.length]/\H=A++R/\xO o.lt (2*s) A O/\lD o.lt s R t) (λM=>match M with|[_,_,.i a]=>n-a.toNat|_=>0) ⟨[],[],H,u,by simp[ba,<-br],rfl,.nil,bk⟩ ?_;rintro _ ⟨A,O,R,t,rfl,F,v,hR⟩;have b2:=v.len;have bs:=hR.len;have a1:A.length+R.length=n:=by rw[<-bg,F];simp
 have ag:∀z∈O++t,o.ok z=true:=λz L=>a0 z (by
  rw[F];rcases eW.1 L with h|h;simp[v.mem z h];simp[hR.mem z h])
 have a9:∀z∈R,o.ok z=true:=λz L=>a0 z (by rw[F];simp[L])
 have has:=Bg (a:=A.length) (b:=s) aa;by_cases b3:A.length+2*s<=n;obtain⟨W,V,Q,Q',rfl,rfl,l,hy,hq⟩:=hR.two aa aa;have b5:(bT o.lt W).length=s:=by rw[mZ,l]
 have b6:(bT o.lt V).length=s:=by rw[mZ,hy]
 have an:∀z∈W,o.ok z=true:=λz L=>a9 z (by simp[L])
 have aA:∀z∈V,o.ok z=true:=λz L=>a9 z (by simp[L])
 have q:=Zr (o:=o) (N:=X) (P:=O) (X:=bT o.lt W) (Y:=bT o.lt V) (Q:=Q') (a:=A.length) (m:=((A.length+s:Nat):Int)) (b:=((A.length+2*s:Nat):Int)) aa aa aa aa aa aa (by simp only[gP] at bs a1⊢;omega) ag (D9 c an) (D9 c aA);rw[an3 c an aA] at q;have G:((A.length+2*s:Nat):Int)<=n:=aa;have a3:=Bg (a:=A.length+2*s) (b:=2*s) aa;rw[br] at a3;have al:J2 (U ⟨2,λM=>∃(A O R t:ar),M=[.r (.mk (.slice D n B) (O++t)),.i ((A.length+2*s:Nat):Int),.i A.length]/\H=A++R/\xO o.lt (2*s) A O/\lD o.lt s R t,λM=>match M with|[_,_,.i a]=>n-a.toNat|_=>0,n-A.length⟩) [.r (.mk (.slice D n B) (O++(bT o.lt (W++V)++Q'))),.i (aH .add I ((A.length+2*s:Nat):Int) w),.i ((A.length+2*s:Nat):Int)]:=by
  refine⟨⟨A++(W++V),O++bT o.lt (W++V),Q,Q', ?_,by rw[F];simp,.snoc A O (W++V) dl v,hq⟩, ?_⟩;rw[a3];simp[l,hy];omega;show n-((A.length+2*s:Nat):Int).toNat<n-A.length;omega
 generalize L:((A.length+2*s:Nat):Int)=z at q G al⊢;simp[lenOf,G,ba,has];exact⟨_,by simpa using q,al⟩;have G:¬((A.length+2*s:Nat):Int)<=n:=aa;generalize L:((A.length+2*s:Nat):Int)=z at G⊢;by_cases cn:A.length+s<n;obtain⟨W,V,rfl,rfl,l⟩:=hR.one aa aa;simp only[gP] at a1 bs;have b5:(bT o.lt W).length=s:=by rw[mZ,l]
 have b6:(bT o.lt V).length=V.length:=mZ;have an:∀z∈W,o.ok z=true:=λz L=>a9 z (by simp[L])
 have aA:∀z∈V,o.ok z=true:=λz L=>a9 z (by simp[L])
 have q:=Zr (o:=o) (N:=X) (P:=O) (X:=bT o.lt W) (Y:=bT o.lt V) (Q:=[]) (a:=A.length) (m:=((A.length+s:Nat):Int)) (b:=n) aa aa aa aa aa aa (by simp only[gP,E6];omega) (by simpa using ag) (D9 c an) (D9 c aA);rw[an3 c an aA] at q;simp only[Kb] at q;have aC:((A.length+s:Nat):Int)<n:=aa;have bd:lD o.lt (2*s) H (O++bT o.lt (W++V)):=by rw[F];exact v.kq (.aiK dl)
 generalize b7:((A.length+s:Nat):Int)=z3 at has q aC;simp[lenOf,G,has,aC,bb];exact⟨_,q,bc _ bd⟩;have aC:¬((A.length+s:Nat):Int)<n:=aa;have bf:=hR.short aa;have bd:lD o.lt (2*s) H (O++t):=by rw[F,bf];exact v.kq (.aiK aa)
 generalize b7:((A.length+s:Nat):Int)=z3 at has aC;simp[lenOf,G,has,aC,bb];exact bc _ bd;have bf:=bk.short aa;simp[bl,lenOf];exact⟨3,rfl,by rw[bf,b1];rfl⟩;cases y
end
end
