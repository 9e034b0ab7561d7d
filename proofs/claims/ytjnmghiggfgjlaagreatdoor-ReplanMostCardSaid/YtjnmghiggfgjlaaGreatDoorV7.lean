/- Part 7. -/
import Derived.Test.YtjnmghiggfgjlaaGreatDoorV4
import Derived.Test.YtjnmghiggfgjlaaGreatDoorProg
import Derived.ChangeKeysEq
import Derived.Laws.StructEq
import Derived.KernelRfl
import Derived.LoopTactic
import Derived.Lib.Hide
import Derived.Outline
import Derived.OwnWalk
import Derived.RegionTactic
import Derived.BigQuiet
import Derived.Deep.QuietTactic
import Derived.WalkSpells
import Derived.WalkLawsBesides
import Derived.WalkSmall
import Derived.Deep.RegionWith
set_option linter.all false
set_option maxRecDepth 100000
set_option maxHeartbeats 100000000
open Bool renaming and_eq_true->aC,not_eq_true'->jP,false_eq_true->jX,or_eq_true->lg,and_assoc->awi,true->J,false->E
open Nat renaming le_refl->cd,le_trans->mc,zero_le->rN,add_zero->yZ,min_eq_left->Mp,lt_of_lt_of_le->QR,add_sub_cancel_left->Vw,sub_self->acn,min_eq_right->ak3,mul_one->ala,sub_zero->awq
open List renaming cons_append->cJ,nil_append->da,getElem?_eq_some_iff->dq,getElem?_eq_getElem->dG,map_cons->dH,getD_eq_getElem?_getD->dM,getElem?_map->et,replicate->eu,mem_append->fg,mem_cons->fh,mem_map->fw,getElem?_append_left->f8,length_append->f9,all_eq_true->gz,getElem?_append_right->ji,mem_of_getElem?->jz,ext_getElem?->kU,pairwise_append->oB,map_nil->oC,length_cons->oV,length_map->oW,map_map->oX,length_eq_one_iff->pK,getElem?_take->qg,getElem?_of_mem->sK,eq_nil_of_length_eq_zero->ui,getElem_mem->ul,nodup_append->xp,getElem?_drop->yV,getElem?_set->yW,range'->zd,drop_eq_getElem_cons->Cb,getElem?_cons_zero->Cc,append_assoc->Ce,length_drop->Cf,length_nil->Cg,map->Cj,getElem?_eq_none_iff->El,length_eq_zero_iff->Em,mem_of_mem_drop->En,mem_of_mem_take->GD,take_of_length_le->Jt,take_append_drop->Jv,getD_cons_zero->Jw,mem_or_eq_of_mem_set->Mi,length_take->Mo,append_nil->Mq,getD_cons_succ->QQ,drop_drop->QX,all_map->QZ,range_eq_range'->Vy,drop_left'->VG,set_append_right->acf,getElem?_modify->acg,range'_succ->acj,take_append_of_le_length->avL,take_add_one->av5,set_cons_zero->aI6,length->Y
open Go.Result renaming andThen_ok->du
open Go.Sem renaming run_bind->dv,run_pure->fu
open Option renaming isSome_iff_exists->jy,map_eq_some_iff->Vx,some->U,none->Z
open Go.Op renaming equalIn->Eu,equal->GJ,eqFields->awt
open Array renaming ext'->nD,getElem?_modify->QP,getElem?_eq_none->aIS
open Go.World renaming cell?->oD,size_alloc->VE,setCell->acm
open Int renaming toNat_natCast->rM
open List.cons renaming injEq->GG
open Go.IntKind renaming i64->I
namespace Go.Proofs.YtjnmghiggfgjlaaGreatDoor.Y
open Go.RowKit
noncomputable section
variable{R:TypeId}{X u:Nat}{v:bA}{G:FuncId}{x:Func}{w:Code}{n:aq}{t:T}{F:List (Nat×Nat×fF)}{H:World}
def xf:Option TypeDesc->Bool
 |U (.struct _)|U (.array _ _)=>J|_=>E
def yQ(P:Program)(t:TypeId)(X:fy):Value:=if xf (P.underlying t) then .agg X.toArray else X.getD 0 undef
def U9(P:Program)(fM:TypeId->eL->Bool):Nat->List Field->eL->Bool
 |_,[],am=>am.isEmpty|X,f::W,am=>f.name != "_"&&f.offset==X&&(P.info? f.type).isSome&&decide (P.cellsOf f.type<=Y am)&&fM f.type (am.take (P.cellsOf f.type))&&U9 P fM (X+P.cellsOf f.type) W (am.drop (P.cellsOf f.type))
def Va(fM:eL->Bool)(c:Nat):Nat->eL->Bool
 |0,am=>am.isEmpty|n+1,am=>decide (c<=Y am)&&fM (am.take c)&&Va fM c n (am.drop c)
def xg(P:Program):Nat->TypeId->eL->Bool
 |0,_,_=>E
 |d+1,t,am=>match P.underlying t with
  |U .bool=>(match am with|[.bool]=>J|_=>E)
  |U (.int k)=>(match am with|[.int X]=>decide (k=X)|_=>E)
  |U .string=>(match am with|[.bw _ .str]=>J|_=>E)
  |U (.struct W)=> !P.stoodInHeld t&&U9 P (xg P d) 0 W.toList am|U (.array n e)=>(P.info? e).isSome&&Va (xg P d e) (P.cellsOf e) n am|_=>E
def yR:∀{X:eL}{W:fy},lI X W->Y W=Y X
 |[],[],_=>rfl|[],_::_,h=>h.elim|_::_,[],h=>h.elim|_::_,_::_,h=>by simp[yR h.2]
def aj8:∀{X:eL}{W:fy}(n:Nat),lI X W->lI (X.take n) (W.take n)/\lI (X.drop n) (W.drop n)
 |[],[],n,_=>by simp[lI]|[],_::_,n,h=>h.elim|_::_,[],n,h=>h.elim|_::_,_::_,0,h=>⟨trivial,h⟩
 |_::_,_::_,n+1,h=>by
  obtain⟨a,b⟩:=aj8 n h.2;exact⟨⟨h.1,a⟩,b⟩
def aun:∀{X W:fy}{r:Bool}(n:Nat),kJ X W=U r->∃a b,kJ (X.take n) (W.take n)=U a/\kJ (X.drop n) (W.drop n)=U b/\r=(a&&b)
 |[],[],r,n,h=>by simp[kJ] at h;subst h;exact⟨J,J,by simp[kJ],by simp[kJ],rfl⟩|[],_::_,r,n,h=>by simp[kJ] at h|_::_,[],r,n,h=>by simp[kJ] at h|x::X,y::W,r,0,h=>⟨J,r,rfl,h,aw⟩
 |x::X,y::W,r,n+1,h=>by
  simp only[kJ] at h;split at h;rename_i a b V R;cases h;obtain⟨c,d,Q,O,rfl⟩:=aun n R;exact⟨a&&c,d,by simp[kJ,V,Q],by simpa using O,by simp[awi]⟩;cases h
section
variable{P:Program}
def auo(w:World){i:TypeInfo}(M:P.info? R=U i){W:fy}(h:xf (P.underlying R)=J\/X<Y W/\P.cellsOf R=1)(L:(P.underlying R).isSome=J):(part R W.toArray X).run P w=.ok (yQ P R ((W.drop X).take (P.cellsOf R))) w:=by
 obtain⟨d,Q⟩:=jy.1 L;unfold yQ;by_cases V:xf (P.underlying R)=J;rw[aH V];have:(W.toArray.extract X (X+P.cellsOf R))=((W.drop X).take (P.cellsOf R)).toArray:=by
  apply nD;simp[List.extract]
 rw[Q] at V;unfold xf at V;split at V;rename_i O;cases O;simp[part,isAgg,run_underlying Q,run_sizeOf w M];rename_i O;cases O;simp[part,isAgg,run_underlying Q,run_sizeOf w M];cases V;rw[aS V];obtain⟨N,H⟩:=h.resolve_left V;have F:W.toArray[X]?=U W[X]:=by simp[N]
 have G:((W.drop X).take (P.cellsOf R)).getD 0 undef=W[X]:=by rw[H];simp[dM,N]
 rw[G];rw[Q] at V;cases d<;>first|(exact bF rfl V)|simp[part,isAgg,run_underlying Q,N]
def aEb{am:eL}(h:xg P X R am=J):(P.underlying R).isSome=J/\(xf (P.underlying R)=J\/Y am=1):=by
 cases X with
 |zero=>simp[xg] at h
 |succ X=>
  simp only[xg] at h;split at h;rename_i W;rw[W];split at h;exact⟨rfl,.inr rfl⟩;cases h;rename_i W;rw[W];split at h;exact⟨rfl,.inr rfl⟩;cases h;rename_i W;rw[W];split at h;exact⟨rfl,.inr rfl⟩;cases h;rename_i W;rw[W];exact⟨rfl,.inl rfl⟩;rename_i W;rw[W];exact⟨rfl,.inl rfl⟩;cases h
def EqR(P:Program)(V m:Nat):Prop:=∀(t:TypeId)(am:eL)(X W:fy)(r:Bool)(w:World),xg P m t am=J->lI am X->lI am W->kJ X W=U r->(Eu V t (yQ P t X) (yQ P t W)).run P w=.ok r w
def aup(y:EqR P X u)(w:World){am:eL}{W V:fy}{O:Nat}{r:Bool}(M:(P.info? R).isSome=J)(k:P.cellsOf R<=Y am)(G:xg P u R (am.take (P.cellsOf R))=J)
  (F:lI am (W.drop O))(D:lI am (V.drop O))(x:kJ (W.drop O) (V.drop O)=U r):
  ∃a b q L,(part R W.toArray O).run P w=.ok a w/\(part R V.toArray O).run P w=.ok b w/\(Eu X R a b).run P w=.ok q w/\kJ (W.drop (O+P.cellsOf R)) (V.drop (O+P.cellsOf R))=U L/\r=(q&&L)/\
   lI (am.drop (P.cellsOf R)) (W.drop (O+P.cellsOf R))/\lI (am.drop (P.cellsOf R)) (V.drop (O+P.cellsOf R)):=by
 obtain⟨i,M⟩:=jy.1 M;obtain⟨B,N⟩:=aEb G;obtain⟨v,a2⟩:=aj8 (P.cellsOf R) F;obtain⟨t,A⟩:=aj8 (P.cellsOf R) D;obtain⟨q,L,s,H,p⟩:=aun (P.cellsOf R) x;have o:=yR F;have n:=yR D;have z:∀Q:fy,(Q.drop O).length=Y am->xf (P.underlying R)=J\/O<Y Q/\P.cellsOf R=1:=by
  intro Q l;rcases N with N|N;exact .inl N;right;simp only[Mo,Cf] at N l;omega
 rw[QX] at a2 A H;exact⟨_,_,q,L,auo w M (z W o) B,auo w M (z V n) B,y R _ _ _ q w G v t s,by rw[<-QX] at H⊢;simpa using H,p,a2,A⟩
def auq{L m:Nat}(H:EqR P L m)(X W:fy):∀(O:List Field)(V:Nat)(am:eL)(r:Bool)(w:World),U9 P (xg P m) V O am=J->lI am (X.drop V)->lI am (W.drop V)->kJ (X.drop V) (W.drop V)=U r->
  (awt L X.toArray W.toArray O).run P w=.ok r w
 |[],V,am,r,w,R,N,M,Q=>by
  simp only[U9,List.isEmpty_iff] at R;subst R;have:=yR N;have:=yR M;rw[Em.1 ‹(X.drop V).length=_›,Em.1 ‹(W.drop V).length=_›] at Q;simp[kJ] at Q;subst Q;simp[awt]
 |f::O,V,am,r,w,R,N,M,Q=>by
  simp only[U9,aC,bne_iff_ne,gc,dD] at R;obtain⟨⟨⟨⟨⟨G,F⟩,D⟩,B⟩,A⟩,z⟩:=R;obtain⟨a,b,q,y,x,v,u,t,rfl,s,p⟩:=aup H w D B A N M Q;have o:=auq H X W O _ _ y w z s p t;simp only[awt,G,ne_eq,not_false_eq_true,dO,dv,F,x,v,u,du];cases q;simp;simpa using o
def aur{N m:Nat}(M:EqR P N m){e:TypeId}(L:(P.info? e).isSome=J)(X W:fy):∀(n j:Nat)(am:eL)(r:Bool)(w:World),Va (xg P m e) (P.cellsOf e) n am=J->lI am (X.drop (j*P.cellsOf e))->lI am (W.drop (j*P.cellsOf e))->kJ (X.drop (j*P.cellsOf e)) (W.drop (j*P.cellsOf e))=U r->
  (Op.eqItems N e (P.cellsOf e) X.toArray W.toArray (zd j n)).run P w=.ok r w
 |0,j,am,r,w,V,Q,O,R=>by
  simp only[Va,List.isEmpty_iff] at V;subst V;have:=yR Q;have:=yR O;rw[Em.1 ‹(X.drop _).length=_›,Em.1 ‹(W.drop _).length=_›] at R;simp[kJ] at R;subst R;simp[Op.eqItems]
 |n+1,j,am,r,w,V,Q,O,R=>by
  simp only[Va,aC,dD] at V;obtain⟨⟨D,B⟩,A⟩:=V;obtain⟨a,b,q,z,y,x,v,H,rfl,G,F⟩:=aup M w L D B Q O R;have u:j*P.cellsOf e+P.cellsOf e=(j+1)*P.cellsOf e:=by rw[Nat.succ_mul]
  rw[u] at H G F;have t:=aur M L X W n (j+1) _ z w A G F H;rw[acj];simp only[Op.eqItems,dv,y,x,v,du];cases q;simp;simpa using t
def aj9(d:Nat):∀m,EqR P (d+m) m
 |0=>λt am H G r w h=>by simp[xg] at h
 |m+1=>by
  intro t am H G r w X V R Q;have F:=aj9 d m;simp only[xg] at X;split at X;rename_i W;split at X;obtain⟨x,rfl⟩:=pK.1 (yR V);obtain⟨y,rfl⟩:=pK.1 (yR R);have N:=V.1;have M:=R.1;cases x<;>simp only[EV] at N;cases y<;>simp only[EV] at M;simp[kJ,EU] at Q;subst Q;simp[yQ,W,xf,Eu,run_underlying W];cases X;rename_i k W;split at X;obtain⟨x,rfl⟩:=pK.1 (yR V);obtain⟨y,rfl⟩:=pK.1 (yR R);have N:=V.1;have M:=R.1;cases x<;>simp only[EV] at N;cases y<;>simp only[EV] at M;subst N M;simp[kJ,EU] at Q;subst Q;simp[yQ,W,xf,Eu,run_underlying W];cases X;rename_i W;split at X;obtain⟨x,rfl⟩:=pK.1 (yR V);obtain⟨y,rfl⟩:=pK.1 (yR R);have N:=V.1;have M:=R.1;cases x<;>simp only[EV] at N;cases y<;>simp only[EV] at M;simp[kJ,EU] at Q;subst Q;simp[yQ,W,xf,Eu,run_underlying W,beq_toListBytes];cases X;rename_i D W;simp only[aC,jP] at X;have B:P.fieldsOf t=D:=by simp[Program.fieldsOf,W]
  have L:∀O:fy,yQ P t O=.agg O.toArray:=λO=>by simp[yQ,W,xf]
  rw[L,L,show d+(m+1)=(d+m)+1 from rfl,run_equalIn_struct w (d+m) t _ _ (by rw[B];exact W) X.1,B];exact auq F H G D.toList 0 am r w X.2 V R Q;rename_i n e W;simp only[aC] at X;obtain⟨i,A⟩:=jy.1 X.1;have L:∀O:fy,yQ P t O=.agg O.toArray:=λO=>by simp[yQ,W,xf]
  rw[L,L,show d+(m+1)=(d+m)+1 from rfl,run_equalIn_array w (d+m) _ _ W A,Vy];exact aur F X.1 H G n 0 am r w X.2 (by simpa using V) (by simpa using R) (by simpa using Q);cases X
def aka(P:Program)(t:TypeId)(X:TI):Bool:=xf (P.underlying t)&&xg P 20 t X.am&& !P.eqGuardType P.depth t
def aEc{V:TI}(h:aka P R V=J):∀(X W:fy)(r:Bool)(x y:Operand)(w:World),lI V.am X->lI V.am W->kJ X W=U r->
  (do eqGuard .eql R x y (.agg X.toArray) (.agg W.toArray);binOp .eql R (.agg X.toArray) (.agg W.toArray)).run P w=.ok (.bool r) w/\
  (do eqGuard .neq R x y (.agg X.toArray) (.agg W.toArray);binOp .neq R (.agg X.toArray) (.agg W.toArray)).run P w=.ok (.bool !r) w:=by
 intro X W r x y w O N M;simp only[aka,aC,jP] at h;have:=aj9 (P:=P) 9980 20 R V.am X W r w h.1.2 O N M;simp only[yQ,h.1.1,dO] at this;have Q:(GJ R (.agg X.toArray) (.agg W.toArray)).run P w=.ok r w:=this;constructor;rw[dv];simp[eqGuard,h.2,binOp,Q];rw[dv];simp[eqGuard,h.2,binOp,Q]

def aEd{ag:Bool}(W:Y v=X)(V:ag=E->X=1):zv (gR ag v)=v:=by
 cases ag with
 |false=>
  have:=V rfl;subst this;obtain⟨x,rfl⟩:=pK.1 W;rfl
 |true=>simp[gR,zv,Function.comp_def,bn]
def aEe(O:P.underlying R=U (.int I)):vW P R 1 false:=by
 refine⟨λ_=>rfl,λl X W M L=>⟨λb=>MapKept.run_checkKey O (by trivial) b 9999,MapKept.run_findKey O ?_⟩⟩;obtain⟨x,rfl⟩:=pK.1 M;have:∀(X:List MapEntry)(i:Nat),(∀e∈X,∃V:bA,Y V=1/\e.key=gR E V)->Instr.findNow (.int I) (gR E [x]) X i=U (pm [x] X i):=by
  intro X;induction X with
  |nil=>intro i _;rfl
  |cons e X H=>
   intro i N;obtain⟨V,G,F⟩:=N e aw;obtain⟨y,rfl⟩:=pK.1 G;simp only[Instr.findNow,F,pm];simp only[gR,jX,ku,List.headD_cons,Instr.sameNow,dO,zv,GG,and_true];by_cases Q:x=y;subst Q;simp;have:¬y=x:=λe=>Q e.symm
   simp only[this,ku,show(x==y)=E by simpa using Q];exact H (i+1) (λe D=>N e (by simp[D]))
 exact this X 0 L
def aEf(d:TypeDesc)(X:mO)(v:Value):Instr.sameNow d (.agg X) v=none:=by
 cases d<;>rfl
def aus:∀(l X:bA),Y l=Y X->kJ (l.map (Value.int I)) (X.map (Value.int I))=U (l==X)
 |[],[],_=>rfl|[],_::_,h=>by simp at h|_::_,[],h=>by simp at h
 |x::W,y::V,h=>by
  have R:=aus W V (by simpa using h);simp only[dH,kJ,EU,R];rfl
def akb:∀(l:bA),lI (eu (Y l) (.int I)) (l.map (Value.int I))
 |[]=>trivial|x::X=>⟨rfl,akb X⟩
def aut(X:P.underlying R=U (.int I)){l:bA}{off:Nat}(V:off<Y l)(W:World):∃a,(part R (l.map (Value.int I)).toArray off).run P W=.ok (.int I a) W:=by
 refine⟨l[off],run_part_plain W (by simp[Program.plainKey,X]) ?_⟩;simp[V]
def aEg{e:TypeId}{i:TypeInfo}(N:P.underlying R=U (.array X e))(Q:P.underlying e=U (.int I))(M:P.info? e=U i)(L:P.cellsOf e=1)(H:Y v=X)(b:Bool)(m:Nat)(W:World):(Instr.checkKey b (m+2) R (gR J v)).run P W=.ok () W:=by
 rw[show m+2=(m+1)+1 from rfl,Instr.checkKey];simp only[dv,eX.gX N,du,gR,dO];simp only[Std.Legacy.Range.forIn_eq_forIn_range',Std.Legacy.Range.size,awq,Nat.add_one_sub_one,Nat.div_one];have V:∀j∈zd 0 X,j<X:=λj G=>by simpa[List.mem_range'] using G
 generalize zd 0 X=O at V;induction O with
 |nil=>simp
 |cons j O F=>
  obtain⟨a,D⟩:=aut Q (l:=v) (off:=j*P.cellsOf e) (by rw[L,H,ala];exact V j aw) W;have B:=MapKept.run_checkKey (w:=W) (k:=.int I a) Q (by trivial) b m;simp only[List.forIn_cons,dv,run_sizeOf W M,du,D,B,fu];exact F (λy A=>V y (by simp[A]))
def aEh{V:Array Field}(N:P.underlying R=U (.struct V))(Q:∀f∈V.toList,f.name≠ "_"/\P.underlying f.type=U (.int I)/\f.offset<X)(M:Y v=X)(b:Bool)(m:Nat)(W:World):(Instr.checkKey b (m+2) R (gR J v)).run P W=.ok () W:=by
 rw[show m+2=(m+1)+1 from rfl,Instr.checkKey];simp only[dv,eX.gX N,du,gR,dO];rw[<-Array.forIn_toList];generalize V.toList=L at Q;induction L with
 |nil=>simp
 |cons f L H=>
  obtain⟨G,O,F⟩:=Q f aw;obtain⟨a,D⟩:=aut O (l:=v) (off:=f.offset) (by rw[M];exact F) W;have B:=MapKept.run_checkKey (w:=W) (k:=.int I a) O (by trivial) b m;simp only[List.forIn_cons,dv,G,ne_eq,not_false_eq_true,dO,du,D,B,fu];exact H (λy A=>Q y (by simp[A]))
def auu{d:TypeDesc}(L:P.underlying R=U d)(D:xf (P.underlying R)=J)(B:xg P 20 R (eu X (.int I))=J)
  (A:∀(l:bA)(b:Bool)(W:World),Y l=X->(Instr.checkKey b 10000 R (gR J l)).run P W=.ok () W):vW P R X true:=by
 refine⟨λh=>(by cases h),λl V W O z=>⟨λb=> ?_, ?_⟩⟩;exact A l b W O;have y:∀l:bA,gR J l=.agg (l.map (Value.int I)).toArray:=λl=>rfl
 have x:∀(V:List MapEntry)(i:Nat),(∀e∈V,∃Q:bA,Y Q=X/\e.key=gR J Q)->(Instr.findAsking R (gR J l) V i).run P W=.ok (pm l V i) W:=by
  intro V;induction V with
  |nil=>intro i _;rfl
  |cons e V w=>
   intro i H;obtain⟨Q,N,G⟩:=H e aw;have F:=aj9 (P:=P) 9980 20 R (eu X (.int I)) (l.map (Value.int I)) (Q.map (Value.int I)) (l==Q) W B (by rw[<-O];exact akb l) (by rw[<-N];exact akb Q) (aus l Q (by rw[O,N]));simp only[yQ,D,dO] at F;have v:(GJ R (gR J l) e.key).run P W=.ok (l==Q) W:=by rw[G];exact F
   simp only[Instr.findAsking,dv,v,du];simp only[pm,G,aEd (ag:=J) N aw];by_cases M:Q=l;rw[M];simp;have u:(l==Q)=false:=by
    cases t:l==Q;rfl;exact bF (eq_of_beq t).symm M
   simp only[M,u,jX,ku];exact w (i+1) (λe s=>H e (by simp[s]))
 have r:=x V 0 z;cases V with
 |nil=>simp[Instr.findKey,eX.gX L,Instr.findNow,pm,Result.andThen]
 |cons e V=>
  have:Instr.findNow d (gR J l) (e::V) 0=none:=by simp only[Instr.findNow,y,aEf]
  simp only[Instr.findKey,dv,eX.gX L,du,this];exact r
end
def aT{p:Prop}(h:p:=by kernel_rfl):p:=h
abbrev cI:CT:=.int I
abbrev cF:CT:=.bw .nilFunc .bw
abbrev cP:CT:=.bw (.pointer Z) .bw
abbrev cM:CT:=.bw (.map Z) .bw
abbrev cZ:CT:=.bw (.string ⟨#[]⟩) .str
abbrev cS(e:TypeId):CT:=.bw (.slice Z 0 0) (.sl e)
abbrev cR(n:Nat):eL:=eu n cI
abbrev tA(d:TD)(l:eL)(b:Bool):vD:=U ⟨d,l,b⟩
abbrev tF:vD:=tA .one [cF] E
abbrev tP:vD:=tA .one [cP] E
abbrev tS(e:TypeId):vD:=tA (.slice e) [cS e] E
abbrev tM(k e n:Nat)(a:Bool):vD:=tA (.map k e n a) [cM] E
abbrev tT(f:List (Nat×TypeId))(l:eL)(b:Bool):vD:=tA (.struct f) l b
def TT:List (List vD):=[
[Z,tF,tA .one ([cI]) E,tA .one ([cI]) E,tA .one ([.bool]) E,tA .one ([.int .u8]) E,tA .one ([.int .u8]) E,Z,tT [(0,2),(1,3),(2,4),(3,6)] ([cI,cI,.bool,.int .u8]) J,tA .str ([cZ]) E,tA .str ([cZ]) E,tA .str ([cZ]) E,tA .one ([.int .u64]) E,Z,tT [(0,9),(1,12)] ([cZ,.int .u64]) E,tP],
 [tP,tP,Z,tT [(0,17)] ([cP]) E,tA .gH ([.bw .nilIface .bw]) E,tA .one ([.int .i32]) E,Z,tT [(0,3),(1,3),(2,3)] ([cI,cI,cI]) J,tS 92,tS 94,tS 255,tS 257,Z,tT [(0,3),(1,25),(2,26),(3,27)] ([cI,cS 94,cS 255,cS 257]) E,tS 89],
 [tT [(0,3),(1,3),(2,23),(5,24),(6,29),(10,30)] (cR 5++[cS 92,cI,cS 94,cS 255,cS 257,cS 89]) E,tS 141,Z,tT [(0,33)] ([cS 141]) E,tS 85,tS 39,tS 63,tS 3,Z,tT [(0,32),(11,35),(12,36),(13,37),(14,38),(15,39)] (cR 5++[cS 92,cI,cS 94,cS 255,cS 257,cS 89,cS 141,cS 85,cS 39,cS 63,cS 3]) E,tS 111,Z,tT [(0,39),(1,3),(2,42),(3,39),(4,4)] ([cS 3,cI,cS 111,cS 3,.bool]) E,tF,tF,tA .one ([cI]) E],
 [Z,tF,Z,tF,tF,tF,tF,Z,tF,Z,tF,tF,tF,tF,tF,tS 100],
 [Z,tT [(0,39),(1,3)] ([cS 3,cI]) E,tF,tF,tF,tF,tF,tP,tF,Z,tF,tS 79,Z,tF,Z,tT [(0,3),(1,3),(2,3),(3,3)] (cR 4) J],
 [tF,Z,tT [(0,3),(1,3),(2,3)] ([cI,cI,cI]) J,tA (.arr 3 3) ([cI,cI,cI]) J,Z,tT [(0,9),(1,3),(2,3),(3,3),(4,3),(5,3),(6,83),(9,83),(12,83),(15,3),(16,3)] ([cZ]++cR 16) J,Z,tT [(0,3),(1,3)] ([cI,cI]) J,Z,tT [(0,3),(1,3),(2,3),(3,3),(4,3),(5,3),(6,3),(7,3),(8,3),(9,3),(10,87),(12,87)] (cR 14) J,tF,Z,tT [(0,9),(1,3),(2,3),(3,3)] ([cZ,cI,cI,cI]) J,Z,tT [(0,3),(1,3),(2,3)] ([cI,cI,cI]) J],
 [tT [(0,3),(1,3),(2,3),(3,4)] ([cI,cI,cI,.bool]) J,tS 4,tS 101,Z,tT [(0,97),(1,98)] ([cS 4,cS 101]) E,tS 96,tF,tF,Z,tT [(0,3),(1,3)] ([cI,cI]) J,tA (.arr 5 105) (cR 10) J,Z,tT [(0,3),(1,3),(2,3),(3,106)] (cR 13) J,Z,tF,tS 108],
 [Z,tF,tM 3 4 1 E,tF,tF,tF,tF,tP,tF,tF,tP,tF,tF,tS 132,Z,tF],
 [tF,tF,tS 139,Z,tT [(0,3),(1,97),(2,111),(3,111),(4,98),(5,130)] ([cI,cS 4,cS 108,cS 108,cS 101,cS 139]) E,tF,tF,tF,Z,tT [(0,3),(1,3)] ([cI,cI]) J,Z,tT [(0,137),(2,137)] (cR 4) J,Z,tT [(0,139),(4,3),(5,3),(6,3),(7,3)] (cR 8) J,Z,tF],
 [tF,tF,tF,tF,tF,tA .one ([.int .u64]) E,tF,tF,tF,Z,tT [(0,47)] ([cI]) J,tF,tF,tF,Z,tF],
 [tF,tF,tF,tF,tF,tF,tF,tF,Z,tT [(0,85)] ([cZ]++cR 16) J,tF,tF,tF,Z,tT [(0,172),(1,3),(2,3),(3,3)] ([cF,cI,cI,cI]) E,tA (.arr 7 174) ([cF,cI,cI,cI,cF,cI,cI,cI,cF,cI,cI,cI,cF,cI,cI,cI,cF,cI,cI,cI,cF,cI,cI,cI,cF,cI,cI,cI]) E],
 [tF,tS 174,tP,tF,tF,tF,tF,tF,tS 188,Z,tF,tF,tA (.arr 2 3) ([cI,cI]) J,Z,tF,tS 227],
 [Z,tF,tM 3 3 1 E,tF,tF,tF,tF,tF,tF,tF,tS 252,Z,tF,tF,tF],
 [tT [(0,4),(1,4),(2,4),(3,3),(4,3),(5,3)] ([.bool,.bool,.bool,cI,cI,cI]) J,tA (.arr 10 208) ([.bool,.bool,.bool,cI,cI,cI,.bool,.bool,.bool,cI,cI,cI,.bool,.bool,.bool,cI,cI,cI,.bool,.bool,.bool,cI,cI,cI,.bool,.bool,.bool,cI,cI,cI,.bool,.bool,.bool,cI,cI,cI,.bool,.bool,.bool,cI,cI,cI,.bool,.bool,.bool,cI,cI,cI,.bool,.bool,.bool,cI,cI,cI,.bool,.bool,.bool,cI,cI,cI]) J,tF,tA (.arr 2 87) (cR 4) J,tS 211,tF,tF,tF,tF,tF,tT [(0,137),(2,137)] (cR 4) J,tF,tM 188 4 2 J,tF,tF,tF],
 [tF,tF,Z,tT [(0,89),(14,96)] (cR 17++[.bool]) J,Z,tF,tF,tF,tF,Z,tT [(0,3),(1,4),(2,85),(19,108),(32,101)] ([cI,.bool,cZ]++cR 29++[cS 96]) E,tF,tF,tF,tF,tF],
 [tF,tF,tM 244 4 3 J,Z,tT [(0,3),(1,3),(2,3)] ([cI,cI,cI]) J,tF,tF,tF,tS 244,tF,tF,tF,tT [(0,3),(1,3),(2,3)] ([cI,cI,cI]) J,tF,Z,tT [(0,3),(1,3),(2,3),(3,3)] (cR 4) J],
 [Z,tT [(0,3),(1,3),(2,3),(3,3)] (cR 4) J,tF,tF,tF,tF,tF,tF,tF,tF,tF,tF,tF,tA (.arr 5 4) ([.bool,.bool,.bool,.bool,.bool]) J,tA (.arr 2 39) ([cS 3,cS 3]) E,tA (.arr 10 270) ([cS 3,cS 3,cS 3,cS 3,cS 3,cS 3,cS 3,cS 3,cS 3,cS 3,cS 3,cS 3,cS 3,cS 3,cS 3,cS 3,cS 3,cS 3,cS 3,cS 3]) E],
 [tF,tF,tF,Z,tT [(0,3),(1,3),(2,3)] ([cI,cI,cI]) J,Z,tF,tF,tF,tF,tF,tF,Z,tF,tF,tF],
 [tS 292,Z,tF,Z,tT [(0,3),(1,3)] ([cI,cI]) J,tF,tS 298,Z,tF,Z,tT [(0,3),(1,3),(2,3)] ([cI,cI,cI]) J,tF,tF,tF,tF,tF],
 [tA .one ([cI]) E,Z,tF,tF,tF,tF,tF,tA .one ([.int .u32]) E,tF,tA .one ([.int .u64]) E,tF,tF,tA (.arr 8 188) (cR 16) J,Z,tF,tF],
 [Z,tM 3 319 1 E,tF,tF,tF,tF,tF,tF,tF,tM 3 96 1 E,tF,tF,tF,tA (.arr 2 130) ([cS 139,cS 139]) E,tA (.arr 5 333) ([cS 139,cS 139,cS 139,cS 139,cS 139,cS 139,cS 139,cS 139,cS 139,cS 139]) E,tF],
 [tF,tF,tF,tF,tF,tF,tF,tF,tA .one ([.int .u64]) E,tF,tF,tF,tA (.arr 4 188) (cR 8) J,tA (.arr 2 188) (cR 4) J,tF],
 [tT [(0,348),(8,349),(12,350)] (cR 12++[cF]) E,Z,tM 3 352 1 E,tF,tF,tA (.arr 4 3) (cR 4) J,Z,tT [(0,108),(13,89),(27,96)] (cR 30++[.bool]) J,tP,tF,tF,tF,tF,tF,tF,tF],
 [tF,tF,tF,tM 3 376 1 E,tF,tF,tF,Z,tT [(0,373),(1,4),(2,364),(3,4),(4,374)] ([cF,.bool,cF,.bool,cF]) E,tF,tF,tM 3 45 1 E,tF,tF,tF,tF],
 [tP,Z,tF,tF,tF,tF,tF,tF,tF,tF,Z,tF,tF,tF,tS 400],
 [tT [(0,96),(4,3)] ([cI,cI,cI,.bool,cI]) J,tF,tF,tF,tF,tF,tF,tF,tF,tF,tF,tF,tF,tF,tF,tF],
 [tF,tF,tF,tF,tF,Z,tT [(0,17),(1,17),(2,17),(3,9)] ([cP,cP,cP,cZ]) E,tA (.arr 0 16) ([]) J,Z,tT [(0,423)] ([]) E,tF,tA .one ([.int .u8]) E,tA .one ([.int .u8]) E,tF,tP,tA .one ([.int .i32]) E],
 [tA .one ([.int .i32]) E,Z,tT [(0,12),(1,12),(2,311),(3,427),(4,5),(5,5),(6,428),(7,429),(8,430),(9,431),(10,432)] ([.int .u64,.int .u64,.int .u32,.int .u8,.int .u8,.int .u8,.int .u8,cF,cP,.int .i32,.int .i32]) E]]
def SG:List (List me):=[
[Z,Z,Z,Z,U [4],Z,U [4],U [4],U [39,3,3,47],U [3,4],U [41],U [44,47],U [3,47],U [4],U [4],U [47]],
 [U [3],U [],U [],U [69],U [44],U [4,47],U [44,75,47],U [44,47],Z,U [100],U [47],U [108,47],U [39,47],U [3,4],U [4],U [4]],
 [U [],Z,U [47],U [39],U [],U [125,47],U [4],Z,U [47],U [47],U [4],U [139,47],U [39,47],U [47],U [4],U [47]],
 [U [97],Z,Z,U [4],U [4],Z,U [132,47],U [36],Z,Z,U [4,47],Z,U [47],U [4],U [47],U [4]],
 [U [4],Z,Z,U [4],U [4],Z,U [139,47],U [184,47],U [3],U [30,47],U [191,4],Z,U [4],Z,U []],
 [Z,Z,Z,Z,U [202,47],U [],Z,U [23],U [4],U [3,47],U [3]],
 [Z,Z,U [139,47],U [4],U [47],U [],U [3],Z,U [],U [3],U [3],U [4],Z,Z,U [97],U [111]],
 [U [101],U [108,47],U [139,47],U [139,47],U [],Z,U [4,47],Z,Z,U [],U [3],Z,U [4],U [3],Z,U [47]],
 [U [3],Z,Z,Z,Z,U [4],Z,Z,Z,Z,U [3,47],U [276,47]],
 [Z,U [101,47],U [4],U [4],U [288,47],Z,U [294,47],U [4,47],Z,Z,Z,Z,U [149],U [149]],
 [Z,Z,Z,Z,Z,Z,Z,Z,Z,Z,Z,U [108,47],Z,Z,U [89,47]],
 [U [3],Z,Z,Z,Z,U [3],Z,Z,U [4]],
 [],
 [Z,Z,Z,Z,Z,Z,U [],Z,Z,Z,Z,U [276],U [3]],
 [],
 [Z,Z,Z,Z,Z,Z,Z,Z,Z,Z,Z,Z,Z,Z,Z,U [3,3,47]],
 [Z,Z,Z,Z,U [],U [3]],
 [U [3,47],U [3,3,47],U [3,3,47],Z,U [3,47],Z,Z,Z,U [3]]]
def PT:List (List me):=[
[Z,Z,Z,Z,U [41,44,3,39],Z,U [],U [41,44,3],U [41,44,3],U [41,44,39],U [],U [41],U [41,44,3],U [39,39],U [41,44],U [41,44]],
 [U [41,44],U [122,39,3],Z,U [41,44,3,71],U [41,44,3],U [41,44,3],U [41,44,3],U [41,44,82],Z,U [96],U [41],U [92],U [41,44,3],U [39,3],U [41],U [44]],
 [U [119],Z,U [108],U [39],Z,U [41,44,3],U [41,44,125],Z,U [32],U [85],U [39,3],U [141,3],U [32,3],U [32,3,3,101],U [3,3,3],U [41,44,3]],
 [U [41,44,3],Z,Z,U [63],U [32],Z,U [32,35,36,3,97,111,98],U [41,3],Z,Z,U [32,35,36,132],Z,U [29],U [3,3,3],U [23],U [89,3,3]],
 [U [9],Z,Z,U [139],U [3,3,3],Z,U [139,139],U [32,3],Z,U [32,3,3],U [30,101],Z,U [3]],
 [Z,Z,Z,Z,U [32,35,36,132],Z,Z,U [23],U [3,4,3,3],U [87,87],U [5]],
 [Z,Z,U [139,3,3],U [218],U [32,3],U [30,222],U [89,89],Z,U [30,222],U [89,89],U [3,3],U [89,96],Z,Z,U [97],U [111]],
 [U [101],U [32,3,3,108,101],U [32,3,3,108,85,101],U [108,85],Z,Z,U [139,139],Z,Z,U [248,250],U [244,244],Z,U [3,3,3],U [29,3],Z,U [87]],
 [U [9,5],Z,Z,Z,Z,U [3,3,3],Z,Z,Z,Z,U [3,3],U [3,3]],
 [Z,U [32,3,85],U [101,96],U [32,132,89],U [32,3,3,108,36,101],Z,U [32,35,3,130,130,184],U [139,139],Z,Z,Z,Z,U [149,149],U [3]],
 [Z,Z,Z,Z,Z,Z,Z,Z,Z,Z,Z,U [108,89,96],Z,Z,U [32,3]],
 [U [101,96],Z,Z,Z,Z,U [292,292],Z,Z,U [139,139]],
 [],
 [Z,Z,Z,Z,Z,Z,U [288,331],Z,Z,Z,Z,U [105,3],U [29,89]],
 [],
 [Z,Z,Z,Z,Z,Z,Z,Z,Z,Z,Z,Z,Z,Z,Z,U [29,3,87]],
 [Z,Z,Z,Z,U [398,402],U [400,400]],
 [U [29,3],U [87,3],U [3],Z,U [276,276],Z,Z,Z,U [3,3]]]
def auv:TD->Bool
 |.map k _ n X=>(k==3&&n==1&& !X)||(k==188&&n==2&&X)||(k==244&&n==3&&X)|_=>J
def aEi:vW Tryz.prog 3 1 false:=aEe aT
def aEj:vW Tryz.prog 188 2 true:=by
 have X:Tryz.prog.underlying 188=U (.array 2 3):=aT;obtain⟨i,V⟩:∃i,Tryz.prog.info? 3=U i:=jy.1 aT;exact auu X aT aT (λl b W R=>aEg X aT V aT R b 9998 W)
def auw(P:Program)(k n:Nat):Bool:=match P.underlying k with
 |U (.struct X)=>X.toList.all λf=>f.name != "_"&&(match P.underlying f.type with|U (.int I)=>J|_=>E)&&decide (f.offset<n)
 |_=>E
def aEk{P:Program}(h:auw P X u=J)(Q:xf (P.underlying X)=J)(O:xg P 20 X (eu u (.int I))=J):vW P X u true:=by
 unfold auw at h;split at h;rename_i L V;refine auu V Q O (λl b W N=>aEh V (λf M=> ?_) N b 9998 W);have:=gz.1 h f M;simp only[aC,bne_iff_ne,ne_eq,dD] at this;refine⟨this.1.1, ?_,this.2⟩;have R:=this.1.2;split at R;assumption;cases R;cases h
def aEl:vW Tryz.prog 244 3 true:=aEk aT aT aT
def aEm:Hx (λt X=>ae1 Tryz.prog t X&&(!X.eq||aka Tryz.prog t X)&&auv X.d) 0 TT=true:=aT
def QG:Hx (λg _=>uJ Tryz.prog g) 0 SG=true:=aT
def Jo:jq Tryz.prog (look TT):=by
 intro t R h;have:=aoZ aEm h;simp only[aC,lg,jP] at this;refine azI this.1.1 (λW=>aEc (this.1.2.resolve_left (by rw[W];simp))) (λk e n Q V=> ?_);have X:=this.2;rw[V] at X;simp only[auv,lg,aC,gc,jP] at X;rcases X with(⟨⟨rfl,rfl⟩,rfl⟩|⟨⟨rfl,rfl⟩,rfl⟩)|⟨⟨rfl,rfl⟩,rfl⟩;exact aEi;exact aEj;exact aEl
def QH:Tryz.prog.follows .mixedOrders=true:=aT
def GL:nZ:=[(0,0,6),(1,1,2),(2,2,2)]
def GLK:bo:=[.sl 208,.sl 270,.sl 188]
def GW(W:World):Prop:=∃X,N3 (look TT) GL GLK wn W X
def GW.grow{W X:World}(V:Below W.heap.size W X)(h:GW W):GW X:=by
 obtain⟨R,Q,P,O,N⟩:=h;exact⟨R,Q,P,λk e M L H=>(O k e M L H).grow V,N⟩
def ue(X:zg):Prop:=∀x∈X,nM Tryz.prog (look TT) x.1 x.2.1 x.2.2.1 x.2.2.2.1 x.2.2.2.2
def GZ(z:Bool)(W:World):Prop:=z=J->GW W
def GZ.grow{z:Bool}{W X:World}(V:Below W.heap.size W X)(h:GZ z W):GZ z X:=λe=>(h e).grow V
abbrev qX(z:Bool)(f:FuncId)(F:aZ->jR):Prop:=HB Tryz.prog (look TT) (look PT) (look SG) (GZ z) f F
def akd:∀{X:aL},mT X=J->∀(k:Nat)(t:TypeId),(gh X)[k]?≠U (.own t)
 |[],_,k,t=>by simp[gh]
 |x::X,h,k,t=>by
  simp only[mT,aC] at h;have W:=akd h.2;cases x with
  |int _=>exact W k t|bool=>exact W k t
  |ak e=>
   cases k with
   |zero=>
    intro V;simp[gh] at V;subst V;simp[JZ] at h
   |succ k=>simpa[gh] using W k t
def Gv(g:Bool):nZ:=if g then GL else[]
def uf(g:Bool):bo:=if g then GLK else[]
def ake{z:Bool}(g:Bool)(X:g=J->z=J)(W:World)(h:GZ z W):∃V,N3 (look TT) (Gv g) (uf g) (mz g) W V:=by
 cases g with|true=>exact h (X rfl)|false=>exact⟨[],rfl,λk v Q h=>by simp[mz] at h,λk e P h=>by simp[uf] at h,λO x R=>by simp[Gv] at R⟩
def aEn{z:Bool}{bh:mw}(aa:∀G,qX z G (bh G))(hf:Tryz.prog.funcs[G]?=U x)(hb:x.body=U w){D:ar}{loops:List (Nat×Nat×fF)}(hi:D.all (uJ Tryz.prog)=J){B:zg}(ab:ue B){jA:Bool}{m:AK}{g:Bool}{j:Option TypeId}
  {ps e:iW}{M qk:aL}{l:aq}{a:Nat}{L:bo}{F:aZ->jR}
  (ac:look PT G=U ps)(af:look SG G=U e)(ag:fH (look TT) ps=U M)(al:fH (look TT) e=U qk)
  (ba:mT M=J)(hl:gu (look TT) ps n=U l)(an:lw 0 0 (uf g).length M l=J)(bZ:L=uf g++gh M)(hq:g=E\/wh qk=J)
  (bb:((⟨[],[],0,0,[],0,0,[]⟩:S).bU M).2.ni=u)(bc:((⟨[],[],0,0,[],0,0,[]⟩:S).bU M).2.nb=a)
  (a0:∀(p:Sp)(O:aj),t.aM p O []->(HE (nP Tryz.prog TT SG (Gv g) D loops B jA m) j X G w x.ntmps x.results.toList n ⟨[],[],u,a,L,0,0,[]⟩).aM p O [])
  (a3:xU Tryz.prog w j)(a4:j≠Z->∀Q v,F Q≠U (.bp v))
  (hc:t.fM (look TT) (look PT) (look SG) e u a L []=J)(hF:∀Q o,dJ M Q->F Q=U o->xT bh t (dF (mz g) Q) [] o)(hz:g=J->z=J)(bd:oK G=Z):qX z G F:=by
 refine⟨λ_=> ?_,λg' L' h'=>by rw[bd] at h';cases h'⟩;have e1:∀H Q,dJ M Q->(dF H Q).i.length=u:=λH Q P=>by
  have h1:=(xK M Q ⟨[],[],0,0,[],0,0,[]⟩ ⟨[],[],[],[]⟩ P rfl rfl rfl).1;have h2:=(HC (O:=⟨[],[],[],[]⟩) P).1;have h3:=(HC (O:=⟨[],[],H,[]⟩) P).1;rw[<-bb,<-h1,dF,h3,h2]
 have e2:∀H Q,dJ M Q->(dF H Q).b.length=a:=λH Q P=>by
  have h1:=(xK M Q ⟨[],[],0,0,[],0,0,[]⟩ ⟨[],[],[],[]⟩ P rfl rfl rfl).2.1;have h2:=(HC (O:=⟨[],[],[],[]⟩) P).2.1;have h3:=(HC (O:=⟨[],[],H,[]⟩) P).2.1;rw[<-bc,<-h1,dF,h3,h2]
 have e3:∀Q,dJ M Q->(dF (mz g) Q).r.length=Y L:=λQ P=>by rw[bZ];exact HA P (by cases g<;>rfl)
 have e4:∀(k:Nat)(t:TypeId),L[k]?≠U (.own t):=by
  rw[bZ];intro k t hk;by_cases a9:k<(uf g).length;rw[f8 a9] at hk;cases g with|false=>simp[uf] at a9|true=>rcases k with _|_|_|k<;>simp[uf,GLK] at hk
  rw[ji ae] at hk;exact akd ba _ t hk
 have e5:mz g=[]\/wh qk=true:=hq.imp (λh=>by subst h;rfl) id;have a1:∀Q o,dJ M Q->F Q=U o->∃N,run (look TT) (look PT) (look SG) bh e N t (dF (mz g) Q) L []=U o:=λQ o P ho=>by
  obtain⟨N,hN⟩:=hF Q o P ho;exact⟨N,uM N t _ L [] [] [] o hN (by rw[e1 _ Q P,e2 _ Q P];exact hc) (e3 Q P) Bh.nil⟩
 cases j with
 |none=>exact aAd (cf:=nP Tryz.prog TT SG (Gv g) D loops B jA m) (glk:=uf g) (glv:=mz g) (λV R A=>NT Jo QG hi QH A ab) rfl aa (λ_ _ y h=>h.grow y) hf hb ac af ag al hl (by cases g<;>exact an) bZ e4 (by cases g<;>rfl) e5 e1 e2 (λW h=>ake g hz W h) (λp O h=>(aAw _ _ _ _ _ _ _ _).subst (motive:=λq=>T.aM p q O []) (a0 p O h)) a1
 |some eT=>
  cases s:rU w with
  |none=>exact aAM (cf:=nP Tryz.prog TT SG (Gv g) D loops B jA m) (glk:=uf g) (glv:=mz g) (λV R A=>NT Jo QG hi QH A ab) rfl aa (λ_ _ y h=>h.grow y) hf hb (a3.erl s) ac af ag al hl (by cases g<;>exact an) bZ e4 (by cases g<;>rfl) e5 e1 e2 (λW h=>ake g hz W h) (λp O h=>(aAK s).subst (motive:=λq=>T.aM p q O []) (a0 p O h)) (a4 aw) a1
  |some d=>exact aAe (cf:=nP Tryz.prog TT SG (Gv g) D loops B jA m) (glk:=uf g) (glv:=mz g) (λV R A=>NT Jo QG hi QH A ab) rfl aa (λ_ _ y h=>h.grow y) hf hb s (a3.d s) ac af ag al hl (by cases g<;>exact an) bZ e4 (by cases g<;>rfl) e5 e1 e2 (λW h=>ake g hz W h) (λp O h=>((aAL s).trans (aAx _ _ _ _ _ _ _ _ _)).subst (motive:=λq=>T.aM p q O []) (a0 p O h)) (a4 aw) a1
def akf{z:Bool}(f:FuncId):qX z f (λ_=>Z):=⟨λ_ _ _ _ _ _ _ _ _ _ _ _ h=>(by cases h),λ_ _ _ _ _ _ _ _ _ _ h=>(by cases h)⟩
def T.bare(t:T):T:=T.rec (motive:=λ_=>T) (λe s=>.out e s) (λv _ _=>.ret v [] []) (λv=>.bp v) (λb _ _ X W=>.aI b X W) (λb _ X=>.aQ b X) (λf a _ _ k _ _ X=>.call f a [] [] k .any X) (λl _ x _ X=>.loop l [] x X) (λl x=>.back l x) (λ_ x _ _ _ X=>.new 0 x [] [] X) (λ_ x _ _ X=>.ah .aR x [] X) (λb c _ _ X W=>.gq b c X W) (λn b c _ _ X W=>.pick n b c X W) (λ_ _ _ V R r _ _ X=>.eE 0 0 0 V R r [] X) (λm=>.stuck m) t
def Lp.bare(x:Lp):Lp:=⟨x.ax,x.t.bare,x.O⟩
def aux(ax:Nat):∀X:my,wj ax (X.map Lp.bare)=(wj ax X).map λx=>(x.1.bare,x.2.map Lp.bare)
 |[]=>rfl
 |x::X=>by
  simp only[dH,wj];by_cases h:x.ax=ax;rw[aH h,aH (show x.bare.ax=ax from h)];rfl;rw[aS h,aS (show¬x.bare.ax=ax from h),aux ax X]
def auy(bh:mw):∀(n:Nat)(t:T)(O:aj)(W:my),exec bh n t.bare O (W.map Lp.bare)=exec bh n t O W
 |0,t,O,W=>rfl
 |n+1,t,O,W=>by
  have X:=auy bh n;cases t with
  |loop l k x t=>exact X t _ (⟨l,t,O⟩::W)
  |back l x=>
   show exec bh (n+1) (.back l x) O (W.map Lp.bare)=_;simp only[exec,aux];cases wj l W with|none=>rfl|some p=>exact X p.1.t _ (p.1::p.2)
  |aI b t f=>simp only[T.bare,exec,<-X t,<-X f]|aQ b t=>simp only[T.bare,exec,<-X t]|call f a b r k s t=>simp only[T.bare,exec,<-X t]|new e x r V t=>simp only[T.bare,exec,<-X t]|ah k x r t=>simp only[T.bare,exec,<-X t]|gq g h t f=>simp only[T.bare,exec,<-X t,<-X f]|pick m g h t f=>simp only[T.bare,exec,<-X t,<-X f]|eE f g e R Q r P t=>simp only[T.bare,exec,<-X t]|ret v b r=>rfl|bp v=>rfl|stuck m=>rfl|out e s=>rfl
def auz{bh:mw}{b:T}{O:aj}(h:t.bare=b):exec bh X b O []=exec bh X t O []:=by
 rw[<-h];exact auy bh X t O []
def cg(f:FuncId)(g d:Bool)(t:T):Prop:=∀(z:Bool),(g=J->z=J)->∀(bh:mw),(∀g,qX z g (bh g))->∀n,qX z f (λX=>zG d (exec bh n t (dF (mz g) X) []))
def aEo(s:Tryz.prog.funcs[G]?=U x)(r:x.body=U w){H:ar}(q:H.all (uJ Tryz.prog)=J){D:zg}(k:ue D){jA:Bool}{j:AK}{g:Bool}{R:Option TypeId}
  {P N:iW}{W B:aL}{l:aq}{b:T}{M:Nat}{L:bo}
  (i:look PT G=U P)(e:look SG G=U N)(d:fH (look TT) P=U W)(a:fH (look TT) N=U B)
  (aa:mT W=J)(hl:gu (look TT) P n=U l)(ab:lw 0 0 (uf g).length W l=J)(bZ:L=uf g++gh W)(hq:g=E\/wh B=J)
  (ac:((⟨[],[],0,0,[],0,0,[]⟩:S).bU W).2.ni=u)(af:((⟨[],[],0,0,[],0,0,[]⟩:S).bU W).2.nb=M)
  (ag:xU Tryz.prog w R)
  {A:Bool}(he:KC A b (HE (nP Tryz.prog TT SG (Gv g) H F D jA j) R X G w x.ntmps x.results.toList n ⟨[],[],u,M,L,0,0,[]⟩)=t)(ht:t.bare=b)
  (hc:t.fM (look TT) (look PT) (look SG) N u M L []=J)(al:oK G=Z):cg G g R.isSome b:=
 λz hz bh an m=>by
 simp only[auz ht];exact aEn (F:=λQ=>zG R.isSome (exec bh m t (dF (mz g) Q) [])) an s r q k i e d a aa hl ab bZ hq ac af (λp O h=>apv (g:=b) (c:=A) (by rw[he];exact h))
  ag (λa0 Q v h=>by
   cases R with
   |none=>exact a0 rfl
   |some eT=>
   simp only[Option.isSome_some] at h;cases V:exec bh m t (dF (mz g) Q) [] with
   |none=>rw[V] at h;cases h
   |some o=>rw[V] at h;cases o<;>simp[zG] at h) hc (λQ o _ h=>by
   cases V:exec bh m t (dF (mz g) Q) [] with
   |none=>simp only[V,zG] at h;cases h
   |some y=>
    simp only[V] at h;have:o=y:=by
     cases y with
     |ret ys=>simp only[zG,dW] at h;exact h.symm
     |bp v=>
      simp only[zG] at h;split at h;cases h;cases h;rfl
    subst this;exact⟨m,V⟩) hz al
def lfs:eL->Nat->Nat->Nat->aq×Nat×Nat×Nat
 |[],a,b,c=>([],a,b,c)|.int k::l,a,b,c=>let r:=lfs l (a+1) b c;(.int k (.v a)::r.1,r.2)
 |.bool::l,a,b,c=>let r:=lfs l a (b+1) c;(.bool (.v b)::r.1,r.2)
 |.bw _ _::l,a,b,c=>let r:=lfs l a b (c+1);(.ak (.v c)::r.1,r.2)
def Jp:iW->Nat->Nat->Nat->aq
 |[],_,_,_=>[]
 |t::W,a,b,c=>match look TT t with
  |U X=>let r:=lfs X.am a b c;(if X.d.isAgg then .agg r.1 else r.1.headD .any)::Jp W r.2.1 r.2.2.1 r.2.2.2
  |none=>[]
def pkF(f:FuncId):aL:=(fH (look TT) ((look PT f).getD [])).getD []
abbrev xj:S:=⟨[],[],0,0,[],0,0,[]⟩
def tk{O N:iW}{V L:aL}(H:Tryz.prog.funcs[G]?=U x)(loops:List (Nat×Nat×fF):=[])(inl:ar:=[])(srts:zg:=[])(jA:Bool:=E)(chs:AK:=[])(g:Bool:=E)(dT:Option TypeId:=Z)(X:Nat:=300)
  (M:aq:=Jp ((look PT G).getD []) 0 0 (uf g).length)(R:Nat:=(xj.bU (pkF G)).2.ni)(Q:Nat:=(xj.bU (pkF G)).2.nb)(P:bo:=uf g++gh (pkF G))
  (hsr:ue srts:=by exact λW F=>by cases F)(hdc:xU Tryz.prog (x.body.getD .skip) dT:=by exact trivial)
  (D:x.body=U (x.body.getD .skip):=by rfl)(B:inl.all (uJ Tryz.prog)=true:=by kernel_rfl)
  (A:look PT G=U O:=by exact rfl)(z:look SG G=U N:=by exact rfl)(y:fH (look TT) O=U V:=by exact rfl)(w:fH (look TT) N=U L:=by exact rfl)
  (v:mT V=true:=by exact rfl)(u:gu (look TT) O M=U n:=by exact rfl)(s:lw 0 0 (uf g).length V n=true:=by exact rfl)(bZ:P=uf g++gh V:=by exact rfl)(r:g=E\/wh L=true:=by first|exact .inl rfl|exact .inr rfl)
  (q:(xj.bU V).2.ni=R:=by exact rfl)(p:(xj.bU V).2.nb=Q:=by exact rfl)
  (ct:Bool:=E)(o:(KC ct t (HE (nP Tryz.prog TT SG (Gv g) inl loops srts jA chs) dT X G (x.body.getD .skip) x.ntmps x.results.toList M ⟨[],[],R,Q,P,0,0,[]⟩)).bare=t:=by kernel_rfl)
  (m:(KC ct t (HE (nP Tryz.prog TT SG (Gv g) inl loops srts jA chs) dT X G (x.body.getD .skip) x.ntmps x.results.toList M ⟨[],[],R,Q,P,0,0,[]⟩)).fM (look TT) (look PT) (look SG) N R Q P []=true:=by kernel_rfl)(k:oK G=none:=by exact rfl):cg G g dT.isSome t:=
 aEo H D B hsr A z y w v u s bZ r q p hdc rfl o m k
structure akh(tb:lN)(z:Bool):Prop where
 tree:∀f fn,tb.tree f=U fn->cg f fn.g fn.d fn.t
 laid:∀f fn,tb.tree f=U fn->fn.g=J->z=J
 uN:∀f,qX z f (tb.uN f)
def qX.mono{z:Bool}{F X:aZ->jR}(h:qX z G F)(H:∀W o,X W=U o->F W=U o):qX z G X:=
 ⟨λV D B R Q P O A y N W o M=>h.1 V D B R Q P O A y N W o (H _ _ M),
  λg L V R Q P O N W o M=>h.2 g L V R Q P O N W o (H _ _ M)⟩
def qX.or{z:Bool}{F X:aZ->jR}(h:qX z G F)(k:qX z G X):qX z G (λW=>match F W with|U o=>U o|none=>X W):=by
 refine⟨λQ D B P O N M A y R W o V=> ?_,λg L Q P O N M R W o V=> ?_⟩
 all_goals
  simp only at V;cases H:F R with
  |some x=>
   rw[H] at V;simp only[dW] at V;subst V
   first
    |exact h.1 Q D B P O N M A y R W x H
    |exact h.2 g L Q P O N M R W x H
  |none=>
   rw[H] at V
   first
    |exact k.1 Q D B P O N M A y R W o V
    |exact k.2 g L Q P O N M R W o V
def abM{V:lN}{z:Bool}(X:akh V z):∀n f,qX z f (V.bh n f)
 |0,f=>X.uN f
 |n+1,f=>by
  cases R:V.tree f with|none=>exact(qX.or (X.uN f) (akf f)).mono λQ o W=>by simp only[lN.bh,R] at W;exact W|some t=>exact(qX.or (X.uN f) (X.tree f t R z (X.laid f t R) (V.bh n) (abM X n) n)).mono λQ o W=>by simp only[lN.bh,R] at W;exact W
def auA(W:rU w=Z)(h:Fl w=U G)(k:Fk Tryz.prog G R):xU Tryz.prog w (U R):=by
 simp only[xU,W];exact λV X=>by rw[h] at X;cases X;exact k
def aki(h:(rU w).map DI.g=U G)(k:zF Tryz.prog G R):xU Tryz.prog w (U R):=by
 cases X:rU w with|none=>rw[X] at h;cases h|some d=>rw[X] at h;cases h;simp only[xU,X];exact k
def abN:∀X:aZ,xP X X
 |[]=>trivial
 |x::X=>⟨by cases x with|i n=>rfl|b n=>rfl|r v=>exact dL.refl v,abN X⟩
def abO{V:Ty}{X:aL}{R:aZ}(h:∀e,LK.ak e∉X):xS V H X R:=λq e P Q _=>(h e (jz Q)).elim
def auB{V:Ty}{W:aL}{R:aZ}(h:∀e,LK.ak e∉W):¬rp V W R X:=λ⟨q,e,P,Q,_,_⟩=>h e (jz Q)
def aEp{g:FuncId}{W:sO}(f:oK G=U (g,W))(hf:Tryz.prog.funcs[g]?=U x)(hb:x.body=U w)(aa:x.results.toList=[]){A:ar}(hi:A.all (uJ Tryz.prog)=J){y:zg}(ab:ue y){jA:Bool}{e:AK}
  {M qk:aL}{l:aq}{b:T}{D:Nat}(ac:fH (look TT) W.ps=U M)(af:fH (look TT) ((eA 0 W.bx).map (·.2))=U qk)(ag:mT M=J)(hl:gu (look TT) W.ps n=U l)(al:lw 0 0 0 M l=J)
  (an:(xj.bU M).2.ni=u)(a0:(xj.bU M).2.nb=D)
  (a1:((eA 0 W.bx).all λQ=>match look TT Q.2 with|U B=>B.d.isAgg||Y B.am==1|none=>E)=J)
  (bq:∀(O a:aj)(V s:ar),(∀i,i<Y W.bx->ad V i=ad s i)->C.az O V W.bD=C.az a s W.bD/\∀t q,LB.st t q∈W.bx->C.bL O V q=C.bL a s q)
  (a3:S.bd ⟨[],lM W.bx (n.drop W.n),u,D,gh M,0,0,[]⟩=J)
  {ct:Bool}(a4:KC ct b (N5 (nP Tryz.prog TT SG [] A F y jA e) X g w x.ntmps W (n.take W.n++W.bD) ⟨[],lM W.bx (n.drop W.n),u,D,gh M,0,0,[]⟩)=t)(ht:t.bare=b)
  (hc:t.fM (look TT) (look PT) (look SG) ((eA 0 W.bx).map (·.2)) u D (gh M) []=J):cg G E J b:=by
 intro z _ bh a9 m;simp only[auz ht];have e1:∀N,dJ M N->(dF [] N).i.length=u:=λN L=>by
  have k:=(xK M N ⟨[],[],0,0,[],0,0,[]⟩ ⟨[],[],[],[]⟩ L rfl rfl rfl).1;rw[<-an,<-k,dF]
 have e2:∀N,dJ M N->(dF [] N).b.length=D:=λN L=>by
  have k:=(xK M N ⟨[],[],0,0,[],0,0,[]⟩ ⟨[],[],[],[]⟩ L rfl rfl rfl).2.1;rw[<-a0,<-k,dF]
 have e3:∀N,dJ M N->(dF [] N).r.length=(gh M).length:=λN L=>by
  have:=HA (O:=⟨[],[],[],[]⟩) (rs:=[]) L rfl;simpa[dF] using this
 refine⟨λh=>(by rw[f] at h;cases h),λg' L' h'=> ?_⟩;rw[f] at h';cases h';refine aAD (cf:=nP Tryz.prog TT SG [] A F y jA e) (λS0 P R ba=>NT Jo QG hi QH ba ab) rfl a9 hf hb aa ac af hl al e1 e2 rfl (λQ L=> ?_) bq a3 (akd ag)
  (λp O h=>apv (g:=b) (c:=ct) (by rw[a4];exact h)) (λN o L H=> ?_)
 have h:=gz.1 a1 Q L;split at h;rename_i B bb;refine⟨B,bb, ?_⟩;simpa only[lg,gc] using h;cases h;cases j:exec bh m t (dF (mz E) N) [] with
 |none=>rw[j] at H;cases H
 |some o'=>
  rw[j] at H;cases o' with
  |bp G=>simp[zG] at H
  |ret ys=>
   simp only[zG,dW] at H;subst H;exact⟨⟨_,rfl⟩,m,uM m t _ _ [] [] [] _ j (by rw[e1 _ L,e2 _ L];exact hc) (e3 N L) Bh.nil⟩
def jV(v:FuncId):sO:=((oK v).getD (0,⟨0,0,[],[],[]⟩)).2
def tkV{g:FuncId}{Q D:aL}(B:Tryz.prog.funcs[g]?=U x)(A:oK G=U (g,jV G))(loops:List (Nat×Nat×fF):=[])(inl:ar:=[])(P:zg:=[])(jA:Bool:=E)(chs:AK:=[])(X:Nat:=300)
  (bq:∀(O L:aj)(V N:ar),(∀i,i<(jV G).bx.length->ad V i=ad N i)->C.az O V (jV G).bD=C.az L N (jV G).bD/\∀W M,LB.st W M∈(jV G).bx->C.bL O V M=C.bL L N M)
  (z:ue P:=by exact λR y=>by cases y)
  (w:x.body=U (x.body.getD .skip):=by rfl)(u:x.results.toList=[]:=by rfl)(s:inl.all (uJ Tryz.prog)=true:=by kernel_rfl)
  (r:fH (look TT) (jV G).ps=U Q:=by exact rfl)(q:fH (look TT) ((eA 0 (jV G).bx).map (·.2))=U D:=by exact rfl)(p:mT Q=true:=by exact rfl)
  (o:gu (look TT) (jV G).ps (Jp (jV G).ps 0 0 0)=U n:=by exact rfl)(m:lw 0 0 0 Q n=true:=by exact rfl)
  (k:((eA 0 (jV G).bx).all λR=>match look TT R.2 with|U H=>H.d.isAgg||Y H.am==1|none=>E)=true:=by kernel_rfl)
  (j:S.bd ⟨[],lM (jV G).bx ((Jp (jV G).ps 0 0 0).drop (jV G).n),(xj.bU Q).2.ni,(xj.bU Q).2.nb,gh Q,0,0,[]⟩=true:=by kernel_rfl)
  (F:Bool:=E)(h:(KC F t (N5 (nP Tryz.prog TT SG [] inl loops P jA chs) X g (x.body.getD .skip) x.ntmps (jV G) ((Jp (jV G).ps 0 0 0).take (jV G).n++(jV G).bD) ⟨[],lM (jV G).bx ((Jp (jV G).ps 0 0 0).drop (jV G).n),(xj.bU Q).2.ni,(xj.bU Q).2.nb,gh Q,0,0,[]⟩)).bare=t:=by kernel_rfl)
  (f:(KC F t (N5 (nP Tryz.prog TT SG [] inl loops P jA chs) X g (x.body.getD .skip) x.ntmps (jV G) ((Jp (jV G).ps 0 0 0).take (jV G).n++(jV G).bD) ⟨[],lM (jV G).bx ((Jp (jV G).ps 0 0 0).drop (jV G).n),(xj.bU Q).2.ni,(xj.bU Q).2.nb,gh Q,0,0,[]⟩)).fM (look TT) (look PT) (look SG) ((eA 0 (jV G).bx).map (·.2)) (xj.bU Q).2.ni (xj.bU Q).2.nb (gh Q) []=true:=by kernel_rfl):cg G E J t:=
 aEp A B w u s z r q p o m rfl rfl k bq j rfl h f
def ug:zg:=[(121,122,244,.lex [0,1,2] E,E),(101,102,89,.ratio 10 11,J),(104,105,89,.lex [0] E,E),(214,181,292,.lex [1,0] E,E),(260,261,400,.lex [4] J,J),(72,72,3,.dw 0 (.lex [] E) [],J)]
end
end Go.Proofs.YtjnmghiggfgjlaaGreatDoor.Y
namespace Go.Proofs.YtjnmghiggfgjlaaGreatDoor
open Go.RowKit
variable{H:World}{X u:Nat}{R:TypeId}{B:Array Value}
section
def aEr{P:Program}(X:Array TypeId)(t:TypeId)(x y:Int):(Builtin.min_ X t #[.int I x,.int I y]).run P H=.ok (.int I (min x y)) H:=by
 simp[Builtin.min_,Builtin.min2];omega
def aEs{P:Program}(X:Array TypeId)(t:TypeId)(x y:Int):(Builtin.max_ X t #[.int I x,.int I y]).run P H=.ok (.int I (max x y)) H:=by
 simp[Builtin.max_,Builtin.max2];omega
attribute[go_sem high] aEr aEs
def Sl{R:Type}(P:R->List Value)(k:Nat)(w:World)(v:Value)(X:List R):Prop:=
 ∃(a:Option Addr)(W V:Nat),v=.slice a W V/\Y X=W/\W<=V/\V<=4611686018427387904/\
  ∀i(h:i<Y X),∃b Q,a=U ⟨b,Q,Z⟩/\b<w.heap.size/\∀j,j<k->w.cell? ⟨b,Q+i*k+j,Z⟩=(P X[i])[j]?
def Sl.below{W:Type}{V:W->List Value}{R:World}{v:Value}{Q:List W}(h:Sl V X H v Q)(P:Below H.heap.size H R):Sl V X R v Q:=by
 obtain⟨a,N,M,L,G,F,D,B⟩:=h;refine⟨a,N,M,L,G,F,D,λi A=> ?_⟩;obtain⟨b,z,e,O,y⟩:=B i A;exact⟨b,z,e,QR O P.size,λj x=>(P.cell (p:=⟨b,_,Z⟩) O).trans (y j x)⟩
def abP(n:Int):List Value:=[.int I n]
def QI{a b:Bool}(h:a=b):Ending.returned (.bool a)=.returned (.bool b):=by rw[h]
def auC{X:World}(V:Below H.heap.size H X):(∀b o,b<H.heap.size->X.cell? ⟨b,o,Z⟩=H.cell? ⟨b,o,Z⟩)/\(∀b o,b<H.heap.size->X.frozen? ⟨b,o,Z⟩=H.frozen? ⟨b,o,Z⟩):=
 ⟨λb o h=>V.cell (p:=⟨b,o,Z⟩) h,λb o h=>V.frozen (p:=⟨b,o,Z⟩) h⟩
def aEt:List Value:=[.int I 0,.int I 29,.int I 20,.int I 21,.int I 29,.int I 0,.int I 20,.int I (-21),.int I 0,.int I (-29),.int I (-20),.int I (-21),.int I (-29),.int I 0,.int I (-20),.int I 21]
def akj(w:World):Prop:=4<=w.heap.size/\∀i,i<16->w.cell? ⟨2,i,Z⟩=aEt[i]?
def akj.below{X:World}(h:akj H)(W:Below H.heap.size H X):akj X:=
 ⟨mc h.1 W.size,λi V=>(W.cell (p:=⟨2,i,Z⟩) (by have:=h.1;show 2<_;omega)).trans (h.2 i V)⟩
def B5{X:World}(h:Below H.heap.size H X)(o:Obj):Below H.heap.size H (X.alloc o):=h.alloc h.size o
def akk{X:World}(h:Below H.heap.size H X){p:Addr}(W:H.heap.size<=p.block)(u:Value):Below H.heap.size H (X.setCell p u):=h.setCell W u
def Gw{X W:World}(h:Below H.heap.size H X)(k:Below X.heap.size X W):Below H.heap.size H W:=h.trans (k.mono h.size)
def akl{X:World}(h:Below H.heap.size H X):Below H.heap.size H X.drew:=h.drew
def Bx(W:World)(b:Nat)(t:TypeId)(X:Array Value):Prop:=W.heap[b]?=U (.cells X t (0,0))
theorem Bx.lt(h:Bx H X R B):X<H.heap.size:=by
 unfold Bx at h;by_cases V:X<H.heap.size;exact V;rw[aIS (by omega)] at h;cases h
def Bx.cell(h:Bx H X R B):∀i,H.cell? ⟨X,i,Z⟩=B[i]?:=by
 intro i;unfold Bx at h;simp[oD,h]
def Bx.new(w:World)(X:Array Value)(t:TypeId):Bx (w.alloc (.cells X t)) w.heap.size t X:=by
 show(w.heap.push _)[w.heap.size]?=_;simp
def Bx.alloc(h:Bx H X R B)(o:Obj):Bx (H.alloc o) X R B:=
 (Below.heap_alloc H o X h.lt).trans h
def Bx.drew(h:Bx H X R B):Bx H.drew X R B:=h
def Bx.drewN(h:Bx H X R B)(n:Nat):Bx (H.drewN n) X R B:=h
def Bx.below{V:World}(h:Bx H X R B)(Q:Below H.heap.size H V):Bx V X R B:=
 (Q.block X h.lt).trans h
def Bx.set(h:Bx H X R B)(V:Value):Bx (H.setCell ⟨X,u,Z⟩ V) X R (B.setIfInBounds u V):=by
 unfold Bx at*;simp[acm,QP,h]
end
end Go.Proofs.YtjnmghiggfgjlaaGreatDoor
namespace Go.Proofs.YtjnmghiggfgjlaaGreatDoor.K
structure Range where
 Lo:Int
 Hi:Int
 deriving DecidableEq
structure mb where
 X:Range
 Y:Range
 deriving DecidableEq
structure Vec where
 X:Int
 Y:Int
 Z:Int
 deriving DecidableEq
def mb.zero:mb:=⟨⟨0,0⟩,⟨0,0⟩⟩
def B6(m:Int)(X:List Int):Bool:=X.all λn=> !(n< -m||n>m)
def mb.valid(b:mb):Bool:=B6 1099511627776 [b.X.Lo,b.X.Hi,b.Y.Lo,b.Y.Hi]&&decide (b.X.Lo<=b.X.Hi)&&decide (b.Y.Lo<=b.Y.Hi)
def Range.vy(x y:Range):Bool:=decide (x.Lo<=y.Hi)&&decide (y.Lo<=x.Hi)
def mb.vy(a b:mb):Bool:=a.X.vy b.X&&a.Y.vy b.Y
def aEu(m:Int)(X:List Int)(k:Nat)(h:k<Y X):B6 m (X.take (k+1))=(B6 m (X.take k)&& !(X[k]< -m||X[k]>m)):=by
 unfold B6;rw[List.take_succ_eq_append_getElem h,List.all_append];simp
def aEv{m:Int}{X:List Int}{k:Nat}(h:B6 m (X.take k)=E):B6 m X=false:=by
 unfold B6 at*;rw[List.all_eq_false] at*;obtain⟨x,W,h⟩:=h;exact⟨x,GD W,h⟩
end Go.Proofs.YtjnmghiggfgjlaaGreatDoor.K
namespace Go.Proofs.YtjnmghiggfgjlaaGreatDoor
open Go.RowKit
abbrev K.Range.v(x:K.Range):Value:=.agg #[.int I x.Lo,.int I x.Hi]
abbrev K.mb.v(x:K.mb):Value:=.agg #[.int I x.X.Lo,.int I x.X.Hi,.int I x.Y.Lo,.int I x.Y.Hi]
def aEw(m:Int)(v:Value)(X:List Int)(w:World)(z:0<=m)(x:m<=4611686018427387904)(G:Sl abP 1 w v X):
  Calls Tryz.prog 129 #[.int I m,v] w λe F=>e=.returned (.bool (K.B6 m X))/\w=F:=by
 obtain⟨a,W,u,rfl,R,t,s,Q⟩:=G;have D:=Lib.hid Q;clear Q;have P:=Lib.hid R;clear R;go_enter Tryz.func129,Tryz.ntmps129;go_wp2
 go_loop [9] (λi=>∃k:Nat,k<=W/\i=.int I k/\K.B6 m (X.take k)=J) (λi=>W-(intOf i).toNat)
 case atStart=>exact⟨0,rN _,rfl,rfl⟩
 case round=>
  obtain⟨k,r,rfl,O⟩:=hrel;have V:=Lib.hid O;clear O;by_cases B:k<W
  ·have N:k<Y X:=by rw[P.out];exact B
   have M:=K.aEu m X k N;have L:=Lib.hid M;clear M;obtain⟨b,q,rfl,p,H⟩:=D.out k N;have A:=H 0 (by omega);clear H;simp only[abP,Cc,yZ,ala] at A;generalize X[k]=y at*;go_wp2
   all_goals first
    |(go_ret;exact⟨QI (K.aEv (k:=k+1) (by rw[L.out,V.out];simp<;>omega)).symm,rfl⟩)
    |(go_round
      case rel=>exact⟨k+1,by omega,by go_num,by rw[L.out,V.out];simp<;>omega⟩
      case measure=>simp[intOf];omega)
  ·go_wp2;go_ret;exact⟨QI (by rw[<-V.out,Jt (by rw[P.out];omega)]),rfl⟩
def Vb(x:K.mb)(r:Bool)(R:x.valid=r)(w:World):
  Calls Tryz.prog 99 #[x.v] w λe W=>e=.returned (.bool r)/\Below w.heap.size w W:=by
 subst R;have Q:Sl abP 1 ((w.alloc (.cells #[.int I x.X.Lo,.int I x.X.Hi,.int I x.Y.Lo,.int I x.Y.Hi] 218)).alloc (.cells #[.int I x.X.Lo,.int I x.X.Hi,.int I x.Y.Lo,.int I x.Y.Hi] 3)) (.slice (U ⟨w.heap.size+1,0,Z⟩) 4 4) [x.X.Lo,x.X.Hi,x.Y.Lo,x.Y.Hi]:=by
  refine⟨_,_,_,rfl,rfl,by omega,by omega,λi P=>⟨w.heap.size+1,0,rfl,by simp,λj O=> ?_⟩⟩;obtain rfl:j=0:=by omega
  simp at P;rcases i with _|_|_|_|i<;>first|omega|simp[abP,go_sem]
 cases V:K.B6 1099511627776 [x.X.Lo,x.X.Hi,x.Y.Lo,x.Y.Hi]
 all_goals
  go_enter Tryz.func99,Tryz.ntmps99
  go_wp2_with (go_at_call 129;refine(aEw _ _ _ _ (by omega) (by omega) Q).mono ?_;rw[V];rintro e W ⟨rfl,rfl⟩)
  all_goals(go_ret;exact⟨QI (by simp[K.mb.valid,V]<;>omega),B5 (B5 (Below.refl _ _) _) _⟩)
def akm(x y:K.Range)(r:Bool)(X:x.vy y=r)(w:World):
  Calls Tryz.prog 185 #[x.v,y.v] w λe W=>e=.returned (.bool r)/\Below w.heap.size w W:=by
 subst X;by_cases V:x.Lo<=y.Hi
 all_goals
  go_enter Tryz.func185,Tryz.ntmps185;go_wp2
  all_goals(go_ret;exact⟨QI (by simp[K.Range.vy]<;>omega),B5 (B5 (Below.refl _ _) _) _⟩)
def aEx(a b:K.mb)(w:World):
  Calls Tryz.prog 141 #[a.v,b.v,.func (.func 185) #[] #[]] w λe O=>e=.returned (.bool (a.vy b))/\Below w.heap.size w O:=by
 cases R:a.X.vy b.X
 ·have W:=Lib.hid R;clear R;go_enter Tryz.func141,Tryz.ntmps141
  go_wp2_with (go_at_call 185;refine(akm ⟨_,_⟩ ⟨_,_⟩ E W.out _).mono ?_;rintro e N ⟨rfl,V⟩;obtain⟨M,L⟩:=auC V)
  go_ret;exact⟨QI (by simp[K.mb.vy,W.out]),Gw (B5 (B5 (Below.refl _ _) _) _) V⟩
 ·have W:=Lib.hid R;clear R;cases Q:a.Y.vy b.Y
  all_goals
   have P:=Lib.hid Q;clear Q;go_enter Tryz.func141,Tryz.ntmps141
   go_wp2_with fail
   refine(akm ⟨_,_⟩ ⟨_,_⟩ J W.out _).mono ?_;rintro e N ⟨rfl,V⟩;obtain⟨M,L⟩:=auC V
   go_wp2_with fail
   refine(akm ⟨_,_⟩ ⟨_,_⟩ _ P.out _).mono ?_;rintro e G ⟨rfl,H⟩;go_wp2;go_ret;exact⟨QI (by simp[K.mb.vy,W.out,P.out]),Gw (Gw (B5 (B5 (Below.refl _ _) _) _) V) H⟩
abbrev K.Vec.v(x:K.Vec):Value:=.agg #[.int I x.X,.int I x.Y,.int I x.Z]
def aEy(a b:K.mb)(Q:a.valid=J)(P:b.valid=J)(r:Bool)(O:a.vy b= !r)(w:World):
  Calls Tryz.prog 151 #[a.v,b.v] w λe N=>e=.returned (.tuple #[.bool r,.int I 0])/\Below w.heap.size w N:=by
 have M:=Lib.hid Q;clear Q;have L:=Lib.hid P;clear P;have H:=Lib.hid O;clear O;go_enter Tryz.func151,Tryz.ntmps151
 go_wp2_with fail
 refine(Vb ⟨⟨_,_⟩,⟨_,_⟩⟩ J M.out _).mono ?_;rintro e D ⟨rfl,W⟩;have V:=((Bx.new w _ _).alloc _).below W;have X:=(Bx.new (w.alloc _) _ _).below W;simp only[VE] at X;have G:=X.cell
 go_wp2_with fail
 refine(Vb ⟨⟨_,_⟩,⟨_,_⟩⟩ J L.out _).mono ?_;rintro e B ⟨rfl,R⟩;replace V:=V.below R;replace X:=X.below R;have A:=V.cell;have G:=X.cell
 go_wp2_with fail
 refine(aEx ⟨⟨_,_⟩,⟨_,_⟩⟩ ⟨⟨_,_⟩,⟨_,_⟩⟩ _).mono ?_;rw[show K.mb.vy ⟨⟨_,_⟩,⟨_,_⟩⟩ ⟨⟨_,_⟩,⟨_,_⟩⟩= !r from H.out];rintro e z ⟨rfl,F⟩;go_wp2
 go_ret2
 refine⟨by simp, ?_⟩
 repeat' first|with_reducible apply B5|with_reducible apply akl|(with_reducible refine akk ?_ (by dsimp only;omega) _)|with_reducible exact Below.refl _ _|(refine Gw ?_ F)|(refine Gw ?_ R)|(refine Gw ?_ W)
end Go.Proofs.YtjnmghiggfgjlaaGreatDoor
namespace Go.Proofs.YtjnmghiggfgjlaaGreatDoor.Y
open Go.RowKit
noncomputable section
variable{G:FuncId}{x:Func}{w:Code}{X u:Nat}{n:aq}{t:T}{R:TypeId}{M A:av}{y:bu}{v:bA}{H:World}
def aEz(a b:K.mb)(X:a.valid=E)(w:World):Calls Tryz.prog 151 #[a.v,b.v] w λe R=>e=.returned (.tuple #[.bool E,.int I 150])/\Below w.heap.size w R:=by
 have Q:=Lib.hid X;clear X;go_enter Tryz.func151,Tryz.ntmps151
 go_wp2_with fail
 refine(Vb ⟨⟨_,_⟩,⟨_,_⟩⟩ E Q.out _).mono ?_;rintro e P ⟨rfl,W⟩;have V:=(Bx.new (w.alloc _) _ _).below W;simp only[VE] at V;have O:=V.cell;go_wp2
 go_ret2
 refine⟨aw, ?_⟩
 repeat' first|with_reducible apply B5|with_reducible apply akl|(with_reducible refine akk ?_ (by dsimp only;omega) _)|with_reducible exact Below.refl _ _|(refine Gw ?_ W)
def aEA(a b:K.mb)(Q:a.valid=J)(P:b.valid=E)(w:World):Calls Tryz.prog 151 #[a.v,b.v] w λe O=>e=.returned (.tuple #[.bool E,.int I 150])/\Below w.heap.size w O:=by
 have N:=Lib.hid Q;clear Q;have M:=Lib.hid P;clear P;go_enter Tryz.func151,Tryz.ntmps151
 go_wp2_with fail
 refine(Vb ⟨⟨_,_⟩,⟨_,_⟩⟩ J N.out _).mono ?_;rintro e H ⟨rfl,W⟩;have V:=((Bx.new w _ _).alloc _).below W;have X:=(Bx.new (w.alloc _) _ _).below W;simp only[VE] at X;have L:=X.cell
 go_wp2_with fail
 refine(Vb ⟨⟨_,_⟩,⟨_,_⟩⟩ E M.out _).mono ?_;rintro e G ⟨rfl,R⟩;replace V:=V.below R;replace X:=X.below R;have F:=V.cell;have L:=X.cell;go_wp2
 go_ret2
 refine⟨aw, ?_⟩
 repeat' first|with_reducible apply B5|with_reducible apply akl|(with_reducible refine akk ?_ (by dsimp only;omega) _)|with_reducible exact Below.refl _ _|(refine Gw ?_ R)|(refine Gw ?_ W)
def S.bare(s:S):S:=⟨[],[],s.ni,s.nb,s.rs,0,0,s.pd⟩
def abQ:XE->S->T:=λe s=>.out e s.bare
section
variable{g:ar}{q:World}{D:bT}{V:ar}{O:aj}{s:S}{a:Act}{W:World}{o:Ty}{cf:bv}{p:Sp}
def aA.bare(R:aA g q D o V O s a W):aA g q D o [] O s.bare ⟨#[],a.defers⟩ W where
 mem:=⟨R.mem.base,λi h=>by simp[S.bare,aJ,bP] at h,λi j h=>by simp[S.bare,aJ,bP] at h,λi t M h=>by simp[S.bare,bP] at h,λk e X Q P=>⟨(R.mem.ak k e X Q P).1,λb L i h=>by simp[S.bare,aJ,bP] at h⟩⟩
 gC:=rfl
 ei:=R.ei
 eb:=R.eb
 er:=R.er
 dl:=R.dl
 size:=rfl
 tmps:=λt H h=>by simp[S.bare] at h
 eN:=λk e X b Q P N=>⟨(R.eN k e X b Q P N).own,(R.eN k e X b Q P N).mem,λi h=>by simp[S.bare,aJ,bP] at h,(R.eN k e X b Q P N).alone,(R.eN k e X b Q P N).inner⟩
def aEB(L:jd p cf)(r:p.P.funcs[G]?=U x)(h:x.body=U w)(b:x.results.toList=[])(hD:p.D=bT.none){s:S}{O:aj}{V:ar}
  (ht:fP cf X G w {s with tmps:=n++eu (x.ntmps-Y n) (.bH [])} iC abQ=t)(B:t.aM p O [])(hg:eB cf.gl O)(R:aA p.S0 p.w0 bT.none cf.ty V O {s with tmps:=[]} ⟨#[],[]⟩ p.w0)
  (hQ:∀e a W,p.Q e a W->(e=.normal\/e=.ret)/\p.R (.returned (.tuple #[])) W):
  Calls p.P G (C.az O V n).toArray p.w0 p.R:=by
 subst ht;refine Kq r h ?_;have RE:=R.enter n x.ntmps R.dl;refine(Ku L X).1 bT.none ⟨{s with tmps:=n++eu (x.ntmps-Y n) (.bH [])},O,V,[]⟩ iC Z G w _ _ [] O V _ p.w0 _ (Fb _ _) (jF.here _ _ _ _) rfl (λhh=>by cases hh) ⟨x,r⟩ B RE hg ?_ ?_;intro m N A pd y hA hR;obtain⟨aa,H,q0,z,F⟩:=hA.mu;show LeavesInM Fence.wide 0 p.P x N.tmps p.R N.defers (.panicking m) A;rw[H];exact rZ aw (xp.1 z).1 (λd M=>(F d (by simp[M])).1) (SH (L.Xb m) (λd M=>(F d (by simp[M])).2) hR);intro e s' O' V' N A L' hl hL k B;obtain⟨aa,H,q0,z,F⟩:=k.dl.mu;have j:=k.rm H;have u:=hQ _ _ _ (B O'.y [] _ _ (by rw[L.pt,hD];exact j.bare));have i:LeavesInM Fence.wide 0 p.P x N.tmps p.R N.defers .returning (A):=by
  rw[H];refine rZ aw (xp.1 z).1 (λd M=>(F d (by simp[M])).1) ⟨_,Kk (l:=[]) j L.kK (by rw[b];rfl), ?_⟩;exact u.2
 cases e with|normal=>exact i|ret=>exact i|bp v=>have:=u.1;simp[XE.to] at this|exit id=>have:=u.1;simp[XE.to] at this
def aEC{A:oY}{P:Nat}(Q:aA (mW A P).toList q D cf.ty V O s a W)(y:s.rs[X]?=U (.own R))(x:O.rv X=.mk (.slice A u P) M):
  q.grownBy W (mW A P)/\Hg q W R (bI cf.ty (.sl R)).length (mW A P) M A P:=by
 obtain⟨l,j,g,N,H,F⟩:=Sa Q y;rw[x] at N H;simp only[RV.mU] at N H;injection N with N _;injection N with w B v;subst w;subst B;subst v;obtain⟨B,f⟩:=uE H;have L:=Q.mem.base;refine⟨⟨L.os,L.tape,L.output,L.size,λi t r=>L.block i t (λG=>r ?_)⟩,⟨ae,F.nil, ?_⟩⟩;exact((by simpa[Option.mem_toList] using G:mW A P=U i)).symm;rcases F.mem with h|⟨b,db,rfl,z,G,m⟩;exact .inl h;cases P with|zero=>exact .inl rfl|succ c=>exact .inr ⟨b,db,rfl,z,G,m,adJ H z,.inr rfl⟩
end
def jW:mP->aE->Prop
 |[],x=>x=[]|b::X,c::r=>(if b then∃n,c=.mk (.int I n) [] else∃q,c=.mk (.bool q) [])/\jW X r|_::_,[]=>False
def Gx(b:Bool):CT:=if b then .int I else .bool
def xk(c:RV):RV:=.mk c.val []
def fD(X:av):av:=X.map λW=>W.map xk
def akn(c:Nat)(x:aE):aW c (x.map xk)=aW c x:=by
 simp only[aW,dM,et];cases x[c]?<;>rfl
def auE(d:Bool)(x y:aE):∀X,jD d X (x.map xk) (y.map xk)=jD d X x y
 |[]=>rfl|c::X=>by simp only[jD,akn,auE d x y X]
def ako(o:bu)(x y:aE):o.lt (x.map xk) (y.map xk)=o.lt x y:=by
 cases o with|lex X d=>exact auE d x y X|ratio n d=>simp only[bu.lt,akn]|dw k o W=>rfl
def aED(o:bu)(x:aE):o.ok (x.map xk)=o.ok x:=by
 cases o with|lex X d=>rfl|ratio n d=>simp only[bu.ok,akn]|dw k o W=>rfl
def auF(o:bu)(x:aE):∀l,fl o.lt (x.map xk) (fD l)=fD (fl o.lt x l)
 |[]=>rfl
 |y::r=>by
  have X:=auF o x r;simp only[fD,dH,fl,ako] at X⊢;split;rfl;rw[X];rfl
def auG(o:bu)(l:av):bN o.lt (fD l)=fD (bN o.lt l):=by
 have:∀l acc,(fD l).foldl (λacc x=>fl o.lt x acc) (fD acc)=fD (l.foldl (λacc x=>fl o.lt x acc) acc):=by
  intro l;induction l with
  |nil=>intro acc;rfl
  |cons x l X=>
   intro acc;have:=X (fl o.lt x acc);rw[<-auF] at this;exact this
 exact this l []
def auH(o:bu)(l:av):(fD l).all o.ok=l.all o.ok:=by
 simp only[fD,QZ];congr 1;funext x;exact aED o x
def aEE(l:av)(a b:Nat):bi (fD l) a b=fD (bi l a b):=by simp[bi,fD]
def auI(o:bu):∀l,zu o.lt (fD l)=zu o.lt l
 |[]=>rfl
 |x::r=>by
  have X:=auI o r;simp only[fD,dH,zu,QZ] at X⊢;rw[X];congr 2;funext y;simp only[Function.comp,ako]
def aEF(l:av)(a:Nat):(fD l).take a=fD (l.take a):=by simp[fD]
def aEG(l:av)(a:Nat):(fD l).drop a=fD (l.drop a):=by simp[fD]
def aEH(l m:av):fD (l++m)=fD l++fD m:=by simp[fD]
def B7(l:av):(fD l).length=Y l:=by simp[fD]
def aEI(h:og X y v M=U A):og X y v (fD M)=U (fD A):=by
 unfold og at h⊢;split at h
 all_goals first|(split at h<;>first|(cases h;done)|skip)|skip
 all_goals first|(cases h;done)|skip
 all_goals
  rename_i W;cases h;simp only[B7,auH,aEE,auI,aEF,aEG,auG,<-aEH];rw[aH W]
def aEJ(h:qz X y v M=U A):qz X y v (fD M)=U (fD A):=by
 obtain⟨W,V⟩:=CQ h;unfold qz;rw[B7,aH W];exact aEI V
def auJ(l:av):eF (fD l)=eF l:=by
 simp only[eF,fD,List.flatMap_map];congr 1;funext x;simp only[oX];rfl
def auK:∀(X:mP)(W:aE),Y W=Y X->(∀(j:Nat)(c:RV)(k:IntKind),W[j]?=U c->(X.map Gx)[j]?=U (.int k)->∃n,c.val=.int k n)->(∀(j:Nat)(c:RV),W[j]?=U c->(X.map Gx)[j]?=U .bool->∃x,c.val=.bool x)->jW X (W.map xk)
 |[],[],_,_,_=>rfl|[],_::_,h,_,_=>by simp at h|_::_,[],h,_,_=>by simp at h
 |b::N,c::r,M,P,O=>by
  refine⟨?_,auK N r (by simpa using M) (λj c k V R=>P (j+1) c k (by simpa using V) (by simpa using R)) (λj c V R=>O (j+1) c (by simpa using V) (by simpa using R))⟩;cases b with
  |true=>
   obtain⟨n,Q⟩:=P 0 c I rfl rfl;exact⟨n,by simp[xk,Q]⟩
  |false=>
   obtain⟨n,Q⟩:=O 0 c rfl rfl;exact⟨n,by simp[xk,Q]⟩
def auL{L:Ty}{X:mP}(Q:bI L (.sl R)=X.map Gx)(h:fU H L R M):∀x∈fD M,jW X x:=by
 intro x G;obtain⟨V,F,rfl⟩:=fw.1 G;obtain⟨i,P⟩:=sK F;refine auK X V ?_ (λj c k O N=>h.int i j V c k P O (by rw[Q];exact N)) (λj c O N=>h.bool i j V c P O (by rw[Q];exact N));have:=h.len i V P;rw[Q,oW] at this;exact this
def auM{x:Ty}{A:oY}(s:∀(j:Nat)(z:Value)(k:RK),(bI x (.sl R))[j]?≠U (.bw z k))(h:bG H x (.sl R) (.mk (.slice A X u) M)):bG H x (.sl R) (.mk (.slice A X u) (fD M)):=by
 have w:∀{i:Nat}{P:aE},(fD M)[i]?=U P->∃V,M[i]?=U V/\P=V.map xk:=by
  intro i P y;simp only[fD,et,Vx] at y;obtain⟨V,L,G⟩:=y;exact⟨V,L,G.symm⟩
 have v:∀{V:aE}{j:Nat}{c:RV},(V.map xk)[j]?=U c->∃Q,V[j]?=U Q/\c=xk Q:=by
  intro V j c t;simp only[et,Vx] at t;obtain⟨Q,L,G⟩:=t;exact⟨Q,L,G.symm⟩
 cases h with
 |sl R A f u M L G r y q d=>
  refine bG.sl R A X u (fD M) (by rw[B7];exact L) G (λi P O=> ?_) (λi j P c k O N F=> ?_) (λi j P c O N F=> ?_) (λi j P c z k O N F=>(s j z k F).elim);obtain⟨V,D,rfl⟩:=w O;obtain⟨p,b,o,m,l,g⟩:=r i V D;refine⟨by simpa using p,b,o,m,l,λj c N=> ?_⟩;obtain⟨Q,B,rfl⟩:=v N;exact g j Q B;obtain⟨V,D,rfl⟩:=w O;obtain⟨Q,B,rfl⟩:=v N;exact y i j V Q k D B F;obtain⟨V,D,rfl⟩:=w O;obtain⟨Q,B,rfl⟩:=v N;exact q i j V Q D B F
def Tgt(p:Sp)(e:TypeId)(v:Value)(aF:av):Prop:=∀(X:Exit)(s:S)(O:aj)(V:ar)(a:Act)(W:World)(k:Nat),(X=.normal\/X=.ret)->aA p.S0 p.w0 p.D p.ty V O s a W->s.rs[k]?=U (.own e)->O.rv k=.mk v aF->p.Q X a W
def L7(P:Program)(X:mP)(g:FuncId)(o:bu):Prop:=∀(W:World)(x y:aE),jW X x->jW X y->o.ok x=J->o.ok y=J->
 Calls P g #[.agg (x.map RV.val).toArray,.agg (y.map RV.val).toArray] W λV R=>Below W.heap.size W R/\∃c:Int,V=.returned (.int I c)/\(c<0<->o.lt x y=J)
def abR(X:mP)(e g:Nat)(o:bu)(F:bA->av->ER)(N:Nat)(t:T):Prop:=∀(p:Sp)(v:Value)(W aF:av)(V:bA),p.P=Tryz.prog->L7 Tryz.prog X g o->(∃A n R,v=.slice A n R/\Y W=n/\n<=1099511627776)->(∀x∈W,jW X x)->Y V=N->F V W=U aF->Tgt p e v aF->t.aM p ⟨V,[],[.mk v W],[]⟩ []
abbrev Vc(X:mP)(e g:Nat)(o:bu)(k N:Nat)(t:T):Prop:=abR X e g o (qz k o) N t
def akp{N n:Nat}{o:bu}{F:bA->av->ER}{K:mP}{t:T}{args:aq}{inl:ar}{loops:List (Nat×Nat×fF)}{srts:zg}{chs:AK}
  (hf:Tryz.prog.funcs[G]?=U x)(hb:x.body=U w)(h0:x.results.toList=[])(hi:inl.all (uJ Tryz.prog)=J)(af:ue srts)(hK:bI (look TT) (.sl u)=K.map Gx)(ag:L7 Tryz.prog K X o)
  (ht:fP (nP Tryz.prog TT SG [] inl loops srts E chs) n G w ⟨args++eu (x.ntmps-Y args) (.bH []),[],N,0,[.own u],0,0,[]⟩ iC abQ=t)(hh:abR K u X o F N t)
  (al:∀(B:bA)(k:RV),Y B=N->C.az ⟨B,[],[k],[]⟩ [] args=k.val::(B.map (Value.int I)++[.func (.func X) #[] #[]]))
  (ov:∀(B:bA)(M A:av),F B M=U A->F B (fD M)=U (fD A))
  (aa:∀(B:bA)(M A:av),F B M=U A->Y B=N/\Y M<=1099511627776){Q:oY}{L O:Nat}(hH:bG H (look TT) (.sl u) (.mk (.slice Q L O) M))(hR:Kf H u (bI (look TT) (.sl u)).length Q O)(hT:F v M=U A):
  Calls Tryz.prog G (Sf (.slice Q L O) v X) H λen D=>en=.returned (.tuple #[])/\H.grownBy D (mW Q O)/\Hg H D u (bI (look TT) (.sl u)).length (mW Q O) A Q O:=by
 have hN:=(aa _ _ _ hT).1;have hp:∀(j:Nat)(z:Value)(q:RK),(bI (look TT) (.sl u))[j]?≠U (.bw z q):=by
  intro j z q y;rw[hK,et] at y;cases hb:K[j]? with|none=>rw[hb] at y;cases y|some b=>rw[hb] at y;cases b<;>simp[Gx] at y
 have ab:=auM hp hH;have ac:=ov _ _ _ hT;obtain⟨an,a0⟩:=uE ab;let O0:aj:=⟨v,[],[.mk (.slice Q L O) (fD M)],[]⟩;let R:Ending->World->Prop:=λen D=>en=.returned (.tuple #[])/\H.grownBy D (mW Q O)/\Hg H D u (bI (look TT) (.sl u)).length (mW Q O) A Q O
 let p:Sp:=⟨Tryz.prog,look TT,(mW Q O).toList,H,bT.none,R,λex a D=>(ex=.normal\/ex=.ret)/\R (.returned (.tuple #[])) D⟩;have ok:jd p (nP Tryz.prog TT SG [] inl loops srts E chs):=NT Jo QG hi QH (λch D b ob _ h=>by have:=h.1;cases this) af;have a1:(C.az O0 [] args).toArray=Sf (.slice Q L O) v X:=by rw[al v _ hN];rfl
 rw[<-a1];have a3:∀b,(RV.mk (.slice Q L O) (fD M)).lq=U b->mW Q O=U b:=λb h=>by rw[Nk] at h;exact h
 have a4:aA p.S0 p.w0 bT.none (look TT) [] O0 {(⟨[],[],N,0,[.own u],0,0,[]⟩:S) with tmps:=[]} ⟨#[],[]⟩ p.w0:=by
  refine⟨⟨fk.refl _ _,λi h=>by simp[aJ,bP] at h,λi j h=>by simp[aJ,bP] at h,λi t cs h=>by simp[bP] at h,λq e' k r m=> ?_⟩,rfl,hN,rfl,rfl,SU _ _,rfl,λt sv h=>by simp at h,λq e' k b r m h3=> ?_⟩;cases q with
  |succ q=>simp at r
  |zero=>
   simp only[Cc,dW] at r;have m:k=.mk (.slice Q L O) (fD M):=(nE m).symm;subst r;subst m;refine⟨bG.own u _ ab λl w hv=> ?_,λb _ i h=>by simp[aJ,bP] at h⟩;simp only[RV.pe,Value.slice.injEq] at hv;rw[<-hv.2.2];exact hR.nil hv.1
  cases q with
  |succ q=>simp at r
  |zero=>
   simp only[Cc,dW] at r;have m:k=.mk (.slice Q L O) (fD M):=(nE m).symm;injection r with r;subst r;subst m;have d:=a3 b h3;rcases hR.mem with y|⟨b',db,rfl,hg,hm,a9⟩
   ·subst y;unfold mW at d;split at d<;>first|(cases d;done)|omega|skip
    all_goals simp_all
   have ba:b'=b:=by
    cases O with|zero=>cases d|succ w=>exact nE d
   subst ba;have bb:b'≠H.heap.size:=λy=>by
    rw[y] at hg;simp at hg
   refine⟨.inr (by show b'∈rf H.heap.size (mW _ O).toList;rw[d];simp[rf,bb]),⟨L,O,db,rfl,hg,a0,hm,a9⟩,λi h=>by simp[aJ,bP] at h,λk' e' bg hk h=> ?_, ?_⟩;cases k' with|zero=>exact bF rfl hk|succ k'=>simp at h
   rintro⟨i,j,bk,w,z,q,_,_,hq,_⟩;exact hp j z q hq
 have bc:L<=1099511627776:=by
  have:=(aa _ _ _ ac).2;omega
 have bd:=hh p (.slice Q L O) (fD M) (fD A) v rfl ag ⟨Q,L,O,rfl,an,bc⟩ (auL hK (fU.zx hH)) hN ac (λex s O1 V a D k' bf RR hk hr=>by
  refine⟨bf,rfl, ?_⟩;obtain⟨g1,g2⟩:=aEC (cf:=nP Tryz.prog TT SG [] inl loops srts E chs) RR hk hr;exact⟨g1,⟨by have:=g2.le;rwa [B7] at this,g2.nil,by have:=g2.mem;rwa [auJ,B7] at this⟩⟩)
 exact aEB ok hf hb h0 rfl ht bd (λP hx=>by simp[nP] at hx) a4 (λex a D h=>h)
def aEK{N V:Nat}{L:bu}{F:bA->av->ER}{H:Bool}{R:mP}{loops:List (Nat×Nat×fF)}{D:zg}{z:AK}
  (v:Tryz.prog.funcs[G]?=U x)(s:x.body=U w)(r:x.results.toList=[])(q:uJ Tryz.prog G=J)(p:ue D)(m:bI (look TT) (.sl u)=R.map Gx)(l:L7 Tryz.prog R X y)
  (k:fP (nP Tryz.prog TT SG [] [] loops D E z) V G w ⟨n++eu (x.ntmps-Y n) (.bH []),[],N,0,[.own u],0,0,[]⟩ iC abQ=t)(j:abR R u X y F N t)
  (i:∀(Q:bA)(B:RV),Y Q=N->C.az ⟨Q,[],[B],[]⟩ [] n=B.val::(Q.map (Value.int I)++[.func (.func X) #[] #[]]))
  (h:∀(Q:List K)(M:bu)(O:aj)(P aF:av),L.fill Q=U M->lu O M H P=U aF->F (Q.map (K.ai O)) P=U aF)(ov:∀(Q:bA)(P aF:av),F Q P=U aF->F Q (fD P)=U (fD aF))
  (d:∀(Q:bA)(P aF:av),F Q P=U aF->Y Q=N/\Y P<=1099511627776):rj Tryz.prog (look TT) G X u L H:=
 ⟨xO q,λW A n' aa P aF O Q M b a hR hT=>akp (inl:=[]) v s r rfl p m l k j i ov d a hR (h Q M O P aF b hT)⟩
def L8(W:X≠2)(h:og X y v M=U A):Y v=3:=by
 unfold og at h;split at h
 all_goals first|rfl|(exact bF rfl W)|cases h
def auO(h:og 2 y v M=U A):Y v=2:=by
 unfold og at h;split at h
 all_goals first|rfl|cases h|(rename_i X;cases X)
def Jq{k N n:Nat}{K:mP}{t:T}{args:aq}{loops:List (Nat×Nat×fF)}{srts:zg}{chs:AK}
  (P:Tryz.prog.funcs[G]?=U x)(M:x.body=U w)(L:x.results.toList=[])(H:uJ Tryz.prog G=J)(D:ue srts)(B:bI (look TT) (.sl u)=K.map Gx)(A:L7 Tryz.prog K X y)
  (z:fP (nP Tryz.prog TT SG [] [] loops srts E chs) n G w ⟨args++eu (x.ntmps-Y args) (.bH []),[],N,0,[.own u],0,0,[]⟩ iC abQ=t)(v:Vc K u X y k N t)
  (s:∀(W:bA)(R:RV),Y W=N->C.az ⟨W,[],[R],[]⟩ [] args=R.val::(W.map (Value.int I)++[.func (.func X) #[] #[]]))
  (r:∀(W:bA)(V aF:av),og k y W V=U aF->Y W=N):rj Tryz.prog (look TT) G X u (.dw k y []) false:=
 aEK (F:=qz k y) P M L H D B A z v s (λW p O V aF Q q=>by
  simp only[bu.fill,dW] at Q;subst Q;exact q) (λW V aF h=>aEJ h) (λW V aF h=>⟨r W V aF (CQ h).2,(CQ h).1⟩)
abbrev dZ(a b:K):K:=.bin .add I a b
abbrev em(a b:K):K:=.bin .sub I a b
abbrev iN(a b:K):BE:=.cmp .lss a b
abbrev fK(a:K):C:=.int I a
abbrev gm(x:K)(k:Nat)(t:T):T:=.aQ (.and (.cmp .leq (.c 0) x) (.cmp .lss x (.len (.v k)))) t
section
variable(e g i h l f N:Nat)(o:bu)(d:RE->K->aq)
def abS:T:=(.loop 0 [.ak (.own e),.int I] [(.ak (.v 0)),(fK (.c 0))]
 (.aI (iN (.v 3) (.v 2))
 (gm (dZ (.v 1) (.v 3)) 1
 (gm (dZ (.v 1) (.v 3)) 1
 (gm (dZ (.v 0) (.v 3)) 1
 (gm (dZ (.v 0) (.v 3)) 1
 (gm (dZ (.v 0) (.v 3)) 1
 (gm (dZ (.v 0) (.v 3)) 1
 (.new e (.set (.ak (.v 1)) (dZ (.v 0) (.v 3)) 0 (d (.v 1) (dZ (.v 1) (.v 3)))) [.aR,(.own e)] [.aR,.aR,(.own e)]
 (gm (dZ (.v 1) (.v 3)) 2
 (gm (dZ (.v 1) (.v 3)) 2
 (.new e (.set (.ak (.v 2)) (dZ (.v 1) (.v 3)) 0 (d (.v 1) (dZ (.v 0) (.v 3)))) [.aR,.aR,(.own e)] [.aR,.aR,.aR,(.own e)]
 (.back 0 [(.ak (.v 3)),(fK (dZ (.v 3) (.c 1)))])))))))))))
 (.out .normal ⟨[],[],4,0,[.aR,(.own e)],0,0,[]⟩)))
def abT:T:=(.loop 0 [.ak (.own e),.int I,.int I] [(.ak (.v 0)),(fK (em (.v 1) (.v 0))),(fK (em (.v 2) (.v 1)))]
 (.aI (.cmp .neq (.v 3) (.v 4))
 (.aI (.cmp .gtr (.v 3) (.v 4))
  (.eE i g e (.dw 0 o [(em (.v 1) (.v 3)),(.v 1),(.v 4)]) E (.v 1) [.aR,(.own e)]
  (.back 0 [(.ak (.v 2)),(fK (em (.v 3) (.v 4))),(fK (.v 4))]))
  (.eE i g e (.dw 0 o [(em (.v 1) (.v 3)),(em (dZ (.v 1) (.v 4)) (.v 3)),(.v 3)]) E (.v 1) [.aR,(.own e)]
  (.back 0 [(.ak (.v 2)),(fK (.v 3)),(fK (em (.v 4) (.v 3)))])))
 (.eE i g e (.dw 0 o [(em (.v 1) (.v 3)),(.v 1),(.v 3)]) E (.v 1) [.aR,(.own e)]
 (.out .normal ⟨[],[],5,0,[.aR,.aR,(.own e)],0,0,[]⟩))))
def abU:T:=(.loop 0 [.ak (.own e),.int I] [(.ak (.v 0)),(fK (dZ (.v 0) (.c 1)))]
 (.aI (iN (.v 2) (.v 1))
 (.loop 1 [.ak (.own e),.int I] [(.ak (.v 1)),(fK (.v 2))]
  (.aI (.cmp .gtr (.v 3) (.v 0))
  (gm (.v 3) 2
  (gm (.v 3) 2
  (gm (em (.v 3) (.c 1)) 2
  (gm (em (.v 3) (.c 1)) 2
  (.call g [(.agg (d (.v 2) (.v 3))),(.agg (d (.v 2) (em (.v 3) (.c 1))))] [] [.aR,.aR,.aR] [.int I] (fK (.v 4))
  (.aI (iN (.v 4) (.c 0))
   (gm (em (.v 3) (.c 1)) 2
   (gm (em (.v 3) (.c 1)) 2
   (gm (.v 3) 2
   (gm (.v 3) 2
   (gm (.v 3) 2
   (gm (.v 3) 2
   (.new e (.set (.ak (.v 2)) (.v 3) 0 (d (.v 2) (em (.v 3) (.c 1)))) [.aR,.aR,(.own e)] [.aR,.aR,.aR,(.own e)]
   (gm (em (.v 3) (.c 1)) 3
   (gm (em (.v 3) (.c 1)) 3
   (.new e (.set (.ak (.v 3)) (em (.v 3) (.c 1)) 0 (d (.v 2) (.v 3))) [.aR,.aR,.aR,(.own e)] [.aR,.aR,.aR,.aR,(.own e)]
   (.back 1 [(.ak (.v 4)),(fK (em (.v 3) (.c 1)))])))))))))))
   (.back 0 [(.ak (.v 2)),(fK (dZ (.v 2) (.c 1)))])))))))
  (.back 0 [(.ak (.v 2)),(fK (dZ (.v 2) (.c 1)))])))
 (.out .normal ⟨[],[],3,0,[.aR,(.own e)],0,0,[]⟩)))
abbrev rK:K:=(.conv I (.bin .shr .u64 (.conv .u64 (dZ (.v 3) (.v 4))) (.c 1)))
abbrev ec:K:=(.conv I (.bin .shr .u64 (.conv .u64 (dZ (.v 0) (.v 2))) (.c 1)))
def Vd:T:=(.aI (iN (.v 3) (.v 1))
   (.aI (iN (.v 1) (em (dZ ec (.v 1)) (.v 3)))
    (.eE h g e (.dw 1 o [(.v 3),(.v 1),(em (dZ ec (.v 1)) (.v 3))]) E (.v 1) [.aR,(.own e)]
    (.aI (iN (.v 0) (.v 3))
    (.aI (iN (.v 3) ec)
     (.eE f g e (.dw (N+3) o [(.v 0),(.v 3),ec]) E (.v 2) [.aR,.aR,(.own e)]
     (.aI (iN ec (em (dZ ec (.v 1)) (.v 3)))
     (.aI (iN (em (dZ ec (.v 1)) (.v 3)) (.v 2))
      (.eE f g e (.dw (N+3) o [ec,(em (dZ ec (.v 1)) (.v 3)),(.v 2)]) E (.v 3) [.aR,.aR,.aR,(.own e)]
      (.out .normal ⟨[],[],5,0,[.aR,.aR,.aR,.aR,(.own e)],0,0,[]⟩))
      (.out .normal ⟨[],[],5,0,[.aR,.aR,.aR,(.own e)],0,0,[]⟩))
     (.out .normal ⟨[],[],5,0,[.aR,.aR,.aR,(.own e)],0,0,[]⟩)))
     (.aI (iN ec (em (dZ ec (.v 1)) (.v 3)))
     (.aI (iN (em (dZ ec (.v 1)) (.v 3)) (.v 2))
      (.eE f g e (.dw (N+3) o [ec,(em (dZ ec (.v 1)) (.v 3)),(.v 2)]) E (.v 2) [.aR,.aR,(.own e)]
      (.out .normal ⟨[],[],5,0,[.aR,.aR,.aR,(.own e)],0,0,[]⟩))
      (.out .normal ⟨[],[],5,0,[.aR,.aR,(.own e)],0,0,[]⟩))
     (.out .normal ⟨[],[],5,0,[.aR,.aR,(.own e)],0,0,[]⟩)))
    (.aI (iN ec (em (dZ ec (.v 1)) (.v 3)))
     (.aI (iN (em (dZ ec (.v 1)) (.v 3)) (.v 2))
     (.eE f g e (.dw (N+3) o [ec,(em (dZ ec (.v 1)) (.v 3)),(.v 2)]) E (.v 2) [.aR,.aR,(.own e)]
     (.out .normal ⟨[],[],5,0,[.aR,.aR,.aR,(.own e)],0,0,[]⟩))
     (.out .normal ⟨[],[],5,0,[.aR,.aR,(.own e)],0,0,[]⟩))
     (.out .normal ⟨[],[],5,0,[.aR,.aR,(.own e)],0,0,[]⟩))))
    (.aI (iN (.v 0) (.v 3))
    (.aI (iN (.v 3) ec)
     (.eE f g e (.dw (N+3) o [(.v 0),(.v 3),ec]) E (.v 1) [.aR,(.own e)]
     (.aI (iN ec (em (dZ ec (.v 1)) (.v 3)))
     (.aI (iN (em (dZ ec (.v 1)) (.v 3)) (.v 2))
      (.eE f g e (.dw (N+3) o [ec,(em (dZ ec (.v 1)) (.v 3)),(.v 2)]) E (.v 2) [.aR,.aR,(.own e)]
      (.out .normal ⟨[],[],5,0,[.aR,.aR,.aR,(.own e)],0,0,[]⟩))
      (.out .normal ⟨[],[],5,0,[.aR,.aR,(.own e)],0,0,[]⟩))
     (.out .normal ⟨[],[],5,0,[.aR,.aR,(.own e)],0,0,[]⟩)))
     (.aI (iN ec (em (dZ ec (.v 1)) (.v 3)))
     (.aI (iN (em (dZ ec (.v 1)) (.v 3)) (.v 2))
      (.eE f g e (.dw (N+3) o [ec,(em (dZ ec (.v 1)) (.v 3)),(.v 2)]) E (.v 1) [.aR,(.own e)]
      (.out .normal ⟨[],[],5,0,[.aR,.aR,(.own e)],0,0,[]⟩))
      (.out .normal ⟨[],[],5,0,[.aR,(.own e)],0,0,[]⟩))
     (.out .normal ⟨[],[],5,0,[.aR,(.own e)],0,0,[]⟩)))
    (.aI (iN ec (em (dZ ec (.v 1)) (.v 3)))
     (.aI (iN (em (dZ ec (.v 1)) (.v 3)) (.v 2))
     (.eE f g e (.dw (N+3) o [ec,(em (dZ ec (.v 1)) (.v 3)),(.v 2)]) E (.v 1) [.aR,(.own e)]
     (.out .normal ⟨[],[],5,0,[.aR,.aR,(.own e)],0,0,[]⟩))
     (.out .normal ⟨[],[],5,0,[.aR,(.own e)],0,0,[]⟩))
     (.out .normal ⟨[],[],5,0,[.aR,(.own e)],0,0,[]⟩))))
   (.aI (iN (.v 0) (.v 3))
    (.aI (iN (.v 3) ec)
    (.eE f g e (.dw (N+3) o [(.v 0),(.v 3),ec]) E (.v 1) [.aR,(.own e)]
    (.aI (iN ec (em (dZ ec (.v 1)) (.v 3)))
     (.aI (iN (em (dZ ec (.v 1)) (.v 3)) (.v 2))
     (.eE f g e (.dw (N+3) o [ec,(em (dZ ec (.v 1)) (.v 3)),(.v 2)]) E (.v 2) [.aR,.aR,(.own e)]
     (.out .normal ⟨[],[],5,0,[.aR,.aR,.aR,(.own e)],0,0,[]⟩))
     (.out .normal ⟨[],[],5,0,[.aR,.aR,(.own e)],0,0,[]⟩))
     (.out .normal ⟨[],[],5,0,[.aR,.aR,(.own e)],0,0,[]⟩)))
    (.aI (iN ec (em (dZ ec (.v 1)) (.v 3)))
     (.aI (iN (em (dZ ec (.v 1)) (.v 3)) (.v 2))
     (.eE f g e (.dw (N+3) o [ec,(em (dZ ec (.v 1)) (.v 3)),(.v 2)]) E (.v 1) [.aR,(.own e)]
     (.out .normal ⟨[],[],5,0,[.aR,.aR,(.own e)],0,0,[]⟩))
     (.out .normal ⟨[],[],5,0,[.aR,(.own e)],0,0,[]⟩))
     (.out .normal ⟨[],[],5,0,[.aR,(.own e)],0,0,[]⟩)))
    (.aI (iN ec (em (dZ ec (.v 1)) (.v 3)))
    (.aI (iN (em (dZ ec (.v 1)) (.v 3)) (.v 2))
     (.eE f g e (.dw (N+3) o [ec,(em (dZ ec (.v 1)) (.v 3)),(.v 2)]) E (.v 1) [.aR,(.own e)]
     (.out .normal ⟨[],[],5,0,[.aR,.aR,(.own e)],0,0,[]⟩))
     (.out .normal ⟨[],[],5,0,[.aR,(.own e)],0,0,[]⟩))
    (.out .normal ⟨[],[],5,0,[.aR,(.own e)],0,0,[]⟩))))
def akq:T:=(.loop 0 [.ak (.own e),.int I,.int I] [(.ak (.v 0)),(fK (.v 1)),(fK (.v 2))]
 (.aI (iN (.v 3) (.v 4))
  (gm rK 1
  (gm rK 1
  (gm (.v 0) 1
  (gm (.v 0) 1
  (.call g [(.agg (d (.v 1) rK)),(.agg (d (.v 1) (.v 0)))] [] [.aR,.aR] [.int I] (fK (.v 5))
  (.aQ (.c J)
  (.aI (iN (.v 5) (.c 0))
  (.back 0 [(.ak (.v 1)),(fK (dZ rK (.c 1))),(fK (.v 4))])
  (.back 0 [(.ak (.v 1)),(fK (.v 3)),(fK rK)]))))))))
  (.loop 1 [.ak (.own e),.int I] [(.ak (.v 1)),(fK (.v 0))]
  (.aI (iN (.v 5) (em (.v 3) (.c 1)))
   (gm (dZ (.v 5) (.c 1)) 2
   (gm (dZ (.v 5) (.c 1)) 2
   (gm (.v 5) 2
   (gm (.v 5) 2
   (gm (.v 5) 2
   (gm (.v 5) 2
   (.new e (.set (.ak (.v 2)) (.v 5) 0 (d (.v 2) (dZ (.v 5) (.c 1)))) [.aR,.aR,(.own e)] [.aR,.aR,.aR,(.own e)]
   (gm (dZ (.v 5) (.c 1)) 3
   (gm (dZ (.v 5) (.c 1)) 3
   (.new e (.set (.ak (.v 3)) (dZ (.v 5) (.c 1)) 0 (d (.v 2) (.v 5))) [.aR,.aR,.aR,(.own e)] [.aR,.aR,.aR,.aR,(.own e)]
   (.back 1 [(.ak (.v 4)),(fK (dZ (.v 5) (.c 1)))])))))))))))
   (.out .ret ⟨[],[],6,0,[.aR,.aR,(.own e)],0,0,[]⟩)))))
def akr:T:=(.loop 0 [.ak (.own e),.int I,.int I] [(.ak (.v 0)),(fK (.v 0)),(fK (.v 1))]
  (.aI (iN (.v 3) (.v 4))
  (gm (.v 1) 1
  (gm (.v 1) 1
  (gm rK 1
  (gm rK 1
  (.call g [(.agg (d (.v 1) (.v 1))),(.agg (d (.v 1) rK))] [] [.aR,.aR] [.int I] (fK (.v 5))
  (.aQ (.c J)
  (.aQ (.c J)
  (.aI (.not (iN (.v 5) (.c 0)))
   (.back 0 [(.ak (.v 1)),(fK (dZ rK (.c 1))),(fK (.v 4))])
   (.back 0 [(.ak (.v 1)),(fK (.v 3)),(fK rK)])))))))))
  (.loop 1 [.ak (.own e),.int I] [(.ak (.v 1)),(fK (.v 1))]
   (.aI (.cmp .gtr (.v 5) (.v 3))
   (gm (em (.v 5) (.c 1)) 2
   (gm (em (.v 5) (.c 1)) 2
   (gm (.v 5) 2
   (gm (.v 5) 2
   (gm (.v 5) 2
   (gm (.v 5) 2
   (.new e (.set (.ak (.v 2)) (.v 5) 0 (d (.v 2) (em (.v 5) (.c 1)))) [.aR,.aR,(.own e)] [.aR,.aR,.aR,(.own e)]
   (gm (em (.v 5) (.c 1)) 3
   (gm (em (.v 5) (.c 1)) 3
   (.new e (.set (.ak (.v 3)) (em (.v 5) (.c 1)) 0 (d (.v 2) (.v 5))) [.aR,.aR,.aR,(.own e)] [.aR,.aR,.aR,.aR,(.own e)]
   (.back 1 [(.ak (.v 4)),(fK (em (.v 5) (.c 1)))])))))))))))
   (.out .ret ⟨[],[],6,0,[.aR,.aR,(.own e)],0,0,[]⟩)))))
def abV:T:=(gm (em (em (dZ ec (.v 1)) (.c 1)) rK) 1
   (gm (em (em (dZ ec (.v 1)) (.c 1)) rK) 1
   (gm rK 1
   (gm rK 1
   (.call g [(.agg (d (.v 1) (em (em (dZ ec (.v 1)) (.c 1)) rK))),(.agg (d (.v 1) rK))] [] [.aR,.aR] [.int I] (fK (.v 5))
   (.aQ (.c J)
   (.aQ (.c J)
   (.aI (.not (iN (.v 5) (.c 0)))
   (.back 0 [(.ak (.v 1)),(fK (dZ rK (.c 1))),(fK (.v 4))])
   (.back 0 [(.ak (.v 1)),(fK (.v 3)),(fK rK)])))))))))
def aEL:T:=(.loop 0 [.ak (.own e),.int I,.int I] [(.ak (.v 0)),(fK (em (dZ ec (.v 1)) (.v 2))),(fK ec)]
 (.aI (iN (.v 3) (.v 4)) (abV g d) (Vd e g h f N o)))
def aEM:T:=(.loop 0 [.ak (.own e),.int I,.int I] [(.ak (.v 0)),(fK (.v 0)),(fK (.v 1))]
 (.aI (iN (.v 3) (.v 4)) (abV g d) (Vd e g h f N o)))
def abW:T:=(.aI (.cmp .eql (em (.v 1) (.v 0)) (.c 1)) (akq e g d) (.aI (.cmp .eql (em (.v 2) (.v 1)) (.c 1)) (akr e g d) (.aI (.cmp .gtr (.v 1) ec) (aEL e g h f N o d) (aEM e g h f N o d))))
def abX:T:=(.loop 0 [.ak (.own e),.int I,.int I] [(.ak (.v 0)),(fK (.c 20)),(fK (.c 0))]
 (.aI (.cmp .leq (.v 0) (.len (.v 0)))
 (.eE l g e (.dw 2 o [(.v 1),(.v 0)]) E (.v 1) [.aR,(.own e)]
 (.back 0 [(.ak (.v 2)),(fK (dZ (.v 0) (.c 20))),(fK (.v 0))]))
 (.eE l g e (.dw 2 o [(.v 1),(.len (.v 0))]) E (.v 1) [.aR,(.own e)]
 (.loop 1 [.ak (.own e),.int I] [(.ak (.v 2)),(fK (.c 20))]
  (.aI (iN (.v 2) (.len (.v 0)))
  (.loop 2 [.ak (.own e),.int I,.int I] [(.ak (.v 3)),(fK (.bin .mul I (.c 2) (.v 2))),(fK (.c 0))]
   (.aI (.cmp .leq (.v 3) (.len (.v 0)))
   (.eE f g e (.dw (N+3) o [(.v 4),(dZ (.v 4) (.v 2)),(.v 3)]) E (.v 4) [.aR,.aR,.aR,.aR,(.own e)]
   (.back 2 [(.ak (.v 5)),(fK (dZ (.v 3) (.bin .mul I (.c 2) (.v 2)))),(fK (.v 3))]))
   (.aI (iN (dZ (.v 4) (.v 2)) (.len (.v 0)))
    (.eE f g e (.dw (N+3) o [(.v 4),(dZ (.v 4) (.v 2)),(.len (.v 0))]) E (.v 4) [.aR,.aR,.aR,.aR,(.own e)]
    (.back 1 [(.ak (.v 5)),(fK (.bin .mul I (.v 2) (.c 2)))]))
    (.back 1 [(.ak (.v 4)),(fK (.bin .mul I (.v 2) (.c 2)))]))))
  (.out .normal ⟨[],[],3,0,[.aR,.aR,.aR,(.own e)],0,0,[]⟩))))))
end
structure HP where
 K:mP
 g:Nat
 o:bu
 e:TypeId
 v:Value
 aF:av
def aks(O:aj)(l:aq)(x:aE):Prop:=∀y V,C.az (O.at y) V l=x.map RV.val
def L9(c:Option LC)(X:aZ):Prop:=match c with|U c=>c.I X/\c.μ X<c.m|none=>False
def aEN(h:HP)(f:FuncId)(V:aq)(R:aL)(fz:C)(O:aj)(k:Int->Prop):Prop:=f=h.g/\R=[.int I]/\fz=.int I (.v (Y O.i))/\∃X W x y,V=[.agg X,.agg W]/\aks O X x/\aks O W y/\jW h.K x/\jW h.K y/\h.o.ok x=J/\h.o.ok y=J/\∀c:Int,(c<0<->h.o.lt x y=J)->k c
def T.hw(h:HP):T->aj->dp->Prop
 |.out V s,O,_=>(V=.normal\/V=.ret)/\∃k,s.rs[k]?=U (.own h.e)/\O.rv k=.mk h.v h.aF|.aI b t f,O,L=>if b.ai O=J then t.hw h O L else f.hw h O L|.aQ b t,O,L=>b.ai O=J/\t.hw h O L|.call f P _ _ N fz t,O,L=>aEN h f P N fz O λc=>t.hw h (O.add (.i c)) L|.loop ax _ M t,O,L=>∃X R,X (M.map (C.xv O))/\∀W,X W->t.hw h (O.ext W) (⟨ax,X,R,R W⟩::L)|.back ax x,O,L=>L9 (pi ax L) (x.map (C.xv O))|.new _ (.set (.ak (.v k)) i H G) _ _ t,O,L=>t.hw h (O.add (.r (.mk (O.rv k).val (LE.ah O (.set (.ak (.v k)) i H G))))) L|.eE _ _ _ F D r _ t,O,L=>∃Q,lu O F D (r.rv O).ah=U Q/\t.hw h (O.add (.r (.mk (r.rv O).val Q))) L|_,_,_=>False
def AB(h:HP){p:Sp}(F:L7 p.P h.K h.g h.o)(D:Tgt p h.e h.v h.aF):∀(t:T)(O:aj)(L:dp),t.hw h O L->t.aM p O L
 |.out ex s,O,L,Q=>by
  obtain⟨B,k,z,u⟩:=Q;intro y V a W R;refine D _ s (O.at y) V a W k ?_ R z u;rcases B with rfl|rfl;exact .inl rfl;exact .inr rfl
 |.aI b t f,O,L,Q=>by
  simp only[T.hw] at Q;refine⟨λq=>AB h F D t O L ?_,λq=>AB h F D f O L ?_⟩
  rwa [aH q] at Q
  rwa [aS (by simp[q])] at Q
 |.aQ b t,O,L,Q=>⟨Q.1,AB h F D t O L Q.2⟩
 |.call f ac bx N d fz t,O,L,Q=>by
  obtain⟨rfl,rfl,rfl,l1,l2,x,y,rfl,B,z,u,h4,h5,h6,h7⟩:=Q;intro m V W R;have e:(C.az (O.at m) V [.agg l1,.agg l2]).toArray= #[.agg (x.map RV.val).toArray,.agg (y.map RV.val).toArray]:=by
   simp only[C.az,C.ai,B m V,z m V]
  rw[e];refine(F W x y u h4 h5 h6).mono ?_;rintro en W' ⟨hB,c,rfl,aa⟩;refine⟨[.i c],⟨trivial,trivial⟩, ?_,hB,⟨trivial,trivial⟩, ?_⟩;simp[C.ai,K.ai,aj.ext,aj.add,aj.at];exact AB h F D t (O.add (.i c)) L (h7 c aa)
 |.loop ax d x0 t,O,L,Q=>by
  obtain⟨X,μ,B,z⟩:=Q;exact⟨X,μ,B,λxs _ hx=>AB h F D t _ _ (z xs hx)⟩
 |.back ax x,O,L,Q=>by
  simp only[T.hw,L9] at Q;simp only[T.aM];cases j:pi ax L with|none=>rw[j] at Q;exact Q|some c=>rw[j] at Q;exact Q
 |.new e (.set (.ak (.v k)) i G H) N M t,O,L,Q=>by
  intro rv hn;obtain⟨⟨A,n,c,rfl,hl⟩,_,w⟩:=hn;have w:=w k i G H rfl;refine AB h F D t _ L ?_;simp only[RV.pe] at w;rw[w];exact Q
 |.new e (.ak r) N M t,O,L,Q=>by simp[T.hw] at Q|.new e (.lit l) N M t,O,L,Q=>by simp[T.hw] at Q|.new e (.iB a b) N M t,O,L,Q=>by simp[T.hw] at Q|.new e (.xt n af) N M t,O,L,Q=>by simp[T.hw] at Q|.new e (.sub a lo hi) N M t,O,L,Q=>by simp[T.hw] at Q|.new e (.ins a n H) N M t,O,L,Q=>by simp[T.hw] at Q|.new e (.set (.ak (.k _)) i G H) N M t,O,L,Q=>by simp[T.hw] at Q|.new e (.set (.lit _) i G H) N M t,O,L,Q=>by simp[T.hw] at Q|.new e (.set (.iB _ _) i G H) N M t,O,L,Q=>by simp[T.hw] at Q|.new e (.set (.xt _ _) i G H) N M t,O,L,Q=>by simp[T.hw] at Q|.new e (.set (.set _ _ _ _) i G H) N M t,O,L,Q=>by simp[T.hw] at Q|.new e (.set (.sub _ _ _) i G H) N M t,O,L,Q=>by simp[T.hw] at Q|.new e (.set (.ins _ _ _) i G H) N M t,O,L,Q=>by simp[T.hw] at Q|.new e (.set (.ak (.cell _ _ _ _)) i G H) N M t,O,L,Q=>by simp[T.hw] at Q
 |.eE f g e sp st r N t,O,L,Q=>by
  obtain⟨ab,B,z⟩:=Q;exact⟨ab,B,AB h F D t _ L z⟩
 |.ret ..,_,_,Q=>by simp[T.hw] at Q|.bp ..,_,_,Q=>by simp[T.hw] at Q|.ah ..,_,_,Q=>by simp[T.hw] at Q|.gq ..,_,_,Q=>by simp[T.hw] at Q|.pick ..,_,_,Q=>by simp[T.hw] at Q|.stuck _,_,_,Q=>by simp[T.hw] at Q
section
variable{h:HP}{O:aj}{L:dp}
def Ma{X:aj}(e:O=X):T.hw h t O L=T.hw h t X L:=by rw[e]
def yS(b:BE)(t f:T):T.hw h (.aI b t f) O L=(if b.ai O=J then t.hw h O L else f.hw h O L):=rfl
def Mb(b:BE)(t:T):T.hw h (.aQ b t) O L=(b.ai O=J/\t.hw h O L):=rfl
def Mc(ax:Nat)(x:aq):T.hw h (.back ax x) O L=L9 (pi ax L) (x.map (C.xv O)):=rfl
def Me(e:TypeId)(k:Nat)(i:K)(X:Nat)(W:aq)(V R:bo)(t:T):T.hw h (.new e (.set (.ak (.v k)) i X W) V R t) O L=t.hw h (O.add (.r (.mk (O.rv k).val (LE.ah O (.set (.ak (.v k)) i X W))))) L:=rfl
def Eh(f g:FuncId)(e:TypeId)(X:bu)(W:Bool)(r:RE)(R:bo)(t:T):T.hw h (.eE f g e X W r R t) O L=(∃V,lu O X W (r.rv O).ah=U V/\t.hw h (O.add (.r (.mk (r.rv O).val V))) L):=rfl
def Ei(X:XE)(s:S):T.hw h (.out X s) O L=((X=.normal\/X=.ret)/\∃k,s.rs[k]?=U (.own h.e)/\O.rv k=.mk h.v h.aF):=rfl
def AC{Q:aL}(W:aZ->Prop)(V:aZ->Nat)(P:W (n.map (C.xv O)))(N:∀R,W R->t.hw h (O.ext R) (⟨X,W,V,V R⟩::L)):T.hw h (.loop X Q n t) O L:=⟨W,V,P,N⟩
end
section
attribute[local simp] K.ai BE.ai RE.rv RE.ai fj aj.rv aj.ext aj.add C.xv yS Mb Mc Me Eh Ei LE.ah pi
attribute[local congr] Ma
structure Gz(Q:mP)(d:RE->K->aq):Prop where
 cj:∀(O:aj)(r:RE)(i:K)(x:aE),(r.rv O).ah[(i.ai O).toNat]?=U x->jW Q x->(d r i).map (C.cj O)=x
 ai:∀(O:aj)(r:RE)(i:K)(x:aE),(r.rv O).ah[(i.ai O).toNat]?=U x->jW Q x->aks O (d r i) x
def akt:∀{Q:mP}{x:aE},jW Q x->Y x=Y Q
 |[],_,h=>by cases h;rfl|_::_,[],h=>h.elim|_::_,_::_,h=>by simp[akt h.2]
def auP:∀(x W X:aE),Y W=Y x->ge (X++W) (Y X) x=X++x
 |[],W,X,h=>by
  have:W=[]:=ui h;subst this;rfl
 |v::r,[],X,h=>by simp at h
 |v::r,c::W,X,h=>by
  have V:=auP r W (X++[v]) (by simpa using h);simp only[f9,oV,Cg,Ce,cJ,da] at V;simp only[ge];rw[acf _ _ (cd _),acn,aI6];exact V
def Jr{Q:mP}{x:aE}(P:∀y∈M,jW Q y)(O:jW Q x):(M.modify X λW=>ge W 0 x)=M.set X x:=by
 apply kU;intro k;rw[acg,yW];by_cases R:X=k;subst R;simp only[dO];cases V:M[X]? with
 |none=>
  have:=El.1 V;rw[aS ae];rfl
 |some W=>
  obtain⟨N,_⟩:=dq.1 V;rw[aH N];have:=auP x W [] (by rw[akt (P W (jz V)),akt O]);simpa using this
 simp[R]
def Ve{n:Int}(X:-9223372036854775808<=n)(W:n<9223372036854775808):IntKind.i64.wrap n=n:=by
 rw[IntKind.wrap_i64];omega
def B8{a b:Nat}(h:a+b<=4398046511104):be .add I (a:Int) (b:Int)=((a+b:Nat):Int):=by
 simp only[be];rw[Ve ae ae];omega
def AD{a b:Nat}(h:b<=a)(X:a<=4398046511104):be .sub I (a:Int) (b:Int)=((a-b:Nat):Int):=by
 simp only[be];rw[Ve ae ae];omega
def GA{a:Nat}(h:a<=4398046511103):be .add I (a:Int) 1=((a+1:Nat):Int):=B8 (b:=1) ae
def abY{a:Nat}(h:1<=a)(X:a<=4398046511104):be .sub I (a:Int) 1=((a-1:Nat):Int):=AD (b:=1) h X
def aEO(W:av){m:Nat}(M:X+m<=u)(V:u+m<=Y W)(k:Nat):
  (W.take X++(bi W u (u+m)++(bi W (X+m) u++(bi W X (X+m)++W.drop (u+m)))))[k]?=if X<=k/\k<X+m then W[k-X+u]? else if u<=k/\k<u+m then W[k-u+X]? else W[k]?:=by
 have R:(W.take X).length=X:=bY;have Q:(bi W u (u+m)).length=m:=by rw[sa W V];omega
 have P:(bi W (X+m) u).length=u-(X+m):=sa W ae;have O:(bi W X (X+m)).length=m:=by rw[sa W ae];omega
 by_cases N:k<X;rw[f8 ae,aS ae,aS ae,qg,aH N];rw[ji ae,R];by_cases L:k<X+m;rw[f8 ae,aH ae,Te W ae];congr 1;omega;rw[ji ae,Q,aS ae];by_cases H:k<u;rw[f8 ae,aS ae,Te W ae];congr 1;omega;rw[ji ae,P];by_cases G:k<u+m;rw[f8 ae,aH ae,Te W ae];congr 1;omega;rw[ji ae,O,aS ae,yV];congr 1;omega
def Ej(h:Y v=3):∃a b c,v=[a,b,c]:=by
 match v,h with|[a,b,c],_=>exact⟨a,b,c,rfl⟩
def two(h:Y v=2):∃a b,v=[a,b]:=by
 match v,h with|[a,b],_=>exact⟨a,b,rfl⟩
def B9{a:Int}(h:0<=a):∃n:Nat,a=n:=⟨a.toNat,ae⟩
section
variable{Q:mP}{e g:Nat}{o:bu}{d:RE->K->aq}
def auQ(w:Gz Q d):Vc Q e g o 0 3 (abS e d):=by
 rintro p _ W aF ns hP aa ⟨A,n,R,rfl,ab,hn⟩ hT hN V ac;obtain⟨a,b,m,rfl⟩:=Ej hN;obtain⟨_,V⟩:=CQ V;simp only[og] at V;split at V;rename_i N;simp only[aC,dD] at N;obtain⟨a,rfl⟩:=B9 N.1.1.1;obtain⟨m,rfl⟩:=B9 N.1.1.2;obtain⟨b,rfl⟩:=B9 (a:=b) ae;have h1:a+m<=b:=ae;have h2:b+m<=Y W:=ae;simp only[dW] at V;have e1:((a:Int)).toNat=a:=rfl;have e2:((b:Int)).toNat=b:=rfl;have e3:((b:Int)+(m:Int)).toNat=b+m:=ae;have e4:((a:Int)+(m:Int)).toNat=a+m:=ae;rw[e1,e2,e3,e4] at V;have u:=aEO W h1 h2;rw[V] at u;clear V;refine AB ⟨Q,g,o,e,.slice A n R,aF⟩ (hP▸aa) ac _ _ _ ?_;unfold abS;refine AC (λM=>∃(i:Nat)(X:av),M=[.r (.mk (.slice A n R) X),.i i]/\i<=m/\Y X=n/\(∀x∈X,jW Q x)/\∀k:Nat,X[k]?=if a<=k/\k<a+i then W[k-a+b]? else if b<=k/\k<b+i then W[k-b+a]? else W[k]?) (λM=>match M with|[_,.i j]=>m-j.toNat|_=>0) ⟨0,W,rfl,ae,ab,hT,λk=>by rw[aS ae,aS ae]⟩ ?_;rintro _ ⟨i,X,rfl,hi,hl,P,O⟩;by_cases af:i<m;obtain⟨x,L⟩:∃x,X[a+i]?=U x:=dq.2 ⟨ae,rfl⟩|>λh=>⟨_,h⟩
 obtain⟨y,H⟩:∃y,X[b+i]?=U y:=dq.2 ⟨ae,rfl⟩|>λh=>⟨_,h⟩
 have G:=P x (jz L);have F:=P y (jz H);have t:=B8 (a:=a) (b:=i) ae;have s:=B8 (a:=b) (b:=i) ae;have c1:Cj (C.cj ⟨[(a:Int),b,m,i],[],[.mk (.slice A n R) W,.mk (.slice A n R) X],[]⟩) (d (.v 1) (.bin .add I (.v 1) (.v 3)))=y:=w.cj _ _ _ y (by simp only[RE.rv,aj.rv,K.ai,QQ,Jw,RV.mU,s,rM];exact H) F;have c2:∀q,Cj (C.cj ⟨[(a:Int),b,m,i],[],[.mk (.slice A n R) W,.mk (.slice A n R) X,q],[]⟩) (d (.v 1) (.bin .add I (.v 0) (.v 3)))=x:=λq=>w.cj _ _ _ x (by simp only[RE.rv,aj.rv,K.ai,QQ,Jw,RV.mU,t,rM];exact L) G
 have m1:(X.modify (a+i) λD=>ge D 0 y)=X.set (a+i) y:=Jr P F;have l:∀z∈X.set (a+i) y,jW Q z:=λz B=>by
  rcases Mi B with h|rfl;exact P z h;exact F
 have m2:((X.set (a+i) y).modify (b+i) λD=>ge D 0 x)=(X.set (a+i) y).set (b+i) x:=Jr l G;have t1:((a:Int)+(i:Int)).toNat=a+i:=ae;have t2:((b:Int)+(i:Int)).toNat=b+i:=ae;simp[t,s,GA (a:=i) ae,af,c1,c2,t1,t2,m1,m2,lenOf];refine⟨ae,ae,ae,⟨i+1,_,rfl,ae,by simp[hl],λz B=> ?_,λk=> ?_⟩,show m-((i:Int)+1).toNat<m-i from ae⟩;rcases Mi B with h|rfl;exact l z h;exact G;have ag:W[a+i]?=U x:=by
  have:=O (a+i);rw[aS ae,aS ae] at this;rw[<-this];exact L
 have al:W[b+i]?=U y:=by
  have:=O (b+i);rw[aS ae,aS ae] at this;rw[<-this];exact H
 rw[yW,yW];by_cases f:b+i=k;subst f;rw[aH rfl,aH bY,aS ae,aH ae,<-ag];congr 1;omega;rw[aS f];by_cases c:a+i=k;subst c;rw[aH rfl,aH ae,aH ae,<-al];congr 1;omega;rw[aS c,O k];by_cases k3:a<=k/\k<a+i;rw[aH k3,aH ae];rw[aS k3];by_cases k4:b<=k/\k<b+i;rw[aH k4,aS ae,aH ae];rw[aS k4,aS ae,aS ae];have an:i=m:=ae;subst an;have a0:X=aF:=kU λk=>by rw[O k,u k]
 subst a0;simp;exact⟨1,rfl,rfl⟩;cases V
end
end
section
attribute[local simp] K.ai BE.ai RE.rv RE.ai fj aj.rv aj.ext aj.add C.xv yS Mb Mc Me Eh Ei LE.ah pi lu
attribute[local congr] Ma
def Vf(P S Q:av):bi (P++(S++Q)) (Y P) (Y P+Y S)=S:=by simp[bi]
def Vg{P Q:av}(h:M=P++(A++Q))(W:X=Y P)(V:u=X+Y A):bi M X u=A:=by
 subst h;subst W;subst V;exact Vf P A Q
def aku{o:bu}{P X M Y Q:av}{a b n:Int}(W:a=P.length)(V:b=P.length+X.length+M.length)(R:n=X.length)(y:Y.length=X.length)(O:(P++(X++(M++(Y++Q)))).length<=1099511627776):
  qz 0 o [a,b,n] (P++(X++(M++(Y++Q))))=U (P++(Y++(M++(X++Q)))):=by
 subst W;subst V;subst R;unfold qz;rw[aH O];simp only[og];rw[aH (by simp only[aC,dD,f9];omega)];have N:((P.length:Int)).toNat=P.length:=rfl;have L:((P.length:Int)+X.length+M.length).toNat=P.length+X.length+M.length:=ae;have H:((P.length:Int)+X.length+M.length+X.length).toNat=P.length+X.length+M.length+X.length:=ae;have G:((P.length:Int)+X.length).toNat=P.length+X.length:=ae;rw[N,L,H,G];have F:(P++(X++(M++(Y++Q)))).take P.length=P:=aw;have D:bi (P++(X++(M++(Y++Q)))) (P.length+X.length+M.length) (P.length+X.length+M.length+X.length)=Y:=Vg (P:=P++(X++M)) (Q:=Q) aw bY ae;have B:bi (P++(X++(M++(Y++Q)))) (P.length+X.length) (P.length+X.length+M.length)=M:=Vg (P:=P++X) (Q:=Y++Q) aw aw rfl;have A:bi (P++(X++(M++(Y++Q)))) P.length (P.length+X.length)=X:=Vf P X _;have z:(P++(X++(M++(Y++Q)))).drop (P.length+X.length+M.length+X.length)=Q:=by
  have:P++(X++(M++(Y++Q)))=(P++(X++(M++Y)))++Q:=aw;rw[this,VG bY]
 rw[F,D,B,A,z]
def auR(W:av){b:Nat}(V:X<=u)(R:u<=b):W.take X++(bi W X u++(bi W u b++W.drop b))=W:=by
 rw[<-Ce (bi W X u),<-qI W V R,Oc W ae]
def vz{c:Prop}[Decidable c]{A B:Prop}(X:c->A)(W:¬c->B):if c then A else B:=by
 by_cases h:c;rw[aH h];exact X h;rw[aS h];exact W h
section
variable{d:mP}{e g f:Nat}{o:bu}{k:RE->K->aq}
def auS:Vc d e g o 1 3 (abT e g f o):=by
 rintro p _ W aF ns s q ⟨y,n,x,rfl,l,hn⟩ hT k L h;obtain⟨a,m,b,rfl⟩:=Ej k;obtain⟨_,L⟩:=CQ L;simp only[og] at L;split at L;rename_i w;simp only[aC,dD] at w;obtain⟨a,rfl⟩:=B9 w.1.1.1;obtain⟨m,rfl⟩:=B9 (a:=m) ae;obtain⟨b,rfl⟩:=B9 (a:=b) ae;simp only[dW,rM] at L;have v:b<=W.length:=ae;refine AB ⟨d,g,o,e,.slice y n x,aF⟩ (s▸q) h _ _ _ ?_;unfold abT;refine AC (λF=>∃(P A B Q:av),F=[.r (.mk (.slice y n x) (P++(A++(B++Q)))),.i A.length,.i B.length]/\1<=A.length/\1<=B.length/\P.length+A.length=m/\m+B.length<=b/\(P++(A++(B++Q))).length=n/\P++(B++(A++Q))=aF) (λF=>match F with|[_,.i i,.i j]=>i.toNat+j.toNat|_=>0) ⟨W.take a,bi W a m,bi W m b,W.drop b, ?_, ?_⟩ ?_;have c:W.take a++(bi W a m++(bi W m b++W.drop b))=W:=by
  exact auR W ae ae
 have u:(bi W a m).length=m-a:=sa W ae;have t:(bi W m b).length=b-m:=sa W v;simp only[dH,oC,C.xv,RE.rv,aj.rv,Jw,QQ,K.ai,c,u,t];rw[AD (a:=m) (b:=a) ae ae,AD (a:=b) (b:=m) ae ae];have u:(bi W a m).length=m-a:=sa W ae;have t:(bi W m b).length=b-m:=sa W v;refine⟨ae,ae,bY,ae, ?_,L⟩;rw[auR W ae ae];exact l;rintro _ ⟨P,A,B,Q,rfl,hA,hB,a0,a1,aa,D⟩;have ab:=AD (a:=m) (b:=A.length) ae ae;have ac:((m-A.length:Nat):Int)=P.length:=ae;simp only[f9] at aa;simp[ab,ac];refine vz (λaf=> ?_) (λaf=>vz (λag=> ?_) (λag=> ?_));have H:=aku (o:=o) (P:=P) (X:=A) (M:=[]) (Y:=B) (Q:=Q) (a:=P.length) (b:=m) (n:=A.length) rfl bY rfl ae bY;refine⟨P++(B++(A++Q)),by simpa using H,2,rfl, ?_⟩;simp[D];obtain⟨O,N,rfl,z⟩:∃O N,A=O++N/\O.length=B.length:=⟨A.take B.length,A.drop B.length,(Jv _ _).symm,bY⟩;simp only[f9] at*;have G:=AD (a:=O.length+N.length) (b:=B.length) ae ae;have H:=aku (o:=o) (P:=P) (X:=O) (M:=N) (Y:=B) (Q:=Q) (a:=P.length) (b:=m) (n:=B.length) rfl ae ae ae bY;refine⟨P++(B++(N++(O++Q))),by simpa using H,⟨P++B,N,O,Q, ?_,ae,ae,bY,ae,bY, ?_⟩, ?_⟩;rw[G,z];simp;rw[<-D];simp;rw[G];show((O.length+N.length-B.length:Nat):Int).toNat+((B.length:Int)).toNat<O.length+N.length+B.length;omega;obtain⟨R,V,rfl,z⟩:∃R V,B=R++V/\V.length=A.length:=⟨B.take (B.length-A.length),B.drop (B.length-A.length),(Jv _ _).symm,bY⟩;simp only[f9] at*;have al:=B8 (a:=m) (b:=R.length+V.length) ae;have G:=AD (a:=m+(R.length+V.length)) (b:=A.length) ae ae;have an:=AD (a:=R.length+V.length) (b:=A.length) ae ae;have H:=aku (o:=o) (P:=P) (X:=A) (M:=R) (Y:=V) (Q:=Q) (a:=P.length) (b:=((m+(R.length+V.length)-A.length:Nat):Int)) (n:=A.length) rfl ae rfl ae bY;rw[al,G,an];refine⟨P++(V++(R++(A++Q))),by simpa using H,⟨P,V,R,A++Q, ?_,ae,ae,ae,ae,bY, ?_⟩, ?_⟩;rw[z];simp;rw[<-D];simp;show((A.length:Int)).toNat+((R.length+V.length-A.length:Nat):Int).toNat<A.length+(R.length+V.length);omega;cases L
end
end
section
attribute[local simp] K.ai BE.ai RE.rv RE.ai fj aj.rv aj.ext aj.add C.xv yS Mb Mc Me Eh Ei LE.ah pi lu
attribute[local congr] Ma
def aEP{lt:aE->aE->Bool}(l:av)(x:aE):bN lt (l++[x])=fl lt x (bN lt l):=by simp[bN]
def auT{lt:aE->aE->Bool}{x:aE}:∀{L G:av},(∀l∈L,lt x l=E)->(∀g∈G,lt x g=J)->fl lt x (L++G)=L++x::G
 |[],[],_,_=>rfl|[],g::G,_,h=>by simp[fl,h g aw]
 |l::L,G,X,W=>by
  have V:=auT (L:=L) (G:=G) (λy R=>X y (by simp[R])) W;simp only[cJ,fl,X l aw];rw[V];simp
def auU(A R:av)(l x:aE){j:Nat}(X:j=Y A):((A++(l::x::R)).set (j+1) l).set j x=A++(x::l::R):=by
 subst X;rw[acf _ _ ae,Vw,acf _ _ ae,acn];rfl
def abZ{h:HP}{O:aj}{L:dp}{d:RE->K->aq}(N:Gz h.K d){W V:RE}{R P:K}{G:bm}{F:bo}(D:X=Y O.i)(x y:aE)(B:(W.rv O).ah[(R.ai O).toNat]?=U x)(A:(V.rv O).ah[(P.ai O).toNat]?=U y)(M:jW h.K x)(H:jW h.K y)(z:h.o.ok x=J)(w:h.o.ok y=J)
  (u:∀c:Int,(c<0<->h.o.lt x y=J)->t.hw h (O.add (.i c)) L):T.hw h (.call h.g [.agg (d W R),.agg (d V P)] G F [.int I] (.int I (.v X)) t) O L:=by
 subst D;exact⟨rfl,rfl,rfl,_,_,x,y,rfl,N.ai O W R x B M,N.ai O V P y A H,M,H,z,w,u⟩
section
variable{Q:mP}{e g:Nat}{o:bu}{d:RE->K->aq}
def auV(ab:Gz Q d)(al:mY o.lt (λx=>o.ok x=J)):Vc Q e g o 2 2 (abU e g d):=by
 rintro p _ X aF ns hP bb ⟨R,n,N,rfl,b7,hn⟩ hT hN M bc;obtain⟨a,b,rfl⟩:=two hN;obtain⟨_,M⟩:=CQ M;simp only[og] at M;split at M;rename_i t;simp only[aC,dD,gz] at t;obtain⟨⟨⟨bd,bf⟩,jc⟩,an⟩:=t;obtain⟨a,rfl⟩:=B9 bd;obtain⟨b,rfl⟩:=B9 (a:=b) ae;simp only[dW,rM] at M;have hb:b<=Y X:=ae;have bf:a<=b:=ae;refine AB ⟨Q,g,o,e,.slice R n N,aF⟩ (hP▸bb) bc _ _ _ ?_;unfold abU;refine AC (λH=>∃(i:Nat)(s:av),H=[.r (.mk (.slice R n N) s),.i i]/\a<i/\i<=b+1/\s=X.take a++(bN o.lt (bi X a (min i b))++X.drop (min i b))) (λH=>match H with|[_,.i i]=>b+1-i.toNat|_=>0) ⟨a+1,X, ?_,ae,ae, ?_⟩ ?_;simp only[dH,oC,C.xv,RE.rv,aj.rv,Jw,K.ai];rw[GA ae];by_cases h:a+1<=b;rw[Mp h];have:bi X a (a+1)=[X[a]' ae]:=by
  simp only[bi,show a+1-a=1 from ae];rw[Cb ae];rfl
 rw[this];show X=_++([X[a]' ae]++_);rw[<-this,Oc X ae];have:b=a:=ae;subst this;rw[ak3 ae];have:bi X b b=[]:=by simp[bi]
 rw[this];show X=X.take b++([]++X.drop b);simp;rintro _ ⟨i,s,rfl,b8,ca,bZ⟩;by_cases a0:i<b;rw[Mp ae] at bZ;obtain⟨x,hx⟩:∃x,x=X[i]' ae:=⟨_,rfl⟩;have hd:X.drop i=x::X.drop (i+1):=by rw[hx,Cb ae]
 have hS:(bN o.lt (bi X a i)).length=i-a:=by rw[pN,sa X ae]
 have bg:bi X a (i+1)=bi X a i++[x]:=by
  rw[qI X (show a<=i from ae) (show i<=i+1 from ae)];congr 1;simp only[bi,Vw,hd];rfl
 have F:∀y,y∈X.take a\/y∈bN o.lt (bi X a i)\/y=x\/y∈X.drop (i+1)->jW Q y/\o.ok y=true:=by
  intro y V;have:y∈X:=by
   rcases V with h|h|rfl|h;exact GD h;exact wa (KJ h);rw[hx];exact ul _;exact En h
  exact⟨hT y this,an y this⟩
 have ac:gT o.lt (bN o.lt (bi X a i)):=KI al λz hz=>an z (wa hz)
 have bk:(X.take a).length=a:=bY;have bl:(X.drop (i+1)).length=n-(i+1):=bY;generalize br:bN o.lt (bi X a i)=S at bZ hS F ac;generalize cc:X.take a=P at bZ F bk M;generalize bs:X.drop (i+1)=D at hd F bl;rw[hd] at bZ;have a1:∀L G,S=L++G->(∀l∈L,o.lt x l=E)->(∀g∈G,o.lt x g=J)->P++(L++x::(G++D))=P++(bN o.lt (bi X a (min (i+1) b))++X.drop (min (i+1) b)):=by
  intro L G q m h3;rw[Mp ae,bg,aEP,br,q,auT m h3,bs];simp
 simp[a0];refine AC (λH=>∃(L G:av),H=[.r (.mk (.slice R n N) (P++(L++x::(G++D)))),.i ((a+Y L:Nat):Int)]/\S=L++G/\∀g∈G,o.lt x g=J) (λH=>match H with|[_,.i j]=>j.toNat|_=>0) ⟨S,[], ?_,aw,aw⟩ ?_;simp[bZ,hS];omega;rintro _ ⟨L,G,rfl,W,hG⟩;rcases List.eq_nil_or_concat L with rfl|⟨L,l,rfl⟩;simp;rw[GA ae];refine⟨⟨i+1,_,rfl,ae,ae, ?_⟩, ?_⟩;exact a1 [] G W aw hG;show b+1-((i+1:Nat):Int).toNat<b+1-i;omega;simp only[List.concat_eq_append] at W⊢;have cf:a+Y L+1<=i:=by
  have:=jY Y W;simp only[f9,oV,Cg] at this;omega
 have B:be .sub I (((a+(Y L+1):Nat)):Int) 1=((a+Y L:Nat):Int):=by rw[abY ae ae];omega
 have k:=F x aw;have A:=F l (.inr (.inl (by rw[W];simp)));have e0:P++(L++[l]++x::(G++D))=(P++L)++(l::x::(G++D)):=aw;have gx:((P++L)++(l::x::(G++D)))[a+(Y L+1)]?=U x:=by
  rw[ji bY];simp[show a+(Y L+1)-(Y P+Y L)=1 from ae]
 have gl:((P++L)++(l::x::(G++D)))[a+Y L]?=U l:=by
  rw[ji bY];simp[show a+Y L-(Y P+Y L)=0 from ae]
 have af:∀y∈(P++L)++(l::x::(G++D)),jW Q y/\o.ok y=true:=by
  intro y V;refine F y ?_;simp only[fg,fh] at V;rcases V with(h|h)|h|h|h|h;exact .inl h;exact .inr (.inl (by rw[W];simp[h]));subst h;exact .inr (.inl (by rw[W];simp));exact .inr (.inr (.inl h));exact .inr (.inl (by rw[W];simp[h]));exact .inr (.inr (.inr h))
 have a3:((P++L)++(l::x::(G++D))).length=n:=by
  have:=jY Y W;simp only[f9,oV,Cg] at this;simp only[f9,oV];omega
 rw[e0];have bt:(((a+(L++[l]).length:Nat):Int))=((a+(Y L+1):Nat):Int):=aw;rw[bt];have f:((a+(Y L+1):Nat):Int).toNat=a+(Y L+1):=rfl;have aa:((a+Y L:Nat):Int).toNat=a+Y L:=rfl;have a4:((a+(Y L+1):Nat):Int)=((a+Y L:Nat):Int)+1:=ae;have bx:((a+(Y L+1):Nat):Int)<n:=by
  have:=a3;simp only[f9,oV] at this;omega
 have a9:(a:Int)<((a+(Y L+1):Nat):Int):=ae;have b0:(0:Int)<=((a+Y L:Nat):Int):=ae;generalize hz:((a+(Y L+1):Nat):Int)=z at B f a4 bx a9⊢;generalize hw:((a+Y L:Nat):Int)=w at B aa a4 b0⊢;generalize hR:(P++L)++(l::x::(G++D))=u at gx gl af a3⊢;simp[B,a9];refine⟨⟨ae,by simp[lenOf];omega⟩,⟨ae,by simp[lenOf];omega⟩, ?_⟩;refine abZ ab rfl x l ?_ ?_ k.1 A.1 k.2 A.2 (λc t=> ?_);simp[f];exact gx;simp[B,aa];exact gl;have c1:∀O:aj,O.r=[.mk (.slice R n N) X,.mk (.slice R n N) s,.mk (.slice R n N) u]->O.i=[(a:Int),b,i,z,c]->Cj (C.cj O) (d (.v 2) (.bin .sub I (.v 3) (.c 1)))=l:=λO q m=>ab.cj O _ _ l (by simp[q,m,B,aa];exact gl) A.1
 have c2:∀(O:aj) rv,O.r=[.mk (.slice R n N) X,.mk (.slice R n N) s,.mk (.slice R n N) u,rv]->O.i=[(a:Int),b,i,z,c]->Cj (C.cj O) (d (.v 2) (.v 3))=x:=λO rv q m=>ab.cj O _ _ x (by simp[q,m,f];exact gx) k.1
 simp[B];refine vz (λb1=> ?_) (λb2=> ?_);rw[c1 _ rfl rfl,c2 _ _ rfl rfl];have m1:(u.modify z.toNat λag=>ge ag 0 l)=u.set (a+Y L+1) l:=by rw[f];exact Jr (λy V=>(af y V).1) A.1
 have m2:((u.set (a+Y L+1) l).modify w.toNat λag=>ge ag 0 x)=(u.set (a+Y L+1) l).set (a+Y L) x:=by
  rw[aa];refine Jr (λy V=> ?_) k.1;rcases Mi V with h|rfl;exact(af y h).1;exact A.1
 rw[m1,m2,<-hR,auU (P++L) (G++D) l x bY];refine⟨⟨ae,by simp[lenOf];omega⟩,⟨ae,by simp[lenOf];omega⟩,⟨ae,by simp[lenOf];omega⟩,⟨L,l::G, ?_,by rw[W];simp,λg' b3=> ?_⟩, ?_⟩;simp;omega;rcases fh.1 b3 with rfl|h;exact t.1 b1;exact hG g' h;show w.toNat<z.toNat;omega;have ba:o.lt x l=false:=by
  cases h:o.lt x l;rfl;exact bF (t.2 h) b2
 have b4:∀y∈L++[l],o.lt x y=false:=by
  intro y V;rcases fg.1 V with h|h;have:o.lt l y=false:=by
   rw[W] at ac;exact(oB.1 (oB.1 ac).1).2.2 y h l aw
  have b5:=F y (.inr (.inl (by rw[W];simp[h])));exact al.nt x l y k.2 A.2 b5.2 ba this;simp at h;subst h;exact ba
 rw[GA ae];refine⟨⟨i+1,_,rfl,ae,ae, ?_⟩, ?_⟩;rw[<-a1 (L++[l]) G W b4 hG,<-hR];simp;show b+1-((i+1:Nat):Int).toNat<b+1-i;omega;have b6:min i b=b:=ak3 ae;rw[b6,M] at bZ;simp[a0];exact⟨1,rfl,by rw[bZ];rfl⟩;cases M
end
end
section
attribute[local simp] K.ai BE.ai RE.rv RE.ai fj aj.rv aj.ext aj.add C.xv yS Mb Mc Me Eh Ei LE.ah pi lu
attribute[local congr] Ma
def aEQ(h:X<=4398046511104):IntKind.i64.wrap (be .shr .u64 (IntKind.u64.wrap (X:Int)) 1)=((X/2:Nat):Int):=by
 have e1:IntKind.u64.wrap (X:Int)=(X:Int):=by
  rw[IntKind.wrap_u64];omega
 rw[e1];simp only[be];have W:(2:Int)^min (Int.toNat 1) IntKind.u64.bits=2:=rfl;rw[W,Int.fdiv_eq_ediv_of_nonneg _ ae,Ve ae ae];omega
def ab0{o:bu}{N:Nat}{P X Y Q:av}{a m b:Int}(W:a=P.length)(V:m=P.length+X.length)(R:b=P.length+X.length+Y.length)(u:1<=X.length)(t:1<=Y.length)(q:X.length+Y.length<N)(M:(P++(X++(Y++Q))).length<=1099511627776)(H:∀z∈P++(X++(Y++Q)),o.ok z=J)(G:gT o.lt X)(F:gT o.lt Y):
  qz (N+3) o [a,m,b] (P++(X++(Y++Q)))=U (P++(bN o.lt (X++Y)++Q)):=by
 subst W;subst V;subst R;unfold qz;rw[aH M];simp only[og];have e1:((P.length:Int)).toNat=P.length:=rfl;have D:((P.length:Int)+X.length).toNat=P.length+X.length:=ae;have B:((P.length:Int)+X.length+Y.length).toNat=P.length+X.length+Y.length:=ae;rw[e1,D,B];have A:(P++(X++(Y++Q))).take P.length=P:=aw;have y:bi (P++(X++(Y++Q))) P.length (P.length+X.length)=X:=Vf P X _;have x:bi (P++(X++(Y++Q))) (P.length+X.length) (P.length+X.length+Y.length)=Y:=Vg (P:=P++X) (Q:=Q) aw aw rfl;have w:bi (P++(X++(Y++Q))) P.length (P.length+X.length+Y.length)=X++Y:=Vg (P:=P) (Q:=Q) aw rfl bY;have v:(P++(X++(Y++Q))).drop (P.length+X.length+Y.length)=Q:=by
  have:P++(X++(Y++Q))=(P++(X++Y))++Q:=aw;rw[this,VG bY]
 rw[A,y,x,w,v,aH];simp only[aC,dD,gz,aqb];refine⟨⟨⟨⟨⟨⟨⟨ae,ae⟩,ae⟩, ?_⟩,ae⟩,H⟩,G⟩,F⟩;simp only[f9];omega
def ab1{lt:aE->aE->Bool}(h:M=[]\/A=[])(W:gT lt M)(V:gT lt A):bN lt (M++A)=M++A:=by
 rcases h with rfl|rfl;simpa using X8 V;simpa using X8 W
def aER{B Q:av}{a m b:Int}(X:a=Y M)(W:m=Y M+Y A)(V:b=Y M+Y A+Y B)(w:1<=Y A)(v:1<=Y B)(R:(M++(A++(B++Q))).length<=1099511627776):
  qz 1 y [a,m,b] (M++(A++(B++Q)))=U (M++(B++(A++Q))):=by
 subst X;subst W;subst V;unfold qz;rw[aH R];simp only[og];have e1:((Y M:Int)).toNat=Y M:=rfl;have H:((Y M:Int)+Y A).toNat=Y M+Y A:=ae;have G:((Y M:Int)+Y A+Y B).toNat=Y M+Y A+Y B:=ae;rw[e1,H,G];have F:(M++(A++(B++Q))).take (Y M)=M:=aw;have D:bi (M++(A++(B++Q))) (Y M) (Y M+Y A)=A:=Vf M A _;have z:bi (M++(A++(B++Q))) (Y M+Y A) (Y M+Y A+Y B)=B:=Vg (P:=M++A) (Q:=Q) aw aw rfl;have x:(M++(A++(B++Q))).drop (Y M+Y A+Y B)=Q:=by
  have:M++(A++(B++Q))=(M++(A++B))++Q:=aw;rw[this,VG bY]
 rw[F,D,z,x,aH];simp only[aC,dD,f9];omega
abbrev QJ:K:=.bin .sub I (.bin .add I ec (.v 1)) (.v 3)
section
variable{f d g e N:Nat}{o:bu}{h:HP}{O:aj}{L:dp}{a m b s r mid e1:Nat}
structure Mf(O:aj)(a m b s:Nat)(mid e1:Nat):Prop where
 va:O.i.getD 0 0=a
 vm:O.i.getD 1 0=m
 vb:O.i.getD 2 0=b
 vs:O.i.getD 3 0=s
 Vh:ec.ai O=mid
 ve:QJ.ai O=e1
theorem Mf.add{rv:RV}(H:Mf O a m b s mid e1):Mf (O.add (.r rv)) a m b s mid e1:=by
 have X:∀(x:Nat),K.ai (O.add (.r rv)) (.v x)=K.ai O (.v x):=λx=>rfl
 exact⟨H.va,H.vm,H.vb,H.vs,by rw[<-H.Vh];rfl,by rw[<-H.ve];rfl⟩
def GB(H:Mf O a m b s mid e1)(R:h.e=e){t:bo}{y x w:S}{v:Value}{W Q:av}(V:O.rv X=.mk v (M++(A++(W++Q))))(bq:X+1=Y O.r)(G:h.v=v)(F:h.aF=M++(bN o.lt (A++W)++Q))
  (hP:Y M=mid)(hX:Y A=e1-mid)(hY:Y W=b-e1)(h1:mid<=e1)(h2:e1<=b)(hN:b-mid<N)(q:(M++(A++(W++Q))).length<=1099511627776)(p:∀z∈M++(A++(W++Q)),o.ok z=J)(D:gT o.lt A)(B:gT o.lt W)
  (n:y.rs[X+1]?=U (.own e))(k:x.rs[X]?=U (.own e))(j:w.rs[X]?=U (.own e)):
  T.hw h (.aI (.cmp .lss ec QJ) (.aI (.cmp .lss QJ (.v 2)) (.eE f g e (.dw (N+3) o [ec,QJ,.v 2]) E (.v X) t (.out .normal y)) (.out .normal x)) (.out .normal w)) O L:=by
 have u:K.ai O (.v 2)=b:=H.vb;rw[yS];simp only[BE.ai,fj,H.Vh,H.ve,dD];refine vz (λi=> ?_) (λi=> ?_);rw[yS];simp only[BE.ai,fj,H.ve,u,dD];refine vz (λd=> ?_) (λd=> ?_);rw[Eh];refine⟨M++(bN o.lt (A++W)++Q), ?_, ?_⟩;simp only[lu,dH,oC,H.Vh,H.ve,u,RE.rv,V,RV.mU];exact ab0 ae ae ae ae ae ae q p D B;rw[Ei];refine⟨.inl rfl,X+1,by rw[R];exact n, ?_⟩;have aa:(O.rv X).val=v:=by rw[V];rfl
 rw[show(RE.v X).rv O=O.rv X from rfl,aa,G,F];simp[aj.add,aj.rv,bq];rw[Ei];refine⟨.inl rfl,X,by rw[R];exact k, ?_⟩;rw[V,G,F,ab1 (.inr (ui ae)) D B];simp;rw[Ei];refine⟨.inl rfl,X,by rw[R];exact j, ?_⟩;rw[V,G,F,ab1 (.inl (ui ae)) D B];simp
def akv(H:Mf O a m b s mid e1){x:bo}{D B:T}{v:Value}{W R:av}(V:O.rv X=.mk v (M++(A++(W++R))))
  (i:Y M=a)(d:Y A=s-a)(hY:Y W=mid-s)(h1:a<=s)(h2:s<=mid)(hN:mid-a<N)(w:(M++(A++(W++R))).length<=1099511627776)(u:∀z∈M++(A++(W++R)),o.ok z=J)(Q:gT o.lt A)(G:gT o.lt W)
  (q:T.hw h t (O.add (.r (.mk v (M++(bN o.lt (A++W)++R))))) L)(p:O.rv X=.mk v (M++(bN o.lt (A++W)++R))->T.hw h D O L)(n:O.rv X=.mk v (M++(bN o.lt (A++W)++R))->T.hw h B O L):
  T.hw h (.aI (.cmp .lss (.v 0) (.v 3)) (.aI (.cmp .lss (.v 3) ec) (.eE f g e (.dw (N+3) o [.v 0,.v 3,ec]) E (.v X) x t) D) B) O L:=by
 have y:K.ai O (.v 0)=a:=H.va;have F:K.ai O (.v 3)=s:=H.vs;rw[yS];simp only[BE.ai,fj,y,F,dD];refine vz (λk=> ?_) (λk=> ?_);rw[yS];simp only[BE.ai,fj,H.Vh,F,dD];refine vz (λj=> ?_) (λj=> ?_);rw[Eh];refine⟨M++(bN o.lt (A++W)++R), ?_, ?_⟩;simp only[lu,dH,oC,H.Vh,y,F,RE.rv,V,RV.mU];exact ab0 ae ae ae ae ae ae w u Q G;simp only[RE.rv,V,RV.pe];exact q;refine p ?_;rw[V,ab1 (.inr (ui ae)) Q G];simp;refine n ?_;rw[V,ab1 (.inl (ui ae)) Q G];simp
def aES(H:Mf O a m b s mid e1){D:bo}{Q G:T}{v:Value}{B R:av}(W:O.rv X=.mk v (M++(A++(B++R))))
  (p:Y M=s)(n:Y A=m-s)(k:Y B=e1-m)(j:s<=m)(i:m<=e1)(z:(M++(A++(B++R))).length<=1099511627776)
  (y:T.hw h t (O.add (.r (.mk v (M++(B++(A++R)))))) L)(x:O.rv X=.mk v (M++(B++(A++R)))->T.hw h Q O L)(w:O.rv X=.mk v (M++(B++(A++R)))->T.hw h G O L):
  T.hw h (.aI (.cmp .lss (.v 3) (.v 1)) (.aI (.cmp .lss (.v 1) QJ) (.eE d g e (.dw 1 o [.v 3,.v 1,QJ]) E (.v X) D t) Q) G) O L:=by
 have V:K.ai O (.v 1)=m:=H.vm;have F:K.ai O (.v 3)=s:=H.vs;rw[yS];simp only[BE.ai,fj,V,F,dD];refine vz (λu=> ?_) (λu=> ?_);rw[yS];simp only[BE.ai,fj,H.ve,V,dD];refine vz (λq=> ?_) (λq=> ?_);rw[Eh];refine⟨M++(B++(A++R)), ?_, ?_⟩;simp only[lu,dH,oC,H.ve,V,F,RE.rv,W,RV.mU];exact aER ae ae ae ae ae z;simp only[RE.rv,W,RV.pe];exact y;refine x ?_;have:B=[]:=ui ae;rw[W,this];simp;refine w ?_;have:A=[]:=ui ae;rw[W,this];simp
end
section
variable{f d e g N:Nat}{o:bu}{O:aj}{L:dp}{a m b s mid e1:Nat}{l:mP}
def ab2{O:aj}{v:RV}(h:X=Y O.r):(O.add (.r v)).rv X=v:=by subst h;simp[aj.rv,aj.add]
def aET(bb:mY o.lt (λx=>o.ok x=J))(H:Mf O a m b s mid e1){v:Value}(af:Y O.r=2)(hc:O.rv 1=.mk v M)
  (h1:a<=s)(h2:s<=m)(h3:m<=e1)(F:e1<=b)(hb:b<=Y M)(al:s<=mid)(bk:mid+m=e1+s)(an:mid-a<N)(w:b-mid<N)(hl:Y M<=1099511627776)(a4:∀z∈M,o.ok z=J)(sA:gT o.lt (bi M a m))(sB:gT o.lt (bi M m b))
  (q1:∀i j,a<=i->i<s->e1<=j->j<b->o.lt (M.getD j []) (M.getD i [])=E)(q2:∀i j,s<=i->i<m->m<=j->j<e1->o.lt (M.getD j []) (M.getD i [])=J)
  (a9:A=M.take a++(bN o.lt (bi M a b)++M.drop b)):T.hw ⟨l,g,o,e,v,A⟩ (Vd e g d f N o) O L:=by
 have bc:=aAY bb a4 h1 h2 h3 F hb sA sB q1 q2;have e0:M=M.take a++(bi M a s++(bi M s m++(bi M m e1++(bi M e1 b++M.drop b)))):=by
  have:=Oc M (show a<=b from ae);rw[qI M (show a<=s from ae) (show s<=b from ae),qI M h2 (show m<=b from ae),qI M h3 F] at this;simpa using this.symm
 have l1:(bi M a s).length=s-a:=sa M ae;have l2:(bi M s m).length=m-s:=sa M ae;have l3:(bi M m e1).length=e1-m:=sa M ae;have u:(bi M e1 b).length=b-e1:=sa M ae;have lP:(M.take a).length=a:=bY;rw[qI M h1 h2] at sA;rw[qI M h3 F] at sB;have a0:gT o.lt (bi M a s):=(oB.1 sA).1;have t:gT o.lt (bi M s m):=(oB.1 sA).2.1;have a1:gT o.lt (bi M m e1):=(oB.1 sB).1;have q:gT o.lt (bi M e1 b):=(oB.1 sB).2.1;rw[bc] at a9;have bd:∀x,(x∈M.take a\/x∈bi M a s\/x∈bi M s m\/x∈bi M m e1\/x∈bi M e1 b\/x∈M.drop b)->o.ok x=true:=λx hx=>a4 x (by
  rcases hx with h|h|h|h|h|h;exact GD h;exact wa h;exact wa h;exact wa h;exact wa h;exact En h)
 rw[e0] at hc hl;generalize M.take a=P at*;generalize bi M a s=X at*;generalize bi M s m=D at*;generalize bi M m e1=W at*;generalize bi M e1 b=y at*;generalize M.drop b=Q at*;have p:A=(P++bN o.lt (X++W))++(bN o.lt (D++y)++Q):=by rw[a9];simp
 have bf:∀x∈bN o.lt (X++W),x∈X\/x∈W:=λx hx=>by simpa using KJ hx
 have ba:(bN o.lt (X++W)).length=mid-a:=by rw[pN];simp;omega
 have bl:Y P+(Y X+(Y D+(Y W+(Y y+Y Q))))<=1099511627776:=by simpa using hl
 have ag:∀z∈P++(X++(W++(D++(y++Q)))),o.ok z=true:=λz hz=>bd z (by
  simp only[fg] at hz;rcases hz with h|h|h|h|h|h;exact .inl h;exact .inr (.inl h);exact .inr (.inr (.inr (.inl h)));exact .inr (.inr (.inl h));exact .inr (.inr (.inr (.inr (.inl h))));exact .inr (.inr (.inr (.inr (.inr h)))))
 have n:∀z∈(P++bN o.lt (X++W))++(D++(y++Q)),o.ok z=true:=λz hz=>ag z (by
  simp only[fg] at hz⊢;rcases hz with(h|h)|h|h|h;exact .inl h;rcases bf z h with h|h;exact .inr (.inl h);exact .inr (.inr (.inl h));exact .inr (.inr (.inr (.inl h)));exact .inr (.inr (.inr (.inr (.inl h))));exact .inr (.inr (.inr (.inr (.inr h)))))
 have lU:(P++(X++(W++(D++(y++Q))))).length<=1099511627776:=bY;have k:((P++bN o.lt (X++W))++(D++(y++Q))).length<=1099511627776:=by simp only[f9,ba];omega
 have c:(P++bN o.lt (X++W)).length=mid:=by simp only[f9,ba];omega
 have aa:Y D=e1-mid:=ae;have bg:O.rv 1=.mk v ((P++X)++(D++(W++(y++Q)))):=by rw[hc];simp
 have a3:∀R:av,(P++X)++(W++R)=P++(X++(W++R)):=λR=>aw
 have ab:∀R:av,P++(bN o.lt (X++W)++R)=(P++bN o.lt (X++W))++R:=λR=>aw
 unfold Vd;refine aES H bg bY l2 l3 h2 h3 bY ?_ (λac=> ?_) (λac=> ?_);have ac:=ab2 (v:=.mk v ((P++X)++(W++(D++(y++Q))))) (show 2=Y O.r from ae);rw[a3] at ac⊢;have V:=H.add (rv:=.mk v (P++(X++(W++(D++(y++Q))))));have G:(O.add (.r (.mk v (P++(X++(W++(D++(y++Q)))))))).r.length=3:=by simp[aj.add,af]
 refine akv V ac lP l1 ae h1 al an lU ag a0 a1 ?_ (λB=> ?_) (λB=> ?_);refine GB V.add rfl ((ab2 (show 3=_ from G.symm)).trans (by rw[ab])) (by simp[aj.add,af]) rfl p c aa u ae F w k n t q rfl rfl rfl;refine GB V rfl (B.trans (by rw[ab])) (show 2+1=_ from G.symm) rfl p c aa u ae F w k n t q rfl rfl rfl;refine GB V rfl (B.trans (by rw[ab])) (show 2+1=_ from G.symm) rfl p c aa u ae F w k n t q rfl rfl rfl;rw[a3] at ac;have V:=H;have G:=af;refine akv V ac lP l1 ae h1 al an lU ag a0 a1 ?_ (λB=> ?_) (λB=> ?_);refine GB V.add rfl ((ab2 (show 2=_ from G.symm)).trans (by rw[ab])) (by simp[aj.add,G]) rfl p c aa u ae F w k n t q rfl rfl rfl;refine GB V rfl (B.trans (by rw[ab])) (show 1+1=_ from G.symm) rfl p c aa u ae F w k n t q rfl rfl rfl;refine GB V rfl (B.trans (by rw[ab])) (show 1+1=_ from G.symm) rfl p c aa u ae F w k n t q rfl rfl rfl;rw[a3] at ac;have V:=H;have G:=af;refine akv V ac lP l1 ae h1 al an lU ag a0 a1 ?_ (λB=> ?_) (λB=> ?_);refine GB V.add rfl ((ab2 (show 2=_ from G.symm)).trans (by rw[ab])) (by simp[aj.add,G]) rfl p c aa u ae F w k n t q rfl rfl rfl;refine GB V rfl (B.trans (by rw[ab])) (show 1+1=_ from G.symm) rfl p c aa u ae F w k n t q rfl rfl rfl;refine GB V rfl (B.trans (by rw[ab])) (show 1+1=_ from G.symm) rfl p c aa u ae F w k n t q rfl rfl rfl
end
end
section
attribute[local simp] K.ai BE.ai RE.rv RE.ai fj aj.rv aj.ext aj.add C.xv yS Mb Mc Me Eh Ei LE.ah pi lu
attribute[local congr] Ma
def getD_some(h:X<Y M):M[X]?=U (M.getD X []):=by
 rw[dM,dG h];rfl
def Vi{i j:Nat}(h:i+j<=4398046511104):IntKind.i64.wrap (be .shr .u64 (IntKind.u64.wrap (be .add I (i:Int) (j:Int))) 1)=(((i+j)/2:Nat):Int):=by
 rw[B8 h];exact aEQ h
def Vj(h:X<Y M):bi M X (X+1)=[M.getD X []]:=by
 have e:M.getD X []=M[X]:=by rw[dM,dG h];rfl
 simp only[bi,Vw];rw[Cb h,e];rfl
def aEU(A R:av)(y x:aE){j:Nat}(X:j=Y A):((A++(x::y::R)).set j y).set (j+1) x=A++(y::x::R):=by
 subst X;rw[acf _ _ ae,acn,acf _ _ ae,Vw];rfl
def cV(X:av)(k:Nat):aE:=X.getD k []
def auW(h:X<Y M):M.drop X=cV M X::M.drop (X+1):=by
 rw[Cb h,cV,dM,dG h];rfl
section
variable{Q:mP}{e g:Nat}{o:bu}{d:RE->K->aq}
def aEV(ab:Gz Q d)(ac:mY o.lt (λx=>o.ok x=J)){V:oY}{a m b:Nat}(b3:Y M=X)(hn:X<=1099511627776)(B:∀x∈M,jW Q x)(al:∀x∈M,o.ok x=J)
  (hm:m=a+1)(b4:m<b)(hb:b<=Y M)(sB:gT o.lt (bi M m b))(bd:A=M.take a++(bN o.lt (bi M a b)++M.drop b)):
  T.hw ⟨Q,g,o,e,.slice V X u,A⟩ (akq e g d) ⟨[(a:Int),m,b],[],[.mk (.slice V X u) M],[]⟩ []:=by
 subst hm;have P:a<Y M:=ae;have an:∀k,k<Y M->cV M k∈M:=λk R=>jz (getD_some R)
 have t:∀k,k<Y M->jW Q (cV M k):=λk R=>B _ (an k R)
 have N:∀k,k<Y M->o.ok (cV M k)=true:=λk R=>al _ (an k R)
 unfold akq;refine AC (λH=>∃(i j:Nat),H=[.r (.mk (.slice V X u) M),.i i,.i j]/\a+1<=i/\i<=j/\j<=b/\(∀k,a+1<=k->k<i->o.lt (cV M k) (cV M a)=J)/\∀k,j<=k->k<b->o.lt (cV M k) (cV M a)=E) (λH=>match H with|[_,.i i,.i j]=>j.toNat-i.toNat|_=>0) ⟨a+1,b,rfl,ae,ae,ae,ae,ae⟩ ?_;rintro _ ⟨i,j,rfl,a0,b5,s,a1,a3⟩;by_cases bf:i<j;have p:=Vi (i:=i) (j:=j) ae;have bg:i<=(i+j)/2:=ae;have bk:(i+j)/2<j:=ae;generalize hq:(i+j)/2=q at p bg bk;simp[bf,p,lenOf];refine⟨ae,ae, ?_⟩;refine abZ ab rfl (cV M q) (cV M a) ?_ ?_ (t q ae) (t a P) (N q ae) (N a P) (λc hc=> ?_);simp[p];exact getD_some ae;simp;exact getD_some P;simp[p];refine vz (λbl=> ?_) (λbr=> ?_);rw[GA ae];refine⟨⟨q+1,j,rfl,ae,ae,s,λk G F=> ?_,a3⟩, ?_⟩;have D:=hc.1 bl;by_cases R:k=q;subst R;exact D;have hs:=Od hb sB (i:=k) (j:=q) ae ae ae;cases h:o.lt (cV M k) (cV M a);have:=ac.nt _ _ _ (N q ae) (N k ae) (N a P) hs h;rw[D] at this;cases this;rfl;show(j:Int).toNat-((q+1:Nat):Int).toNat<j-i;omega;have D:o.lt (cV M q) (cV M a)=false:=by
  cases h:o.lt (cV M q) (cV M a);rfl;exact bF (hc.2 h) br
 refine⟨⟨i,q,rfl,ae,ae,ae,a1,λk G F=> ?_⟩, ?_⟩;by_cases R:k=q;subst R;exact D;have hs:=Od hb sB (i:=q) (j:=k) ae ae ae;exact ac.nt _ _ _ (N k ae) (N q ae) (N a P) hs D;show((q:Nat):Int).toNat-(i:Int).toNat<j-i;omega;have bs:i=j:=ae;subst bs;simp;have a4:bN o.lt (bi M a b)=bi M (a+1) i++cV M a::bi M i b:=by
  have e0:bi M a b=cV M a::(bi M (a+1) i++bi M i b):=by
   rw[<-qI M a0 s,qI M (show a<=a+1 from ae) (show a+1<=b from ae)];have:bi M a (a+1)=[cV M a]:=Vj P;rw[this];rfl
  rw[e0];refine aAV ac (λz L=> ?_) (by rw[<-qI M a0 s];exact sB) (λy hy=> ?_) (λy hy=> ?_);rw[<-e0] at L;exact al z (wa L);obtain⟨k,k1,k2,_,rfl⟩:=HF hy;exact a1 k k1 k2;obtain⟨k,k1,k2,_,rfl⟩:=HF hy;exact a3 k k1 k2
 have bt:(M.take a).length=a:=bY;refine AC (λH=>∃(k:Nat)(W:av),H=[.r (.mk (.slice V X u) W),.i k]/\a<=k/\k+1<=i/\W=(M.take a++bi M (a+1) (k+1))++cV M a::M.drop (k+1)) (λH=>match H with|[_,.i k]=>i-k.toNat|_=>0) ⟨a,M,aw,ae,ae, ?_⟩ ?_;have e1:bi M (a+1) (a+1)=[]:=by simp[bi]
 have:=Oc M (show a<=a+1 from ae);rw[Vj P] at this;rw[e1,Mq];exact this.symm;rintro _ ⟨k,W,rfl,b6,b7,bZ⟩;have a9:be .sub I (i:Int) 1=((i-1:Nat):Int):=abY ae ae;have l:(M.take a++bi M (a+1) (k+1)).length=k:=by rw[f9,bt,sa M ae];omega
 by_cases R:k<i-1;have hd:M.drop (k+1)=cV M (k+1)::M.drop (k+1+1):=by
  exact auW ae
 have fG:bi M (a+1) (k+1+1)=bi M (a+1) (k+1)++[cV M (k+1)]:=by
  rw[qI M (show a+1<=k+1 from ae) (show k+1<=k+1+1 from ae),Vj ae];rfl
 have f:=t a P;have aa:=t (k+1) ae;have ba:∀z∈W,jW Q z:=λz L=>by
  rw[bZ] at L;simp only[fg,fh] at L;rcases L with(h|h)|h|h;exact B z (GD h);exact B z (wa h);subst h;exact f;exact B z (En h)
 rw[hd] at bZ;generalize cV M a=x at f bZ a4;generalize cV M (k+1)=y at aa bZ fG;have b8:Y W=X:=by
  rw[bZ,f9,l];simp;omega
 have gx:W[k]?=U x:=by rw[bZ,ji ae,l];simp
 have gy:W[k+1]?=U y:=by rw[bZ,ji ae,l];simp
 have c1:∀O:aj,O.r=[.mk (.slice V X u) M,.mk (.slice V X u) M,.mk (.slice V X u) W]->O.i=[(a:Int),((a+1:Nat):Int),b,i,i,k]->Cj (C.cj O) (d (.v 2) (.bin .add I (.v 5) (.c 1)))=y:=λO G F=>ab.cj O _ _ y (by simp only[RE.rv,aj.rv,K.ai,G,F,QQ,Jw,RV.mU,GA (a:=k) ae];exact gy) aa
 have c2:∀(O:aj) rv,O.r=[.mk (.slice V X u) M,.mk (.slice V X u) M,.mk (.slice V X u) W,rv]->O.i=[(a:Int),((a+1:Nat):Int),b,i,i,k]->Cj (C.cj O) (d (.v 2) (.v 5))=x:=λO rv G F=>ab.cj O _ _ x (by simp only[RE.rv,aj.rv,K.ai,G,F,QQ,Jw,RV.mU];exact gx) f
 have m1:(W.modify k λaf=>ge af 0 y)=W.set k y:=Jr ba aa;have m2:((W.set k y).modify (k+1) λaf=>ge af 0 x)=(W.set k y).set (k+1) x:=Jr (λz L=>by
  rcases Mi L with h|rfl;exact ba z h;exact aa) f
 have ag:(k:Int)<((i-1:Nat):Int):=ae;have bb:=GA (a:=k) ae;generalize hw:((k+1:Nat):Int)=w at bb;have bx:w.toNat=k+1:=ae;have bc:=aEU (M.take a++bi M (a+1) (k+1)) (M.drop (k+1+1)) y x l.symm;rw[<-bZ] at bc;simp[a9,ag,bb,lenOf];rw[c1 _ rfl rfl,c2 _ _ rfl rfl,bx,m1,m2,bc];refine⟨ae,ae,ae,⟨k+1,_,by rw[hw],ae,ae, ?_⟩, ?_⟩;rw[fG];simp;show i-w.toNat<i-k;omega;have ag:¬(k:Int)<((i-1:Nat):Int):=ae;have b0:k+1=i:=ae;rw[b0] at bZ;have hd:=Oc (M.drop 0) (show i<=i from ae);have b1:M.drop i=bi M i b++M.drop b:=by
  have:=qI M s (show b<=b from ae);simp only[bi];have e:M.drop b=(M.drop i).drop (b-i):=by rw[QX];congr 1;omega
  rw[e,Jv]
 have b2:W=A:=by
  rw[bZ,bd,a4,b1];simp
 simp[a9,ag];exact⟨2,rfl,by rw[b2];rfl⟩
def aEW(ab:Gz Q d)(ac:mY o.lt (λx=>o.ok x=J)){V:oY}{a m b:Nat}(b4:Y M=X)(hn:X<=1099511627776)(t:∀x∈M,jW Q x)(a3:∀x∈M,o.ok x=J)
  (hm:b=m+1)(b5:a<m)(hb:b<=Y M)(sA:gT o.lt (bi M a m))(bf:A=M.take a++(bN o.lt (bi M a b)++M.drop b)):
  T.hw ⟨Q,g,o,e,.slice V X u,A⟩ (akr e g d) ⟨[(a:Int),m,b],[],[.mk (.slice V X u) M],[]⟩ []:=by
 subst hm;have N:m<Y M:=ae;have a4:∀k,k<Y M->cV M k∈M:=λk P=>jz (getD_some P)
 have s:∀k,k<Y M->jW Q (cV M k):=λk P=>t _ (a4 k P)
 have L:∀k,k<Y M->o.ok (cV M k)=true:=λk P=>a3 _ (a4 k P)
 unfold akr;refine AC (λR=>∃(i j:Nat),R=[.r (.mk (.slice V X u) M),.i i,.i j]/\a<=i/\i<=j/\j<=m/\(∀k,a<=k->k<i->o.lt (cV M m) (cV M k)=E)/\∀k,j<=k->k<m->o.lt (cV M m) (cV M k)=J) (λR=>match R with|[_,.i i,.i j]=>j.toNat-i.toNat|_=>0) ⟨a,m,rfl,ae,ae,ae,ae,ae⟩ ?_;rintro _ ⟨i,j,rfl,af,b6,ag,a9,ba⟩;by_cases bg:i<j;have p:=Vi (i:=i) (j:=j) ae;have bk:i<=(i+j)/2:=ae;have bl:(i+j)/2<j:=ae;generalize hq:(i+j)/2=q at p bk bl;simp[bg,p,lenOf];refine⟨ae,ae, ?_⟩;refine abZ ab rfl (cV M m) (cV M q) ?_ ?_ (s m N) (s q ae) (L m N) (L q ae) (λc hc=> ?_);simp;exact getD_some N;simp[p];exact getD_some ae;simp[p];refine vz (λb7=> ?_) (λb8=> ?_);rw[GA ae];have F:o.lt (cV M m) (cV M q)=false:=by
  cases h:o.lt (cV M m) (cV M q);rfl;have:=hc.2 h;omega
 refine⟨⟨q+1,j,rfl,ae,ae,ag,λk D G=> ?_,ba⟩, ?_⟩;by_cases P:k=q;subst P;exact F;have hs:=Od (show m<=Y M from ae) sA (i:=k) (j:=q) ae ae ae;exact ac.nt _ _ _ (L m N) (L q ae) (L k ae) F hs;show(j:Int).toNat-((q+1:Nat):Int).toNat<j-i;omega;have F:o.lt (cV M m) (cV M q)=true:=hc.1 ae;refine⟨⟨i,q,rfl,ae,ae,ae,a9,λk D G=> ?_⟩, ?_⟩;by_cases P:k=q;subst P;exact F;have hs:=Od (show m<=Y M from ae) sA (i:=q) (j:=k) ae ae ae;cases h:o.lt (cV M m) (cV M k);have:=ac.nt _ _ _ (L m N) (L k ae) (L q ae) h hs;rw[F] at this;cases this;rfl;show((q:Nat):Int).toNat-(i:Int).toNat<j-i;omega;have br:i=j:=ae;subst br;simp;have bs:bN o.lt (bi M a (m+1))=bi M a i++cV M m::bi M i m:=by
  have e0:bi M a (m+1)=bi M a i++bi M i m++[cV M m]:=by
   rw[<-qI M af ag,qI M (show a<=m from ae) (show m<=m+1 from ae),Vj N];rfl
  rw[e0];refine aAW ac (λz H=> ?_) (by rw[<-qI M af ag];exact sA) (λy hy=> ?_) (λy hy=> ?_);rw[<-e0] at H;exact a3 z (wa H);obtain⟨k,k1,k2,_,rfl⟩:=HF hy;exact a9 k k1 k2;obtain⟨k,k1,k2,_,rfl⟩:=HF hy;exact ba k k1 k2
 refine AC (λR=>∃(k:Nat)(W:av),R=[.r (.mk (.slice V X u) W),.i k]/\i<=k/\k<=m/\W=M.take k++cV M m::(bi M k m++M.drop (m+1))) (λR=>match R with|[_,.i k]=>k.toNat|_=>0) ⟨m,M,aw,ae,ae, ?_⟩ ?_;have e1:bi M m m=[]:=by simp[bi]
 rw[e1,da,<-auW N,Jv];rintro _ ⟨k,W,rfl,ca,cc,bZ⟩;by_cases P:i<k;obtain⟨q,rfl⟩:∃q,k=q+1:=⟨k-1,ae⟩;have al:be .sub I (((q+1:Nat)):Int) 1=(q:Int):=by rw[abY ae ae];omega
 have l:(M.take q).length=q:=bY;have bt:M.take (q+1)=M.take q++[cV M q]:=by
  rw[av5,getD_some (show q<Y M from ae)];rfl
 have fG:bi M q m=cV M q::bi M (q+1) m:=by
  rw[qI M (show q<=q+1 from ae) (show q+1<=m from ae),Vj ae];rfl
 have an:=s m N;have f:=s q ae;have B:W=M.take q++(cV M q::cV M m::(bi M (q+1) m++M.drop (m+1))):=by rw[bZ,bt];simp
 have bb:∀z∈W,jW Q z:=λz H=>by
  rw[B] at H;simp only[fg,fh] at H;rcases H with h|h|h|h|h;exact t z (GD h);subst h;exact f;subst h;exact an;exact t z (wa h);exact t z (En h)
 have bc:=auU (M.take q) (bi M (q+1) m++M.drop (m+1)) (cV M q) (cV M m) l.symm;rw[<-B] at bc;have cf:Y W=X:=by
  rw[B,f9,l];simp only[oV,f9,sa M (show m<=Y M from ae),Cf];omega
 have gx:W[q+1]?=U (cV M m):=by rw[B,ji ae,l];simp
 have gy:W[q]?=U (cV M q):=by rw[B,ji ae,l];simp
 have bd:(i:Int)<((q+1:Nat):Int):=ae;have bx:((q+1:Nat):Int)<X:=ae;have a0:((q+1:Nat):Int).toNat=q+1:=rfl;have b0:(0:Int)<=((q+1:Nat):Int):=ae;have b1:∀aa,aa=M.take q++cV M m::(bi M q m++M.drop (m+1))->L9 (U ⟨1,λR=>∃(k:Nat)(W:av),R=[.r (.mk (.slice V X u) W),.i k]/\i<=k/\k<=m/\W=M.take k++cV M m::(bi M k m++M.drop (m+1)),λR=>match R with|[_,.i k]=>k.toNat|_=>0,q+1⟩) [.r (.mk (.slice V X u) aa),.i q]:=λaa G=>⟨⟨q,aa,rfl,ae,ae,G⟩,show(q:Int).toNat<q+1 from ae⟩
 generalize hw:((q+1:Nat):Int)=w at al bd bx a0 b0⊢;have c1:∀O:aj,O.r=[.mk (.slice V X u) M,.mk (.slice V X u) M,.mk (.slice V X u) W]->O.i=[(a:Int),m,((m+1:Nat):Int),i,i,w]->Cj (C.cj O) (d (.v 2) (.bin .sub I (.v 5) (.c 1)))=cV M q:=λO D G=>ab.cj O _ _ _ (by simp only[RE.rv,aj.rv,K.ai,D,G,QQ,Jw,RV.mU,al];exact gy) f
 have c2:∀(O:aj) rv,O.r=[.mk (.slice V X u) M,.mk (.slice V X u) M,.mk (.slice V X u) W,rv]->O.i=[(a:Int),m,((m+1:Nat):Int),i,i,w]->Cj (C.cj O) (d (.v 2) (.v 5))=cV M m:=λO rv D G=>ab.cj O _ _ _ (by simp only[RE.rv,aj.rv,K.ai,D,G,QQ,Jw,RV.mU,a0];exact gx) an
 have m1:(W.modify (q+1) λa1=>ge a1 0 (cV M q))=W.set (q+1) (cV M q):=Jr bb f;have m2:((W.set (q+1) (cV M q)).modify q λa1=>ge a1 0 (cV M m))=(W.set (q+1) (cV M q)).set q (cV M m):=Jr (λz H=>by
  rcases Mi H with h|rfl;exact bb z h;exact f) an
 simp[al,bd,lenOf];rw[c1 _ rfl rfl,c2 _ _ rfl rfl,a0,m1,m2,bc];refine⟨ae,ae,ae, ?_⟩;exact b1 _ (by rw[fG];simp);have b2:k=i:=ae;subst b2;have b3:W=A:=by
  have ht:M.take k=M.take a++bi M a k:=by
   have e1:=Oc M af;have e2:(M.take a++bi M a k).length=k:=by rw[f9,sa M ae];simp;omega
   calc M.take k=(M.take a++bi M a k++M.drop k).take k:=by rw[Ce,e1]
    _=_:=by rw[avL ae,Jt ae]
  rw[bZ,bf,bs,ht];simp
 simp;exact⟨2,rfl,by rw[b3];rfl⟩
end
end
section
attribute[local simp] K.ai BE.ai RE.rv RE.ai fj aj.rv aj.ext aj.add C.xv yS Mb Mc Me Eh Ei LE.ah pi lu
attribute[local congr] Ma
section
variable{Q:mP}{e g f l N:Nat}{o:bu}{d:RE->K->aq}
def auX(a3:Gz Q d)(R:mY o.lt (λx=>o.ok x=J)){H:oY}{a m b lo hi:Nat}(bk:Y M=X)(hn:X<=1099511627776)(hT:∀x∈M,jW Q x)(ab:∀x∈M,o.ok x=J)
  (bl:a<m)(br:m<b)(hb:b<=Y M)(hN:b-a<N+1)(bs:2<=b-a)(sA:gT o.lt (bi M a m))(sB:gT o.lt (bi M m b))(a4:A=M.take a++(bN o.lt (bi M a b)++M.drop b))
  (l1:a<=lo)(l2:lo<=hi)(l3:hi<=m)(l4:hi<=(a+b)/2)(l5:(a+b)/2+m<=lo+b)(l6:lo=a\/lo+b=(a+b)/2+m)(l7:hi=m\/hi=(a+b)/2)
  {ks:aL}(a9:n.map (C.xv ⟨[(a:Int),m,b],[],[.mk (.slice H X u) M],[]⟩)=[.r (.mk (.slice H X u) M),.i lo,.i hi]):
  T.hw ⟨Q,g,o,e,.slice H X u,A⟩ (.loop 0 ks n (.aI (.cmp .lss (.v 3) (.v 4)) (abV g d) (Vd e g f l N o))) ⟨[(a:Int),m,b],[],[.mk (.slice H X u) M],[]⟩ []:=by
 have ac:∀k,k<Y M->cV M k∈M:=λk G=>jz (getD_some G)
 have af:∀k,k<Y M->jW Q (cV M k):=λk G=>hT _ (ac k G)
 have W:∀k,k<Y M->o.ok (cV M k)=true:=λk G=>ab _ (ac k G)
 have y:=Vi (i:=a) (j:=b) ae;have bt:a<(a+b)/2/\(a+b)/2<b:=ae;generalize bx:(a+b)/2=V at*;have w:∀i j,a<=i->i<=j->j<m->o.lt (cV M j) (cV M i)=false:=λi j P F D=>by
  by_cases h:i=j;subst h;exact R.X7 _ (W i ae);exact Od (show m<=Y M from ae) sA P ae D
 have t:∀i j,m<=i->i<=j->j<b->o.lt (cV M j) (cV M i)=false:=λi j P F D=>by
  by_cases h:i=j;subst h;exact R.X7 _ (W i ae);exact Od hb sB P ae D
 refine AC (λxs=>∃(s r:Nat),xs=[.r (.mk (.slice H X u) M),.i s,.i r]/\lo<=s/\s<=r/\r<=hi/\(∀c,lo<=c->c<s->o.lt (cV M (V+m-1-c)) (cV M c)=E)/\∀c,r<=c->c<hi->o.lt (cV M (V+m-1-c)) (cV M c)=J) (λxs=>match xs with|[_,.i i,.i j]=>j.toNat-i.toNat|_=>0) ⟨lo,hi,a9,ae,l2,ae,ae,ae⟩ ?_;rintro _ ⟨s,r,rfl,b0,b1,ba,ag,al⟩;by_cases bb:s<r;have B:=Vi (i:=s) (j:=r) ae;have bc:s<=(s+r)/2:=ae;have bd:(s+r)/2<r:=ae;generalize hq:(s+r)/2=q at B bc bd;have an:=B8 (a:=V) (b:=m) ae;have a0:=abY (a:=V+m) ae ae;have a1:=AD (a:=V+m-1) (b:=q) ae ae;unfold abV;simp[bb,B,lenOf,y];rw[an,a0,a1];refine⟨ae,ae, ?_⟩;refine abZ a3 rfl (cV M (V+m-1-q)) (cV M q) ?_ ?_ (af _ ae) (af q ae) (W _ ae) (W q ae) (λc hc=> ?_);simp[B,y];rw[an,a0,a1];exact getD_some ae;simp[B];exact getD_some ae;simp[B];refine vz (λb2=> ?_) (λb3=> ?_);rw[GA ae];have aa:o.lt (cV M (V+m-1-q)) (cV M q)=false:=by
  cases h:o.lt (cV M (V+m-1-q)) (cV M q);rfl;have:=hc.2 h;omega
 refine⟨⟨q+1,r,rfl,ae,ae,ba,λk P F=> ?_,al⟩, ?_⟩;have O:=w k q ae ae ae;have L:=t (V+m-1-q) (V+m-1-k) ae ae ae;have t3:=R.nt _ _ _ (W _ ae) (W _ ae) (W q ae) L aa;exact R.nt _ _ _ (W _ ae) (W q ae) (W k ae) t3 O;show(r:Int).toNat-((q+1:Nat):Int).toNat<r-s;omega;have aa:o.lt (cV M (V+m-1-q)) (cV M q)=true:=hc.1 ae;refine⟨⟨s,q,rfl,ae,ae,ae,ag,λk P F=> ?_⟩, ?_⟩;cases h:o.lt (cV M (V+m-1-k)) (cV M k);have O:=w q k ae ae ae;have L:=t (V+m-1-k) (V+m-1-q) ae ae ae;have t3:=R.nt _ _ _ (W _ ae) (W _ ae) (W k ae) L h;have z:=R.nt _ _ _ (W _ ae) (W k ae) (W q ae) t3 O;rw[aa] at z;cases z;rfl;show((q:Nat):Int).toNat-(s:Int).toNat<r-s;omega;have bf:s=r:=ae;subst bf;simp;refine aET R (a:=a) (m:=m) (b:=b) (s:=s) (mid:=V) (e1:=V+m-s) ⟨rfl,rfl,rfl,rfl, ?_, ?_⟩ rfl rfl ae ae ae ae hb ae ae ae ae ae ab sA sB (λi j P F D h4=> ?_) (λi j P F D h4=> ?_) a4;simp[y];simp[y];rw[B8 ae,AD ae ae];have bg:lo<s:=by
  rcases l6 with h|h<;>omega
 have p:=ag (s-1) ae ae;rw[show V+m-1-(s-1)=V+m-s from ae] at p;have O:=w i (s-1) ae ae ae;have L:=t (V+m-s) j ae ae ae;have t3:=R.nt _ _ _ (W j ae) (W _ ae) (W (s-1) ae) L p;exact R.nt _ _ _ (W j ae) (W (s-1) ae) (W i ae) t3 O;have bg:s<hi:=by
  rcases l7 with h|h<;>omega
 have p:=al s ae ae;cases h:o.lt (cV M j) (cV M i);have O:=w s i ae ae ae;have L:=t j (V+m-1-s) ae ae ae;have t3:=R.nt _ _ _ (W _ ae) (W j ae) (W i ae) L h;have z:=R.nt _ _ _ (W _ ae) (W i ae) (W s ae) t3 O;rw[p] at z;cases z;exact h
def aEX{a m b:Int}:og (X+4) y [a,m,b] M=if decide (0<=a)&&decide (a<m)&&decide (m<b)&&decide (b<=Y M)&&decide (b-a<((X+1:Nat):Int))&&M.all y.ok&&zu y.lt (bi M a.toNat m.toNat)&&zu y.lt (bi M m.toNat b.toNat) then U (M.take a.toNat++(bN y.lt (bi M a.toNat b.toNat)++M.drop b.toNat)) else none:=rfl
def auY(W:Gz Q d)(V:mY o.lt (λx=>o.ok x=J)):Vc Q e g o (N+4) 3 (abW e g f l N o d):=by
 rintro p _ z aF ns y w ⟨v,n,u,rfl,R,P⟩ O t B s;obtain⟨a,m,b,rfl⟩:=Ej t;obtain⟨_,X⟩:=CQ B;clear B;rw[aEX] at X;split at X;rename_i A;simp only[aC,dD,gz,aqb] at A;obtain⟨⟨⟨⟨⟨⟨⟨r,aa⟩,ab⟩,jc⟩,ac⟩,M⟩,L⟩,H⟩:=A;obtain⟨a,rfl⟩:=B9 r;obtain⟨m,rfl⟩:=B9 (a:=m) ae;obtain⟨b,rfl⟩:=B9 (a:=b) ae;simp only[dW,rM] at X L H;have G:b<=Y z:=ae;refine AB ⟨Q,g,o,e,.slice v n u,aF⟩ (y▸w) s _ _ _ ?_;unfold abW;have D:=Vi (i:=a) (j:=b) ae;obtain⟨F,q⟩:∃F,F=(a+b)/2:=⟨_,rfl⟩;rw[<-q] at D;simp[AD (a:=m) (b:=a) ae ae,AD (a:=b) (b:=m) ae ae,D];refine vz (λk=> ?_) (λk=>vz (λh=> ?_) (λh=>vz (λc=> ?_) (λc=> ?_)));exact aEV W V R P O M ae ae G H X.symm;exact aEW W V R P O M ae ae G L X.symm;refine auX W V R P O M (lo:=F+m-b) (hi:=F) ae ae G ae ae L H X.symm ae ae ae ae ae ae ae ?_;simp[D];rw[B8 ae,AD ae ae];refine auX W V R P O M (lo:=a) (hi:=m) ae ae G ae ae L H X.symm ae ae ae ae ae ae ae ?_;simp;cases X
end
end
section
attribute[local simp] K.ai BE.ai RE.rv RE.ai fj aj.rv aj.ext aj.add C.xv yS Mb Mc Me Eh Ei LE.ah pi lu
attribute[local congr] Ma
section
variable{lt:aE->aE->Bool}
inductive lD(lt:List RV->List RV->Bool)(s:Nat):List (List RV)->List (List RV)->Prop
 |nil:lD lt s [] []
 |last (X:List (List RV)):1<=Y X->Y X<=s->lD lt s X (bN lt X)
 |cons (X R R':List (List RV)):Y X=s->lD lt s R R'->lD lt s (X++R) (bN lt X++R')
inductive yT(lt:List RV->List RV->Bool)(s:Nat):List (List RV)->List (List RV)->Prop
 |nil:yT lt s [] []
 |snoc (A A' X:List (List RV)):Y X=s->yT lt s A A'->yT lt s (A++X) (A'++bN lt X)
def yT.iB(h:yT lt X M A):∀{R V:av},lD lt X R V->lD lt X (M++R) (A++V):=by
 induction h with
 |nil=>intro R V Q;exact Q
 |snoc M A W P _ O=>
  intro R V Q;have:=O (.cons W R V P Q);simpa using this
theorem yT.len(h:yT lt X M A):Y A=Y M:=by
 induction h with|nil=>rfl|snoc M A W R _ V=>simp[V,pN]
theorem lD.len(h:lD lt X M A):Y A=Y M:=by
 induction h with|nil=>rfl|last W _ _=>simp[pN]|cons W R Q P _ V=>simp[V,pN]
def yT.mem(h:yT lt X M A):∀x∈A,x∈M:=by
 induction h with
 |nil=>simp
 |snoc M A W V _ R=>
  intro x V;rcases fg.1 V with h|h;simp[R x h];simp[KJ h]
def lD.mem(h:lD lt X M A):∀x∈A,x∈M:=by
 induction h with
 |nil=>simp|last W _ _=>intro x V;exact KJ V
 |cons W R P V _ Q=>
  intro x V;rcases fg.1 V with h|h;simp[KJ h];simp[Q x h]
def lD.two(F:1<=X)(h:lD lt X M A)(O:2*X<=Y M):∃W V Q P,M=W++(V++Q)/\A=bN lt W++(bN lt V++P)/\Y W=X/\Y V=X/\lD lt X Q P:=by
 cases h with
 |nil=>simp at O;omega|last _ L H=>omega
 |cons W M A N h=>
  simp only[f9] at O;cases h with|nil=>simp at O;omega|last _ L H=>exact⟨W,M,[],[],aw,aw,N,ae,.nil⟩|cons V Q P G h=>exact⟨W,V,Q,P,rfl,rfl,N,G,h⟩
def lD.one(h:lD lt X M A)(P:X<Y M)(O:Y M<2*X):∃W V,M=W++V/\A=bN lt W++bN lt V/\Y W=X:=by
 cases h with
 |nil=>simp at P|last _ P O=>omega
 |cons W M A N h=>
  simp only[f9] at P O;cases h with|nil=>simp at P;omega|last _ P O=>exact⟨W,M,rfl,rfl,N⟩|cons V Q L H h=>simp only[f9] at O;omega
def lD.short(h:lD lt X M A)(P:Y M<=X):A=bN lt M:=by
 cases h with
 |nil=>rfl|last _ N L=>rfl
 |cons W M A H h=>
  simp only[f9] at P;have V:M=[]:=ui ae;have Q:=h.len;rw[V] at Q;have O:A=[]:=ui (by simpa using Q);rw[V,O];simp
def lD.akw(W:Y M<=X):lD lt X M (bN lt M):=by
 cases M with|nil=>exact .nil|cons x r=>exact .last _ aw W
end
def auZ{o:bu}{P X Q:av}{a b:Int}(W:a=Y P)(V:b=Y P+Y X)(R:(P++(X++Q)).length<=1099511627776)(O:∀z∈P++(X++Q),o.ok z=J):
  qz 2 o [a,b] (P++(X++Q))=U (P++(bN o.lt X++Q)):=by
 subst W;subst V;unfold qz;rw[aH R];simp only[og];have N:((Y P:Int)).toNat=Y P:=rfl;have M:((Y P:Int)+Y X).toNat=Y P+Y X:=ae;rw[N,M];have L:(P++(X++Q)).take (Y P)=P:=aw;have H:bi (P++(X++Q)) (Y P) (Y P+Y X)=X:=Vf P X _;have G:(P++(X++Q)).drop (Y P+Y X)=Q:=by
  have:P++(X++Q)=(P++X)++Q:=aw;rw[this,VG aw]
 rw[L,H,G,aH];simp only[aC,dD,gz,f9];exact⟨⟨⟨ae,ae⟩,ae⟩,O⟩
section
variable{c:mP}{e g l f:Nat}{o:bu}
def au0(d:mY o.lt (λx=>o.ok x=J)):abR c e g o (λns H=>if ns=[]/\H.length<X then ip o J H else Z) 0 (abX e g l f X o):=by
 rintro p _ H aF ns hP br ⟨D,n,B,rfl,bd,hn⟩ hT hN y bs;simp only at y;split at y;rename_i G;obtain⟨rfl,b6⟩:=G;have b7:=ad3 y;have bt:(∀x∈H,o.ok x=J)/\aF=bN o.lt H:=by
  cases o with
  |dw k o zs=>simp[ip] at y
  |_=>
   simp only[ip] at y;split at y;rename_i hq;simp only[aC,gz] at hq;exact⟨hq.2.1,(nE y).symm⟩;cases y
 obtain⟨al,bx⟩:=bt;clear y;refine AB ⟨c,g,o,e,.slice D n B,aF⟩ (hP▸br) bs _ _ _ ?_;unfold abX;refine AC (λM=>∃(A O R:av),M=[.r (.mk (.slice D n B) (O++R)),.i ((A.length+20:Nat):Int),.i A.length]/\H=A++R/\yT o.lt 20 A O) (λM=>match M with|[_,_,.i a]=>n-a.toNat|_=>0) ⟨[],[],H,aw,rfl,.nil⟩ ?_;rintro _ ⟨A,O,R,rfl,F,v⟩;have b0:=v.len;have an:A.length+R.length=n:=by rw[<-bd,F];simp
 have aa:∀z∈O++R,o.ok z=true:=λz L=>al z (by
  rw[F];rcases fg.1 L with h|h;simp[v.mem z h];simp[h])
 by_cases b1:A.length+20<=n;obtain⟨W,R2,rfl,j⟩:∃W R2,R=W++R2/\W.length=20:=⟨R.take 20,R.drop 20,(Jv _ _).symm,bY⟩;have fo:=auZ (o:=o) (P:=O) (X:=W) (Q:=R2) (a:=A.length) (b:=((A.length+20:Nat):Int)) ae ae (by simp at an⊢;omega) aa;have G:((A.length+20:Nat):Int)<=n:=ae;have a0:=B8 (a:=A.length+20) (b:=20) ae;have ab:L9 (U ⟨0,λM=>∃(A O R:av),M=[.r (.mk (.slice D n B) (O++R)),.i ((A.length+20:Nat):Int),.i A.length]/\H=A++R/\yT o.lt 20 A O,λM=>match M with|[_,_,.i a]=>n-a.toNat|_=>0,n-A.length⟩) [.r (.mk (.slice D n B) (O++(bN o.lt W++R2))),.i (be .add I ((A.length+20:Nat):Int) 20),.i ((A.length+20:Nat):Int)]:=by
  refine⟨⟨A++W,O++bN o.lt W,R2, ?_,by rw[F];simp,.snoc A O W j v⟩, ?_⟩;rw[show((20:Int))=((20:Nat):Int) from rfl,a0];simp[j];show n-((A.length+20:Nat):Int).toNat<n-A.length;omega
 generalize L:((A.length+20:Nat):Int)=z at fo G ab⊢;simp[lenOf,G];exact⟨_,fo,ab⟩;have G:¬((A.length+20:Nat):Int)<=n:=ae;have fo:=auZ (o:=o) (P:=O) (X:=R) (Q:=[]) (a:=A.length) (b:=n) ae ae bY (by simpa using aa);simp only[Mq] at fo;generalize L:((A.length+20:Nat):Int)=z at G⊢;have hB:lD o.lt 20 H (O++bN o.lt R):=by rw[F];exact v.iB (.akw ae)
 simp[lenOf,G];refine⟨_,fo, ?_⟩;clear fo;generalize b8:O++bN o.lt R=b2 at hB⊢;have ca:∀{u:av}{s:Nat},lD o.lt s H u->∀z∈u,o.ok z=true:=λh z L=>al z (h.mem z L)
 refine AC (λM=>∃(s:Nat)(u:av),M=[.r (.mk (.slice D n B) u),.i s]/\20<=s/\s<=2*1099511627776/\lD o.lt s H u) (λM=>match M with|[_,.i s]=>4398046511104-s.toNat|_=>0) ⟨20,b2,rfl,ae,ae,hB⟩ ?_;rintro _ ⟨s,u,rfl,cc,cf,bf⟩;by_cases bg:s<n;have a4:be .mul I 2 (s:Int)=((2*s:Nat):Int):=by simp only[be];rw[Ve ae ae];omega
 have a9:be .mul I (s:Int) 2=((2*s:Nat):Int):=by simp only[be];rw[Ve ae ae];omega
 have ba:∀a1,lD o.lt (2*s) H a1->L9 (U ⟨1,λM=>∃(s:Nat)(u:av),M=[.r (.mk (.slice D n B) u),.i s]/\20<=s/\s<=2*1099511627776/\lD o.lt s H u,λM=>match M with|[_,.i s]=>4398046511104-s.toNat|_=>0,4398046511104-s⟩) [.r (.mk (.slice D n B) a1),.i ((2*s:Nat):Int)]:=λa1 h'=>⟨⟨2*s,a1,rfl,ae,ae,h'⟩,show 4398046511104-((2*s:Nat):Int).toNat<4398046511104-s from ae⟩
 generalize bk:((2*s:Nat):Int)=w at a4 a9 ba;simp[bg,lenOf];refine AC (λM=>∃(A O R t:av),M=[.r (.mk (.slice D n B) (O++t)),.i ((A.length+2*s:Nat):Int),.i A.length]/\H=A++R/\yT o.lt (2*s) A O/\lD o.lt s R t) (λM=>match M with|[_,_,.i a]=>n-a.toNat|_=>0) ⟨[],[],H,u,by simp[a4,<-bk],rfl,.nil,bf⟩ ?_;rintro _ ⟨A,O,R,t,rfl,F,v,hR⟩;have b0:=v.len;have bl:=hR.len;have an:A.length+R.length=n:=by rw[<-bd,F];simp
 have aa:∀z∈O++t,o.ok z=true:=λz L=>al z (by
  rw[F];rcases fg.1 L with h|h;simp[v.mem z h];simp[hR.mem z h])
 have a3:∀z∈R,o.ok z=true:=λz L=>al z (by rw[F];simp[L])
 have has:=B8 (a:=A.length) (b:=s) ae;by_cases b1:A.length+2*s<=n;obtain⟨W,V,Q,Q',rfl,rfl,j,hy,hq⟩:=hR.two ae ae;have b3:(bN o.lt W).length=s:=by rw[pN,j]
 have b4:(bN o.lt V).length=s:=by rw[pN,hy]
 have ac:∀z∈W,o.ok z=true:=λz L=>a3 z (by simp[L])
 have af:∀z∈V,o.ok z=true:=λz L=>a3 z (by simp[L])
 have q:=ab0 (o:=o) (N:=X) (P:=O) (X:=bN o.lt W) (Y:=bN o.lt V) (Q:=Q') (a:=A.length) (m:=((A.length+s:Nat):Int)) (b:=((A.length+2*s:Nat):Int)) ae ae ae ae ae ae (by simp only[f9] at bl an⊢;omega) aa (KI d ac) (KI d af);rw[ap7 d ac af] at q;have G:((A.length+2*s:Nat):Int)<=n:=ae;have a0:=B8 (a:=A.length+2*s) (b:=2*s) ae;rw[bk] at a0;have ab:L9 (U ⟨2,λM=>∃(A O R t:av),M=[.r (.mk (.slice D n B) (O++t)),.i ((A.length+2*s:Nat):Int),.i A.length]/\H=A++R/\yT o.lt (2*s) A O/\lD o.lt s R t,λM=>match M with|[_,_,.i a]=>n-a.toNat|_=>0,n-A.length⟩) [.r (.mk (.slice D n B) (O++(bN o.lt (W++V)++Q'))),.i (be .add I ((A.length+2*s:Nat):Int) w),.i ((A.length+2*s:Nat):Int)]:=by
  refine⟨⟨A++(W++V),O++bN o.lt (W++V),Q,Q', ?_,by rw[F];simp,.snoc A O (W++V) bY v,hq⟩, ?_⟩;rw[a0];simp[j,hy];omega;show n-((A.length+2*s:Nat):Int).toNat<n-A.length;omega
 generalize L:((A.length+2*s:Nat):Int)=z at q G ab⊢;simp[lenOf,G,a4,has];exact⟨_,by simpa using q,ab⟩;have G:¬((A.length+2*s:Nat):Int)<=n:=ae;generalize L:((A.length+2*s:Nat):Int)=z at G⊢;by_cases ch:A.length+s<n;obtain⟨W,V,rfl,rfl,j⟩:=hR.one ae ae;simp only[f9] at an bl;have b3:(bN o.lt W).length=s:=by rw[pN,j]
 have b4:(bN o.lt V).length=V.length:=pN;have ac:∀z∈W,o.ok z=true:=λz L=>a3 z (by simp[L])
 have af:∀z∈V,o.ok z=true:=λz L=>a3 z (by simp[L])
 have q:=ab0 (o:=o) (N:=X) (P:=O) (X:=bN o.lt W) (Y:=bN o.lt V) (Q:=[]) (a:=A.length) (m:=((A.length+s:Nat):Int)) (b:=n) ae ae ae ae ae ae (by simp only[f9,Cg];omega) (by simpa using aa) (KI d ac) (KI d af);rw[ap7 d ac af] at q;simp only[Mq] at q;have ag:((A.length+s:Nat):Int)<n:=ae;have bb:lD o.lt (2*s) H (O++bN o.lt (W++V)):=by rw[F];exact v.iB (.akw bY)
 generalize b5:((A.length+s:Nat):Int)=z3 at has q ag;simp[lenOf,G,has,ag,a9];exact⟨_,q,ba _ bb⟩;have ag:¬((A.length+s:Nat):Int)<n:=ae;have bc:=hR.short ae;have bb:lD o.lt (2*s) H (O++t):=by rw[F,bc];exact v.iB (.akw ae)
 generalize b5:((A.length+s:Nat):Int)=z3 at has ag;simp[lenOf,G,has,ag,a9];exact ba _ bb;have bc:=bf.short ae;simp[bg,lenOf];exact⟨3,rfl,by rw[bc,bx];rfl⟩;cases y
end
end
