/- Part 9 of the proof. -/
import Derived.Test.YtpmkfikkemaopaaGreatDoorQ4
import Derived.Test.YtpmkfikkemaopaaGreatDoorProg
import Derived.ChangeKeysEq
import Derived.Laws.StructEq
import Derived.KernelRfl
import Derived.LoopTactic
import Derived.Lib.Hide
import Derived.Outline
import Derived.OwnWalk
import Derived.RegionTactic
import Derived.BigQuiet
import Derived.Deep.QuietTactic
import Derived.WalkSpells
import Derived.WalkLawsBesides
import Derived.WalkSmall
import Derived.Deep.RegionWith
set_option linter.all false
set_option maxRecDepth 100000
set_option maxHeartbeats 100000000
open Bool renaming and_eq_true->az,not_eq_true'->gO,false_eq_true->iW,or_eq_true->jd,and_assoc->aqD,true->J,false->E
open List renaming getElem?_eq_some_iff->bZ,getElem?_eq_getElem->cK,getD_eq_getElem?_getD->dB,getElem?_append_left->dU,getElem?_map->dN,getElem?_append_right->iC,mem_cons->dP,mem_append->eP,all_eq_true->fp,length_append->gD,replicate->eI,cons_append->fG,map_cons->eE,nil_append->gr,mem_of_getElem?->jm,ext_getElem?->ke,mem_map->hJ,eq_nil_of_length_eq_zero->rZ,length_eq_one_iff->oa,pairwise_append->mT,getElem?_take->mB,getElem?_of_mem->qW,length_cons->oK,getElem_mem->pA,getElem?_drop->tF,getElem?_cons_zero->zr,getElem?_eq_none_iff->Be,length_map->qY,map_map->oc,getElem?_set->uL,mem_or_eq_of_mem_set->C9,nodup_append->xL,drop_eq_getElem_cons->E8,mem_of_mem_drop->Bf,length_eq_zero_iff->Fa,mem_of_mem_take->Db,take_of_length_le->Fb,getD_cons_zero->Ff,take_append_drop->H6,length_take->De,length_drop->Df,range'->wl,append_assoc->H7,getD_cons_succ->LQ,map_nil->Bi,range_eq_range'->P5,getElem?_modify->P7,append_nil->H9,set_append_right->Wf,drop_drop->LS,map->zx,length_nil->Qf,take_append_of_le_length->aqh,all_map->LW,range'_succ->Wm,drop_left'->Wq,take_add_one->aqx,set_cons_zero->aDy,length->Y
open Go.Result renaming andThen_ok->dl
open Nat renaming le_refl->cd,le_trans->oL,add_zero->xN,min_eq_left->Fj,add_sub_cancel_left->aeP,lt_of_lt_of_le->Wi,min_eq_right->Wo,zero_le->Ww,sub_self->Wv,mul_one->aqO
open Option renaming isSome_iff_exists->kD,map_eq_some_iff->P3,some->U,none->Z
open Go.Sem renaming run_bind->dq,run_pure->eX
open Array renaming ext'->mC,getElem?_modify->P4,getElem?_eq_none->aDi
open Go.Op renaming equalIn->Bj,equal->Dj,eqFields->aqN
open Go.World renaming cell?->nF,setCell->Ws,size_alloc->aeY
open List.cons renaming injEq->wi
open Int renaming toNat_natCast->zu,fdiv_eq_ediv_of_nonneg->aDb
open Go.IntKind renaming i64->I
namespace Go.Proofs.YtpmkfikkemaopaaGreatDoor.Y
open Go.RowKit
noncomputable section
variable{R:TypeId}{X x n:Nat}{w:Bool}{z:bq}{G:FuncId}{v:Func}{y:Code}{B:List (Nat×Nat×fo)}{c:av}{u:T}{M:World}
def uG:Option TypeDesc->Bool
 |U (.struct _)|U (.array _ _)=>J
 |_=>E
def v6(P:Program)(t:TypeId)(X:gc):Value:=if uG (P.underlying t) then .agg X.toArray else X.getD 0 undef
def PA(P:Program)(gQ:TypeId->eQ->Bool):Nat->List Field->eQ->Bool
 |_,[],ao=>ao.isEmpty
 |X,f::W,ao=>f.name != "_"&&f.offset==X&&(P.info? f.type).isSome&&decide (P.cellsOf f.type<=Y ao)&&gQ f.type (ao.take (P.cellsOf f.type))&&PA P gQ (X+P.cellsOf f.type) W (ao.drop (P.cellsOf f.type))
def PB(gQ:eQ->Bool)(c:Nat):Nat->eQ->Bool
 |0,ao=>ao.isEmpty
 |n+1,ao=>decide (c<=Y ao)&&gQ (ao.take c)&&PB gQ c n (ao.drop c)
def uH(P:Program):Nat->TypeId->eQ->Bool
 |0,_,_=>E
 |d+1,t,ao=>match P.underlying t with
  |U .bool=>(match ao with
   |[.bool]=>J
   |_=>E)
  |U (.int k)=>(match ao with
   |[.int X]=>decide (k=X)
   |_=>E)
  |U .string=>(match ao with
   |[.ai _ .str]=>J
   |_=>E)
  |U (.struct W)=> !P.stoodInHeld t&&PA P (uH P d) 0 W.toList ao
  |U (.array n e)=>(P.info? e).isSome&&PB (uH P d e) (P.cellsOf e) n ao
  |_=>E
def v7:∀{X:eQ}{W:gc},kG X W->Y W=Y X
 |[],[],_=>rfl
 |[],_::_,h=>h.elim
 |_::_,[],h=>h.elim
 |_::_,_::_,h=>by simp[v7 h.2]
def ad5:∀{X:eQ}{W:gc}(n:Nat),kG X W->kG (X.take n) (W.take n)/\kG (X.drop n) (W.drop n)
 |[],[],n,_=>by simp[kG]
 |[],_::_,n,h=>h.elim
 |_::_,[],n,h=>h.elim
 |_::_,_::_,0,h=>⟨trivial,h⟩
 |_::_,_::_,n+1,h=>by
  obtain⟨a,b⟩:=ad5 n h.2;exact⟨⟨h.1,a⟩,b⟩
def aoS:∀{X W:gc}{r:Bool}(n:Nat),jP X W=U r->∃a b,jP (X.take n) (W.take n)=U a/\jP (X.drop n) (W.drop n)=U b/\r=(a&&b)
 |[],[],r,n,h=>by simp[jP] at h;subst h;exact⟨J,J,by simp[jP],by simp[jP],rfl⟩
 |[],_::_,r,n,h=>by simp[jP] at h
 |_::_,[],r,n,h=>by simp[jP] at h
 |x::X,y::W,r,0,h=>⟨J,r,rfl,h,ay⟩
 |x::X,y::W,r,n+1,h=>by
  simp only[jP] at h;split at h;rename_i a b V R;cases h;obtain⟨c,d,Q,O,rfl⟩:=aoS n R;exact⟨a&&c,d,by simp[jP,V,Q],by simpa using O,by simp[aqD]⟩;cases h
section
variable{P:Program}
def aoT(w:World){i:TypeInfo}(M:P.info? R=U i){W:gc}(h:uG (P.underlying R)=J\/X<Y W/\P.cellsOf R=1)(L:(P.underlying R).isSome=J):(part R W.toArray X).run P w=.ok (v6 P R ((W.drop X).take (P.cellsOf R))) w:=by
 obtain⟨d,Q⟩:=kD.1 L;unfold v6;by_cases V:uG (P.underlying R)=J;rw[aI V];have:(W.toArray.extract X (X+P.cellsOf R))=((W.drop X).take (P.cellsOf R)).toArray:=by
  apply mC;simp[List.extract]
 rw[Q] at V;unfold uG at V;split at V;rename_i O;cases O;simp[part,isAgg,run_underlying Q,run_sizeOf w M];rename_i O;cases O;simp[part,isAgg,run_underlying Q,run_sizeOf w M];cases V;rw[aK V];obtain⟨N,H⟩:=h.resolve_left V;have F:W.toArray[X]?=U W[X]:=by simp[N]
 have G:((W.drop X).take (P.cellsOf R)).getD 0 undef=W[X]:=by rw[H];simp[dB,N]
 rw[G];rw[Q] at V;cases d<;>first|(exact aY rfl V)|simp[part,isAgg,run_underlying Q,N]
def ayd{ao:eQ}(h:uH P X R ao=J):(P.underlying R).isSome=J/\(uG (P.underlying R)=J\/Y ao=1):=by
 cases X with
 |zero=>simp[uH] at h
 |succ X=>
  simp only[uH] at h;split at h;rename_i W;rw[W];split at h;exact⟨rfl,.inr rfl⟩;cases h;rename_i W;rw[W];split at h;exact⟨rfl,.inr rfl⟩;cases h;rename_i W;rw[W];split at h;exact⟨rfl,.inr rfl⟩;cases h;rename_i W;rw[W];exact⟨rfl,.inl rfl⟩;rename_i W;rw[W];exact⟨rfl,.inl rfl⟩;cases h
def VG(P:Program)(V m:Nat):Prop:=∀(t:TypeId)(ao:eQ)(X W:gc)(r:Bool)(w:World),uH P m t ao=J->kG ao X->kG ao W->jP X W=U r->(Bj V t (v6 P t X) (v6 P t W)).run P w=.ok r w
def aoU(y:VG P X x)(W:World){ao:eQ}{V Q:gc}(M:(P.info? R).isSome=J)(j:P.cellsOf R<=Y ao)(G:uH P x R (ao.take (P.cellsOf R))=J)
  (F:kG ao (V.drop n))(D:kG ao (Q.drop n))(v:jP (V.drop n) (Q.drop n)=U w):
  ∃a b q L,(part R V.toArray n).run P W=.ok a W/\(part R Q.toArray n).run P W=.ok b W/\(Bj X R a b).run P W=.ok q W/\jP (V.drop (n+P.cellsOf R)) (Q.drop (n+P.cellsOf R))=U L/\w=(q&&L)/\
   kG (ao.drop (P.cellsOf R)) (V.drop (n+P.cellsOf R))/\kG (ao.drop (P.cellsOf R)) (Q.drop (n+P.cellsOf R)):=by
 obtain⟨i,M⟩:=kD.1 M;obtain⟨B,N⟩:=ayd G;obtain⟨u,a2⟩:=ad5 (P.cellsOf R) F;obtain⟨t,A⟩:=ad5 (P.cellsOf R) D;obtain⟨q,L,s,H,p⟩:=aoS (P.cellsOf R) v;have o:=v7 F;have l:=v7 D;have z:∀O:gc,(O.drop n).length=Y ao->uG (P.underlying R)=J\/n<Y O/\P.cellsOf R=1:=by
  intro O k;rcases N with N|N;exact .inl N;right;simp only[De,Df] at N k;omega
 rw[LS] at a2 A H;exact⟨_,_,q,L,aoT W M (z V o) B,aoT W M (z Q l) B,y R _ _ _ q W G u t s,by rw[<-LS] at H⊢;simpa using H,p,a2,A⟩
def aoV{L m:Nat}(H:VG P L m)(X W:gc):∀(O:List Field)(V:Nat)(ao:eQ)(r:Bool)(w:World),PA P (uH P m) V O ao=J->kG ao (X.drop V)->kG ao (W.drop V)->jP (X.drop V) (W.drop V)=U r->
  (aqN L X.toArray W.toArray O).run P w=.ok r w
 |[],V,ao,r,w,R,N,M,Q=>by
  simp only[PA,List.isEmpty_iff] at R;subst R;have:=v7 N;have:=v7 M;rw[Fa.1 ‹(X.drop V).length=_›,Fa.1 ‹(W.drop V).length=_›] at Q;simp[jP] at Q;subst Q;simp[aqN]
 |f::O,V,ao,r,w,R,N,M,Q=>by
  simp only[PA,az,bne_iff_ne,dv,cF] at R;obtain⟨⟨⟨⟨⟨G,F⟩,D⟩,B⟩,A⟩,z⟩:=R;obtain⟨a,b,q,y,x,v,u,t,rfl,s,p⟩:=aoU H w D B A N M Q;have o:=aoV H X W O _ _ y w z s p t;simp only[aqN,G,ne_eq,not_false_eq_true,cS,dq,F,x,v,u,dl];cases q;simp;simpa using o
def aoW{N m:Nat}(M:VG P N m){e:TypeId}(L:(P.info? e).isSome=J)(X W:gc):∀(n j:Nat)(ao:eQ)(r:Bool)(w:World),PB (uH P m e) (P.cellsOf e) n ao=J->kG ao (X.drop (j*P.cellsOf e))->kG ao (W.drop (j*P.cellsOf e))->jP (X.drop (j*P.cellsOf e)) (W.drop (j*P.cellsOf e))=U r->
  (Op.eqItems N e (P.cellsOf e) X.toArray W.toArray (wl j n)).run P w=.ok r w
 |0,j,ao,r,w,V,Q,O,R=>by
  simp only[PB,List.isEmpty_iff] at V;subst V;have:=v7 Q;have:=v7 O;rw[Fa.1 ‹(X.drop _).length=_›,Fa.1 ‹(W.drop _).length=_›] at R;simp[jP] at R;subst R;simp[Op.eqItems]
 |n+1,j,ao,r,w,V,Q,O,R=>by
  simp only[PB,az,cF] at V;obtain⟨⟨D,B⟩,A⟩:=V;obtain⟨a,b,q,z,y,x,v,H,rfl,G,F⟩:=aoU M w L D B Q O R;have u:j*P.cellsOf e+P.cellsOf e=(j+1)*P.cellsOf e:=by rw[Nat.succ_mul]
  rw[u] at H G F;have t:=aoW M L X W n (j+1) _ z w A G F H;rw[Wm];simp only[Op.eqItems,dq,y,x,v,dl];cases q;simp;simpa using t
def ad6(d:Nat):∀m,VG P (d+m) m
 |0=>λt ao H G r w h=>by simp[uH] at h
 |m+1=>by
  intro t ao H G r w X V R Q;have F:=ad6 d m;simp only[uH] at X;split at X;rename_i W;split at X;obtain⟨x,rfl⟩:=oa.1 (v7 V);obtain⟨y,rfl⟩:=oa.1 (v7 R);have N:=V.1;have M:=R.1;cases x<;>simp only[BJ] at N;cases y<;>simp only[BJ] at M;simp[jP,BH] at Q;subst Q;simp[v6,W,uG,Bj,run_underlying W];cases X;rename_i k W;split at X;obtain⟨x,rfl⟩:=oa.1 (v7 V);obtain⟨y,rfl⟩:=oa.1 (v7 R);have N:=V.1;have M:=R.1;cases x<;>simp only[BJ] at N;cases y<;>simp only[BJ] at M;subst N M;simp[jP,BH] at Q;subst Q;simp[v6,W,uG,Bj,run_underlying W];cases X;rename_i W;split at X;obtain⟨x,rfl⟩:=oa.1 (v7 V);obtain⟨y,rfl⟩:=oa.1 (v7 R);have N:=V.1;have M:=R.1;cases x<;>simp only[BJ] at N;cases y<;>simp only[BJ] at M;simp[jP,BH] at Q;subst Q;simp[v6,W,uG,Bj,run_underlying W,beq_toListBytes];cases X;rename_i D W;simp only[az,gO] at X;have B:P.fieldsOf t=D:=by simp[Program.fieldsOf,W]
  have L:∀O:gc,v6 P t O=.agg O.toArray:=λO=>by simp[v6,W,uG]
  rw[L,L,show d+(m+1)=(d+m)+1 from rfl,run_equalIn_struct w (d+m) t _ _ (by rw[B];exact W) X.1,B];exact aoV F H G D.toList 0 ao r w X.2 V R Q;rename_i n e W;simp only[az] at X;obtain⟨i,A⟩:=kD.1 X.1;have L:∀O:gc,v6 P t O=.agg O.toArray:=λO=>by simp[v6,W,uG]
  rw[L,L,show d+(m+1)=(d+m)+1 from rfl,run_equalIn_array w (d+m) _ _ W A,P5];exact aoW F X.1 H G n 0 ao r w X.2 (by simpa using V) (by simpa using R) (by simpa using Q);cases X
def ad7(P:Program)(t:TypeId)(X:TI):Bool:=uG (P.underlying t)&&uH P 20 t X.ao&& !P.eqGuardType P.depth t
def aye{V:TI}(h:ad7 P R V=J):∀(X W:gc)(r:Bool)(x y:Operand)(w:World),kG V.ao X->kG V.ao W->jP X W=U r->
  (do eqGuard .eql R x y (.agg X.toArray) (.agg W.toArray);binOp .eql R (.agg X.toArray) (.agg W.toArray)).run P w=.ok (.bool r) w/\
  (do eqGuard .neq R x y (.agg X.toArray) (.agg W.toArray);binOp .neq R (.agg X.toArray) (.agg W.toArray)).run P w=.ok (.bool !r) w:=by
 intro X W r x y w O N M;simp only[ad7,az,gO] at h;have:=ad6 (P:=P) 9980 20 R V.ao X W r w h.1.2 O N M;simp only[v6,h.1.1,cS] at this;have Q:(Dj R (.agg X.toArray) (.agg W.toArray)).run P w=.ok r w:=this;constructor;rw[dq];simp[eqGuard,h.2,binOp,Q];rw[dq];simp[eqGuard,h.2,binOp,Q]

def ayf{ag:Bool}(W:Y z=X)(V:ag=E->X=1):wH (gL ag z)=z:=by
 cases ag with
 |false=>
  have:=V rfl;subst this;obtain⟨x,rfl⟩:=oa.1 W;rfl
 |true=>simp[gL,wH,Function.comp_def,bS]
def ayg(O:P.underlying R=U (.int I)):tT P R 1 false:=by
 refine⟨λ_=>rfl,λl X W M L=>⟨λb=>MapKept.run_checkKey O (by trivial) b 9999,MapKept.run_findKey O ?_⟩⟩;obtain⟨x,rfl⟩:=oa.1 M;have:∀(X:List MapEntry)(i:Nat),(∀e∈X,∃V:bq,Y V=1/\e.key=gL E V)->Instr.findNow (.int I) (gL E [x]) X i=U (nN [x] X i):=by
  intro X;induction X with
  |nil=>intro i _;rfl
  |cons e X H=>
   intro i N;obtain⟨V,G,F⟩:=N e ay;obtain⟨y,rfl⟩:=oa.1 G;simp only[Instr.findNow,F,nN];simp only[gL,iW,ga,List.headD_cons,Instr.sameNow,cS,wH,wi,and_true];by_cases Q:x=y;subst Q;simp;have:¬y=x:=λe=>Q e.symm
   simp only[this,ga,show(x==y)=E by simpa using Q];exact H (i+1) (λe D=>N e (by simp[D]))
 exact this X 0 L
def ayh(d:TypeDesc)(X:lW)(v:Value):Instr.sameNow d (.agg X) v=none:=by
 cases d<;>rfl
def aoX:∀(l X:bq),Y l=Y X->jP (l.map (Value.int I)) (X.map (Value.int I))=U (l==X)
 |[],[],_=>rfl
 |[],_::_,h=>by simp at h
 |_::_,[],h=>by simp at h
 |x::W,y::V,h=>by
  have R:=aoX W V (by simpa using h);simp only[eE,jP,BH,R];rfl
def ad8:∀(l:bq),kG (eI (Y l) (.int I)) (l.map (Value.int I))
 |[]=>trivial
 |x::X=>⟨rfl,ad8 X⟩
def aoY(X:P.underlying R=U (.int I)){l:bq}{off:Nat}(V:off<Y l)(W:World):∃a,(part R (l.map (Value.int I)).toArray off).run P W=.ok (.int I a) W:=by
 refine⟨l[off],run_part_plain W (by simp[Program.plainKey,X]) ?_⟩;simp[V]
def ayi{e:TypeId}{i:TypeInfo}(N:P.underlying R=U (.array X e))(Q:P.underlying e=U (.int I))(M:P.info? e=U i)(L:P.cellsOf e=1)(H:Y z=X)(b:Bool)(m:Nat)(W:World):(Instr.checkKey b (m+2) R (gL J z)).run P W=.ok () W:=by
 rw[show m+2=(m+1)+1 from rfl,Instr.checkKey];simp only[dq,eU.ik N,dl,gL,cS];simp only[Std.Legacy.Range.forIn_eq_forIn_range',Std.Legacy.Range.size,Nat.sub_zero,Nat.add_one_sub_one,Nat.div_one];have V:∀j∈wl 0 X,j<X:=λj G=>by simpa[List.mem_range'] using G
 generalize wl 0 X=O at V;induction O with
 |nil=>simp
 |cons j O F=>
  obtain⟨a,D⟩:=aoY Q (l:=z) (off:=j*P.cellsOf e) (by rw[L,H,aqO];exact V j ay) W;have B:=MapKept.run_checkKey (w:=W) (k:=.int I a) Q (by trivial) b m;simp only[List.forIn_cons,dq,run_sizeOf W M,dl,D,B,eX];exact F (λy A=>V y (by simp[A]))
def ayj{V:Array Field}(N:P.underlying R=U (.struct V))(Q:∀f∈V.toList,f.name≠ "_"/\P.underlying f.type=U (.int I)/\f.offset<X)(M:Y z=X)(b:Bool)(m:Nat)(W:World):(Instr.checkKey b (m+2) R (gL J z)).run P W=.ok () W:=by
 rw[show m+2=(m+1)+1 from rfl,Instr.checkKey];simp only[dq,eU.ik N,dl,gL,cS];rw[<-Array.forIn_toList];generalize V.toList=L at Q;induction L with
 |nil=>simp
 |cons f L H=>
  obtain⟨G,O,F⟩:=Q f ay;obtain⟨a,D⟩:=aoY O (l:=z) (off:=f.offset) (by rw[M];exact F) W;have B:=MapKept.run_checkKey (w:=W) (k:=.int I a) O (by trivial) b m;simp only[List.forIn_cons,dq,G,ne_eq,not_false_eq_true,cS,dl,D,B,eX];exact H (λy A=>Q y (by simp[A]))
def aoZ{d:TypeDesc}(L:P.underlying R=U d)(D:uG (P.underlying R)=J)(B:uH P 20 R (eI X (.int I))=J)
  (A:∀(l:bq)(b:Bool)(W:World),Y l=X->(Instr.checkKey b 10000 R (gL J l)).run P W=.ok () W):tT P R X true:=by
 refine⟨λh=>(by cases h),λl V W O z=>⟨λb=> ?_, ?_⟩⟩;exact A l b W O;have y:∀l:bq,gL J l=.agg (l.map (Value.int I)).toArray:=λl=>rfl
 have x:∀(V:List MapEntry)(i:Nat),(∀e∈V,∃Q:bq,Y Q=X/\e.key=gL J Q)->(Instr.findAsking R (gL J l) V i).run P W=.ok (nN l V i) W:=by
  intro V;induction V with
  |nil=>intro i _;rfl
  |cons e V w=>
   intro i H;obtain⟨Q,N,G⟩:=H e ay;have F:=ad6 (P:=P) 9980 20 R (eI X (.int I)) (l.map (Value.int I)) (Q.map (Value.int I)) (l==Q) W B (by rw[<-O];exact ad8 l) (by rw[<-N];exact ad8 Q) (aoX l Q (by rw[O,N]));simp only[v6,D,cS] at F;have v:(Dj R (gL J l) e.key).run P W=.ok (l==Q) W:=by rw[G];exact F
   simp only[Instr.findAsking,dq,v,dl];simp only[nN,G,ayf (ag:=J) N ay];by_cases M:Q=l;rw[M];simp;have u:(l==Q)=false:=by
    cases t:l==Q;rfl;exact aY (eq_of_beq t).symm M
   simp only[M,u,iW,ga];exact w (i+1) (λe s=>H e (by simp[s]))
 have r:=x V 0 z;cases V with
 |nil=>simp[Instr.findKey,eU.ik L,Instr.findNow,nN,Result.andThen]
 |cons e V=>
  have:Instr.findNow d (gL J l) (e::V) 0=none:=by simp only[Instr.findNow,y,ayh]
  simp only[Instr.findKey,dq,eU.ik L,dl,this];exact r
end
def aT{p:Prop}(h:p:=by kernel_rfl):p:=h
def TT:List (List Dl):=[
[Z,U ⟨.one,[.ai .nilFunc .ai],E⟩,U ⟨.one,[.int I],E⟩,U ⟨.one,[.int I],E⟩,U ⟨.one,[.bool],E⟩,U ⟨.one,[.int .u8],E⟩,U ⟨.one,[.int .u8],E⟩,U ⟨(.struct [(0,2),(1,3),(2,4),(3,6)]),[.int I,.int I,.bool,.int .u8],J⟩,U ⟨(.struct [(0,2),(1,3),(2,4),(3,6)]),[.int I,.int I,.bool,.int .u8],J⟩,U ⟨.str,[.ai (.string ⟨#[]⟩) .str],E⟩,U ⟨.str,[.ai (.string ⟨#[]⟩) .str],E⟩,U ⟨.str,[.ai (.string ⟨#[]⟩) .str],E⟩,U ⟨.one,[.int .u64],E⟩,U ⟨(.struct [(0,9),(1,12)]),[.ai (.string ⟨#[]⟩) .str,.int .u64],E⟩,U ⟨(.struct [(0,9),(1,12)]),[.ai (.string ⟨#[]⟩) .str,.int .u64],E⟩,U ⟨.one,[.ai (.pointer Z) .ai],E⟩],
 [U ⟨.one,[.ai (.pointer Z) .ai],E⟩,U ⟨.one,[.ai (.pointer Z) .ai],E⟩,U ⟨(.struct [(0,17)]),[.ai (.pointer Z) .ai],E⟩,U ⟨(.struct [(0,17)]),[.ai (.pointer Z) .ai],E⟩,U ⟨.gJ,[.ai .nilIface .ai],E⟩,U ⟨.one,[.int .i32],E⟩,U ⟨(.struct [(0,3),(1,3),(2,3)]),[.int I,.int I,.int I],J⟩,U ⟨(.struct [(0,3),(1,3),(2,3)]),[.int I,.int I,.int I],J⟩,U ⟨(.slice 99),[.ai (.slice Z 0 0) (.sl 99)],E⟩,U ⟨(.slice 101),[.ai (.slice Z 0 0) (.sl 101)],E⟩,U ⟨(.slice 229),[.ai (.slice Z 0 0) (.sl 229)],E⟩,U ⟨(.slice 231),[.ai (.slice Z 0 0) (.sl 231)],E⟩,U ⟨(.struct [(0,3),(1,25),(2,26),(3,27)]),[.int I,.ai (.slice Z 0 0) (.sl 101),.ai (.slice Z 0 0) (.sl 229),.ai (.slice Z 0 0) (.sl 231)],E⟩,U ⟨(.struct [(0,3),(1,25),(2,26),(3,27)]),[.int I,.ai (.slice Z 0 0) (.sl 101),.ai (.slice Z 0 0) (.sl 229),.ai (.slice Z 0 0) (.sl 231)],E⟩,U ⟨(.slice 97),[.ai (.slice Z 0 0) (.sl 97)],E⟩,U ⟨(.struct [(0,3),(1,3),(2,23),(5,24),(6,29),(10,30)]),[.int I,.int I,.int I,.int I,.int I,.ai (.slice Z 0 0) (.sl 99),.int I,.ai (.slice Z 0 0) (.sl 101),.ai (.slice Z 0 0) (.sl 229),.ai (.slice Z 0 0) (.sl 231),.ai (.slice Z 0 0) (.sl 97)],E⟩],
 [U ⟨(.struct [(0,3),(1,3),(2,23),(5,24),(6,29),(10,30)]),[.int I,.int I,.int I,.int I,.int I,.ai (.slice Z 0 0) (.sl 99),.int I,.ai (.slice Z 0 0) (.sl 101),.ai (.slice Z 0 0) (.sl 229),.ai (.slice Z 0 0) (.sl 231),.ai (.slice Z 0 0) (.sl 97)],E⟩,U ⟨(.slice 131),[.ai (.slice Z 0 0) (.sl 131)],E⟩,U ⟨(.struct [(0,33)]),[.ai (.slice Z 0 0) (.sl 131)],E⟩,U ⟨(.struct [(0,33)]),[.ai (.slice Z 0 0) (.sl 131)],E⟩,U ⟨(.slice 78),[.ai (.slice Z 0 0) (.sl 78)],E⟩,U ⟨(.slice 39),[.ai (.slice Z 0 0) (.sl 39)],E⟩,U ⟨(.slice 84),[.ai (.slice Z 0 0) (.sl 84)],E⟩,U ⟨(.slice 3),[.ai (.slice Z 0 0) (.sl 3)],E⟩,U ⟨(.struct [(0,32),(11,35),(12,36),(13,37),(14,38),(15,39)]),[.int I,.int I,.int I,.int I,.int I,.ai (.slice Z 0 0) (.sl 99),.int I,.ai (.slice Z 0 0) (.sl 101),.ai (.slice Z 0 0) (.sl 229),.ai (.slice Z 0 0) (.sl 231),.ai (.slice Z 0 0) (.sl 97),.ai (.slice Z 0 0) (.sl 131),.ai (.slice Z 0 0) (.sl 78),.ai (.slice Z 0 0) (.sl 39),.ai (.slice Z 0 0) (.sl 84),.ai (.slice Z 0 0) (.sl 3)],E⟩,U ⟨(.struct [(0,32),(11,35),(12,36),(13,37),(14,38),(15,39)]),[.int I,.int I,.int I,.int I,.int I,.ai (.slice Z 0 0) (.sl 99),.int I,.ai (.slice Z 0 0) (.sl 101),.ai (.slice Z 0 0) (.sl 229),.ai (.slice Z 0 0) (.sl 231),.ai (.slice Z 0 0) (.sl 97),.ai (.slice Z 0 0) (.sl 131),.ai (.slice Z 0 0) (.sl 78),.ai (.slice Z 0 0) (.sl 39),.ai (.slice Z 0 0) (.sl 84),.ai (.slice Z 0 0) (.sl 3)],E⟩,U ⟨(.slice 75),[.ai (.slice Z 0 0) (.sl 75)],E⟩,U ⟨(.struct [(0,39),(1,3),(2,42),(3,39),(4,4)]),[.ai (.slice Z 0 0) (.sl 3),.int I,.ai (.slice Z 0 0) (.sl 75),.ai (.slice Z 0 0) (.sl 3),.bool],E⟩,U ⟨(.struct [(0,39),(1,3),(2,42),(3,39),(4,4)]),[.ai (.slice Z 0 0) (.sl 3),.int I,.ai (.slice Z 0 0) (.sl 75),.ai (.slice Z 0 0) (.sl 3),.bool],E⟩,U ⟨(.struct [(0,3),(1,3),(2,3)]),[.int I,.int I,.int I],J⟩,U ⟨(.struct [(0,3),(1,3),(2,3)]),[.int I,.int I,.int I],J⟩,U ⟨.one,[.ai .nilFunc .ai],E⟩],
 [U ⟨.one,[.ai .nilFunc .ai],E⟩,U ⟨.one,[.ai .nilFunc .ai],E⟩,U ⟨.one,[.int I],E⟩,U ⟨.one,[.ai .nilFunc .ai],E⟩,Z,U ⟨.one,[.ai .nilFunc .ai],E⟩,U ⟨.one,[.ai .nilFunc .ai],E⟩,U ⟨.one,[.ai .nilFunc .ai],E⟩,U ⟨.one,[.ai .nilFunc .ai],E⟩,U ⟨.one,[.ai .nilFunc .ai],E⟩,Z,U ⟨.one,[.ai .nilFunc .ai],E⟩,U ⟨(.slice 80),[.ai (.slice Z 0 0) (.sl 80)],E⟩,Z,U ⟨.one,[.ai .nilFunc .ai],E⟩,Z],
 [U ⟨.one,[.ai .nilFunc .ai],E⟩,Z,U ⟨.one,[.ai .nilFunc .ai],E⟩,U ⟨(.slice 116),[.ai (.slice Z 0 0) (.sl 116)],E⟩,Z,U ⟨.one,[.ai .nilFunc .ai],E⟩,U ⟨(.struct [(0,3),(1,3)]),[.int I,.int I],J⟩,U ⟨(.struct [(0,3),(1,3)]),[.int I,.int I],J⟩,U ⟨(.arr 5 71),[.int I,.int I,.int I,.int I,.int I,.int I,.int I,.int I,.int I,.int I],J⟩,U ⟨(.struct [(0,3),(1,3),(2,3),(3,72)]),[.int I,.int I,.int I,.int I,.int I,.int I,.int I,.int I,.int I,.int I,.int I,.int I,.int I],J⟩,U ⟨(.struct [(0,3),(1,3),(2,3),(3,72)]),[.int I,.int I,.int I,.int I,.int I,.int I,.int I,.int I,.int I,.int I,.int I,.int I,.int I],J⟩,U ⟨(.slice 74),[.ai (.slice Z 0 0) (.sl 74)],E⟩,U ⟨(.arr 3 3),[.int I,.int I,.int I],J⟩,U ⟨(.struct [(0,9),(1,3),(2,3),(3,3),(4,3),(5,3),(6,76),(9,76),(12,76),(15,3),(16,3)]),[.ai (.string ⟨#[]⟩) .str,.int I,.int I,.int I,.int I,.int I,.int I,.int I,.int I,.int I,.int I,.int I,.int I,.int I,.int I,.int I,.int I],J⟩,U ⟨(.struct [(0,9),(1,3),(2,3),(3,3),(4,3),(5,3),(6,76),(9,76),(12,76),(15,3),(16,3)]),[.ai (.string ⟨#[]⟩) .str,.int I,.int I,.int I,.int I,.int I,.int I,.int I,.int I,.int I,.int I,.int I,.int I,.int I,.int I,.int I,.int I],J⟩,U ⟨(.struct [(0,3),(1,3),(2,3),(3,3)]),[.int I,.int I,.int I,.int I],J⟩],
 [U ⟨(.struct [(0,3),(1,3),(2,3),(3,3)]),[.int I,.int I,.int I,.int I],J⟩,U ⟨.one,[.ai .nilFunc .ai],E⟩,U ⟨.one,[.ai .nilFunc .ai],E⟩,U ⟨.one,[.ai .nilFunc .ai],E⟩,U ⟨(.slice 108),[.ai (.slice Z 0 0) (.sl 108)],E⟩,U ⟨.one,[.ai .nilFunc .ai],E⟩,U ⟨.one,[.ai .nilFunc .ai],E⟩,U ⟨.one,[.ai .nilFunc .ai],E⟩,U ⟨.one,[.ai .nilFunc .ai],E⟩,U ⟨.one,[.ai .nilFunc .ai],E⟩,U ⟨.one,[.ai .nilFunc .ai],E⟩,U ⟨.one,[.ai (.pointer Z) .ai],E⟩,U ⟨.one,[.ai .nilFunc .ai],E⟩,U ⟨.one,[.ai .nilFunc .ai],E⟩,U ⟨(.struct [(0,3),(1,3)]),[.int I,.int I],J⟩,U ⟨(.struct [(0,3),(1,3)]),[.int I,.int I],J⟩],
 [U ⟨(.struct [(0,3),(1,3),(2,3),(3,3),(4,3),(5,3),(6,3),(7,3),(8,3),(9,3),(10,95),(12,95)]),[.int I,.int I,.int I,.int I,.int I,.int I,.int I,.int I,.int I,.int I,.int I,.int I,.int I,.int I],J⟩,U ⟨(.struct [(0,3),(1,3),(2,3),(3,3),(4,3),(5,3),(6,3),(7,3),(8,3),(9,3),(10,95),(12,95)]),[.int I,.int I,.int I,.int I,.int I,.int I,.int I,.int I,.int I,.int I,.int I,.int I,.int I,.int I],J⟩,U ⟨(.struct [(0,9),(1,3),(2,3),(3,3)]),[.ai (.string ⟨#[]⟩) .str,.int I,.int I,.int I],J⟩,U ⟨(.struct [(0,9),(1,3),(2,3),(3,3)]),[.ai (.string ⟨#[]⟩) .str,.int I,.int I,.int I],J⟩,U ⟨(.struct [(0,3),(1,3),(2,3)]),[.int I,.int I,.int I],J⟩,U ⟨(.struct [(0,3),(1,3),(2,3)]),[.int I,.int I,.int I],J⟩,U ⟨(.slice 4),[.ai (.slice Z 0 0) (.sl 4)],E⟩,U ⟨(.struct [(0,3),(1,3),(2,3),(3,4)]),[.int I,.int I,.int I,.bool],J⟩,U ⟨(.struct [(0,3),(1,3),(2,3),(3,4)]),[.int I,.int I,.int I,.bool],J⟩,U ⟨(.slice 104),[.ai (.slice Z 0 0) (.sl 104)],E⟩,U ⟨(.slice 105),[.ai (.slice Z 0 0) (.sl 105)],E⟩,U ⟨(.struct [(0,102),(1,106)]),[.ai (.slice Z 0 0) (.sl 4),.ai (.slice Z 0 0) (.sl 105)],E⟩,U ⟨(.struct [(0,102),(1,106)]),[.ai (.slice Z 0 0) (.sl 4),.ai (.slice Z 0 0) (.sl 105)],E⟩,U ⟨.one,[.ai .nilFunc .ai],E⟩,Z,U ⟨.one,[.ai .nilFunc .ai],E⟩],
 [U ⟨.one,[.ai .nilFunc .ai],E⟩,U ⟨.one,[.ai .nilFunc .ai],E⟩,U ⟨(.slice 129),[.ai (.slice Z 0 0) (.sl 129)],E⟩,U ⟨(.struct [(0,3),(1,102),(2,75),(3,75),(4,106),(5,114)]),[.int I,.ai (.slice Z 0 0) (.sl 4),.ai (.slice Z 0 0) (.sl 74),.ai (.slice Z 0 0) (.sl 74),.ai (.slice Z 0 0) (.sl 105),.ai (.slice Z 0 0) (.sl 129)],E⟩,U ⟨(.struct [(0,3),(1,102),(2,75),(3,75),(4,106),(5,114)]),[.int I,.ai (.slice Z 0 0) (.sl 4),.ai (.slice Z 0 0) (.sl 74),.ai (.slice Z 0 0) (.sl 74),.ai (.slice Z 0 0) (.sl 105),.ai (.slice Z 0 0) (.sl 129)],E⟩,U ⟨.one,[.ai .nilFunc .ai],E⟩,U ⟨.one,[.ai .nilFunc .ai],E⟩,U ⟨.one,[.ai .nilFunc .ai],E⟩,U ⟨.one,[.ai .nilFunc .ai],E⟩,U ⟨.one,[.ai .nilFunc .ai],E⟩,Z,U ⟨.one,[.ai .nilFunc .ai],E⟩,U ⟨.one,[.ai .nilFunc .ai],E⟩,U ⟨.one,[.ai .nilFunc .ai],E⟩,U ⟨(.struct [(0,3),(1,3)]),[.int I,.int I],J⟩,U ⟨(.struct [(0,3),(1,3)]),[.int I,.int I],J⟩],
 [U ⟨(.struct [(0,127),(2,127)]),[.int I,.int I,.int I,.int I],J⟩,U ⟨(.struct [(0,127),(2,127)]),[.int I,.int I,.int I,.int I],J⟩,U ⟨(.struct [(0,129),(4,3),(5,3),(6,3),(7,3)]),[.int I,.int I,.int I,.int I,.int I,.int I,.int I,.int I],J⟩,U ⟨(.struct [(0,129),(4,3),(5,3),(6,3),(7,3)]),[.int I,.int I,.int I,.int I,.int I,.int I,.int I,.int I],J⟩,Z,U ⟨.one,[.ai .nilFunc .ai],E⟩,U ⟨.one,[.ai .nilFunc .ai],E⟩,U ⟨.one,[.ai .nilFunc .ai],E⟩,U ⟨(.map 3 4 1 E),[.ai (.map Z) .ai],E⟩,U ⟨.one,[.ai .nilFunc .ai],E⟩,U ⟨.one,[.ai .nilFunc .ai],E⟩,U ⟨.one,[.ai .nilFunc .ai],E⟩,U ⟨.one,[.ai .nilFunc .ai],E⟩,U ⟨.one,[.ai .nilFunc .ai],E⟩,U ⟨.one,[.ai .nilFunc .ai],E⟩,U ⟨.one,[.ai .nilFunc .ai],E⟩],
 [U ⟨(.struct [(0,50)]),[.int I],J⟩,U ⟨(.struct [(0,50)]),[.int I],J⟩,U ⟨.one,[.ai .nilFunc .ai],E⟩,U ⟨.one,[.ai .nilFunc .ai],E⟩,U ⟨.one,[.ai .nilFunc .ai],E⟩,U ⟨(.map 3 3 1 E),[.ai (.map Z) .ai],E⟩,U ⟨.one,[.ai .nilFunc .ai],E⟩,U ⟨.one,[.ai .nilFunc .ai],E⟩,U ⟨.one,[.ai .nilFunc .ai],E⟩,U ⟨.one,[.ai .nilFunc .ai],E⟩,U ⟨.one,[.ai .nilFunc .ai],E⟩,U ⟨.one,[.ai .nilFunc .ai],E⟩,U ⟨(.struct [(0,78)]),[.ai (.string ⟨#[]⟩) .str,.int I,.int I,.int I,.int I,.int I,.int I,.int I,.int I,.int I,.int I,.int I,.int I,.int I,.int I,.int I,.int I],J⟩,U ⟨(.struct [(0,78)]),[.ai (.string ⟨#[]⟩) .str,.int I,.int I,.int I,.int I,.int I,.int I,.int I,.int I,.int I,.int I,.int I,.int I,.int I,.int I,.int I,.int I],J⟩,U ⟨.one,[.ai .nilFunc .ai],E⟩,U ⟨.one,[.ai .nilFunc .ai],E⟩],
 [U ⟨.one,[.ai .nilFunc .ai],E⟩,U ⟨(.struct [(0,160),(1,3),(2,3),(3,3)]),[.ai .nilFunc .ai,.int I,.int I,.int I],E⟩,U ⟨(.struct [(0,160),(1,3),(2,3),(3,3)]),[.ai .nilFunc .ai,.int I,.int I,.int I],E⟩,U ⟨(.arr 7 162),[.ai .nilFunc .ai,.int I,.int I,.int I,.ai .nilFunc .ai,.int I,.int I,.int I,.ai .nilFunc .ai,.int I,.int I,.int I,.ai .nilFunc .ai,.int I,.int I,.int I,.ai .nilFunc .ai,.int I,.int I,.int I,.ai .nilFunc .ai,.int I,.int I,.int I,.ai .nilFunc .ai,.int I,.int I,.int I],E⟩,U ⟨.one,[.ai .nilFunc .ai],E⟩,U ⟨(.slice 162),[.ai (.slice Z 0 0) (.sl 162)],E⟩,U ⟨.one,[.ai (.pointer Z) .ai],E⟩,U ⟨.one,[.ai (.pointer Z) .ai],E⟩,U ⟨.one,[.ai .nilFunc .ai],E⟩,U ⟨.one,[.ai .nilFunc .ai],E⟩,U ⟨.one,[.ai .nilFunc .ai],E⟩,U ⟨.one,[.ai .nilFunc .ai],E⟩,U ⟨.one,[.ai .nilFunc .ai],E⟩,U ⟨(.slice 177),[.ai (.slice Z 0 0) (.sl 177)],E⟩,Z,U ⟨.one,[.ai .nilFunc .ai],E⟩],
 [U ⟨.one,[.ai .nilFunc .ai],E⟩,U ⟨(.arr 2 3),[.int I,.int I],J⟩,Z,U ⟨.one,[.ai .nilFunc .ai],E⟩,U ⟨(.slice 226),[.ai (.slice Z 0 0) (.sl 226)],E⟩,Z,U ⟨.one,[.ai .nilFunc .ai],E⟩,U ⟨.one,[.ai .nilFunc .ai],E⟩,U ⟨.one,[.ai .nilFunc .ai],E⟩,U ⟨(.struct [(0,4),(1,4),(2,4),(3,3),(4,3),(5,3)]),[.bool,.bool,.bool,.int I,.int I,.int I],J⟩,U ⟨(.struct [(0,4),(1,4),(2,4),(3,3),(4,3),(5,3)]),[.bool,.bool,.bool,.int I,.int I,.int I],J⟩,U ⟨(.arr 10 186),[.bool,.bool,.bool,.int I,.int I,.int I,.bool,.bool,.bool,.int I,.int I,.int I,.bool,.bool,.bool,.int I,.int I,.int I,.bool,.bool,.bool,.int I,.int I,.int I,.bool,.bool,.bool,.int I,.int I,.int I,.bool,.bool,.bool,.int I,.int I,.int I,.bool,.bool,.bool,.int I,.int I,.int I,.bool,.bool,.bool,.int I,.int I,.int I,.bool,.bool,.bool,.int I,.int I,.int I,.bool,.bool,.bool,.int I,.int I,.int I],J⟩,U ⟨.one,[.ai .nilFunc .ai],E⟩,U ⟨(.arr 2 95),[.int I,.int I,.int I,.int I],J⟩,U ⟨(.slice 189),[.ai (.slice Z 0 0) (.sl 189)],E⟩,Z],
 [U ⟨.one,[.ai .nilFunc .ai],E⟩,U ⟨.one,[.ai .nilFunc .ai],E⟩,U ⟨.one,[.ai .nilFunc .ai],E⟩,U ⟨.one,[.ai .nilFunc .ai],E⟩,U ⟨.one,[.ai .nilFunc .ai],E⟩,U ⟨(.slice 251),[.ai (.slice Z 0 0) (.sl 251)],E⟩,Z,U ⟨.one,[.ai .nilFunc .ai],E⟩,Z,U ⟨.one,[.ai .nilFunc .ai],E⟩,U ⟨.one,[.ai .nilFunc .ai],E⟩,U ⟨.one,[.ai .nilFunc .ai],E⟩,U ⟨.one,[.ai .nilFunc .ai],E⟩,U ⟨(.struct [(0,3),(1,4),(2,78),(19,74),(32,105)]),[.int I,.bool,.ai (.string ⟨#[]⟩) .str,.int I,.int I,.int I,.int I,.int I,.int I,.int I,.int I,.int I,.int I,.int I,.int I,.int I,.int I,.int I,.int I,.int I,.int I,.int I,.int I,.int I,.int I,.int I,.int I,.int I,.int I,.int I,.int I,.int I,.ai (.slice Z 0 0) (.sl 104)],E⟩,U ⟨(.struct [(0,3),(1,4),(2,78),(19,74),(32,105)]),[.int I,.bool,.ai (.string ⟨#[]⟩) .str,.int I,.int I,.int I,.int I,.int I,.int I,.int I,.int I,.int I,.int I,.int I,.int I,.int I,.int I,.int I,.int I,.int I,.int I,.int I,.int I,.int I,.int I,.int I,.int I,.int I,.int I,.int I,.int I,.int I,.ai (.slice Z 0 0) (.sl 104)],E⟩,U ⟨.one,[.ai .nilFunc .ai],E⟩],
 [U ⟨.one,[.ai .nilFunc .ai],E⟩,U ⟨.one,[.ai .nilFunc .ai],E⟩,U ⟨.one,[.ai .nilFunc .ai],E⟩,U ⟨.one,[.ai .nilFunc .ai],E⟩,U ⟨.one,[.ai .nilFunc .ai],E⟩,U ⟨.one,[.ai .nilFunc .ai],E⟩,U ⟨.one,[.ai .nilFunc .ai],E⟩,U ⟨.one,[.ai .nilFunc .ai],E⟩,U ⟨.one,[.ai .nilFunc .ai],E⟩,U ⟨(.struct [(0,127),(2,127)]),[.int I,.int I,.int I,.int I],J⟩,U ⟨.one,[.ai .nilFunc .ai],E⟩,U ⟨(.map 177 4 2 J),[.ai (.map Z) .ai],E⟩,U ⟨.one,[.ai .nilFunc .ai],E⟩,U ⟨.one,[.ai .nilFunc .ai],E⟩,U ⟨.one,[.ai .nilFunc .ai],E⟩,U ⟨.one,[.ai .nilFunc .ai],E⟩],
 [U ⟨.one,[.ai .nilFunc .ai],E⟩,U ⟨(.struct [(0,97),(14,104)]),[.int I,.int I,.int I,.int I,.int I,.int I,.int I,.int I,.int I,.int I,.int I,.int I,.int I,.int I,.int I,.int I,.int I,.bool],J⟩,U ⟨(.struct [(0,97),(14,104)]),[.int I,.int I,.int I,.int I,.int I,.int I,.int I,.int I,.int I,.int I,.int I,.int I,.int I,.int I,.int I,.int I,.int I,.bool],J⟩,U ⟨.one,[.ai .nilFunc .ai],E⟩,U ⟨(.struct [(0,3),(1,3),(2,3),(3,3)]),[.int I,.int I,.int I,.int I],J⟩,U ⟨(.struct [(0,3),(1,3),(2,3),(3,3)]),[.int I,.int I,.int I,.int I],J⟩,U ⟨(.struct [(0,3),(1,3),(2,3),(3,3)]),[.int I,.int I,.int I,.int I],J⟩,U ⟨(.struct [(0,3),(1,3),(2,3),(3,3)]),[.int I,.int I,.int I,.int I],J⟩,U ⟨.one,[.ai .nilFunc .ai],E⟩,U ⟨.one,[.ai .nilFunc .ai],E⟩,U ⟨.one,[.ai .nilFunc .ai],E⟩,U ⟨.one,[.ai .nilFunc .ai],E⟩,U ⟨.one,[.ai .nilFunc .ai],E⟩,U ⟨.one,[.ai .nilFunc .ai],E⟩,U ⟨.one,[.ai .nilFunc .ai],E⟩,U ⟨.one,[.ai .nilFunc .ai],E⟩],
 [U ⟨.one,[.ai .nilFunc .ai],E⟩,U ⟨(.map 243 4 3 J),[.ai (.map Z) .ai],E⟩,U ⟨(.struct [(0,3),(1,3),(2,3)]),[.int I,.int I,.int I],J⟩,U ⟨(.struct [(0,3),(1,3),(2,3)]),[.int I,.int I,.int I],J⟩,U ⟨.one,[.ai .nilFunc .ai],E⟩,U ⟨.one,[.ai .nilFunc .ai],E⟩,U ⟨.one,[.ai .nilFunc .ai],E⟩,U ⟨(.slice 243),[.ai (.slice Z 0 0) (.sl 243)],E⟩,U ⟨.one,[.ai .nilFunc .ai],E⟩,U ⟨.one,[.ai .nilFunc .ai],E⟩,U ⟨.one,[.ai .nilFunc .ai],E⟩,U ⟨(.struct [(0,3),(1,3),(2,3)]),[.int I,.int I,.int I],J⟩,U ⟨.one,[.ai .nilFunc .ai],E⟩,U ⟨.one,[.ai .nilFunc .ai],E⟩,U ⟨.one,[.ai .nilFunc .ai],E⟩,U ⟨.one,[.ai .nilFunc .ai],E⟩],
 [U ⟨(.arr 5 4),[.bool,.bool,.bool,.bool,.bool],J⟩,U ⟨(.arr 2 39),[.ai (.slice Z 0 0) (.sl 3),.ai (.slice Z 0 0) (.sl 3)],E⟩,U ⟨(.arr 10 257),[.ai (.slice Z 0 0) (.sl 3),.ai (.slice Z 0 0) (.sl 3),.ai (.slice Z 0 0) (.sl 3),.ai (.slice Z 0 0) (.sl 3),.ai (.slice Z 0 0) (.sl 3),.ai (.slice Z 0 0) (.sl 3),.ai (.slice Z 0 0) (.sl 3),.ai (.slice Z 0 0) (.sl 3),.ai (.slice Z 0 0) (.sl 3),.ai (.slice Z 0 0) (.sl 3),.ai (.slice Z 0 0) (.sl 3),.ai (.slice Z 0 0) (.sl 3),.ai (.slice Z 0 0) (.sl 3),.ai (.slice Z 0 0) (.sl 3),.ai (.slice Z 0 0) (.sl 3),.ai (.slice Z 0 0) (.sl 3),.ai (.slice Z 0 0) (.sl 3),.ai (.slice Z 0 0) (.sl 3),.ai (.slice Z 0 0) (.sl 3),.ai (.slice Z 0 0) (.sl 3)],E⟩,U ⟨.one,[.ai .nilFunc .ai],E⟩,U ⟨.one,[.ai .nilFunc .ai],E⟩,U ⟨.one,[.ai .nilFunc .ai],E⟩,U ⟨(.struct [(0,3),(1,3),(2,3)]),[.int I,.int I,.int I],J⟩,U ⟨(.struct [(0,3),(1,3),(2,3)]),[.int I,.int I,.int I],J⟩,Z,U ⟨.one,[.ai .nilFunc .ai],E⟩,U ⟨.one,[.ai .nilFunc .ai],E⟩,U ⟨.one,[.ai .nilFunc .ai],E⟩,U ⟨.one,[.ai .nilFunc .ai],E⟩,U ⟨.one,[.ai .nilFunc .ai],E⟩,U ⟨.one,[.ai .nilFunc .ai],E⟩,U ⟨.one,[.ai .nilFunc .ai],E⟩],
 [U ⟨.one,[.ai .nilFunc .ai],E⟩,U ⟨.one,[.ai .nilFunc .ai],E⟩,U ⟨.one,[.int .u64],E⟩,U ⟨.one,[.ai .nilFunc .ai],E⟩,U ⟨.one,[.ai .nilFunc .ai],E⟩,U ⟨.one,[.ai .nilFunc .ai],E⟩,U ⟨.one,[.ai .nilFunc .ai],E⟩,U ⟨.one,[.ai .nilFunc .ai],E⟩,U ⟨.one,[.ai .nilFunc .ai],E⟩,U ⟨.one,[.ai .nilFunc .ai],E⟩,U ⟨.one,[.ai .nilFunc .ai],E⟩,U ⟨.one,[.ai .nilFunc .ai],E⟩,U ⟨.one,[.ai .nilFunc .ai],E⟩,U ⟨.one,[.ai .nilFunc .ai],E⟩,U ⟨.one,[.ai .nilFunc .ai],E⟩,Z],
 [U ⟨.one,[.ai .nilFunc .ai],E⟩,U ⟨.one,[.ai .nilFunc .ai],E⟩,U ⟨.one,[.ai .nilFunc .ai],E⟩,U ⟨(.slice 295),[.ai (.slice Z 0 0) (.sl 295)],E⟩,Z,U ⟨.one,[.ai .nilFunc .ai],E⟩,U ⟨(.struct [(0,3),(1,3)]),[.int I,.int I],J⟩,U ⟨(.struct [(0,3),(1,3)]),[.int I,.int I],J⟩,U ⟨.one,[.ai .nilFunc .ai],E⟩,U ⟨(.slice 301),[.ai (.slice Z 0 0) (.sl 301)],E⟩,Z,U ⟨.one,[.ai .nilFunc .ai],E⟩,U ⟨(.struct [(0,3),(1,3),(2,3)]),[.int I,.int I,.int I],J⟩,U ⟨(.struct [(0,3),(1,3),(2,3)]),[.int I,.int I,.int I],J⟩,U ⟨.one,[.ai .nilFunc .ai],E⟩,U ⟨.one,[.ai .nilFunc .ai],E⟩],
 [U ⟨.one,[.ai .nilFunc .ai],E⟩,U ⟨(.arr 8 177),[.int I,.int I,.int I,.int I,.int I,.int I,.int I,.int I,.int I,.int I,.int I,.int I,.int I,.int I,.int I,.int I],J⟩,U ⟨.one,[.ai .nilFunc .ai],E⟩,U ⟨.one,[.ai .nilFunc .ai],E⟩,U ⟨.one,[.int I],E⟩,Z,U ⟨.one,[.ai .nilFunc .ai],E⟩,U ⟨.one,[.ai .nilFunc .ai],E⟩,U ⟨.one,[.ai .nilFunc .ai],E⟩,Z,U ⟨.one,[.ai .nilFunc .ai],E⟩,U ⟨.one,[.ai .nilFunc .ai],E⟩,U ⟨.one,[.int .u32],E⟩,U ⟨.one,[.ai .nilFunc .ai],E⟩,U ⟨.one,[.int .u64],E⟩,U ⟨.one,[.ai .nilFunc .ai],E⟩],
 [U ⟨.one,[.ai .nilFunc .ai],E⟩,U ⟨.one,[.ai .nilFunc .ai],E⟩,U ⟨.one,[.ai .nilFunc .ai],E⟩,U ⟨.one,[.ai .nilFunc .ai],E⟩,U ⟨.one,[.ai .nilFunc .ai],E⟩,Z,U ⟨.one,[.ai .nilFunc .ai],E⟩,U ⟨.one,[.ai .nilFunc .ai],E⟩,U ⟨.one,[.ai .nilFunc .ai],E⟩,Z,U ⟨.one,[.ai .nilFunc .ai],E⟩,U ⟨.one,[.ai .nilFunc .ai],E⟩,Z,U ⟨(.map 3 331 1 E),[.ai (.map Z) .ai],E⟩,U ⟨.one,[.ai .nilFunc .ai],E⟩,U ⟨.one,[.ai .nilFunc .ai],E⟩],
 [U ⟨.one,[.ai .nilFunc .ai],E⟩,U ⟨.one,[.ai .nilFunc .ai],E⟩,U ⟨.one,[.ai .nilFunc .ai],E⟩,U ⟨.one,[.ai .nilFunc .ai],E⟩,U ⟨.one,[.ai .nilFunc .ai],E⟩,U ⟨(.map 3 104 1 E),[.ai (.map Z) .ai],E⟩,U ⟨.one,[.ai .nilFunc .ai],E⟩,U ⟨.one,[.ai .nilFunc .ai],E⟩,U ⟨.one,[.ai .nilFunc .ai],E⟩,U ⟨(.arr 2 114),[.ai (.slice Z 0 0) (.sl 129),.ai (.slice Z 0 0) (.sl 129)],E⟩,U ⟨(.arr 5 345),[.ai (.slice Z 0 0) (.sl 129),.ai (.slice Z 0 0) (.sl 129),.ai (.slice Z 0 0) (.sl 129),.ai (.slice Z 0 0) (.sl 129),.ai (.slice Z 0 0) (.sl 129),.ai (.slice Z 0 0) (.sl 129),.ai (.slice Z 0 0) (.sl 129),.ai (.slice Z 0 0) (.sl 129),.ai (.slice Z 0 0) (.sl 129),.ai (.slice Z 0 0) (.sl 129)],E⟩,U ⟨.one,[.ai .nilFunc .ai],E⟩,U ⟨.one,[.ai .nilFunc .ai],E⟩,U ⟨.one,[.ai .nilFunc .ai],E⟩,U ⟨.one,[.ai .nilFunc .ai],E⟩,U ⟨.one,[.ai .nilFunc .ai],E⟩],
 [U ⟨.one,[.ai .nilFunc .ai],E⟩,U ⟨(.arr 4 177),[.int I,.int I,.int I,.int I,.int I,.int I,.int I,.int I],J⟩,U ⟨(.arr 2 177),[.int I,.int I,.int I,.int I],J⟩,U ⟨.one,[.ai .nilFunc .ai],E⟩,U ⟨(.struct [(0,353),(8,354),(12,355)]),[.int I,.int I,.int I,.int I,.int I,.int I,.int I,.int I,.int I,.int I,.int I,.int I,.ai .nilFunc .ai],E⟩,U ⟨(.struct [(0,353),(8,354),(12,355)]),[.int I,.int I,.int I,.int I,.int I,.int I,.int I,.int I,.int I,.int I,.int I,.int I,.ai .nilFunc .ai],E⟩,Z,U ⟨(.map 3 357 1 E),[.ai (.map Z) .ai],E⟩,U ⟨.one,[.ai .nilFunc .ai],E⟩,U ⟨.one,[.ai .nilFunc .ai],E⟩,U ⟨(.arr 4 3),[.int I,.int I,.int I,.int I],J⟩,U ⟨(.struct [(0,74),(13,97),(27,104)]),[.int I,.int I,.int I,.int I,.int I,.int I,.int I,.int I,.int I,.int I,.int I,.int I,.int I,.int I,.int I,.int I,.int I,.int I,.int I,.int I,.int I,.int I,.int I,.int I,.int I,.int I,.int I,.int I,.int I,.int I,.bool],J⟩,U ⟨(.struct [(0,74),(13,97),(27,104)]),[.int I,.int I,.int I,.int I,.int I,.int I,.int I,.int I,.int I,.int I,.int I,.int I,.int I,.int I,.int I,.int I,.int I,.int I,.int I,.int I,.int I,.int I,.int I,.int I,.int I,.int I,.int I,.int I,.int I,.int I,.bool],J⟩,U ⟨.one,[.ai (.pointer Z) .ai],E⟩,U ⟨.one,[.int .u64],E⟩,U ⟨.one,[.ai .nilFunc .ai],E⟩],
 [U ⟨.one,[.ai .nilFunc .ai],E⟩,U ⟨.one,[.ai .nilFunc .ai],E⟩,U ⟨.one,[.ai .nilFunc .ai],E⟩,U ⟨.one,[.ai .nilFunc .ai],E⟩,U ⟨.one,[.ai .nilFunc .ai],E⟩,U ⟨.one,[.ai .nilFunc .ai],E⟩,U ⟨.one,[.ai .nilFunc .ai],E⟩,U ⟨.one,[.ai .nilFunc .ai],E⟩,U ⟨.one,[.ai .nilFunc .ai],E⟩,U ⟨.one,[.ai .nilFunc .ai],E⟩,U ⟨.one,[.ai .nilFunc .ai],E⟩,U ⟨.one,[.ai .nilFunc .ai],E⟩,U ⟨.one,[.ai .nilFunc .ai],E⟩,U ⟨.one,[.ai .nilFunc .ai],E⟩,U ⟨(.map 3 387 1 E),[.ai (.map Z) .ai],E⟩,U ⟨.one,[.ai .nilFunc .ai],E⟩],
 [U ⟨.one,[.ai .nilFunc .ai],E⟩,U ⟨.one,[.ai .nilFunc .ai],E⟩,U ⟨(.struct [(0,384),(1,4),(2,375),(3,4),(4,385)]),[.ai .nilFunc .ai,.bool,.ai .nilFunc .ai,.bool,.ai .nilFunc .ai],E⟩,U ⟨(.struct [(0,384),(1,4),(2,375),(3,4),(4,385)]),[.ai .nilFunc .ai,.bool,.ai .nilFunc .ai,.bool,.ai .nilFunc .ai],E⟩,U ⟨.one,[.ai .nilFunc .ai],E⟩,U ⟨.one,[.ai .nilFunc .ai],E⟩,U ⟨(.map 3 47 1 E),[.ai (.map Z) .ai],E⟩,U ⟨.one,[.ai .nilFunc .ai],E⟩,U ⟨.one,[.ai .nilFunc .ai],E⟩,U ⟨.one,[.ai .nilFunc .ai],E⟩,U ⟨.one,[.ai (.pointer Z) .ai],E⟩,Z,U ⟨.one,[.ai .nilFunc .ai],E⟩,U ⟨.one,[.ai .nilFunc .ai],E⟩,U ⟨.one,[.ai .nilFunc .ai],E⟩,U ⟨.one,[.ai .nilFunc .ai],E⟩],
 [U ⟨.one,[.ai .nilFunc .ai],E⟩,U ⟨.one,[.ai .nilFunc .ai],E⟩,U ⟨.one,[.ai .nilFunc .ai],E⟩,U ⟨.one,[.ai .nilFunc .ai],E⟩,U ⟨.one,[.ai .nilFunc .ai],E⟩,Z,U ⟨.one,[.ai .nilFunc .ai],E⟩,U ⟨.one,[.ai .nilFunc .ai],E⟩,U ⟨.one,[.ai .nilFunc .ai],E⟩,U ⟨(.slice 411),[.ai (.slice Z 0 0) (.sl 411)],E⟩,U ⟨(.struct [(0,104),(4,3)]),[.int I,.int I,.int I,.bool,.int I],J⟩,U ⟨(.struct [(0,104),(4,3)]),[.int I,.int I,.int I,.bool,.int I],J⟩,U ⟨.one,[.ai .nilFunc .ai],E⟩,U ⟨.one,[.ai .nilFunc .ai],E⟩,U ⟨.one,[.ai .nilFunc .ai],E⟩,U ⟨.one,[.ai .nilFunc .ai],E⟩],
 [U ⟨.one,[.ai .nilFunc .ai],E⟩,U ⟨.one,[.ai .nilFunc .ai],E⟩,U ⟨.one,[.ai .nilFunc .ai],E⟩,U ⟨.one,[.ai .nilFunc .ai],E⟩,U ⟨.one,[.ai .nilFunc .ai],E⟩,U ⟨.one,[.ai .nilFunc .ai],E⟩,U ⟨.one,[.ai .nilFunc .ai],E⟩,U ⟨.one,[.ai .nilFunc .ai],E⟩,U ⟨.one,[.ai .nilFunc .ai],E⟩,U ⟨.one,[.ai .nilFunc .ai],E⟩,U ⟨.one,[.ai .nilFunc .ai],E⟩,U ⟨.one,[.ai .nilFunc .ai],E⟩,U ⟨.one,[.ai .nilFunc .ai],E⟩,U ⟨.one,[.ai .nilFunc .ai],E⟩,U ⟨.one,[.ai .nilFunc .ai],E⟩,U ⟨.one,[.ai .nilFunc .ai],E⟩],
 [U ⟨(.struct [(0,17),(1,17),(2,17),(3,9)]),[.ai (.pointer Z) .ai,.ai (.pointer Z) .ai,.ai (.pointer Z) .ai,.ai (.string ⟨#[]⟩) .str],E⟩,U ⟨(.struct [(0,17),(1,17),(2,17),(3,9)]),[.ai (.pointer Z) .ai,.ai (.pointer Z) .ai,.ai (.pointer Z) .ai,.ai (.string ⟨#[]⟩) .str],E⟩,U ⟨(.arr 0 16),[],J⟩,U ⟨(.struct [(0,434)]),[],E⟩,U ⟨(.struct [(0,434)]),[],E⟩,U ⟨.one,[.ai .nilFunc .ai],E⟩,U ⟨.one,[.int .u8],E⟩,U ⟨.one,[.int .u8],E⟩,U ⟨.one,[.ai .nilFunc .ai],E⟩,U ⟨.one,[.ai (.pointer Z) .ai],E⟩,U ⟨.one,[.int .i32],E⟩,U ⟨.one,[.int .i32],E⟩,U ⟨(.struct [(0,12),(1,12),(2,316),(3,438),(4,5),(5,5),(6,439),(7,440),(8,441),(9,442),(10,443)]),[.int .u64,.int .u64,.int .u32,.int .u8,.int .u8,.int .u8,.int .u8,.ai .nilFunc .ai,.ai (.pointer Z) .ai,.int .i32,.int .i32],E⟩,U ⟨(.struct [(0,12),(1,12),(2,316),(3,438),(4,5),(5,5),(6,439),(7,440),(8,441),(9,442),(10,443)]),[.int .u64,.int .u64,.int .u32,.int .u8,.int .u8,.int .u8,.int .u8,.ai .nilFunc .ai,.ai (.pointer Z) .ai,.int .i32,.int .i32],E⟩,Z]]
def SG:List (List qZ):=[
[Z,Z,Z,U [4],U [4],U [4],U [4],U [50],U [44,50],U [4],U [50],U [41],U [44,50],U [36,50],U [44,60,50],U [4,50]],
 [U [39,50],U [67,50],U [50],U [50],U [4],U [4],U [50],U [4],Z,U [4],U [4],U [],U [],U [50],U [78],U [74,50]],
 [U [36],U [4],U [50],U [102],Z,U [116,50],U [50],U [4],U [129,50],U [39,50],U [50],U [50],U [4],U [50],U [4],U [50]],
 [U [4],U [50],U [4],U [4],U [4],U [4],U [4],Z,Z,U [4],Z,Z,U [4,50],Z,Z,U []],
 [Z,Z,Z,Z,U [4],Z,Z,U [4],U [4],Z,U [129,50],U [173,50],U [3],U [30,50],U [180,4],U []],
 [Z,U [23],U [4],U [3,50],U [50],U [4],U [4],Z,Z,U [129,50],U [4],U [3],U [50],Z,U [197,50],Z],
 [Z,U [102],U [75],U [105],U [74,50],U [129,50],U [129,50],U [3],Z,Z,Z,Z,Z,Z,Z,U [129,50]],
 [U [4],U [50],U [],U [3],Z,U [],U [3],U [3],U [4],Z,Z,U [3],Z,U [50],U [4],Z],
 [Z,Z,U [4],U [50],U [4],U [4],Z,Z,U [4],U [4],U [129,50],U [129,50],U [39],U [50],Z,U []],
 [Z,U [4,50],Z,Z,U [],U [3],Z,Z,Z,Z,U [3,50],Z,Z,U [3],Z,Z],
 [Z,Z,U [4],U [4],Z,Z,U [274],U [274],U [3],U [3],Z,U [50],U [3,50],Z,U [4],U [129,50]],
 [Z,U [39],U [173],U [30,50],U [4],Z,Z,Z,Z,U [105,50],U [4],Z,U [291,50],Z,U [297,50],U [4,50]],
 [Z,Z,Z,U [74,50],Z,Z,Z,Z,Z,Z,Z,Z,Z,Z,Z,Z],
 [Z,Z,Z,Z,Z,Z,U [4],Z,U [4],U [30],Z,Z,U [97,50],Z,U [3],Z],
 [Z,Z,Z,U [3],Z,Z,Z,Z,Z,Z,Z,Z,Z,Z,Z,Z],
 [Z,Z,Z,Z,Z,Z,Z,Z,Z,Z,U [3],U [3],Z,Z,Z,Z],
 [Z,Z,Z,Z,Z,Z,Z,Z,U [],Z,Z,Z,Z,Z,Z,Z],
 [Z,Z,Z,Z,Z,Z,Z,Z,Z,Z,Z,Z,Z,Z,Z,Z],
 [U [4],Z,Z,Z,Z,Z,Z,Z,Z,Z,Z,Z,Z,Z,Z,Z],
 [Z,Z,Z,Z,Z,Z,U [],U [3],Z,Z,Z,Z,Z,Z,Z,Z],
 [Z,Z,Z,Z,U [3,3,50],Z,Z,Z,Z,Z,Z,Z,Z,Z,Z,Z]]
def PT:List (List qZ):=[
[Z,Z,Z,U [41,44,46,46],U [],U [41],U [44],U [41,44],U [41,44,46],U [44,44],U [41,44],U [],U [41],U [41,3],U [41,44,3],U [41,44,3]],
 [U [41,44,3],U [41,44,3],U [41],U [32],U [84],U [32],U [41],U [41,44],Z,U [39,39],U [75,75],U [91],U [4,50],U [74],U [9],U [99]],
 [U [41,3],U [41,44,67],U [41,44,3],U [41,44,3],Z,U [32,35,36,3,102,75,106],U [78],U [39,3],U [131,3],U [32,3],U [32,3,3,105],U [29],U [3,3,3],U [23],U [97,3,3],U [32]],
 [U [41],U [78],U [41],U [41],U [41],U [41],U [44,3],Z,Z,U [3,3,3],Z,Z,U [32,35,36,116],Z,Z,Z],
 [Z,Z,Z,Z,U [9],Z,Z,U [129],U [3,3,3],Z,U [129,129],U [32,3],Z,U [32,3,3],U [30,105],Z],
 [Z,U [23],U [3,4,3,3],U [95,95],U [29],U [32],U [9],Z,Z,U [131,3],U [32,3,108],U [30,3],U [74],Z,U [32,35,36,116],Z],
 [Z,U [102],U [75],U [105],U [32,3,3,74,105],U [32,3,3,74,78,105],U [74,78],U [5],Z,Z,Z,Z,Z,Z,Z,U [129,3,3]],
 [U [217],U [32,3],U [30,221],U [97,97],Z,U [30,221],U [97,97],U [3,3],U [97,104],Z,Z,U [29,3],Z,U [95],U [3,3,3],Z],
 [Z,Z,U [3,3,3],U [23],U [97,3],U [97],Z,Z,U [131],U [3,3,3],U [131,3],U [129,129],U [32,3],U [32,3,3,105],Z,Z],
 [Z,U [129,129],Z,Z,U [247,249],U [243,243],Z,Z,Z,Z,U [3,3],Z,Z,U [9,5],Z,Z],
 [Z,Z,U [3],U [3,3,3],Z,Z,U [274,274],U [3],U [29,3],U [3,3],Z,U [95],U [95,95],Z,U [129],U [129,3,3]],
 [Z,U [3,173],U [32,3],U [32,3,3],U [30,105],Z,Z,Z,Z,U [32,3,78],U [105,104],Z,U [32,3,3,74,36,105],Z,U [32,35,3,114,114,173],U [129,129]],
 [Z,Z,Z,U [74,97,104],Z,Z,Z,Z,Z,Z,Z,Z,Z,Z,Z,Z],
 [Z,Z,Z,Z,Z,Z,U [127],Z,U [32,3,3,3],U [32,3,3],Z,Z,U [32,3],Z,U [105,104],Z],
 [Z,Z,Z,U [295,295],Z,Z,Z,Z,Z,Z,Z,Z,Z,Z,Z,Z],
 [Z,Z,Z,Z,Z,Z,Z,Z,Z,Z,U [3,3],U [3],Z,Z,Z,Z],
 [Z,Z,Z,Z,Z,Z,Z,Z,U [291,343],Z,Z,Z,Z,Z,Z,Z],
 [Z,Z,Z,Z,Z,Z,Z,Z,Z,Z,Z,Z,Z,Z,Z,Z],
 [U [97,97],Z,Z,Z,Z,Z,Z,Z,Z,Z,Z,Z,Z,Z,Z,Z],
 [Z,Z,Z,Z,Z,Z,U [409,413],U [411,411],Z,Z,Z,Z,Z,Z,Z,Z],
 [Z,Z,Z,Z,U [3],Z,Z,Z,Z,Z,Z,Z,Z,Z,Z,Z]]
def ao0:TD->Bool
 |.map k _ n X=>(k==3&&n==1&& !X)||(k==177&&n==2&&X)||(k==243&&n==3&&X)
 |_=>J
def ayk:tT Tryz.prog 3 1 false:=ayg aT
def ayl:tT Tryz.prog 177 2 true:=by
 have X:Tryz.prog.underlying 177=U (.array 2 3):=aT;obtain⟨i,V⟩:∃i,Tryz.prog.info? 3=U i:=kD.1 aT;exact aoZ X aT aT (λl b W R=>ayi X aT V aT R b 9998 W)
def ao1(P:Program)(k n:Nat):Bool:=match P.underlying k with
 |U (.struct X)=>X.toList.all λf=>f.name != "_"&&(match P.underlying f.type with
  |U (.int I)=>J
  |_=>E)&&decide (f.offset<n)
 |_=>E
def aym{P:Program}(h:ao1 P X x=J)(Q:uG (P.underlying X)=J)(O:uH P 20 X (eI x (.int I))=J):tT P X x true:=by
 unfold ao1 at h;split at h;rename_i L V;refine aoZ V Q O (λl b W N=>ayj V (λf M=> ?_) N b 9998 W);have:=fp.1 h f M;simp only[az,bne_iff_ne,ne_eq,cF] at this;refine⟨this.1.1, ?_,this.2⟩;have R:=this.1.2;split at R;assumption;cases R;cases h
def ayn:tT Tryz.prog 243 3 true:=aym aT aT aT
def ayo:DR (λt X=>Y0 Tryz.prog t X&&(!X.eq||ad7 Tryz.prog t X)&&ao0 X.d) 0 TT=true:=aT
def PD:DR (λg _=>u6 Tryz.prog g) 0 SG=true:=aT
def HT:i7 Tryz.prog (look TT):=by
 intro t R h;have:=aiD ayo h;simp only[az,jd,gO] at this;refine atX this.1.1 (λW=>aye (this.1.2.resolve_left (by rw[W];simp))) (λk e n Q V=> ?_);have X:=this.2;rw[V] at X;simp only[ao0,jd,az,dv,gO] at X;rcases X with(⟨⟨rfl,rfl⟩,rfl⟩|⟨⟨rfl,rfl⟩,rfl⟩)|⟨⟨rfl,rfl⟩,rfl⟩;exact ayk;exact ayl;exact ayn
def PE:Tryz.prog.follows .mixedOrders=true:=aT
def GL:mD:=[(0,0,6),(1,1,2),(2,2,2)]
def GLK:bp:=[.sl 186,.sl 257,.sl 177]
def GW(W:World):Prop:=∃X,JK (look TT) GL GLK DW W X
def GW.grow{W X:World}(V:Below W.heap.size W X)(h:GW W):GW X:=by
 obtain⟨R,Q,P,O,N⟩:=h;exact⟨R,Q,P,λk e M L H=>(O k e M L H).grow V,N⟩
def uI(X:zy):Prop:=∀x∈X,mc Tryz.prog (look TT) x.1 x.2.1 x.2.2.1 x.2.2.2.1 x.2.2.2.2
def GZ(z:Bool)(W:World):Prop:=z=J->GW W
def GZ.grow{z:Bool}{W X:World}(V:Below W.heap.size W X)(h:GZ z W):GZ z X:=λe=>(h e).grow V
abbrev rV(z:Bool)(f:FuncId)(F:bn->j5):Prop:=B9 Tryz.prog (look TT) (look PT) (look SG) (GZ z) f F
def ao2:∀{X:aQ},pF X=J->∀(k:Nat)(t:TypeId),(ju X)[k]?≠U (.own t)
 |[],_,k,t=>by simp[ju]
 |x::X,h,k,t=>by
  simp only[pF,az] at h;have W:=ao2 h.2;cases x with
  |int _=>exact W k t
  |bool=>exact W k t
  |am e=>
   cases k with
   |zero=>
    intro V;simp[ju] at V;subst V;simp[FR] at h
   |succ k=>simpa[ju] using W k t
def E5(g:Bool):mD:=if g then GL else[]
def rW(g:Bool):bp:=if g then GLK else[]
def aea(g:Bool)(X:g=J->w=J)(W:World)(h:GZ w W):∃V,JK (look TT) (E5 g) (rW g) (lI g) W V:=by
 cases g with
 |true=>exact h (X rfl)
 |false=>exact⟨[],rfl,λk v Q h=>by simp[lI] at h,λk e P h=>by simp[rW] at h,λO x R=>by simp[E5] at R⟩
def ayp{bA:mK}(aa:∀G,rV w G (bA G))(hf:Tryz.prog.funcs[G]?=U v)(hb:v.body=U y){A:aw}(hi:A.all (u6 Tryz.prog)=J){s:zy}(ab:uI s){kW:Bool}{a:Bk}{g:Bool}{dT:Option TypeId}
  {ps qs:jC}{L qk:aQ}{l:av}{H:bp}{F:bn->j5}
  (ac:look PT G=U ps)(af:look SG G=U qs)(ag:ip (look TT) ps=U L)(al:ip (look TT) qs=U qk)
  (ba:pF L=J)(hl:jQ (look TT) ps c=U l)(an:rp 0 0 (rW g).length L l=J)(m:H=rW g++ju L)(hq:g=E\/t6 qk=J)
  (bb:((⟨[],[],0,0,[],0,0,[]⟩:S).cz L).2.ni=x)(bd:((⟨[],[],0,0,[],0,0,[]⟩:S).cz L).2.nb=n)
  (a0:∀(p:Sp)(O:ak),u.aP p O []->(Zy (oY Tryz.prog TT SG (E5 g) A B s kW a) dT X G y v.ntmps v.results.toList c ⟨[],[],x,n,H,0,0,[]⟩).aP p O [])
  (a3:Zz Tryz.prog y dT)(a4:dT≠Z->∀P V,F P≠U (.bI V))
  (hc:u.gQ (look TT) (look PT) (look SG) qs x n H []=J)(hF:∀P o,ez L P->F P=U o->vd bA u (fM (lI g) P) [] o)(hz:g=J->w=J):rV w G F:=by
 have e1:∀D P,ez L P->(fM D P).i.length=x:=λD P M=>by
  have h1:=(yo L P ⟨[],[],0,0,[],0,0,[]⟩ ⟨[],[],[],[]⟩ M rfl rfl rfl).1;have h2:=(DU (O:=⟨[],[],[],[]⟩) M).1;have h3:=(DU (O:=⟨[],[],D,[]⟩) M).1;rw[<-bb,<-h1,fM,h3,h2]
 have e2:∀D P,ez L P->(fM D P).b.length=n:=λD P M=>by
  have h1:=(yo L P ⟨[],[],0,0,[],0,0,[]⟩ ⟨[],[],[],[]⟩ M rfl rfl rfl).2.1;have h2:=(DU (O:=⟨[],[],[],[]⟩) M).2.1;have h3:=(DU (O:=⟨[],[],D,[]⟩) M).2.1;rw[<-bd,<-h1,fM,h3,h2]
 have e3:∀P,ez L P->(fM (lI g) P).r.length=Y H:=λP M=>by rw[m];exact Nv M (by cases g<;>rfl)
 have e4:∀(k:Nat)(u:TypeId),H[k]?≠U (.own u):=by
  rw[m];intro k u hk;by_cases a9:k<(rW g).length;rw[dU a9] at hk;cases g with
  |false=>simp[rW] at a9
  |true=>rcases k with _|_|_|k<;>simp[rW,GLK] at hk
  rw[iC ae] at hk;exact ao2 ba _ u hk
 have e5:lI g=[]\/t6 qk=true:=hq.imp (λh=>by subst h;rfl) id;have a1:∀P o,ez L P->F P=U o->∃N,run (look TT) (look PT) (look SG) bA qs N u (fM (lI g) P) H []=U o:=λP o M ho=>by
  obtain⟨N,hN⟩:=hF P o M ho;exact⟨N,t7 N u _ H [] [] [] o hN (by rw[e1 _ P M,e2 _ P M];exact hc) (e3 P M) Ah.nil⟩
 cases dT with
 |none=>exact auo (cf:=oY Tryz.prog TT SG (E5 g) A B s kW a) (glk:=rW g) (glv:=lI g) (λQ R j=>No HT PD hi PE j ab) rfl aa (λ_ _ e h=>h.grow e) hf hb ac af ag al hl (by cases g<;>exact an) m e4 (by cases g<;>rfl) e5 e1 e2 (λW h=>aea g hz W h) (λp O h=>(auH _ _ _ _ _ _ _ _).subst (motive:=λq=>T.aP p q O []) (a0 p O h)) a1
 |some eT=>
  cases eT with
  |zero=>exact auP (cf:=oY Tryz.prog TT SG (E5 g) A B s kW a) (glk:=rW g) (glv:=lI g) (λQ R j=>No HT PD hi PE j ab) rfl aa (λ_ _ e h=>h.grow e) hf hb a3 ac af ag al hl (by cases g<;>exact an) m e4 (by cases g<;>rfl) e5 e1 e2 (λW h=>aea g hz W h) a0 (a4 ay) a1
  |succ eT=>
   obtain⟨d,hd,bf⟩:=a3;exact aup (cf:=oY Tryz.prog TT SG (E5 g) A B s kW a) (glk:=rW g) (glv:=lI g) (λQ R j=>No HT PD hi PE j ab) rfl aa (λ_ _ e h=>h.grow e) hf hb hd bf ac af ag al hl (by cases g<;>exact an) m e4 (by cases g<;>rfl) e5 e1 e2 (λW h=>aea g hz W h) (λp O h=>(auI _ _ _ _ _ _ _ _ _).subst (motive:=λq=>T.aP p q O []) (a0 p O h)) (a4 ay) a1
def aeb(f:FuncId):rV w f (λ_=>Z):=λ_ _ _ _ _ _ _ _ _ _ _ h=>by cases h
def bG(f:FuncId)(g d:Bool)(t:T):Prop:=∀(z:Bool),(g=J->z=J)->∀(bA:mK),(∀g,rV z g (bA g))->∀n,rV z f (λX=>Aj d (exec bA n t (fM (lI g) X) []))
def ayq(k:Tryz.prog.funcs[G]?=U v)(j:v.body=U y){H:aw}(i:H.all (u6 Tryz.prog)=J){D:zy}(e:uI D){d:Bk}{g:Bool}{Q:Option TypeId}
  {N M:jC}{V A:aQ}{l:av}{L:bp}
  (b:look PT G=U N)(a:look SG G=U M)(aa:ip (look TT) N=U V)(ab:ip (look TT) M=U A)
  (ac:pF V=J)(hl:jQ (look TT) N c=U l)(af:rp 0 0 (rW g).length V l=J)(ag:L=rW g++ju V)(hq:g=E\/t6 A=J)
  (al:((⟨[],[],0,0,[],0,0,[]⟩:S).cz V).2.ni=x)(an:((⟨[],[],0,0,[],0,0,[]⟩:S).cz V).2.nb=n)
  (a0:Zz Tryz.prog y Q)
  {s:Bool}(ht:Zf s u (Zy (oY Tryz.prog TT SG (E5 g) H B D w d) Q X G y v.ntmps v.results.toList c ⟨[],[],x,n,L,0,0,[]⟩)=u)
  (hc:u.gQ (look TT) (look PT) (look SG) M x n L []=J):bG G g Q.isSome u:=
 λz hz bA a1 m=>ayp (F:=λP=>Aj Q.isSome (exec bA m u (fM (lI g) P) [])) a1 k j i e b a aa ab ac hl af ag hq al an (λp O h=>aun (g:=u) (c:=s) (Eq.mpr (jW (λq=>T.aP p q O []) ht) h))
  a0 (λa3 P W h=>by
   cases Q with
   |none=>exact a3 rfl
   |some eT=>
   simp only[Option.isSome_some] at h;cases R:exec bA m u (fM (lI g) P) [] with
   |none=>rw[R] at h;cases h
   |some o=>rw[R] at h;cases o<;>simp[Aj] at h) hc (λP o _ h=>by
   cases R:exec bA m u (fM (lI g) P) [] with
   |none=>simp only[R,Aj] at h;cases h
   |some r=>
    simp only[R] at h;have:o=r:=by
     cases r with
     |ret ys=>simp only[Aj,cG] at h;exact h.symm
     |bI W=>
      simp only[Aj] at h;split at h;cases h;cases h;rfl
    subst this;exact⟨m,R⟩) hz
def VH:eQ->Nat->Nat->Nat->av×Nat×Nat×Nat
 |[],a,b,c=>([],a,b,c)
 |.int k::l,a,b,c=>let r:=VH l (a+1) b c;(.int k (.v a)::r.1,r.2)
 |.bool::l,a,b,c=>let r:=VH l a (b+1) c;(.bool (.v b)::r.1,r.2)
 |.ai _ _::l,a,b,c=>let r:=VH l a b (c+1);(.am (.v c)::r.1,r.2)
def mkA:jC->Nat->Nat->Nat->av
 |[],_,_,_=>[]
 |t::W,a,b,c=>match look TT t with
  |U X=>let r:=VH X.ao a b c;(if X.d.isAgg then .agg r.1 else r.1.headD .any)::mkA W r.2.1 r.2.2.1 r.2.2.2
  |none=>[]
def pkF(f:FuncId):aQ:=(ip (look TT) ((look PT f).getD [])).getD []
abbrev VI:S:=⟨[],[],0,0,[],0,0,[]⟩
def tk{W V:jC}{X O:aQ}(M:Tryz.prog.funcs[G]?=U v)(loops:List (Nat×Nat×fo):=[])(inl:aw:=[])(srts:zy:=[])(kW:Bool:=E)(chs:Bk:=[])(g:Bool:=E)(dT:Option TypeId:=Z)(n:Nat:=300)
  (N:av:=mkA ((look PT G).getD []) 0 0 (rW g).length)(R:Nat:=(VI.cz (pkF G)).2.ni)(Q:Nat:=(VI.cz (pkF G)).2.nb)(P:bp:=rW g++ju (pkF G))
  (hsr:uI srts:=by exact λx L=>by cases L)(hdc:Zz Tryz.prog (v.body.getD .skip) dT:=by exact trivial)
  (H:v.body=U (v.body.getD .skip):=by rfl)(F:inl.all (u6 Tryz.prog)=true:=by kernel_rfl)
  (D:look PT G=U W:=by exact rfl)(B:look SG G=U V:=by exact rfl)(A:ip (look TT) W=U X:=by exact rfl)(z:ip (look TT) V=U O:=by exact rfl)
  (y:pF X=true:=by exact rfl)(w:jQ (look TT) W N=U c:=by exact rfl)(s:rp 0 0 (rW g).length X c=true:=by exact rfl)(r:P=rW g++ju X:=by exact rfl)(q:g=E\/t6 O=true:=by first|exact .inl rfl|exact .inr rfl)
  (p:(VI.cz X).2.ni=R:=by exact rfl)(o:(VI.cz X).2.nb=Q:=by exact rfl)
  (ct:Bool:=E)(m:Zf ct u (Zy (oY Tryz.prog TT SG (E5 g) inl loops srts kW chs) dT n G (v.body.getD .skip) v.ntmps v.results.toList N ⟨[],[],R,Q,P,0,0,[]⟩)=u:=by kernel_rfl)
  (k:u.gQ (look TT) (look PT) (look SG) V R Q P []=true:=by kernel_rfl):bG G g dT.isSome u:=
 ayq M H F hsr D B A z y w s r q p o hdc m k
structure aed(tb:kL)(z:Bool):Prop where
 tree:∀f fn,tb.tree f=U fn->bG f fn.g fn.d fn.t
 laid:∀f fn,tb.tree f=U fn->fn.g=J->z=J
 sM:∀f,rV z f (tb.sM f)
def rV.or{F X:bn->j5}(h:rV w G F)(k:rV w G X):rV w G (λV=>match F V with|U o=>U o|none=>X V):=by
 intro P O N M L H D B R V o W;simp only at W;cases Q:F R with
 |some A=>rw[Q] at W;simp only[cG] at W;subst W;exact h P O N M L H D B R V A Q
 |none=>rw[Q] at W;exact k P O N M L H D B R V o W
def VJ{V:kL}{z:Bool}(X:aed V z):∀n f,rV z f (V.bA n f)
 |0,f=>X.sM f
 |n+1,f=>by
  cases R:V.tree f with
  |none=>
   have:=rV.or (X.sM f) (aeb f);intro Q P O N M L H G F D o W;simp only[kL.bA,R] at W;exact this Q P O N M L H G F D o W
  |some t=>
   have:=rV.or (X.sM f) (X.tree f t R z (X.laid f t R) (V.bA n) (VJ X n) n);intro Q P O N M L H G F D o W;simp only[kL.bA,R] at W;exact this Q P O N M L H G F D o W
def ao4(h:Gw y=U G)(k:Cc Tryz.prog G):∀X,Gw y=U X->Cc Tryz.prog X:=λX W=>by rw[h] at W;cases W;exact k
def aee(h:(ya y).map DI.g=U G)(k:wO Tryz.prog G R):∃d,ya y=U d/\wO Tryz.prog d.g R:=by
 cases X:ya y with
 |none=>rw[X] at h;cases h
 |some d=>rw[X] at h;cases h;exact⟨d,rfl,k⟩
def VK:∀X:bn,Ad X X
 |[]=>trivial
 |x::X=>⟨by cases x with
  |i n=>rfl
  |b n=>rfl
  |r v=>exact dA.refl v,VK X⟩
def VL{V:Ty}{X:aQ}{R:bn}(h:∀e,LK.am e∉X):yA V M X R:=λq e P Q _=>(h e (jm Q)).elim
def ao5{V:Ty}{W:aQ}{R:bn}(h:∀e,LK.am e∉W):¬yz V W R X:=λ⟨q,e,P,Q,_,_⟩=>h e (jm Q)
def rX:zy:=[(148,149,243,.lex [0,1,2] E,E),(114,115,97,.ratio 10 11,J),(117,118,97,.lex [0] E,E),(264,227,295,.lex [1,0] E,E),(310,311,411,.lex [4] J,J),(76,76,3,.dh 0 (.lex [] E) [],J)]
end
end Go.Proofs.YtpmkfikkemaopaaGreatDoor.Y
namespace Go.Proofs.YtpmkfikkemaopaaGreatDoor
open Go.RowKit
variable{M:World}{X x:Nat}{w:Bool}{R:TypeId}{H:Array Value}
section
def ayr{P:Program}(X:Array TypeId)(t:TypeId)(x y:Int):(Builtin.min_ X t #[.int I x,.int I y]).run P M=.ok (.int I (min x y)) M:=by
 simp[Builtin.min_,Builtin.min2];omega
def ays{P:Program}(X:Array TypeId)(t:TypeId)(x y:Int):(Builtin.max_ X t #[.int I x,.int I y]).run P M=.ok (.int I (max x y)) M:=by
 simp[Builtin.max_,Builtin.max2];omega
attribute[go_sem high] ayr ays
def Sl{R:Type}(P:R->List Value)(k:Nat)(w:World)(v:Value)(X:List R):Prop:=
 ∃(a:Option Addr)(W V:Nat),v=.slice a W V/\Y X=W/\W<=V/\V<=4611686018427387904/\
  ∀i(h:i<Y X),∃b Q,a=U ⟨b,Q,Z⟩/\b<w.heap.size/\∀j,j<k->w.cell? ⟨b,Q+i*k+j,Z⟩=(P X[i])[j]?
def Sl.below{W:Type}{V:W->List Value}{R:World}{v:Value}{Q:List W}(h:Sl V X M v Q)(P:Below M.heap.size M R):Sl V X R v Q:=by
 obtain⟨a,N,L,H,G,F,D,B⟩:=h;refine⟨a,N,L,H,G,F,D,λi A=> ?_⟩;obtain⟨b,z,e,O,y⟩:=B i A;exact⟨b,z,e,Wi O P.size,λj x=>(P.cell (p:=⟨b,_,Z⟩) O).trans (y j x)⟩
def VM(n:Int):List Value:=[.int I n]
def LH{b:Bool}(h:w=b):Ending.returned (.bool w)=.returned (.bool b):=by rw[h]
def ao6{X:World}(V:Below M.heap.size M X):(∀b o,b<M.heap.size->X.cell? ⟨b,o,Z⟩=M.cell? ⟨b,o,Z⟩)/\(∀b o,b<M.heap.size->X.frozen? ⟨b,o,Z⟩=M.frozen? ⟨b,o,Z⟩):=
 ⟨λb o h=>V.cell (p:=⟨b,o,Z⟩) h,λb o h=>V.frozen (p:=⟨b,o,Z⟩) h⟩
def ayt:List Value:=[.int I 0,.int I 29,.int I 20,.int I 21,.int I 29,.int I 0,.int I 20,.int I (-21),.int I 0,.int I (-29),.int I (-20),.int I (-21),.int I (-29),.int I 0,.int I (-20),.int I 21]
def aef(w:World):Prop:=4<=w.heap.size/\∀i,i<16->w.cell? ⟨2,i,Z⟩=ayt[i]?
def aef.below{X:World}(h:aef M)(W:Below M.heap.size M X):aef X:=
 ⟨oL h.1 W.size,λi V=>(W.cell (p:=⟨2,i,Z⟩) (by have:=h.1;show 2<_;omega)).trans (h.2 i V)⟩
def zl{X:World}(h:Below M.heap.size M X)(o:Obj):Below M.heap.size M (X.alloc o):=h.alloc h.size o
def aeg{X:World}(h:Below M.heap.size M X){p:Addr}(W:M.heap.size<=p.block)(u:Value):Below M.heap.size M (X.setCell p u):=h.setCell W u
def C4{X W:World}(h:Below M.heap.size M X)(k:Below X.heap.size X W):Below M.heap.size M W:=h.trans (k.mono h.size)
def aeh{X:World}(h:Below M.heap.size M X):Below M.heap.size M X.drew:=h.drew
def Bx(W:World)(b:Nat)(t:TypeId)(X:Array Value):Prop:=W.heap[b]?=U (.cells X t (0,0))
def Bx.lt(h:Bx M X R H):X<M.heap.size:=by
 unfold Bx at h;by_cases V:X<M.heap.size;exact V;rw[aDi (by omega)] at h;cases h
def Bx.cell(h:Bx M X R H):∀i,M.cell? ⟨X,i,Z⟩=H[i]?:=by
 intro i;unfold Bx at h;simp[nF,h]
def Bx.new(w:World)(X:Array Value)(t:TypeId):Bx (w.alloc (.cells X t)) w.heap.size t X:=by
 show(w.heap.push _)[w.heap.size]?=_;simp
def Bx.alloc(h:Bx M X R H)(o:Obj):Bx (M.alloc o) X R H:=
 (Below.heap_alloc M o X h.lt).trans h
def Bx.drew(h:Bx M X R H):Bx M.drew X R H:=h
def Bx.drewN(h:Bx M X R H)(n:Nat):Bx (M.drewN n) X R H:=h
def Bx.below{V:World}(h:Bx M X R H)(Q:Below M.heap.size M V):Bx V X R H:=
 (Q.block X h.lt).trans h
def Bx.set(h:Bx M X R H)(u:Value):Bx (M.setCell ⟨X,x,Z⟩ u) X R (H.setIfInBounds x u):=by
 unfold Bx at*;simp[Ws,P4,h]
end
end Go.Proofs.YtpmkfikkemaopaaGreatDoor
namespace Go.Proofs.YtpmkfikkemaopaaGreatDoor.K
structure Range where
 Lo:Int
 Hi:Int
 deriving DecidableEq
structure lR where
 X:Range
 Y:Range
 deriving DecidableEq
structure Vec where
 X:Int
 Y:Int
 Z:Int
 deriving DecidableEq
def lR.zero:lR:=⟨⟨0,0⟩,⟨0,0⟩⟩
def zm(m:Int)(X:List Int):Bool:=X.all λn=> !(n< -m||n>m)
def lR.valid(b:lR):Bool:=zm 1099511627776 [b.X.Lo,b.X.Hi,b.Y.Lo,b.Y.Hi]&&decide (b.X.Lo<=b.X.Hi)&&decide (b.Y.Lo<=b.Y.Hi)
def Range.tC(x y:Range):Bool:=decide (x.Lo<=y.Hi)&&decide (y.Lo<=x.Hi)
def lR.tC(a b:lR):Bool:=a.X.tC b.X&&a.Y.tC b.Y
def ayu(m:Int)(X:List Int)(k:Nat)(h:k<Y X):zm m (X.take (k+1))=(zm m (X.take k)&& !(X[k]< -m||X[k]>m)):=by
 unfold zm;rw[List.take_succ_eq_append_getElem h,List.all_append];simp
def ayv{m:Int}{X:List Int}{k:Nat}(h:zm m (X.take k)=E):zm m X=false:=by
 unfold zm at*;rw[List.all_eq_false] at*;obtain⟨x,W,h⟩:=h;exact⟨x,Db W,h⟩
end Go.Proofs.YtpmkfikkemaopaaGreatDoor.K
namespace Go.Proofs.YtpmkfikkemaopaaGreatDoor
open Go.RowKit
abbrev K.Range.v(x:K.Range):Value:=.agg #[.int I x.Lo,.int I x.Hi]
abbrev K.lR.v(x:K.lR):Value:=.agg #[.int I x.X.Lo,.int I x.X.Hi,.int I x.Y.Lo,.int I x.Y.Hi]
def ayw(m:Int)(v:Value)(X:List Int)(w:World)(z:0<=m)(x:m<=4611686018427387904)(G:Sl VM 1 w v X):
  Calls Tryz.prog 158 #[.int I m,v] w λe F=>e=.returned (.bool (K.zm m X))/\w=F:=by
 obtain⟨a,W,u,rfl,R,t,s,Q⟩:=G;have D:=Lib.hid Q;clear Q;have P:=Lib.hid R;clear R;go_enter Tryz.func158,Tryz.ntmps158;go_wp2
 go_loop [9] (λi=>∃k:Nat,k<=W/\i=.int I k/\K.zm m (X.take k)=J) (λi=>W-(intOf i).toNat)
 case atStart=>exact⟨0,Ww _,rfl,rfl⟩
 case round=>
  obtain⟨k,r,rfl,O⟩:=hrel;have V:=Lib.hid O;clear O;by_cases B:k<W
  ·have N:k<Y X:=by rw[P.out];exact B
   have M:=K.ayu m X k N;have L:=Lib.hid M;clear M;obtain⟨b,q,rfl,p,H⟩:=D.out k N;have A:=H 0 (by omega);clear H;simp only[VM,zr,xN,aqO] at A;generalize X[k]=y at*;go_wp2
   all_goals first
    |(go_ret;exact⟨LH (K.ayv (k:=k+1) (by rw[L.out,V.out];simp<;>omega)).symm,rfl⟩)
    |(go_round
      case rel=>exact⟨k+1,by omega,by go_num,by rw[L.out,V.out];simp<;>omega⟩
      case measure=>simp[intOf];omega)
  ·go_wp2;go_ret;exact⟨LH (by rw[<-V.out,Fb (by rw[P.out];omega)]),rfl⟩
def PF(x:K.lR)(r:Bool)(R:x.valid=r)(w:World):
  Calls Tryz.prog 112 #[x.v] w λe W=>e=.returned (.bool r)/\Below w.heap.size w W:=by
 subst R;have Q:Sl VM 1 ((w.alloc (.cells #[.int I x.X.Lo,.int I x.X.Hi,.int I x.Y.Lo,.int I x.Y.Hi] 217)).alloc (.cells #[.int I x.X.Lo,.int I x.X.Hi,.int I x.Y.Lo,.int I x.Y.Hi] 3)) (.slice (U ⟨w.heap.size+1,0,Z⟩) 4 4) [x.X.Lo,x.X.Hi,x.Y.Lo,x.Y.Hi]:=by
  refine⟨_,_,_,rfl,rfl,by omega,by omega,λi P=>⟨w.heap.size+1,0,rfl,by simp,λj O=> ?_⟩⟩;obtain rfl:j=0:=by omega
  simp at P;rcases i with _|_|_|_|i<;>first|omega|simp[VM,go_sem]
 cases V:K.zm 1099511627776 [x.X.Lo,x.X.Hi,x.Y.Lo,x.Y.Hi]
 all_goals
  go_enter Tryz.func112,Tryz.ntmps112
  go_wp2_with (go_at_call 158;refine(ayw _ _ _ _ (by omega) (by omega) Q).mono ?_;rw[V];rintro e W ⟨rfl,rfl⟩)
  all_goals(go_ret;exact⟨LH (by simp[K.lR.valid,V]<;>omega),zl (zl (Below.refl _ _) _) _⟩)
def aei(x y:K.Range)(r:Bool)(X:x.tC y=r)(w:World):
  Calls Tryz.prog 231 #[x.v,y.v] w λe W=>e=.returned (.bool r)/\Below w.heap.size w W:=by
 subst X;by_cases V:x.Lo<=y.Hi
 all_goals
  go_enter Tryz.func231,Tryz.ntmps231;go_wp2
  all_goals(go_ret;exact⟨LH (by simp[K.Range.tC]<;>omega),zl (zl (Below.refl _ _) _) _⟩)
def ayx(a b:K.lR)(w:World):
  Calls Tryz.prog 181 #[a.v,b.v,.func (.func 231) #[] #[]] w λe O=>e=.returned (.bool (a.tC b))/\Below w.heap.size w O:=by
 cases R:a.X.tC b.X
 ·have W:=Lib.hid R;clear R;go_enter Tryz.func181,Tryz.ntmps181
  go_wp2_with (go_at_call 231;refine(aei ⟨_,_⟩ ⟨_,_⟩ E W.out _).mono ?_;rintro e N ⟨rfl,V⟩;obtain⟨M,L⟩:=ao6 V)
  go_ret;exact⟨LH (by simp[K.lR.tC,W.out]),C4 (zl (zl (Below.refl _ _) _) _) V⟩
 ·have W:=Lib.hid R;clear R;cases Q:a.Y.tC b.Y
  all_goals
   have P:=Lib.hid Q;clear Q;go_enter Tryz.func181,Tryz.ntmps181
   go_wp2_with fail
   refine(aei ⟨_,_⟩ ⟨_,_⟩ J W.out _).mono ?_;rintro e N ⟨rfl,V⟩;obtain⟨M,L⟩:=ao6 V
   go_wp2_with fail
   refine(aei ⟨_,_⟩ ⟨_,_⟩ _ P.out _).mono ?_;rintro e G ⟨rfl,H⟩;go_wp2;go_ret;exact⟨LH (by simp[K.lR.tC,W.out,P.out]),C4 (C4 (zl (zl (Below.refl _ _) _) _) V) H⟩
abbrev K.Vec.v(x:K.Vec):Value:=.agg #[.int I x.X,.int I x.Y,.int I x.Z]
def ayy(a b:K.lR)(Q:a.valid=J)(P:b.valid=J)(r:Bool)(O:a.tC b= !r)(w:World):
  Calls Tryz.prog 191 #[a.v,b.v] w λe N=>e=.returned (.tuple #[.bool r,.int I 0])/\Below w.heap.size w N:=by
 have M:=Lib.hid Q;clear Q;have L:=Lib.hid P;clear P;have H:=Lib.hid O;clear O;go_enter Tryz.func191,Tryz.ntmps191
 go_wp2_with fail
 refine(PF ⟨⟨_,_⟩,⟨_,_⟩⟩ J M.out _).mono ?_;rintro e D ⟨rfl,W⟩;have V:=((Bx.new w _ _).alloc _).below W;have X:=(Bx.new (w.alloc _) _ _).below W;simp only[aeY] at X;have G:=X.cell
 go_wp2_with fail
 refine(PF ⟨⟨_,_⟩,⟨_,_⟩⟩ J L.out _).mono ?_;rintro e B ⟨rfl,R⟩;replace V:=V.below R;replace X:=X.below R;have A:=V.cell;have G:=X.cell
 go_wp2_with fail
 refine(ayx ⟨⟨_,_⟩,⟨_,_⟩⟩ ⟨⟨_,_⟩,⟨_,_⟩⟩ _).mono ?_;rw[show K.lR.tC ⟨⟨_,_⟩,⟨_,_⟩⟩ ⟨⟨_,_⟩,⟨_,_⟩⟩= !r from H.out];rintro e z ⟨rfl,F⟩;go_wp2
 go_ret2
 refine⟨by simp, ?_⟩
 repeat' first|with_reducible apply zl|with_reducible apply aeh|(with_reducible refine aeg ?_ (by dsimp only;omega) _)|with_reducible exact Below.refl _ _|(refine C4 ?_ F)|(refine C4 ?_ R)|(refine C4 ?_ W)
end Go.Proofs.YtpmkfikkemaopaaGreatDoor
namespace Go.Proofs.YtpmkfikkemaopaaGreatDoor.Y
open Go.RowKit
noncomputable section
variable{G:FuncId}{v:Func}{y:Code}{X x n:Nat}{c:av}{u:T}{R:TypeId}{Q F:ax}{A:bm}{z:bq}{M:World}{w:Bool}{B:List (Nat×Nat×fo)}
def ayz(a b:K.lR)(X:a.valid=E)(w:World):Calls Tryz.prog 191 #[a.v,b.v] w λe R=>e=.returned (.tuple #[.bool E,.int I 150])/\Below w.heap.size w R:=by
 have Q:=Lib.hid X;clear X;go_enter Tryz.func191,Tryz.ntmps191
 go_wp2_with fail
 refine(PF ⟨⟨_,_⟩,⟨_,_⟩⟩ E Q.out _).mono ?_;rintro e P ⟨rfl,W⟩;have V:=(Bx.new (w.alloc _) _ _).below W;simp only[aeY] at V;have O:=V.cell;go_wp2
 go_ret2
 refine⟨ay, ?_⟩
 repeat' first|with_reducible apply zl|with_reducible apply aeh|(with_reducible refine aeg ?_ (by dsimp only;omega) _)|with_reducible exact Below.refl _ _|(refine C4 ?_ W)
def ayA(a b:K.lR)(Q:a.valid=J)(P:b.valid=E)(w:World):Calls Tryz.prog 191 #[a.v,b.v] w λe O=>e=.returned (.tuple #[.bool E,.int I 150])/\Below w.heap.size w O:=by
 have N:=Lib.hid Q;clear Q;have M:=Lib.hid P;clear P;go_enter Tryz.func191,Tryz.ntmps191
 go_wp2_with fail
 refine(PF ⟨⟨_,_⟩,⟨_,_⟩⟩ J N.out _).mono ?_;rintro e H ⟨rfl,W⟩;have V:=((Bx.new w _ _).alloc _).below W;have X:=(Bx.new (w.alloc _) _ _).below W;simp only[aeY] at X;have L:=X.cell
 go_wp2_with fail
 refine(PF ⟨⟨_,_⟩,⟨_,_⟩⟩ E M.out _).mono ?_;rintro e G ⟨rfl,R⟩;replace V:=V.below R;replace X:=X.below R;have F:=V.cell;have L:=X.cell;go_wp2
 go_ret2
 refine⟨ay, ?_⟩
 repeat' first|with_reducible apply zl|with_reducible apply aeh|(with_reducible refine aeg ?_ (by dsimp only;omega) _)|with_reducible exact Below.refl _ _|(refine C4 ?_ R)|(refine C4 ?_ W)
def S.bare(s:S):S:=⟨[],[],s.ni,s.nb,s.rs,0,0,s.pd⟩
def VN:XE->S->T:=λe s=>.out e s.bare
section
variable{g:aw}{q:World}{D:b9}{V:aw}{O:ak}{s:S}{a:Act}{W:World}{o:Ty}{cf:bF}{p:Sp}
def aC.bare(R:aC g q D o V O s a W):aC g q D o [] O s.bare ⟨#[],a.defers⟩ W where
 mem:=⟨R.mem.base,λi h=>by simp[S.bare,aL,cg] at h,λi j h=>by simp[S.bare,aL,cg] at h,λi t M h=>by simp[S.bare,cg] at h,λk e X Q P=>⟨(R.mem.am k e X Q P).1,λb L i h=>by simp[S.bare,aL,cg] at h⟩⟩
 gv:=rfl
 ei:=R.ei
 eb:=R.eb
 er:=R.er
 cU:=R.cU
 size:=rfl
 tmps:=λt H h=>by simp[S.bare] at h
 fZ:=λk e X b Q P N=>⟨(R.fZ k e X b Q P N).own,(R.fZ k e X b Q P N).mem,λi h=>by simp[S.bare,aL,cg] at h,(R.fZ k e X b Q P N).alone,(R.fZ k e X b Q P N).inner⟩
def ayB(F:jr p cf)(m:p.P.funcs[G]?=U v)(b:v.body=U y)(h0:v.results.toList=[])(hD:p.D=b9.none){s:S}{O:ak}{V:aw}
  (ht:fH cf X G y {s with tmps:=c++eI (v.ntmps-Y c) (.bP [])} iK VN=u)(z:u.aP p O [])(hg:eL cf.gl O)(R:aC p.S0 p.w0 b9.none cf.ty V O {s with tmps:=[]} ⟨#[],[]⟩ p.w0)
  (hQ:∀e a W,p.Q e a W->(e=.normal\/e=.ret)/\p.R (.returned (.tuple #[])) W):
  Calls p.P G (C.aF O V c).toArray p.w0 p.R:=by
 subst ht;refine Jo m b ?_;have RE:=R.enter c v.ntmps R.cU;refine(Jy F X).1 b9.none ⟨{s with tmps:=c++eI (v.ntmps-Y c) (.bP [])},O,V,[]⟩ iK Z G y _ _ [] O V _ p.w0 _ (DQ _ _) (jF.here _ _ _ _) rfl (λhh=>by cases hh) ⟨v,m⟩ z RE hg ?_ ?_;intro k L x pd N hA hR;obtain⟨aa,B,q0,w,A⟩:=hA.ma;show LeavesInM Fence.wide 0 p.P v L.tmps p.R L.defers (.panicking k) x;rw[B];exact sL ay (xL.1 w).1 (λd H=>(A d (by simp[H])).1) (Ng (F.RA k) (λd H=>(A d (by simp[H])).2) hR);intro e s' O' V' L x L' hl hL j z;obtain⟨aa,B,q0,w,A⟩:=j.cU.ma;have i:=j.qz B;have r:=hQ _ _ _ (z O'.y [] _ _ (by rw[F.pt,hD];exact i.bare));have h:LeavesInM Fence.wide 0 p.P v L.tmps p.R L.defers .returning (x):=by
  rw[B];refine sL ay (xL.1 w).1 (λd H=>(A d (by simp[H])).1) ⟨_,Jc (l:=[]) i F.kZ (by rw[h0];rfl), ?_⟩;exact r.2
 cases e with
 |normal=>exact h
 |ret=>exact h
 |bI M=>have:=r.1;simp[XE.to] at this
 |exit id=>have:=r.1;simp[XE.to] at this
def ayC{A:nG}(P:aC (kH A n).toList q D cf.ty V O s a W)(z:s.rs[X]?=U (.own R))(y:O.rv X=.mk (.slice A x n) Q):
  q.grownBy W (kH A n)/\DF q W R (bD cf.ty (.sl R)).length (kH A n) Q A n:=by
 obtain⟨l,j,g,N,L,G⟩:=MQ P z;rw[y] at N L;simp only[RV.jD] at N L;injection N with N _;injection N with w F v;subst w;subst F;subst v;obtain⟨F,f⟩:=pJ L;have M:=P.mem.base;refine⟨⟨M.os,M.tape,M.output,M.size,λi u t=>M.block i u (λH=>t ?_)⟩,⟨ae,G.nil, ?_⟩⟩;exact((by simpa[Option.mem_toList] using H:kH A n=U i)).symm;rcases G.mem with h|⟨b,r,rfl,B,H,m⟩;exact .inl h;cases n with
 |zero=>exact .inl rfl
 |succ c=>exact .inr ⟨b,r,rfl,B,H,m,XF L B,.inr rfl⟩
end
def jl:lA->aH->Prop
 |[],x=>x=[]
 |b::X,c::r=>(if b then∃n,c=.mk (.int I n) [] else∃q,c=.mk (.bool q) [])/\jl X r
 |_::_,[]=>False
def C5(b:Bool):CT:=if b then .int I else .bool
def uJ(c:RV):RV:=.mk c.val []
def fe(X:ax):ax:=X.map λW=>W.map uJ
def aej(c:Nat)(x:aH):aN c (x.map uJ)=aN c x:=by
 simp only[aN,dB,dN];cases x[c]?<;>rfl
def ao8(d:Bool)(x y:aH):∀X,jq d X (x.map uJ) (y.map uJ)=jq d X x y
 |[]=>rfl
 |c::X=>by simp only[jq,aej,ao8 d x y X]
def aek(o:bm)(x y:aH):o.lt (x.map uJ) (y.map uJ)=o.lt x y:=by
 cases o with
 |lex X d=>exact ao8 d x y X
 |ratio n d=>simp only[bm.lt,aej]
 |dh k o W=>rfl
def ayD(o:bm)(x:aH):o.ok (x.map uJ)=o.ok x:=by
 cases o with
 |lex X d=>rfl
 |ratio n d=>simp only[bm.ok,aej]
 |dh k o W=>rfl
def ao9(o:bm)(x:aH):∀l,ef o.lt (x.map uJ) (fe l)=fe (ef o.lt x l)
 |[]=>rfl
 |y::r=>by
  have X:=ao9 o x r;simp only[fe,eE,ef,aek] at X⊢;split;rfl;rw[X];rfl
def apa(o:bm)(l:ax):bT o.lt (fe l)=fe (bT o.lt l):=by
 have:∀l acc,(fe l).foldl (λacc x=>ef o.lt x acc) (fe acc)=fe (l.foldl (λacc x=>ef o.lt x acc) acc):=by
  intro l;induction l with
  |nil=>intro acc;rfl
  |cons x l X=>
   intro acc;have:=X (ef o.lt x acc);rw[<-ao9] at this;exact this
 exact this l []
def apb(o:bm)(l:ax):(fe l).all o.ok=l.all o.ok:=by
 simp only[fe,LW];congr 1;funext x;exact ayD o x
def ayE(l:ax)(a b:Nat):bc (fe l) a b=fe (bc l a b):=by simp[bc,fe]
def apc(o:bm):∀l,wG o.lt (fe l)=wG o.lt l
 |[]=>rfl
 |x::r=>by
  have X:=apc o r;simp only[fe,eE,wG,LW] at X⊢;rw[X];congr 2;funext y;simp only[Function.comp,aek]
def ayF(l:ax)(a:Nat):(fe l).take a=fe (l.take a):=by simp[fe]
def ayG(l:ax)(a:Nat):(fe l).drop a=fe (l.drop a):=by simp[fe]
def ayH(l m:ax):fe (l++m)=fe l++fe m:=by simp[fe]
def zn(l:ax):(fe l).length=Y l:=by simp[fe]
def ayI(h:mI X A z Q=U F):mI X A z (fe Q)=U (fe F):=by
 unfold mI at h⊢;split at h
 all_goals first|(split at h<;>first|(cases h;done)|skip)|skip
 all_goals first|(cases h;done)|skip
 all_goals
  rename_i W;cases h;simp only[zn,apb,ayE,apc,ayF,ayG,apa,<-ayH];rw[aI W]
def ayJ(h:oW X A z Q=U F):oW X A z (fe Q)=U (fe F):=by
 obtain⟨W,V⟩:=zY h;unfold oW;rw[zn,aI W];exact ayI V
def apd(l:ax):eo (fe l)=eo l:=by
 simp only[eo,fe,List.flatMap_map];congr 1;funext x;simp only[oc];rfl
def ape:∀(X:lA)(W:aH),Y W=Y X->(∀(j:Nat)(c:RV)(k:IntKind),W[j]?=U c->(X.map C5)[j]?=U (.int k)->∃n,c.val=.int k n)->(∀(j:Nat)(c:RV),W[j]?=U c->(X.map C5)[j]?=U .bool->∃x,c.val=.bool x)->jl X (W.map uJ)
 |[],[],_,_,_=>rfl
 |[],_::_,h,_,_=>by simp at h
 |_::_,[],h,_,_=>by simp at h
 |b::N,c::r,M,P,O=>by
  refine⟨?_,ape N r (by simpa using M) (λj c k V R=>P (j+1) c k (by simpa using V) (by simpa using R)) (λj c V R=>O (j+1) c (by simpa using V) (by simpa using R))⟩;cases b with
  |true=>
   obtain⟨n,Q⟩:=P 0 c I rfl rfl;exact⟨n,by simp[uJ,Q]⟩
  |false=>
   obtain⟨n,Q⟩:=O 0 c rfl rfl;exact⟨n,by simp[uJ,Q]⟩
def apf{H:Ty}{X:lA}(P:bD H (.sl R)=X.map C5)(h:fz M H R Q):∀x∈fe Q,jl X x:=by
 intro x G;obtain⟨V,F,rfl⟩:=hJ.1 G;obtain⟨i,O⟩:=qW F;refine ape X V ?_ (λj c k N L=>h.int i j V c k O N (by rw[P];exact L)) (λj c N L=>h.bool i j V c O N (by rw[P];exact L));have:=h.len i V O;rw[P,qY] at this;exact this
def apg{w:Ty}{A:nG}(s:∀(j:Nat)(z:Value)(k:RK),(bD w (.sl R))[j]?≠U (.ai z k))(h:bJ M w (.sl R) (.mk (.slice A X x) Q)):bJ M w (.sl R) (.mk (.slice A X x) (fe Q)):=by
 have v:∀{i:Nat}{O:aH},(fe Q)[i]?=U O->∃V,Q[i]?=U V/\O=V.map uJ:=by
  intro i O y;simp only[fe,dN,P3] at y;obtain⟨V,H,G⟩:=y;exact⟨V,H,G.symm⟩
 have u:∀{V:aH}{j:Nat}{c:RV},(V.map uJ)[j]?=U c->∃P,V[j]?=U P/\c=uJ P:=by
  intro V j c t;simp only[dN,P3] at t;obtain⟨P,H,G⟩:=t;exact⟨P,H,G.symm⟩
 cases h with
 |sl R A f x Q H G r y q d=>
  refine bJ.sl R A X x (fe Q) (by rw[zn];exact H) G (λi O N=> ?_) (λi j O c k N L F=> ?_) (λi j O c N L F=> ?_) (λi j O c z k N L F=>(s j z k F).elim);obtain⟨V,D,rfl⟩:=v N;obtain⟨p,b,o,m,l,g⟩:=r i V D;refine⟨by simpa using p,b,o,m,l,λj c L=> ?_⟩;obtain⟨P,B,rfl⟩:=u L;exact g j P B;obtain⟨V,D,rfl⟩:=v N;obtain⟨P,B,rfl⟩:=u L;exact y i j V P k D B F;obtain⟨V,D,rfl⟩:=v N;obtain⟨P,B,rfl⟩:=u L;exact q i j V P D B F
def Tgt(p:Sp)(e:TypeId)(v:Value)(aE:ax):Prop:=∀(X:Exit)(s:S)(O:ak)(V:aw)(a:Act)(W:World)(k:Nat),(X=.normal\/X=.ret)->aC p.S0 p.w0 p.D p.ty V O s a W->s.rs[k]?=U (.own e)->O.rv k=.mk v aE->p.Q X a W
def HV(P:Program)(X:lA)(g:FuncId)(o:bm):Prop:=∀(W:World)(x y:aH),jl X x->jl X y->o.ok x=J->o.ok y=J->
 Calls P g #[.agg (x.map RV.val).toArray,.agg (y.map RV.val).toArray] W λV R=>Below W.heap.size W R/\∃c:Int,V=.returned (.int I c)/\(c<0<->o.lt x y=J)
def VO(X:lA)(e g:Nat)(o:bm)(F:bq->ax->BD)(N:Nat)(t:T):Prop:=∀(p:Sp)(v:Value)(W aE:ax)(V:bq),p.P=Tryz.prog->HV Tryz.prog X g o->(∃A n R,v=.slice A n R/\Y W=n/\n<=1099511627776)->(∀x∈W,jl X x)->Y V=N->F V W=U aE->Tgt p e v aE->t.aP p ⟨V,[],[.mk v W],[]⟩ []
abbrev PG(X:lA)(e g:Nat)(o:bm)(k N:Nat)(t:T):Prop:=VO X e g o (oW k o) N t
def ael{N n:Nat}{o:bm}{F:bq->ax->BD}{K:lA}{t:T}{args:av}{inl:aw}{loops:List (Nat×Nat×fo)}{srts:zy}{chs:Bk}
  (hf:Tryz.prog.funcs[G]?=U v)(d:v.body=U y)(h0:v.results.toList=[])(hi:inl.all (u6 Tryz.prog)=J)(af:uI srts)(hK:bD (look TT) (.sl x)=K.map C5)(ag:HV Tryz.prog K X o)
  (ht:fH (oY Tryz.prog TT SG [] inl loops srts E chs) n G y ⟨args++eI (v.ntmps-Y args) (.bP []),[],N,0,[.own x],0,0,[]⟩ iK VN=t)(hh:VO K x X o F N t)
  (al:∀(B:bq)(m:RV),Y B=N->C.aF ⟨B,[],[m],[]⟩ [] args=m.val::(B.map (Value.int I)++[.func (.func X) #[] #[]]))
  (an:∀(B:bq)(Q aE:ax),F B Q=U aE->F B (fe Q)=U (fe aE))
  (aa:∀(B:bq)(Q aE:ax),F B Q=U aE->Y B=N/\Y Q<=1099511627776){A:nG}{H L:Nat}{aE:ax}(hH:bJ M (look TT) (.sl x) (.mk (.slice A H L) Q))(hR:I3 M x (bD (look TT) (.sl x)).length A L)(hT:F z Q=U aE):
  Calls Tryz.prog G (MX (.slice A H L) z X) M λen D=>en=.returned (.tuple #[])/\M.grownBy D (kH A L)/\DF M D x (bD (look TT) (.sl x)).length (kH A L) aE A L:=by
 have hN:=(aa _ _ _ hT).1;have hp:∀(j:Nat)(P:Value)(q:RK),(bD (look TT) (.sl x))[j]?≠U (.ai P q):=by
  intro j P q u;rw[hK,dN] at u;cases d:K[j]? with
  |none=>rw[d] at u;cases u
  |some b=>rw[d] at u;cases b<;>simp[C5] at u
 have ab:=apg hp hH;have ac:=an _ _ _ hT;obtain⟨a0,a1⟩:=pJ ab;let O0:ak:=⟨z,[],[.mk (.slice A H L) (fe Q)],[]⟩;let R:Ending->World->Prop:=λen D=>en=.returned (.tuple #[])/\M.grownBy D (kH A L)/\DF M D x (bD (look TT) (.sl x)).length (kH A L) aE A L
 let p:Sp:=⟨Tryz.prog,look TT,(kH A L).toList,M,b9.none,R,λex a D=>(ex=.normal\/ex=.ret)/\R (.returned (.tuple #[])) D⟩;have ok:jr p (oY Tryz.prog TT SG [] inl loops srts E chs):=No HT PD hi PE (λch D b ob _ h=>by have:=h.1;cases this) af;have a3:(C.aF O0 [] args).toArray=MX (.slice A H L) z X:=by rw[al z _ hN];rfl
 rw[<-a3];have a4:∀b,(RV.mk (.slice A H L) (fe Q)).kF=U b->kH A L=U b:=λb h=>by rw[I2] at h;exact h
 have a9:aC p.S0 p.w0 b9.none (look TT) [] O0 {(⟨[],[],N,0,[.own x],0,0,[]⟩:S) with tmps:=[]} ⟨#[],[]⟩ p.w0:=by
  refine⟨⟨ij.refl _ _,λi h=>by simp[aL,cg] at h,λi j h=>by simp[aL,cg] at h,λi t cs h=>by simp[cg] at h,λq e' m w r=> ?_⟩,rfl,hN,rfl,rfl,Sk _ _,rfl,λt sv h=>by simp at h,λq e' m b w r h3=> ?_⟩;cases q with
  |succ q=>simp at w
  |zero=>
   simp only[zr,cG] at w;have r:m=.mk (.slice A H L) (fe Q):=(lT r).symm;subst w;subst r;refine⟨bJ.own x _ ab λl y hv=> ?_,λb _ i h=>by simp[aL,cg] at h⟩;simp only[RV.mH,Value.slice.injEq] at hv;rw[<-hv.2.2];exact hR.nil hv.1
  cases q with
  |succ q=>simp at w
  |zero=>
   simp only[zr,cG] at w;have r:m=.mk (.slice A H L) (fe Q):=(lT r).symm;injection w with w;subst w;subst r;have k:=a4 b h3;refine⟨.inr (by show b∈(kH A L).toList;rw[k];simp), ?_,λi h=>by simp[aL,cg] at h,λk' e' bl hk h=> ?_, ?_⟩;rcases hR.mem with u|⟨b',ba,rfl,hg,hm,bb⟩
   ·subst u;unfold kH at k;split at k<;>first|(cases k;done)|omega|skip
    all_goals simp_all
   have bd:b'=b:=by
    cases L with
    |zero=>cases k
    |succ y=>exact lT k
   subst bd;exact⟨H,L,ba,rfl,hg,a1,hm,bb⟩;cases k' with
   |zero=>exact aY rfl hk
   |succ k'=>simp at h
   rintro⟨i,j,br,y,P,q,_,_,hq,_⟩;exact hp j P q hq
 have bf:H<=1099511627776:=by
  have:=(aa _ _ _ ac).2;omega
 have bg:=hh p (.slice A H L) (fe Q) (fe aE) z rfl ag ⟨A,H,L,rfl,a0,bf⟩ (apf hK (fz.wJ hH)) hN ac (λex s O1 V a D k' bk RR hk hr=>by
  refine⟨bk,rfl, ?_⟩;obtain⟨g1,g2⟩:=ayC (cf:=oY Tryz.prog TT SG [] inl loops srts E chs) RR hk hr;exact⟨g1,⟨by have:=g2.le;rwa [zn] at this,g2.nil,by have:=g2.mem;rwa [apd,zn] at this⟩⟩)
 exact ayB ok hf d h0 rfl ht bg (λO hx=>by simp[oY] at hx) a9 (λex a D h=>h)
def ayK{V:Nat}{H:bm}{F:bq->ax->BD}{R:lA}{D:zy}{s:Bk}
  (r:Tryz.prog.funcs[G]?=U v)(q:v.body=U y)(p:v.results.toList=[])(m:u6 Tryz.prog G=J)(l:uI D)(k:bD (look TT) (.sl x)=R.map C5)(j:HV Tryz.prog R X A)
  (i:fH (oY Tryz.prog TT SG [] [] B D E s) V G y ⟨c++eI (v.ntmps-Y c) (.bP []),[],n,0,[.own x],0,0,[]⟩ iK VN=u)(h:VO R x X A F n u)
  (d:∀(P:bq)(z:RV),Y P=n->C.aF ⟨P,[],[z],[]⟩ [] c=z.val::(P.map (Value.int I)++[.func (.func X) #[] #[]]))
  (b:∀(P:List K)(L:bm)(O:ak)(M aE:ax),H.fill P=U L->ki O L w M=U aE->F (P.map (K.ah O)) M=U aE)(a:∀(P:bq)(M aE:ax),F P M=U aE->F P (fe M)=U (fe aE))
  (aa:∀(P:bq)(M aE:ax),F P M=U aE->Y P=n/\Y M<=1099511627776):pK Tryz.prog (look TT) G X x H w:=
 ⟨u7 m,λW Q n' ac M aE O P L ab hH hR hT=>ael (inl:=[]) r q p rfl l k j i h d a aa hH hR (b P L O M aE ab hT)⟩
def HW(W:X≠2)(h:mI X A z Q=U F):Y z=3:=by
 unfold mI at h;split at h
 all_goals first|rfl|(exact aY rfl W)|cases h
def api(h:mI 2 A z Q=U F):Y z=2:=by
 unfold mI at h;split at h
 all_goals first|rfl|cases h|(rename_i X;cases X)
def E6{k N n:Nat}{K:lA}{t:T}{args:av}{loops:List (Nat×Nat×fo)}{srts:zy}{chs:Bk}
  (P:Tryz.prog.funcs[G]?=U v)(M:v.body=U y)(L:v.results.toList=[])(H:u6 Tryz.prog G=J)(D:uI srts)(B:bD (look TT) (.sl x)=K.map C5)(z:HV Tryz.prog K X A)
  (w:fH (oY Tryz.prog TT SG [] [] loops srts E chs) n G y ⟨args++eI (v.ntmps-Y args) (.bP []),[],N,0,[.own x],0,0,[]⟩ iK VN=t)(u:PG K x X A k N t)
  (s:∀(W:bq)(R:RV),Y W=N->C.aF ⟨W,[],[R],[]⟩ [] args=R.val::(W.map (Value.int I)++[.func (.func X) #[] #[]]))
  (r:∀(W:bq)(V aE:ax),mI k A W V=U aE->Y W=N):pK Tryz.prog (look TT) G X x (.dh k A []) false:=
 ayK (F:=oW k A) P M L H D B z w u s (λW p O V aE Q q=>by
  simp only[bm.fill,cG] at Q;subst Q;exact q) (λW V aE h=>ayJ h) (λW V aE h=>⟨r W V aE (zY h).2,(zY h).1⟩)
abbrev dM(a b:K):K:=.bin .add I a b
abbrev dY(a b:K):K:=.bin .sub I a b
abbrev iw(a b:K):BE:=.cmp .lss a b
abbrev fl(a:K):C:=.int I a
abbrev fT(x:K)(k:Nat)(t:T):T:=.bz (.and (.cmp .leq (.c 0) x) (.cmp .lss x (.len (.v k)))) t
section
variable(e g i h j f N:Nat)(o:bm)(d:RE->K->av)
def VP:T:=(.loop 0 [.am (.own e),.int I] [(.am (.v 0)),(fl (.c 0))]
 (.aW (iw (.v 3) (.v 2))
 (fT (dM (.v 1) (.v 3)) 1
 (fT (dM (.v 1) (.v 3)) 1
 (fT (dM (.v 0) (.v 3)) 1
 (fT (dM (.v 0) (.v 3)) 1
 (fT (dM (.v 0) (.v 3)) 1
 (fT (dM (.v 0) (.v 3)) 1
 (.new e (.set (.am (.v 1)) (dM (.v 0) (.v 3)) 0 (d (.v 1) (dM (.v 1) (.v 3)))) [.ap,(.own e)] [.ap,.ap,(.own e)]
 (fT (dM (.v 1) (.v 3)) 2
 (fT (dM (.v 1) (.v 3)) 2
 (.new e (.set (.am (.v 2)) (dM (.v 1) (.v 3)) 0 (d (.v 1) (dM (.v 0) (.v 3)))) [.ap,.ap,(.own e)] [.ap,.ap,.ap,(.own e)]
 (.back 0 [(.am (.v 3)),(fl (dM (.v 3) (.c 1)))])))))))))))
 (.out .normal ⟨[],[],4,0,[.ap,(.own e)],0,0,[]⟩)))
def VQ:T:=(.loop 0 [.am (.own e),.int I,.int I] [(.am (.v 0)),(fl (dY (.v 1) (.v 0))),(fl (dY (.v 2) (.v 1)))]
 (.aW (.cmp .neq (.v 3) (.v 4))
 (.aW (.cmp .gtr (.v 3) (.v 4))
  (.dO i g e (.dh 0 o [(dY (.v 1) (.v 3)),(.v 1),(.v 4)]) E (.v 1) [.ap,(.own e)]
  (.back 0 [(.am (.v 2)),(fl (dY (.v 3) (.v 4))),(fl (.v 4))]))
  (.dO i g e (.dh 0 o [(dY (.v 1) (.v 3)),(dY (dM (.v 1) (.v 4)) (.v 3)),(.v 3)]) E (.v 1) [.ap,(.own e)]
  (.back 0 [(.am (.v 2)),(fl (.v 3)),(fl (dY (.v 4) (.v 3)))])))
 (.dO i g e (.dh 0 o [(dY (.v 1) (.v 3)),(.v 1),(.v 3)]) E (.v 1) [.ap,(.own e)]
 (.out .normal ⟨[],[],5,0,[.ap,.ap,(.own e)],0,0,[]⟩))))
def VR:T:=(.loop 0 [.am (.own e),.int I] [(.am (.v 0)),(fl (dM (.v 0) (.c 1)))]
 (.aW (iw (.v 2) (.v 1))
 (.loop 1 [.am (.own e),.int I] [(.am (.v 1)),(fl (.v 2))]
  (.aW (.cmp .gtr (.v 3) (.v 0))
  (fT (.v 3) 2
  (fT (.v 3) 2
  (fT (dY (.v 3) (.c 1)) 2
  (fT (dY (.v 3) (.c 1)) 2
  (.call g [(.agg (d (.v 2) (.v 3))),(.agg (d (.v 2) (dY (.v 3) (.c 1))))] [] [.ap,.ap,.ap] [.int I] (fl (.v 4))
  (.aW (iw (.v 4) (.c 0))
   (fT (dY (.v 3) (.c 1)) 2
   (fT (dY (.v 3) (.c 1)) 2
   (fT (.v 3) 2
   (fT (.v 3) 2
   (fT (.v 3) 2
   (fT (.v 3) 2
   (.new e (.set (.am (.v 2)) (.v 3) 0 (d (.v 2) (dY (.v 3) (.c 1)))) [.ap,.ap,(.own e)] [.ap,.ap,.ap,(.own e)]
   (fT (dY (.v 3) (.c 1)) 3
   (fT (dY (.v 3) (.c 1)) 3
   (.new e (.set (.am (.v 3)) (dY (.v 3) (.c 1)) 0 (d (.v 2) (.v 3))) [.ap,.ap,.ap,(.own e)] [.ap,.ap,.ap,.ap,(.own e)]
   (.back 1 [(.am (.v 4)),(fl (dY (.v 3) (.c 1)))])))))))))))
   (.back 0 [(.am (.v 2)),(fl (dM (.v 2) (.c 1)))])))))))
  (.back 0 [(.am (.v 2)),(fl (dM (.v 2) (.c 1)))])))
 (.out .normal ⟨[],[],3,0,[.ap,(.own e)],0,0,[]⟩)))
abbrev qc:K:=(.conv I (.bin .shr .u64 (.conv .u64 (dM (.v 3) (.v 4))) (.c 1)))
abbrev dS:K:=(.conv I (.bin .shr .u64 (.conv .u64 (dM (.v 0) (.v 2))) (.c 1)))
def PH:T:=(.aW (iw (.v 3) (.v 1))
   (.aW (iw (.v 1) (dY (dM dS (.v 1)) (.v 3)))
    (.dO h g e (.dh 1 o [(.v 3),(.v 1),(dY (dM dS (.v 1)) (.v 3))]) E (.v 1) [.ap,(.own e)]
    (.aW (iw (.v 0) (.v 3))
    (.aW (iw (.v 3) dS)
     (.dO f g e (.dh (N+3) o [(.v 0),(.v 3),dS]) E (.v 2) [.ap,.ap,(.own e)]
     (.aW (iw dS (dY (dM dS (.v 1)) (.v 3)))
     (.aW (iw (dY (dM dS (.v 1)) (.v 3)) (.v 2))
      (.dO f g e (.dh (N+3) o [dS,(dY (dM dS (.v 1)) (.v 3)),(.v 2)]) E (.v 3) [.ap,.ap,.ap,(.own e)]
      (.out .normal ⟨[],[],5,0,[.ap,.ap,.ap,.ap,(.own e)],0,0,[]⟩))
      (.out .normal ⟨[],[],5,0,[.ap,.ap,.ap,(.own e)],0,0,[]⟩))
     (.out .normal ⟨[],[],5,0,[.ap,.ap,.ap,(.own e)],0,0,[]⟩)))
     (.aW (iw dS (dY (dM dS (.v 1)) (.v 3)))
     (.aW (iw (dY (dM dS (.v 1)) (.v 3)) (.v 2))
      (.dO f g e (.dh (N+3) o [dS,(dY (dM dS (.v 1)) (.v 3)),(.v 2)]) E (.v 2) [.ap,.ap,(.own e)]
      (.out .normal ⟨[],[],5,0,[.ap,.ap,.ap,(.own e)],0,0,[]⟩))
      (.out .normal ⟨[],[],5,0,[.ap,.ap,(.own e)],0,0,[]⟩))
     (.out .normal ⟨[],[],5,0,[.ap,.ap,(.own e)],0,0,[]⟩)))
    (.aW (iw dS (dY (dM dS (.v 1)) (.v 3)))
     (.aW (iw (dY (dM dS (.v 1)) (.v 3)) (.v 2))
     (.dO f g e (.dh (N+3) o [dS,(dY (dM dS (.v 1)) (.v 3)),(.v 2)]) E (.v 2) [.ap,.ap,(.own e)]
     (.out .normal ⟨[],[],5,0,[.ap,.ap,.ap,(.own e)],0,0,[]⟩))
     (.out .normal ⟨[],[],5,0,[.ap,.ap,(.own e)],0,0,[]⟩))
     (.out .normal ⟨[],[],5,0,[.ap,.ap,(.own e)],0,0,[]⟩))))
    (.aW (iw (.v 0) (.v 3))
    (.aW (iw (.v 3) dS)
     (.dO f g e (.dh (N+3) o [(.v 0),(.v 3),dS]) E (.v 1) [.ap,(.own e)]
     (.aW (iw dS (dY (dM dS (.v 1)) (.v 3)))
     (.aW (iw (dY (dM dS (.v 1)) (.v 3)) (.v 2))
      (.dO f g e (.dh (N+3) o [dS,(dY (dM dS (.v 1)) (.v 3)),(.v 2)]) E (.v 2) [.ap,.ap,(.own e)]
      (.out .normal ⟨[],[],5,0,[.ap,.ap,.ap,(.own e)],0,0,[]⟩))
      (.out .normal ⟨[],[],5,0,[.ap,.ap,(.own e)],0,0,[]⟩))
     (.out .normal ⟨[],[],5,0,[.ap,.ap,(.own e)],0,0,[]⟩)))
     (.aW (iw dS (dY (dM dS (.v 1)) (.v 3)))
     (.aW (iw (dY (dM dS (.v 1)) (.v 3)) (.v 2))
      (.dO f g e (.dh (N+3) o [dS,(dY (dM dS (.v 1)) (.v 3)),(.v 2)]) E (.v 1) [.ap,(.own e)]
      (.out .normal ⟨[],[],5,0,[.ap,.ap,(.own e)],0,0,[]⟩))
      (.out .normal ⟨[],[],5,0,[.ap,(.own e)],0,0,[]⟩))
     (.out .normal ⟨[],[],5,0,[.ap,(.own e)],0,0,[]⟩)))
    (.aW (iw dS (dY (dM dS (.v 1)) (.v 3)))
     (.aW (iw (dY (dM dS (.v 1)) (.v 3)) (.v 2))
     (.dO f g e (.dh (N+3) o [dS,(dY (dM dS (.v 1)) (.v 3)),(.v 2)]) E (.v 1) [.ap,(.own e)]
     (.out .normal ⟨[],[],5,0,[.ap,.ap,(.own e)],0,0,[]⟩))
     (.out .normal ⟨[],[],5,0,[.ap,(.own e)],0,0,[]⟩))
     (.out .normal ⟨[],[],5,0,[.ap,(.own e)],0,0,[]⟩))))
   (.aW (iw (.v 0) (.v 3))
    (.aW (iw (.v 3) dS)
    (.dO f g e (.dh (N+3) o [(.v 0),(.v 3),dS]) E (.v 1) [.ap,(.own e)]
    (.aW (iw dS (dY (dM dS (.v 1)) (.v 3)))
     (.aW (iw (dY (dM dS (.v 1)) (.v 3)) (.v 2))
     (.dO f g e (.dh (N+3) o [dS,(dY (dM dS (.v 1)) (.v 3)),(.v 2)]) E (.v 2) [.ap,.ap,(.own e)]
     (.out .normal ⟨[],[],5,0,[.ap,.ap,.ap,(.own e)],0,0,[]⟩))
     (.out .normal ⟨[],[],5,0,[.ap,.ap,(.own e)],0,0,[]⟩))
     (.out .normal ⟨[],[],5,0,[.ap,.ap,(.own e)],0,0,[]⟩)))
    (.aW (iw dS (dY (dM dS (.v 1)) (.v 3)))
     (.aW (iw (dY (dM dS (.v 1)) (.v 3)) (.v 2))
     (.dO f g e (.dh (N+3) o [dS,(dY (dM dS (.v 1)) (.v 3)),(.v 2)]) E (.v 1) [.ap,(.own e)]
     (.out .normal ⟨[],[],5,0,[.ap,.ap,(.own e)],0,0,[]⟩))
     (.out .normal ⟨[],[],5,0,[.ap,(.own e)],0,0,[]⟩))
     (.out .normal ⟨[],[],5,0,[.ap,(.own e)],0,0,[]⟩)))
    (.aW (iw dS (dY (dM dS (.v 1)) (.v 3)))
    (.aW (iw (dY (dM dS (.v 1)) (.v 3)) (.v 2))
     (.dO f g e (.dh (N+3) o [dS,(dY (dM dS (.v 1)) (.v 3)),(.v 2)]) E (.v 1) [.ap,(.own e)]
     (.out .normal ⟨[],[],5,0,[.ap,.ap,(.own e)],0,0,[]⟩))
     (.out .normal ⟨[],[],5,0,[.ap,(.own e)],0,0,[]⟩))
    (.out .normal ⟨[],[],5,0,[.ap,(.own e)],0,0,[]⟩))))
def aem:T:=(.loop 0 [.am (.own e),.int I,.int I] [(.am (.v 0)),(fl (.v 1)),(fl (.v 2))]
 (.aW (iw (.v 3) (.v 4))
  (fT qc 1
  (fT qc 1
  (fT (.v 0) 1
  (fT (.v 0) 1
  (.call g [(.agg (d (.v 1) qc)),(.agg (d (.v 1) (.v 0)))] [] [.ap,.ap] [.int I] (fl (.v 5))
  (.bz (.c J)
  (.aW (iw (.v 5) (.c 0))
  (.back 0 [(.am (.v 1)),(fl (dM qc (.c 1))),(fl (.v 4))])
  (.back 0 [(.am (.v 1)),(fl (.v 3)),(fl qc)]))))))))
  (.loop 1 [.am (.own e),.int I] [(.am (.v 1)),(fl (.v 0))]
  (.aW (iw (.v 5) (dY (.v 3) (.c 1)))
   (fT (dM (.v 5) (.c 1)) 2
   (fT (dM (.v 5) (.c 1)) 2
   (fT (.v 5) 2
   (fT (.v 5) 2
   (fT (.v 5) 2
   (fT (.v 5) 2
   (.new e (.set (.am (.v 2)) (.v 5) 0 (d (.v 2) (dM (.v 5) (.c 1)))) [.ap,.ap,(.own e)] [.ap,.ap,.ap,(.own e)]
   (fT (dM (.v 5) (.c 1)) 3
   (fT (dM (.v 5) (.c 1)) 3
   (.new e (.set (.am (.v 3)) (dM (.v 5) (.c 1)) 0 (d (.v 2) (.v 5))) [.ap,.ap,.ap,(.own e)] [.ap,.ap,.ap,.ap,(.own e)]
   (.back 1 [(.am (.v 4)),(fl (dM (.v 5) (.c 1)))])))))))))))
   (.out .ret ⟨[],[],6,0,[.ap,.ap,(.own e)],0,0,[]⟩)))))
def aen:T:=(.loop 0 [.am (.own e),.int I,.int I] [(.am (.v 0)),(fl (.v 0)),(fl (.v 1))]
  (.aW (iw (.v 3) (.v 4))
  (fT (.v 1) 1
  (fT (.v 1) 1
  (fT qc 1
  (fT qc 1
  (.call g [(.agg (d (.v 1) (.v 1))),(.agg (d (.v 1) qc))] [] [.ap,.ap] [.int I] (fl (.v 5))
  (.bz (.c J)
  (.bz (.c J)
  (.aW (.not (iw (.v 5) (.c 0)))
   (.back 0 [(.am (.v 1)),(fl (dM qc (.c 1))),(fl (.v 4))])
   (.back 0 [(.am (.v 1)),(fl (.v 3)),(fl qc)])))))))))
  (.loop 1 [.am (.own e),.int I] [(.am (.v 1)),(fl (.v 1))]
   (.aW (.cmp .gtr (.v 5) (.v 3))
   (fT (dY (.v 5) (.c 1)) 2
   (fT (dY (.v 5) (.c 1)) 2
   (fT (.v 5) 2
   (fT (.v 5) 2
   (fT (.v 5) 2
   (fT (.v 5) 2
   (.new e (.set (.am (.v 2)) (.v 5) 0 (d (.v 2) (dY (.v 5) (.c 1)))) [.ap,.ap,(.own e)] [.ap,.ap,.ap,(.own e)]
   (fT (dY (.v 5) (.c 1)) 3
   (fT (dY (.v 5) (.c 1)) 3
   (.new e (.set (.am (.v 3)) (dY (.v 5) (.c 1)) 0 (d (.v 2) (.v 5))) [.ap,.ap,.ap,(.own e)] [.ap,.ap,.ap,.ap,(.own e)]
   (.back 1 [(.am (.v 4)),(fl (dY (.v 5) (.c 1)))])))))))))))
   (.out .ret ⟨[],[],6,0,[.ap,.ap,(.own e)],0,0,[]⟩)))))
def VS:T:=(fT (dY (dY (dM dS (.v 1)) (.c 1)) qc) 1
   (fT (dY (dY (dM dS (.v 1)) (.c 1)) qc) 1
   (fT qc 1
   (fT qc 1
   (.call g [(.agg (d (.v 1) (dY (dY (dM dS (.v 1)) (.c 1)) qc))),(.agg (d (.v 1) qc))] [] [.ap,.ap] [.int I] (fl (.v 5))
   (.bz (.c J)
   (.bz (.c J)
   (.aW (.not (iw (.v 5) (.c 0)))
   (.back 0 [(.am (.v 1)),(fl (dM qc (.c 1))),(fl (.v 4))])
   (.back 0 [(.am (.v 1)),(fl (.v 3)),(fl qc)])))))))))
def ayL:T:=(.loop 0 [.am (.own e),.int I,.int I] [(.am (.v 0)),(fl (dY (dM dS (.v 1)) (.v 2))),(fl dS)]
 (.aW (iw (.v 3) (.v 4)) (VS g d) (PH e g h f N o)))
def ayM:T:=(.loop 0 [.am (.own e),.int I,.int I] [(.am (.v 0)),(fl (.v 0)),(fl (.v 1))]
 (.aW (iw (.v 3) (.v 4)) (VS g d) (PH e g h f N o)))
def VT:T:=(.aW (.cmp .eql (dY (.v 1) (.v 0)) (.c 1)) (aem e g d) (.aW (.cmp .eql (dY (.v 2) (.v 1)) (.c 1)) (aen e g d) (.aW (.cmp .gtr (.v 1) dS) (ayL e g h f N o d) (ayM e g h f N o d))))
def VU:T:=(.loop 0 [.am (.own e),.int I,.int I] [(.am (.v 0)),(fl (.c 20)),(fl (.c 0))]
 (.aW (.cmp .leq (.v 0) (.len (.v 0)))
 (.dO j g e (.dh 2 o [(.v 1),(.v 0)]) E (.v 1) [.ap,(.own e)]
 (.back 0 [(.am (.v 2)),(fl (dM (.v 0) (.c 20))),(fl (.v 0))]))
 (.dO j g e (.dh 2 o [(.v 1),(.len (.v 0))]) E (.v 1) [.ap,(.own e)]
 (.loop 1 [.am (.own e),.int I] [(.am (.v 2)),(fl (.c 20))]
  (.aW (iw (.v 2) (.len (.v 0)))
  (.loop 2 [.am (.own e),.int I,.int I] [(.am (.v 3)),(fl (.bin .mul I (.c 2) (.v 2))),(fl (.c 0))]
   (.aW (.cmp .leq (.v 3) (.len (.v 0)))
   (.dO f g e (.dh (N+3) o [(.v 4),(dM (.v 4) (.v 2)),(.v 3)]) E (.v 4) [.ap,.ap,.ap,.ap,(.own e)]
   (.back 2 [(.am (.v 5)),(fl (dM (.v 3) (.bin .mul I (.c 2) (.v 2)))),(fl (.v 3))]))
   (.aW (iw (dM (.v 4) (.v 2)) (.len (.v 0)))
    (.dO f g e (.dh (N+3) o [(.v 4),(dM (.v 4) (.v 2)),(.len (.v 0))]) E (.v 4) [.ap,.ap,.ap,.ap,(.own e)]
    (.back 1 [(.am (.v 5)),(fl (.bin .mul I (.v 2) (.c 2)))]))
    (.back 1 [(.am (.v 4)),(fl (.bin .mul I (.v 2) (.c 2)))]))))
  (.out .normal ⟨[],[],3,0,[.ap,.ap,.ap,(.own e)],0,0,[]⟩))))))
end
structure HP where
 K:lA
 g:Nat
 o:bm
 e:TypeId
 v:Value
 aE:ax
def aeo(O:ak)(l:av)(x:aH):Prop:=∀y V,C.aF (O.at y) V l=x.map RV.val
def HX(c:Option LC)(X:bn):Prop:=match c with
 |U c=>c.I X/\c.μ X<c.m
 |none=>False
def ayN(h:HP)(f:FuncId)(V:av)(R:aQ)(jf:C)(O:ak)(k:Int->Prop):Prop:=f=h.g/\R=[.int I]/\jf=.int I (.v (Y O.i))/\∃X W x y,V=[.agg X,.agg W]/\aeo O X x/\aeo O W y/\jl h.K x/\jl h.K y/\h.o.ok x=J/\h.o.ok y=J/\∀c:Int,(c<0<->h.o.lt x y=J)->k c
def T.hw(h:HP):T->ak->dm->Prop
 |.out V s,O,_=>(V=.normal\/V=.ret)/\∃k,s.rs[k]?=U (.own h.e)/\O.rv k=.mk h.v h.aE
 |.aW b t f,O,L=>if b.ah O=J then t.hw h O L else f.hw h O L
 |.bz b t,O,L=>b.ah O=J/\t.hw h O L
 |.call f P _ _ N jf t,O,L=>ayN h f P N jf O λc=>t.hw h (O.add (.i c)) L
 |.loop aA _ M t,O,L=>∃X R,X (M.map (C.xv O))/\∀W,X W->t.hw h (O.ext W) (⟨aA,X,R,R W⟩::L)
 |.back aA x,O,L=>HX (nM aA L) (x.map (C.xv O))
 |.new _ (.set (.am (.v k)) i H G) _ _ t,O,L=>t.hw h (O.add (.r (.mk (O.rv k).val (LE.aj O (.set (.am (.v k)) i H G))))) L
 |.dO _ _ _ F D r _ t,O,L=>∃Q,ki O F D (r.rv O).aj=U Q/\t.hw h (O.add (.r (.mk (r.rv O).val Q))) L
 |_,_,_=>False
def xE(h:HP){p:Sp}(F:HV p.P h.K h.g h.o)(D:Tgt p h.e h.v h.aE):∀(t:T)(O:ak)(L:dm),t.hw h O L->t.aP p O L
 |.out ex s,O,L,Q=>by
  obtain⟨B,k,z,u⟩:=Q;intro y V a W R;refine D _ s (O.at y) V a W k ?_ R z u;rcases B with rfl|rfl;exact .inl rfl;exact .inr rfl
 |.aW b t f,O,L,Q=>by
  simp only[T.hw] at Q;refine⟨λq=>xE h F D t O L ?_,λq=>xE h F D f O L ?_⟩
  rwa [aI q] at Q
  rwa [aK (by simp[q])] at Q
 |.bz b t,O,L,Q=>⟨Q.1,xE h F D t O L Q.2⟩
 |.call f ac bx N d jf t,O,L,Q=>by
  obtain⟨rfl,rfl,rfl,l1,l2,x,y,rfl,B,z,u,h4,h5,h6,h7⟩:=Q;intro m V W R;have e:(C.aF (O.at m) V [.agg l1,.agg l2]).toArray= #[.agg (x.map RV.val).toArray,.agg (y.map RV.val).toArray]:=by
   simp only[C.aF,C.ah,B m V,z m V]
  rw[e];refine(F W x y u h4 h5 h6).mono ?_;rintro en W' ⟨hB,c,rfl,aa⟩;refine⟨[.i c],⟨trivial,trivial⟩, ?_,hB,⟨trivial,trivial⟩, ?_⟩;simp[C.ah,K.ah,ak.ext,ak.add,ak.at];exact xE h F D t (O.add (.i c)) L (h7 c aa)
 |.loop aA d x0 t,O,L,Q=>by
  obtain⟨X,μ,B,z⟩:=Q;exact⟨X,μ,B,λxs _ hx=>xE h F D t _ _ (z xs hx)⟩
 |.back aA x,O,L,Q=>by
  simp only[T.hw,HX] at Q;simp only[T.aP];cases j:nM aA L with
  |none=>rw[j] at Q;exact Q
  |some c=>rw[j] at Q;exact Q
 |.new e (.set (.am (.v k)) i G H) N M t,O,L,Q=>by
  intro rv hn;obtain⟨⟨A,n,c,rfl,hl⟩,_,w⟩:=hn;have w:=w k i G H rfl;refine xE h F D t _ L ?_;simp only[RV.mH] at w;rw[w];exact Q
 |.new e (.am r) N M t,O,L,Q=>by simp[T.hw] at Q
 |.new e (.lit l) N M t,O,L,Q=>by simp[T.hw] at Q
 |.new e (.mW a b) N M t,O,L,Q=>by simp[T.hw] at Q
 |.new e (.uP n af) N M t,O,L,Q=>by simp[T.hw] at Q
 |.new e (.sub a lo hi) N M t,O,L,Q=>by simp[T.hw] at Q
 |.new e (.ins a n H) N M t,O,L,Q=>by simp[T.hw] at Q
 |.new e (.set (.am (.k _)) i G H) N M t,O,L,Q=>by simp[T.hw] at Q
 |.new e (.set (.lit _) i G H) N M t,O,L,Q=>by simp[T.hw] at Q
 |.new e (.set (.mW _ _) i G H) N M t,O,L,Q=>by simp[T.hw] at Q
 |.new e (.set (.uP _ _) i G H) N M t,O,L,Q=>by simp[T.hw] at Q
 |.new e (.set (.set _ _ _ _) i G H) N M t,O,L,Q=>by simp[T.hw] at Q
 |.new e (.set (.sub _ _ _) i G H) N M t,O,L,Q=>by simp[T.hw] at Q
 |.new e (.set (.ins _ _ _) i G H) N M t,O,L,Q=>by simp[T.hw] at Q
 |.new e (.set (.am (.cell _ _ _ _)) i G H) N M t,O,L,Q=>by simp[T.hw] at Q
 |.dO f g e sp st r N t,O,L,Q=>by
  obtain⟨ab,B,z⟩:=Q;exact⟨ab,B,xE h F D t _ L z⟩
 |.ret ..,_,_,Q=>by simp[T.hw] at Q
 |.bI ..,_,_,Q=>by simp[T.hw] at Q
 |.aj ..,_,_,Q=>by simp[T.hw] at Q
 |.gE ..,_,_,Q=>by simp[T.hw] at Q
 |.pick ..,_,_,Q=>by simp[T.hw] at Q
 |.stuck _,_,_,Q=>by simp[T.hw] at Q
section
variable{h:HP}{O:ak}{L:dm}
def HY{X:ak}(e:O=X):T.hw h u O L=T.hw h u X L:=by rw[e]
def v8(b:BE)(t f:T):T.hw h (.aW b t f) O L=(if b.ah O=J then t.hw h O L else f.hw h O L):=rfl
def HZ(b:BE)(t:T):T.hw h (.bz b t) O L=(b.ah O=J/\t.hw h O L):=rfl
def H0(aA:Nat)(x:av):T.hw h (.back aA x) O L=HX (nM aA L) (x.map (C.xv O)):=rfl
def H3(e:TypeId)(k:Nat)(i:K)(X:Nat)(W:av)(V R:bp)(t:T):T.hw h (.new e (.set (.am (.v k)) i X W) V R t) O L=t.hw h (O.add (.r (.mk (O.rv k).val (LE.aj O (.set (.am (.v k)) i X W))))) L:=rfl
def A9(f g:FuncId)(e:TypeId)(X:bm)(W:Bool)(r:RE)(R:bp)(t:T):T.hw h (.dO f g e X W r R t) O L=(∃V,ki O X W (r.rv O).aj=U V/\t.hw h (O.add (.r (.mk (r.rv O).val V))) L):=rfl
def Ba(X:XE)(s:S):T.hw h (.out X s) O L=((X=.normal\/X=.ret)/\∃k,s.rs[k]?=U (.own h.e)/\O.rv k=.mk h.v h.aE):=rfl
def xF{Q:aQ}(W:bn->Prop)(V:bn->Nat)(P:W (c.map (C.xv O)))(N:∀R,W R->u.hw h (O.ext R) (⟨X,W,V,V R⟩::L)):T.hw h (.loop X Q c u) O L:=⟨W,V,P,N⟩
end
section
attribute[local simp] K.ah BE.ah RE.rv RE.ah gX ak.rv ak.ext ak.add C.xv v8 HZ H0 H3 A9 Ba LE.aj nM
attribute[local congr] HY
structure C6(d:lA)(f:RE->K->av):Prop where
 cj:∀(O:ak)(r:RE)(i:K)(x:aH),(r.rv O).aj[(i.ah O).toNat]?=U x->jl d x->(f r i).map (C.cj O)=x
 ah:∀(O:ak)(r:RE)(i:K)(x:aH),(r.rv O).aj[(i.ah O).toNat]?=U x->jl d x->aeo O (f r i) x
def aep:∀{d:lA}{x:aH},jl d x->Y x=Y d
 |[],_,h=>by cases h;rfl
 |_::_,[],h=>h.elim
 |_::_,_::_,h=>by simp[aep h.2]
def apj:∀(x W X:aH),Y W=Y x->fJ (X++W) (Y X) x=X++x
 |[],W,X,h=>by
  have:W=[]:=rZ h;subst this;rfl
 |v::r,[],X,h=>by simp at h
 |v::r,c::W,X,h=>by
  have V:=apj r W (X++[v]) (by simpa using h);simp only[gD,oK,Qf,H7,fG,gr] at V;simp only[fJ];rw[Wf _ _ (cd _),Wv,aDy];exact V
def E7{d:lA}{x:aH}(P:∀y∈Q,jl d y)(O:jl d x):(Q.modify X λW=>fJ W 0 x)=Q.set X x:=by
 apply ke;intro k;rw[P7,uL];by_cases R:X=k;subst R;simp only[cS];cases V:Q[X]? with
 |none=>
  have:=Be.1 V;rw[aK ae];rfl
 |some W=>
  obtain⟨N,_⟩:=bZ.1 V;rw[aI N];have:=apj x W [] (by rw[aep (P W (jm V)),aep O]);simpa using this
 simp[R]
def PI{n:Int}(X:-9223372036854775808<=n)(W:n<9223372036854775808):IntKind.i64.wrap n=n:=by
 rw[IntKind.wrap_i64];omega
def zo{a b:Nat}(h:a+b<=4398046511104):aU .add I (a:Int) (b:Int)=((a+b:Nat):Int):=by
 simp only[aU];rw[PI ae ae];omega
def xG{a b:Nat}(h:b<=a)(X:a<=4398046511104):aU .sub I (a:Int) (b:Int)=((a-b:Nat):Int):=by
 simp only[aU];rw[PI ae ae];omega
def C7{a:Nat}(h:a<=4398046511103):aU .add I (a:Int) 1=((a+1:Nat):Int):=zo (b:=1) ae
def VV{a:Nat}(h:1<=a)(X:a<=4398046511104):aU .sub I (a:Int) 1=((a-1:Nat):Int):=xG (b:=1) h X
def ayO(W:ax)(M:X+n<=x)(V:x+n<=Y W)(k:Nat):
  (W.take X++(bc W x (x+n)++(bc W (X+n) x++(bc W X (X+n)++W.drop (x+n)))))[k]?=if X<=k/\k<X+n then W[k-X+x]? else if x<=k/\k<x+n then W[k-x+X]? else W[k]?:=by
 have R:(W.take X).length=X:=dF;have Q:(bc W x (x+n)).length=n:=by rw[qB W V];omega
 have P:(bc W (X+n) x).length=x-(X+n):=qB W ae;have O:(bc W X (X+n)).length=n:=by rw[qB W ae];omega
 by_cases N:k<X;rw[dU ae,aK ae,aK ae,mB,aI N];rw[iC ae,R];by_cases L:k<X+n;rw[dU ae,aI ae,NI W ae];congr 1;omega;rw[iC ae,Q,aK ae];by_cases H:k<x;rw[dU ae,aK ae,NI W ae];congr 1;omega;rw[iC ae,P];by_cases G:k<x+n;rw[dU ae,aI ae,NI W ae];congr 1;omega;rw[iC ae,O,aK ae,tF];congr 1;omega
def Bb(h:Y z=3):∃a b c,z=[a,b,c]:=by
 match z,h with
 |[a,b,c],_=>exact⟨a,b,c,rfl⟩
def two(h:Y z=2):∃a b,z=[a,b]:=by
 match z,h with
 |[a,b],_=>exact⟨a,b,rfl⟩
def zp{a:Int}(h:0<=a):∃n:Nat,a=n:=⟨a.toNat,ae⟩
section
variable{d:lA}{e g:Nat}{o:bm}{f:RE->K->av}
def apk(B:C6 d f):PG d e g o 0 3 (VP e f):=by
 rintro p _ W aE ns hP aa ⟨A,n,R,rfl,ab,hn⟩ hT hN V ac;obtain⟨a,b,m,rfl⟩:=Bb hN;obtain⟨_,V⟩:=zY V;simp only[mI] at V;split at V;rename_i O;simp only[az,cF] at O;obtain⟨a,rfl⟩:=zp O.1.1.1;obtain⟨m,rfl⟩:=zp O.1.1.2;obtain⟨b,rfl⟩:=zp (a:=b) ae;have h1:a+m<=b:=ae;have h2:b+m<=Y W:=ae;simp only[cG] at V;have e1:((a:Int)).toNat=a:=rfl;have e2:((b:Int)).toNat=b:=rfl;have e3:((b:Int)+(m:Int)).toNat=b+m:=ae;have e4:((a:Int)+(m:Int)).toNat=a+m:=ae;rw[e1,e2,e3,e4] at V;have w:=ayO W h1 h2;rw[V] at w;clear V;refine xE ⟨d,g,o,e,.slice A n R,aE⟩ (hP▸aa) ac _ _ _ ?_;unfold VP;refine xF (λN=>∃(i:Nat)(X:ax),N=[.r (.mk (.slice A n R) X),.i i]/\i<=m/\Y X=n/\(∀x∈X,jl d x)/\∀k:Nat,X[k]?=if a<=k/\k<a+i then W[k-a+b]? else if b<=k/\k<b+i then W[k-b+a]? else W[k]?) (λN=>match N with|[_,.i j]=>m-j.toNat|_=>0) ⟨0,W,rfl,ae,ab,hT,λk=>by rw[aK ae,aK ae]⟩ ?_;rintro _ ⟨i,X,rfl,hi,hl,Q,P⟩;by_cases af:i<m;obtain⟨x,M⟩:∃x,X[a+i]?=U x:=bZ.2 ⟨ae,rfl⟩|>λh=>⟨_,h⟩
 obtain⟨y,L⟩:∃y,X[b+i]?=U y:=bZ.2 ⟨ae,rfl⟩|>λh=>⟨_,h⟩
 have H:=Q x (jm M);have G:=Q y (jm L);have u:=zo (a:=a) (b:=i) ae;have t:=zo (a:=b) (b:=i) ae;have c1:zx (C.cj ⟨[(a:Int),b,m,i],[],[.mk (.slice A n R) W,.mk (.slice A n R) X],[]⟩) (f (.v 1) (.bin .add I (.v 1) (.v 3)))=y:=B.cj _ _ _ y (by simp only[RE.rv,ak.rv,K.ah,LQ,Ff,RV.jD,t,zu];exact L) G;have c2:∀s,zx (C.cj ⟨[(a:Int),b,m,i],[],[.mk (.slice A n R) W,.mk (.slice A n R) X,s],[]⟩) (f (.v 1) (.bin .add I (.v 0) (.v 3)))=x:=λs=>B.cj _ _ _ x (by simp only[RE.rv,ak.rv,K.ah,LQ,Ff,RV.jD,u,zu];exact M) H
 have m1:(X.modify (a+i) λF=>fJ F 0 y)=X.set (a+i) y:=E7 Q G;have q:∀z∈X.set (a+i) y,jl d z:=λz D=>by
  rcases C9 D with h|rfl;exact Q z h;exact G
 have m2:((X.set (a+i) y).modify (b+i) λF=>fJ F 0 x)=(X.set (a+i) y).set (b+i) x:=E7 q H;have t1:((a:Int)+(i:Int)).toNat=a+i:=ae;have t2:((b:Int)+(i:Int)).toNat=b+i:=ae;simp[u,t,C7 (a:=i) ae,af,c1,c2,t1,t2,m1,m2,lenOf];refine⟨ae,ae,ae,⟨i+1,_,rfl,ae,by simp[hl],λz D=> ?_,λk=> ?_⟩,show m-((i:Int)+1).toNat<m-i from ae⟩;rcases C9 D with h|rfl;exact q z h;exact H;have ag:W[a+i]?=U x:=by
  have:=P (a+i);rw[aK ae,aK ae] at this;rw[<-this];exact M
 have al:W[b+i]?=U y:=by
  have:=P (b+i);rw[aK ae,aK ae] at this;rw[<-this];exact L
 rw[uL,uL];by_cases l:b+i=k;subst l;rw[aI rfl,aI dF,aK ae,aI ae,<-ag];congr 1;omega;rw[aK l];by_cases c:a+i=k;subst c;rw[aI rfl,aI ae,aI ae,<-al];congr 1;omega;rw[aK c,P k];by_cases k3:a<=k/\k<a+i;rw[aI k3,aI ae];rw[aK k3];by_cases k4:b<=k/\k<b+i;rw[aI k4,aK ae,aI ae];rw[aK k4,aK ae,aK ae];have an:i=m:=ae;subst an;have a0:X=aE:=ke λk=>by rw[P k,w k]
 subst a0;simp;exact⟨1,rfl,rfl⟩;cases V
end
end
section
attribute[local simp] K.ah BE.ah RE.rv RE.ah gX ak.rv ak.ext ak.add C.xv v8 HZ H0 H3 A9 Ba LE.aj nM ki
attribute[local congr] HY
def PJ(P S Q:ax):bc (P++(S++Q)) (Y P) (Y P+Y S)=S:=by simp[bc]
def PK{W P Q:ax}(h:W=P++(F++Q))(V:X=Y P)(R:x=X+Y F):bc W X x=F:=by
 subst h;subst V;subst R;exact PJ P F Q
def aeq{o:bm}{P X M Y Q:ax}{a b n:Int}(W:a=P.length)(V:b=P.length+X.length+M.length)(R:n=X.length)(y:Y.length=X.length)(O:(P++(X++(M++(Y++Q)))).length<=1099511627776):
  oW 0 o [a,b,n] (P++(X++(M++(Y++Q))))=U (P++(Y++(M++(X++Q)))):=by
 subst W;subst V;subst R;unfold oW;rw[aI O];simp only[mI];rw[aI (by simp only[az,cF,gD];omega)];have N:((P.length:Int)).toNat=P.length:=rfl;have L:((P.length:Int)+X.length+M.length).toNat=P.length+X.length+M.length:=ae;have H:((P.length:Int)+X.length+M.length+X.length).toNat=P.length+X.length+M.length+X.length:=ae;have G:((P.length:Int)+X.length).toNat=P.length+X.length:=ae;rw[N,L,H,G];have F:(P++(X++(M++(Y++Q)))).take P.length=P:=ay;have D:bc (P++(X++(M++(Y++Q)))) (P.length+X.length+M.length) (P.length+X.length+M.length+X.length)=Y:=PK (P:=P++(X++M)) (Q:=Q) ay dF ae;have B:bc (P++(X++(M++(Y++Q)))) (P.length+X.length) (P.length+X.length+M.length)=M:=PK (P:=P++X) (Q:=Y++Q) ay ay rfl;have A:bc (P++(X++(M++(Y++Q)))) P.length (P.length+X.length)=X:=PJ P X _;have z:(P++(X++(M++(Y++Q)))).drop (P.length+X.length+M.length+X.length)=Q:=by
  have:P++(X++(M++(Y++Q)))=(P++(X++(M++Y)))++Q:=ay;rw[this,Wq dF]
 rw[F,D,B,A,z]
def apl(W:ax)(V:X<=x)(R:x<=n):W.take X++(bc W X x++(bc W x n++W.drop n))=W:=by
 rw[<-H7 (bc W X x),<-pe W V R,JQ W ae]
def tD{c:Prop}[Decidable c]{A B:Prop}(X:c->A)(W:¬c->B):if c then A else B:=by
 by_cases h:c;rw[aI h];exact X h;rw[aK h];exact W h
section
variable{d:lA}{e g f:Nat}{o:bm}{k:RE->K->av}
def apm:PG d e g o 1 3 (VQ e g f o):=by
 rintro p _ W aE ns s q ⟨y,n,x,rfl,l,hn⟩ hT k L h;obtain⟨a,m,b,rfl⟩:=Bb k;obtain⟨_,L⟩:=zY L;simp only[mI] at L;split at L;rename_i w;simp only[az,cF] at w;obtain⟨a,rfl⟩:=zp w.1.1.1;obtain⟨m,rfl⟩:=zp (a:=m) ae;obtain⟨b,rfl⟩:=zp (a:=b) ae;simp only[cG,zu] at L;have v:b<=W.length:=ae;refine xE ⟨d,g,o,e,.slice y n x,aE⟩ (s▸q) h _ _ _ ?_;unfold VQ;refine xF (λF=>∃(P A B Q:ax),F=[.r (.mk (.slice y n x) (P++(A++(B++Q)))),.i A.length,.i B.length]/\1<=A.length/\1<=B.length/\P.length+A.length=m/\m+B.length<=b/\(P++(A++(B++Q))).length=n/\P++(B++(A++Q))=aE) (λF=>match F with|[_,.i i,.i j]=>i.toNat+j.toNat|_=>0) ⟨W.take a,bc W a m,bc W m b,W.drop b, ?_, ?_⟩ ?_;have c:W.take a++(bc W a m++(bc W m b++W.drop b))=W:=by
  exact apl W ae ae
 have u:(bc W a m).length=m-a:=qB W ae;have t:(bc W m b).length=b-m:=qB W v;simp only[eE,Bi,C.xv,RE.rv,ak.rv,Ff,LQ,K.ah,c,u,t];rw[xG (a:=m) (b:=a) ae ae,xG (a:=b) (b:=m) ae ae];have u:(bc W a m).length=m-a:=qB W ae;have t:(bc W m b).length=b-m:=qB W v;refine⟨ae,ae,dF,ae, ?_,L⟩;rw[apl W ae ae];exact l;rintro _ ⟨P,A,B,Q,rfl,hA,hB,a0,a1,aa,D⟩;have ab:=xG (a:=m) (b:=A.length) ae ae;have ac:((m-A.length:Nat):Int)=P.length:=ae;simp only[gD] at aa;simp[ab,ac];refine tD (λaf=> ?_) (λaf=>tD (λag=> ?_) (λag=> ?_));have H:=aeq (o:=o) (P:=P) (X:=A) (M:=[]) (Y:=B) (Q:=Q) (a:=P.length) (b:=m) (n:=A.length) rfl dF rfl ae dF;refine⟨P++(B++(A++Q)),by simpa using H,2,rfl, ?_⟩;simp[D];obtain⟨O,N,rfl,z⟩:∃O N,A=O++N/\O.length=B.length:=⟨A.take B.length,A.drop B.length,(H6 _ _).symm,dF⟩;simp only[gD] at*;have G:=xG (a:=O.length+N.length) (b:=B.length) ae ae;have H:=aeq (o:=o) (P:=P) (X:=O) (M:=N) (Y:=B) (Q:=Q) (a:=P.length) (b:=m) (n:=B.length) rfl ae ae ae dF;refine⟨P++(B++(N++(O++Q))),by simpa using H,⟨P++B,N,O,Q, ?_,ae,ae,dF,ae,dF, ?_⟩, ?_⟩;rw[G,z];simp;rw[<-D];simp;rw[G];show((O.length+N.length-B.length:Nat):Int).toNat+((B.length:Int)).toNat<O.length+N.length+B.length;omega;obtain⟨R,V,rfl,z⟩:∃R V,B=R++V/\V.length=A.length:=⟨B.take (B.length-A.length),B.drop (B.length-A.length),(H6 _ _).symm,dF⟩;simp only[gD] at*;have al:=zo (a:=m) (b:=R.length+V.length) ae;have G:=xG (a:=m+(R.length+V.length)) (b:=A.length) ae ae;have an:=xG (a:=R.length+V.length) (b:=A.length) ae ae;have H:=aeq (o:=o) (P:=P) (X:=A) (M:=R) (Y:=V) (Q:=Q) (a:=P.length) (b:=((m+(R.length+V.length)-A.length:Nat):Int)) (n:=A.length) rfl ae rfl ae dF;rw[al,G,an];refine⟨P++(V++(R++(A++Q))),by simpa using H,⟨P,V,R,A++Q, ?_,ae,ae,ae,ae,dF, ?_⟩, ?_⟩;rw[z];simp;rw[<-D];simp;show((A.length:Int)).toNat+((R.length+V.length-A.length:Nat):Int).toNat<A.length+(R.length+V.length);omega;cases L
end
end
section
attribute[local simp] K.ah BE.ah RE.rv RE.ah gX ak.rv ak.ext ak.add C.xv v8 HZ H0 H3 A9 Ba LE.aj nM ki
attribute[local congr] HY
def ayP{lt:aH->aH->Bool}(l:ax)(x:aH):bT lt (l++[x])=ef lt x (bT lt l):=by simp[bT]
def apn{lt:aH->aH->Bool}{x:aH}:∀{L G:ax},(∀l∈L,lt x l=E)->(∀g∈G,lt x g=J)->ef lt x (L++G)=L++x::G
 |[],[],_,_=>rfl
 |[],g::G,_,h=>by simp[ef,h g ay]
 |l::L,G,X,W=>by
  have V:=apn (L:=L) (G:=G) (λy R=>X y (by simp[R])) W;simp only[fG,ef,X l ay];rw[V];simp
def apo(A R:ax)(l x:aH)(W:X=Y A):((A++(l::x::R)).set (X+1) l).set X x=A++(x::l::R):=by
 subst W;rw[Wf _ _ ae,aeP,Wf _ _ ae,Wv];rfl
def VW{h:HP}{O:ak}{L:dm}{d:RE->K->av}(P:C6 h.K d){W V:RE}{R Q:K}{H:bE}{G:bp}(F:X=Y O.i)(x y:aH)(D:(W.rv O).aj[(R.ah O).toNat]?=U x)(B:(V.rv O).aj[(Q.ah O).toNat]?=U y)(N:jl h.K x)(M:jl h.K y)(A:h.o.ok x=J)(z:h.o.ok y=J)
  (w:∀c:Int,(c<0<->h.o.lt x y=J)->u.hw h (O.add (.i c)) L):T.hw h (.call h.g [.agg (d W R),.agg (d V Q)] H G [.int I] (.int I (.v X)) u) O L:=by
 subst F;exact⟨rfl,rfl,rfl,_,_,x,y,rfl,P.ah O W R x D N,P.ah O V Q y B M,N,M,A,z,w⟩
section
variable{f:lA}{e g:Nat}{o:bm}{d:RE->K->av}
def apq(ac:C6 f d)(an:ld o.lt (λx=>o.ok x=J)):PG f e g o 2 2 (VR e g d):=by
 rintro p _ X aE ns hP bd ⟨R,n,Q,rfl,ca,hn⟩ hT hN N bf;obtain⟨a,b,rfl⟩:=two hN;obtain⟨_,N⟩:=zY N;simp only[mI] at N;split at N;rename_i t;simp only[az,cF,fp] at t;obtain⟨⟨⟨bg,bk⟩,cc⟩,a0⟩:=t;obtain⟨a,rfl⟩:=zp bg;obtain⟨b,rfl⟩:=zp (a:=b) ae;simp only[cG,zu] at N;have hb:b<=Y X:=ae;have bk:a<=b:=ae;refine xE ⟨f,g,o,e,.slice R n Q,aE⟩ (hP▸bd) bf _ _ _ ?_;unfold VR;refine xF (λM=>∃(i:Nat)(s:ax),M=[.r (.mk (.slice R n Q) s),.i i]/\a<i/\i<=b+1/\s=X.take a++(bT o.lt (bc X a (min i b))++X.drop (min i b))) (λM=>match M with|[_,.i i]=>b+1-i.toNat|_=>0) ⟨a+1,X, ?_,ae,ae, ?_⟩ ?_;simp only[eE,Bi,C.xv,RE.rv,ak.rv,Ff,K.ah];rw[C7 ae];by_cases h:a+1<=b;rw[Fj h];have:bc X a (a+1)=[X[a]' ae]:=by
  simp only[bc,show a+1-a=1 from ae];rw[E8 ae];rfl
 rw[this];show X=_++([X[a]' ae]++_);rw[<-this,JQ X ae];have:b=a:=ae;subst this;rw[Wo ae];have:bc X b b=[]:=by simp[bc]
 rw[this];show X=X.take b++([]++X.drop b);simp;rintro _ ⟨i,s,rfl,cf,ch,H⟩;by_cases a1:i<b;rw[Fj ae] at H;obtain⟨x,hx⟩:∃x,x=X[i]' ae:=⟨_,rfl⟩;have hd:X.drop i=x::X.drop (i+1):=by rw[hx,E8 ae]
 have hS:(bT o.lt (bc X a i)).length=i-a:=by rw[nO,qB X ae]
 have bl:bc X a (i+1)=bc X a i++[x]:=by
  rw[pe X (show a<=i from ae) (show i<=i+1 from ae)];congr 1;simp only[bc,aeP,hd];rfl
 have F:∀y,y∈X.take a\/y∈bT o.lt (bc X a i)\/y=x\/y∈X.drop (i+1)->jl f y/\o.ok y=true:=by
  intro y V;have:y∈X:=by
   rcases V with h|h|rfl|h;exact Db h;exact tW (Gz h);rw[hx];exact pA _;exact Bf h
  exact⟨hT y this,a0 y this⟩
 have af:gw o.lt (bT o.lt (bc X a i)):=Cd an λz hz=>a0 z (tW hz)
 have br:(X.take a).length=a:=dF;have bs:(X.drop (i+1)).length=n-(i+1):=dF;generalize bt:bT o.lt (bc X a i)=S at H hS F af;generalize cl:X.take a=P at H F br N;generalize bx:X.drop (i+1)=D at hd F bs;rw[hd] at H;have a3:∀L G,S=L++G->(∀l∈L,o.lt x l=E)->(∀g∈G,o.lt x g=J)->P++(L++x::(G++D))=P++(bT o.lt (bc X a (min (i+1) b))++X.drop (min (i+1) b)):=by
  intro L G q m h3;rw[Fj ae,bl,ayP,bt,q,apn m h3,bx];simp
 simp[a1];refine xF (λM=>∃(L G:ax),M=[.r (.mk (.slice R n Q) (P++(L++x::(G++D)))),.i ((a+Y L:Nat):Int)]/\S=L++G/\∀g∈G,o.lt x g=J) (λM=>match M with|[_,.i j]=>j.toNat|_=>0) ⟨S,[], ?_,ay,ay⟩ ?_;simp[H,hS];omega;rintro _ ⟨L,G,rfl,W,hG⟩;rcases List.eq_nil_or_concat L with rfl|⟨L,l,rfl⟩;simp;rw[C7 ae];refine⟨⟨i+1,_,rfl,ae,ae, ?_⟩, ?_⟩;exact a3 [] G W ay hG;show b+1-((i+1:Nat):Int).toNat<b+1-i;omega;simp only[List.concat_eq_append] at W⊢;have cm:a+Y L+1<=i:=by
  have:=jW Y W;simp only[gD,oK,Qf] at this;omega
 have B:aU .sub I (((a+(Y L+1):Nat)):Int) 1=((a+Y L:Nat):Int):=by rw[VV ae ae];omega
 have k:=F x ay;have A:=F l (.inr (.inl (by rw[W];simp)));have e0:P++(L++[l]++x::(G++D))=(P++L)++(l::x::(G++D)):=ay;have gx:((P++L)++(l::x::(G++D)))[a+(Y L+1)]?=U x:=by
  rw[iC dF];simp[show a+(Y L+1)-(Y P+Y L)=1 from ae]
 have gl:((P++L)++(l::x::(G++D)))[a+Y L]?=U l:=by
  rw[iC dF];simp[show a+Y L-(Y P+Y L)=0 from ae]
 have ag:∀y∈(P++L)++(l::x::(G++D)),jl f y/\o.ok y=true:=by
  intro y V;refine F y ?_;simp only[eP,dP] at V;rcases V with(h|h)|h|h|h|h;exact .inl h;exact .inr (.inl (by rw[W];simp[h]));subst h;exact .inr (.inl (by rw[W];simp));exact .inr (.inr (.inl h));exact .inr (.inl (by rw[W];simp[h]));exact .inr (.inr (.inr h))
 have a4:((P++L)++(l::x::(G++D))).length=n:=by
  have:=jW Y W;simp only[gD,oK,Qf] at this;simp only[gD,oK];omega
 rw[e0];have b0:(((a+(L++[l]).length:Nat):Int))=((a+(Y L+1):Nat):Int):=ay;rw[b0];have aa:((a+(Y L+1):Nat):Int).toNat=a+(Y L+1):=rfl;have ab:((a+Y L:Nat):Int).toNat=a+Y L:=rfl;have a9:((a+(Y L+1):Nat):Int)=((a+Y L:Nat):Int)+1:=ae;have b1:((a+(Y L+1):Nat):Int)<n:=by
  have:=a4;simp only[gD,oK] at this;omega
 have ba:(a:Int)<((a+(Y L+1):Nat):Int):=ae;have b2:(0:Int)<=((a+Y L:Nat):Int):=ae;generalize hz:((a+(Y L+1):Nat):Int)=z at B aa a9 b1 ba⊢;generalize hw:((a+Y L:Nat):Int)=w at B ab a9 b2⊢;generalize hR:(P++L)++(l::x::(G++D))=u at gx gl ag a4⊢;simp[B,ba];refine⟨⟨ae,by simp[lenOf];omega⟩,⟨ae,by simp[lenOf];omega⟩, ?_⟩;refine VW ac rfl x l ?_ ?_ k.1 A.1 k.2 A.2 (λc t=> ?_);simp[aa];exact gx;simp[B,ab];exact gl;have c1:∀O:ak,O.r=[.mk (.slice R n Q) X,.mk (.slice R n Q) s,.mk (.slice R n Q) u]->O.i=[(a:Int),b,i,z,c]->zx (C.cj O) (d (.v 2) (.bin .sub I (.v 3) (.c 1)))=l:=λO q m=>ac.cj O _ _ l (by simp[q,m,B,ab];exact gl) A.1
 have c2:∀(O:ak) rv,O.r=[.mk (.slice R n Q) X,.mk (.slice R n Q) s,.mk (.slice R n Q) u,rv]->O.i=[(a:Int),b,i,z,c]->zx (C.cj O) (d (.v 2) (.v 3))=x:=λO rv q m=>ac.cj O _ _ x (by simp[q,m,aa];exact gx) k.1
 simp[B];refine tD (λb3=> ?_) (λb4=> ?_);rw[c1 _ rfl rfl,c2 _ _ rfl rfl];have m1:(u.modify z.toNat λal=>fJ al 0 l)=u.set (a+Y L+1) l:=by rw[aa];exact E7 (λy V=>(ag y V).1) A.1
 have m2:((u.set (a+Y L+1) l).modify w.toNat λal=>fJ al 0 x)=(u.set (a+Y L+1) l).set (a+Y L) x:=by
  rw[ab];refine E7 (λy V=> ?_) k.1;rcases C9 V with h|rfl;exact(ag y h).1;exact A.1
 rw[m1,m2,<-hR,apo (P++L) (G++D) l x dF];refine⟨⟨ae,by simp[lenOf];omega⟩,⟨ae,by simp[lenOf];omega⟩,⟨ae,by simp[lenOf];omega⟩,⟨L,l::G, ?_,by rw[W];simp,λg' b5=> ?_⟩, ?_⟩;simp;omega;rcases dP.1 b5 with rfl|h;exact t.1 b3;exact hG g' h;show w.toNat<z.toNat;omega;have bb:o.lt x l=false:=by
  cases h:o.lt x l;rfl;exact aY (t.2 h) b4
 have b6:∀y∈L++[l],o.lt x y=false:=by
  intro y V;rcases eP.1 V with h|h;have:o.lt l y=false:=by
   rw[W] at af;exact(mT.1 (mT.1 af).1).2.2 y h l ay
  have b7:=F y (.inr (.inl (by rw[W];simp[h])));exact an.nt x l y k.2 A.2 b7.2 bb this;simp at h;subst h;exact bb
 rw[C7 ae];refine⟨⟨i+1,_,rfl,ae,ae, ?_⟩, ?_⟩;rw[<-a3 (L++[l]) G W b6 hG,<-hR];simp;show b+1-((i+1:Nat):Int).toNat<b+1-i;omega;have b8:min i b=b:=Wo ae;rw[b8,N] at H;simp[a1];exact⟨1,rfl,by rw[H];rfl⟩;cases N
end
end
section
attribute[local simp] K.ah BE.ah RE.rv RE.ah gX ak.rv ak.ext ak.add C.xv v8 HZ H0 H3 A9 Ba LE.aj nM ki
attribute[local congr] HY
def ayQ(h:X<=4398046511104):IntKind.i64.wrap (aU .shr .u64 (IntKind.u64.wrap (X:Int)) 1)=((X/2:Nat):Int):=by
 have e1:IntKind.u64.wrap (X:Int)=(X:Int):=by
  rw[IntKind.wrap_u64];omega
 rw[e1];simp only[aU];have W:(2:Int)^min (Int.toNat 1) IntKind.u64.bits=2:=rfl;rw[W,aDb _ ae,PI ae ae];omega
def VX{o:bm}{N:Nat}{P X Y Q:ax}{a m b:Int}(W:a=P.length)(V:m=P.length+X.length)(R:b=P.length+X.length+Y.length)(u:1<=X.length)(t:1<=Y.length)(q:X.length+Y.length<N)(M:(P++(X++(Y++Q))).length<=1099511627776)(H:∀z∈P++(X++(Y++Q)),o.ok z=J)(G:gw o.lt X)(F:gw o.lt Y):
  oW (N+3) o [a,m,b] (P++(X++(Y++Q)))=U (P++(bT o.lt (X++Y)++Q)):=by
 subst W;subst V;subst R;unfold oW;rw[aI M];simp only[mI];have e1:((P.length:Int)).toNat=P.length:=rfl;have D:((P.length:Int)+X.length).toNat=P.length+X.length:=ae;have B:((P.length:Int)+X.length+Y.length).toNat=P.length+X.length+Y.length:=ae;rw[e1,D,B];have A:(P++(X++(Y++Q))).take P.length=P:=ay;have y:bc (P++(X++(Y++Q))) P.length (P.length+X.length)=X:=PJ P X _;have x:bc (P++(X++(Y++Q))) (P.length+X.length) (P.length+X.length+Y.length)=Y:=PK (P:=P++X) (Q:=Q) ay ay rfl;have w:bc (P++(X++(Y++Q))) P.length (P.length+X.length+Y.length)=X++Y:=PK (P:=P) (Q:=Q) ay rfl dF;have v:(P++(X++(Y++Q))).drop (P.length+X.length+Y.length)=Q:=by
  have:P++(X++(Y++Q))=(P++(X++Y))++Q:=ay;rw[this,Wq dF]
 rw[A,y,x,w,v,aI];simp only[az,cF,fp,ajC];refine⟨⟨⟨⟨⟨⟨⟨ae,ae⟩,ae⟩, ?_⟩,ae⟩,H⟩,G⟩,F⟩;simp only[gD];omega
def VY{lt:aH->aH->Bool}(h:Q=[]\/F=[])(W:gw lt Q)(V:gw lt F):bT lt (Q++F)=Q++F:=by
 rcases h with rfl|rfl;simpa using SJ V;simpa using SJ W
def ayR{B X:ax}{a m b:Int}(W:a=Y Q)(V:m=Y Q+Y F)(R:b=Y Q+Y F+Y B)(w:1<=Y F)(v:1<=Y B)(M:(Q++(F++(B++X))).length<=1099511627776):
  oW 1 A [a,m,b] (Q++(F++(B++X)))=U (Q++(B++(F++X))):=by
 subst W;subst V;subst R;unfold oW;rw[aI M];simp only[mI];have e1:((Y Q:Int)).toNat=Y Q:=rfl;have H:((Y Q:Int)+Y F).toNat=Y Q+Y F:=ae;have G:((Y Q:Int)+Y F+Y B).toNat=Y Q+Y F+Y B:=ae;rw[e1,H,G];have D:(Q++(F++(B++X))).take (Y Q)=Q:=ay;have z:bc (Q++(F++(B++X))) (Y Q) (Y Q+Y F)=F:=PJ Q F _;have y:bc (Q++(F++(B++X))) (Y Q+Y F) (Y Q+Y F+Y B)=B:=PK (P:=Q++F) (Q:=X) ay ay rfl;have x:(Q++(F++(B++X))).drop (Y Q+Y F+Y B)=X:=by
  have:Q++(F++(B++X))=(Q++(F++B))++X:=ay;rw[this,Wq dF]
 rw[D,z,y,x,aI];simp only[az,cF,gD];omega
abbrev LI:K:=.bin .sub I (.bin .add I dS (.v 1)) (.v 3)
section
variable{f d g e N:Nat}{o:bm}{h:HP}{O:ak}{L:dm}{a m b s r mid e1:Nat}
structure H4(O:ak)(a m b s:Nat)(mid e1:Nat):Prop where
 va:O.i.getD 0 0=a
 vm:O.i.getD 1 0=m
 vb:O.i.getD 2 0=b
 vs:O.i.getD 3 0=s
 PL:dS.ah O=mid
 ve:LI.ah O=e1
def H4.add{rv:RV}(H:H4 O a m b s mid e1):H4 (O.add (.r rv)) a m b s mid e1:=by
 have X:∀(x:Nat),K.ah (O.add (.r rv)) (.v x)=K.ah O (.v x):=λx=>rfl
 exact⟨H.va,H.vm,H.vb,H.vs,by rw[<-H.PL];rfl,by rw[<-H.ve];rfl⟩
def C8(H:H4 O a m b s mid e1)(M:h.e=e){t:bp}{y x w:S}{v:Value}{W V:ax}(R:O.rv X=.mk v (Q++(F++(W++V))))(q:X+1=Y O.r)(G:h.v=v)(D:h.aE=Q++(bT o.lt (F++W)++V))
  (hP:Y Q=mid)(hX:Y F=e1-mid)(hY:Y W=b-e1)(h1:mid<=e1)(h2:e1<=b)(hN:b-mid<N)(p:(Q++(F++(W++V))).length<=1099511627776)(n:∀z∈Q++(F++(W++V)),o.ok z=J)(B:gw o.lt F)(A:gw o.lt W)
  (k:y.rs[X+1]?=U (.own e))(j:x.rs[X]?=U (.own e))(i:w.rs[X]?=U (.own e)):
  T.hw h (.aW (.cmp .lss dS LI) (.aW (.cmp .lss LI (.v 2)) (.dO f g e (.dh (N+3) o [dS,LI,.v 2]) E (.v X) t (.out .normal y)) (.out .normal x)) (.out .normal w)) O L:=by
 have u:K.ah O (.v 2)=b:=H.vb;rw[v8];simp only[BE.ah,gX,H.PL,H.ve,cF];refine tD (λd=> ?_) (λd=> ?_);rw[v8];simp only[BE.ah,gX,H.ve,u,cF];refine tD (λq2=> ?_) (λq2=> ?_);rw[A9];refine⟨Q++(bT o.lt (F++W)++V), ?_, ?_⟩;simp only[ki,eE,Bi,H.PL,H.ve,u,RE.rv,R,RV.jD];exact VX ae ae ae ae ae ae p n B A;rw[Ba];refine⟨.inl rfl,X+1,by rw[M];exact k, ?_⟩;have aa:(O.rv X).val=v:=by rw[R];rfl
 rw[show(RE.v X).rv O=O.rv X from rfl,aa,G,D];simp[ak.add,ak.rv,q];rw[Ba];refine⟨.inl rfl,X,by rw[M];exact j, ?_⟩;rw[R,G,D,VY (.inr (rZ ae)) B A];simp;rw[Ba];refine⟨.inl rfl,X,by rw[M];exact i, ?_⟩;rw[R,G,D,VY (.inl (rZ ae)) B A];simp
def aer(H:H4 O a m b s mid e1){x:bp}{B A:T}{v:Value}{W R:ax}(V:O.rv X=.mk v (Q++(F++(W++R))))
  (i:Y Q=a)(d:Y F=s-a)(hY:Y W=mid-s)(h1:a<=s)(h2:s<=mid)(hN:mid-a<N)(w:(Q++(F++(W++R))).length<=1099511627776)(t:∀z∈Q++(F++(W++R)),o.ok z=J)(M:gw o.lt F)(G:gw o.lt W)
  (q:T.hw h u (O.add (.r (.mk v (Q++(bT o.lt (F++W)++R))))) L)(p:O.rv X=.mk v (Q++(bT o.lt (F++W)++R))->T.hw h B O L)(n:O.rv X=.mk v (Q++(bT o.lt (F++W)++R))->T.hw h A O L):
  T.hw h (.aW (.cmp .lss (.v 0) (.v 3)) (.aW (.cmp .lss (.v 3) dS) (.dO f g e (.dh (N+3) o [.v 0,.v 3,dS]) E (.v X) x u) B) A) O L:=by
 have y:K.ah O (.v 0)=a:=H.va;have D:K.ah O (.v 3)=s:=H.vs;rw[v8];simp only[BE.ah,gX,y,D,cF];refine tD (λk=> ?_) (λk=> ?_);rw[v8];simp only[BE.ah,gX,H.PL,D,cF];refine tD (λj=> ?_) (λj=> ?_);rw[A9];refine⟨Q++(bT o.lt (F++W)++R), ?_, ?_⟩;simp only[ki,eE,Bi,H.PL,y,D,RE.rv,V,RV.jD];exact VX ae ae ae ae ae ae w t M G;simp only[RE.rv,V,RV.mH];exact q;refine p ?_;rw[V,VY (.inr (rZ ae)) M G];simp;refine n ?_;rw[V,VY (.inl (rZ ae)) M G];simp
def ayS(H:H4 O a m b s mid e1){z:bp}{M G:T}{v:Value}{B R:ax}(W:O.rv X=.mk v (Q++(F++(B++R))))
  (n:Y Q=s)(k:Y F=m-s)(j:Y B=e1-m)(i:s<=m)(f:m<=e1)(y:(Q++(F++(B++R))).length<=1099511627776)
  (x:T.hw h u (O.add (.r (.mk v (Q++(B++(F++R)))))) L)(w:O.rv X=.mk v (Q++(B++(F++R)))->T.hw h M O L)(t:O.rv X=.mk v (Q++(B++(F++R)))->T.hw h G O L):
  T.hw h (.aW (.cmp .lss (.v 3) (.v 1)) (.aW (.cmp .lss (.v 1) LI) (.dO d g e (.dh 1 o [.v 3,.v 1,LI]) E (.v X) z u) M) G) O L:=by
 have V:K.ah O (.v 1)=m:=H.vm;have D:K.ah O (.v 3)=s:=H.vs;rw[v8];simp only[BE.ah,gX,V,D,cF];refine tD (λq=> ?_) (λq=> ?_);rw[v8];simp only[BE.ah,gX,H.ve,V,cF];refine tD (λp=> ?_) (λp=> ?_);rw[A9];refine⟨Q++(B++(F++R)), ?_, ?_⟩;simp only[ki,eE,Bi,H.ve,V,D,RE.rv,W,RV.jD];exact ayR ae ae ae ae ae y;simp only[RE.rv,W,RV.mH];exact x;refine w ?_;have:B=[]:=rZ ae;rw[W,this];simp;refine t ?_;have:F=[]:=rZ ae;rw[W,this];simp
end
section
variable{f d e g N:Nat}{o:bm}{O:ak}{L:dm}{a m b s mid e1:Nat}{l:lA}
def VZ{O:ak}{v:RV}(h:X=Y O.r):(O.add (.r v)).rv X=v:=by subst h;simp[ak.rv,ak.add]
def ayT(bb:ld o.lt (λx=>o.ok x=J))(H:H4 O a m b s mid e1){v:Value}(af:Y O.r=2)(hc:O.rv 1=.mk v Q)
  (h1:a<=s)(h2:s<=m)(h3:m<=e1)(D:e1<=b)(hb:b<=Y Q)(al:s<=mid)(bl:mid+m=e1+s)(an:mid-a<N)(w:b-mid<N)(hl:Y Q<=1099511627776)(a4:∀z∈Q,o.ok z=J)(sA:gw o.lt (bc Q a m))(sB:gw o.lt (bc Q m b))
  (q1:∀i j,a<=i->i<s->e1<=j->j<b->o.lt (Q.getD j []) (Q.getD i [])=E)(q2:∀i j,s<=i->i<m->m<=j->j<e1->o.lt (Q.getD j []) (Q.getD i [])=J)
  (a9:F=Q.take a++(bT o.lt (bc Q a b)++Q.drop b)):T.hw ⟨l,g,o,e,v,F⟩ (PH e g d f N o) O L:=by
 have bd:=au1 bb a4 h1 h2 h3 D hb sA sB q1 q2;have e0:Q=Q.take a++(bc Q a s++(bc Q s m++(bc Q m e1++(bc Q e1 b++Q.drop b)))):=by
  have:=JQ Q (show a<=b from ae);rw[pe Q (show a<=s from ae) (show s<=b from ae),pe Q h2 (show m<=b from ae),pe Q h3 D] at this;simpa using this.symm
 have l1:(bc Q a s).length=s-a:=qB Q ae;have l2:(bc Q s m).length=m-s:=qB Q ae;have l3:(bc Q m e1).length=e1-m:=qB Q ae;have u:(bc Q e1 b).length=b-e1:=qB Q ae;have lP:(Q.take a).length=a:=dF;rw[pe Q h1 h2] at sA;rw[pe Q h3 D] at sB;have a0:gw o.lt (bc Q a s):=(mT.1 sA).1;have t:gw o.lt (bc Q s m):=(mT.1 sA).2.1;have a1:gw o.lt (bc Q m e1):=(mT.1 sB).1;have q:gw o.lt (bc Q e1 b):=(mT.1 sB).2.1;rw[bd] at a9;have bf:∀x,(x∈Q.take a\/x∈bc Q a s\/x∈bc Q s m\/x∈bc Q m e1\/x∈bc Q e1 b\/x∈Q.drop b)->o.ok x=true:=λx hx=>a4 x (by
  rcases hx with h|h|h|h|h|h;exact Db h;exact tW h;exact tW h;exact tW h;exact tW h;exact Bf h)
 rw[e0] at hc hl;generalize Q.take a=P at*;generalize bc Q a s=W at*;generalize bc Q s m=B at*;generalize bc Q m e1=V at*;generalize bc Q e1 b=y at*;generalize Q.drop b=X at*;have p:F=(P++bT o.lt (W++V))++(bT o.lt (B++y)++X):=by rw[a9];simp
 have bg:∀x∈bT o.lt (W++V),x∈W\/x∈V:=λx hx=>by simpa using Gz hx
 have ba:(bT o.lt (W++V)).length=mid-a:=by rw[nO];simp;omega
 have br:Y P+(Y W+(Y B+(Y V+(Y y+Y X))))<=1099511627776:=by simpa using hl
 have ag:∀z∈P++(W++(V++(B++(y++X)))),o.ok z=true:=λz hz=>bf z (by
  simp only[eP] at hz;rcases hz with h|h|h|h|h|h;exact .inl h;exact .inr (.inl h);exact .inr (.inr (.inr (.inl h)));exact .inr (.inr (.inl h));exact .inr (.inr (.inr (.inr (.inl h))));exact .inr (.inr (.inr (.inr (.inr h)))))
 have n:∀z∈(P++bT o.lt (W++V))++(B++(y++X)),o.ok z=true:=λz hz=>ag z (by
  simp only[eP] at hz⊢;rcases hz with(h|h)|h|h|h;exact .inl h;rcases bg z h with h|h;exact .inr (.inl h);exact .inr (.inr (.inl h));exact .inr (.inr (.inr (.inl h)));exact .inr (.inr (.inr (.inr (.inl h))));exact .inr (.inr (.inr (.inr (.inr h)))))
 have lU:(P++(W++(V++(B++(y++X))))).length<=1099511627776:=dF;have k:((P++bT o.lt (W++V))++(B++(y++X))).length<=1099511627776:=by simp only[gD,ba];omega
 have c:(P++bT o.lt (W++V)).length=mid:=by simp only[gD,ba];omega
 have aa:Y B=e1-mid:=ae;have bk:O.rv 1=.mk v ((P++W)++(B++(V++(y++X)))):=by rw[hc];simp
 have a3:∀R:ax,(P++W)++(V++R)=P++(W++(V++R)):=λR=>ay
 have ab:∀R:ax,P++(bT o.lt (W++V)++R)=(P++bT o.lt (W++V))++R:=λR=>ay
 unfold PH;refine ayS H bk dF l2 l3 h2 h3 dF ?_ (λac=> ?_) (λac=> ?_);have ac:=VZ (v:=.mk v ((P++W)++(V++(B++(y++X))))) (show 2=Y O.r from ae);rw[a3] at ac⊢;have M:=H.add (rv:=.mk v (P++(W++(V++(B++(y++X))))));have G:(O.add (.r (.mk v (P++(W++(V++(B++(y++X)))))))).r.length=3:=by simp[ak.add,af]
 refine aer M ac lP l1 ae h1 al an lU ag a0 a1 ?_ (λA=> ?_) (λA=> ?_);refine C8 M.add rfl ((VZ (show 3=_ from G.symm)).trans (by rw[ab])) (by simp[ak.add,af]) rfl p c aa u ae D w k n t q rfl rfl rfl;refine C8 M rfl (A.trans (by rw[ab])) (show 2+1=_ from G.symm) rfl p c aa u ae D w k n t q rfl rfl rfl;refine C8 M rfl (A.trans (by rw[ab])) (show 2+1=_ from G.symm) rfl p c aa u ae D w k n t q rfl rfl rfl;rw[a3] at ac;have M:=H;have G:=af;refine aer M ac lP l1 ae h1 al an lU ag a0 a1 ?_ (λA=> ?_) (λA=> ?_);refine C8 M.add rfl ((VZ (show 2=_ from G.symm)).trans (by rw[ab])) (by simp[ak.add,G]) rfl p c aa u ae D w k n t q rfl rfl rfl;refine C8 M rfl (A.trans (by rw[ab])) (show 1+1=_ from G.symm) rfl p c aa u ae D w k n t q rfl rfl rfl;refine C8 M rfl (A.trans (by rw[ab])) (show 1+1=_ from G.symm) rfl p c aa u ae D w k n t q rfl rfl rfl;rw[a3] at ac;have M:=H;have G:=af;refine aer M ac lP l1 ae h1 al an lU ag a0 a1 ?_ (λA=> ?_) (λA=> ?_);refine C8 M.add rfl ((VZ (show 2=_ from G.symm)).trans (by rw[ab])) (by simp[ak.add,G]) rfl p c aa u ae D w k n t q rfl rfl rfl;refine C8 M rfl (A.trans (by rw[ab])) (show 1+1=_ from G.symm) rfl p c aa u ae D w k n t q rfl rfl rfl;refine C8 M rfl (A.trans (by rw[ab])) (show 1+1=_ from G.symm) rfl p c aa u ae D w k n t q rfl rfl rfl
end
end
section
attribute[local simp] K.ah BE.ah RE.rv RE.ah gX ak.rv ak.ext ak.add C.xv v8 HZ H0 H3 A9 Ba LE.aj nM ki
attribute[local congr] HY
def getD_some(h:X<Y Q):Q[X]?=U (Q.getD X []):=by
 rw[dB,cK h];rfl
def PM{i j:Nat}(h:i+j<=4398046511104):IntKind.i64.wrap (aU .shr .u64 (IntKind.u64.wrap (aU .add I (i:Int) (j:Int))) 1)=(((i+j)/2:Nat):Int):=by
 rw[zo h];exact ayQ h
def PN(h:X<Y Q):bc Q X (X+1)=[Q.getD X []]:=by
 have e:Q.getD X []=Q[X]:=by rw[dB,cK h];rfl
 simp only[bc,aeP];rw[E8 h,e];rfl
def ayU(A R:ax)(y x:aH)(W:X=Y A):((A++(x::y::R)).set X y).set (X+1) x=A++(y::x::R):=by
 subst W;rw[Wf _ _ ae,Wv,Wf _ _ ae,aeP];rfl
def cQ(X:ax)(k:Nat):aH:=X.getD k []
def apr(h:X<Y Q):Q.drop X=cQ Q X::Q.drop (X+1):=by
 rw[E8 h,cQ,dB,cK h];rfl
section
variable{d:lA}{e g:Nat}{o:bm}{f:RE->K->av}
def ayV(ac:C6 d f)(af:ld o.lt (λW=>o.ok W=J)){R:nG}{m b:Nat}(b6:Y Q=X)(hn:X<=1099511627776)(u:∀W∈Q,jl d W)(an:∀W∈Q,o.ok W=J)
  (hm:m=n+1)(b7:m<b)(hb:b<=Y Q)(sB:gw o.lt (bc Q m b))(bk:F=Q.take n++(bT o.lt (bc Q n b)++Q.drop b)):
  T.hw ⟨d,g,o,e,.slice R X x,F⟩ (aem e g f) ⟨[(n:Int),m,b],[],[.mk (.slice R X x) Q],[]⟩ []:=by
 subst hm;have M:n<Y Q:=ae;have a0:∀k,k<Y Q->cQ Q k∈Q:=λk P=>jm (getD_some P)
 have t:∀k,k<Y Q->jl d (cQ Q k):=λk P=>u _ (a0 k P)
 have L:∀k,k<Y Q->o.ok (cQ Q k)=true:=λk P=>an _ (a0 k P)
 unfold aem;refine xF (λG=>∃(i j:Nat),G=[.r (.mk (.slice R X x) Q),.i i,.i j]/\n+1<=i/\i<=j/\j<=b/\(∀k,n+1<=k->k<i->o.lt (cQ Q k) (cQ Q n)=J)/\∀k,j<=k->k<b->o.lt (cQ Q k) (cQ Q n)=E) (λG=>match G with|[_,.i i,.i j]=>j.toNat-i.toNat|_=>0) ⟨n+1,b,rfl,ae,ae,ae,ae,ae⟩ ?_;rintro _ ⟨i,j,rfl,a1,b8,s,a3,a4⟩;by_cases bl:i<j;have p:=PM (i:=i) (j:=j) ae;have br:i<=(i+j)/2:=ae;have bs:(i+j)/2<j:=ae;generalize hq:(i+j)/2=q at p br bs;simp[bl,p,lenOf];refine⟨ae,ae, ?_⟩;refine VW ac rfl (cQ Q q) (cQ Q n) ?_ ?_ (t q ae) (t n M) (L q ae) (L n M) (λc hc=> ?_);simp[p];exact getD_some ae;simp;exact getD_some M;simp[p];refine tD (λbt=> ?_) (λbx=> ?_);rw[C7 ae];refine⟨⟨q+1,j,rfl,ae,ae,s,λk D B=> ?_,a4⟩, ?_⟩;have A:=hc.1 bt;by_cases P:k=q;subst P;exact A;have hs:=JR hb sB (i:=k) (j:=q) ae ae ae;cases h:o.lt (cQ Q k) (cQ Q n);have:=af.nt _ _ _ (L q ae) (L k ae) (L n M) hs h;rw[A] at this;cases this;rfl;show(j:Int).toNat-((q+1:Nat):Int).toNat<j-i;omega;have A:o.lt (cQ Q q) (cQ Q n)=false:=by
  cases h:o.lt (cQ Q q) (cQ Q n);rfl;exact aY (hc.2 h) bx
 refine⟨⟨i,q,rfl,ae,ae,ae,a3,λk D B=> ?_⟩, ?_⟩;by_cases P:k=q;subst P;exact A;have hs:=JR hb sB (i:=q) (j:=k) ae ae ae;exact af.nt _ _ _ (L k ae) (L q ae) (L n M) hs A;show((q:Nat):Int).toNat-(i:Int).toNat<j-i;omega;have b0:i=j:=ae;subst b0;simp;have a9:bT o.lt (bc Q n b)=bc Q (n+1) i++cQ Q n::bc Q i b:=by
  have e0:bc Q n b=cQ Q n::(bc Q (n+1) i++bc Q i b):=by
   rw[<-pe Q a1 s,pe Q (show n<=n+1 from ae) (show n+1<=b from ae)];have:bc Q n (n+1)=[cQ Q n]:=PN M;rw[this];rfl
  rw[e0];refine auY af (λz H=> ?_) (by rw[<-pe Q a1 s];exact sB) (λy hy=> ?_) (λy hy=> ?_);rw[<-e0] at H;exact an z (tW H);obtain⟨k,k1,k2,_,rfl⟩:=DX hy;exact a3 k k1 k2;obtain⟨k,k1,k2,_,rfl⟩:=DX hy;exact a4 k k1 k2
 have b1:(Q.take n).length=n:=dF;refine xF (λG=>∃(k:Nat)(V:ax),G=[.r (.mk (.slice R X x) V),.i k]/\n<=k/\k+1<=i/\V=(Q.take n++bc Q (n+1) (k+1))++cQ Q n::Q.drop (k+1)) (λG=>match G with|[_,.i k]=>i-k.toNat|_=>0) ⟨n,Q,ay,ae,ae, ?_⟩ ?_;have e1:bc Q (n+1) (n+1)=[]:=by simp[bc]
 have:=JQ Q (show n<=n+1 from ae);rw[PN M] at this;rw[e1,H9];exact this.symm;rintro _ ⟨k,V,rfl,ca,cc,N⟩;have ba:aU .sub I (i:Int) 1=((i-1:Nat):Int):=VV ae ae;have l:(Q.take n++bc Q (n+1) (k+1)).length=k:=by rw[gD,b1,qB Q ae];omega
 by_cases P:k<i-1;have hd:Q.drop (k+1)=cQ Q (k+1)::Q.drop (k+1+1):=by
  exact apr ae
 have bb:bc Q (n+1) (k+1+1)=bc Q (n+1) (k+1)++[cQ Q (k+1)]:=by
  rw[pe Q (show n+1<=k+1 from ae) (show k+1<=k+1+1 from ae),PN ae];rfl
 have aa:=t n M;have ab:=t (k+1) ae;have bd:∀z∈V,jl d z:=λz H=>by
  rw[N] at H;simp only[eP,dP] at H;rcases H with(h|h)|h|h;exact u z (Db h);exact u z (tW h);subst h;exact aa;exact u z (Bf h)
 rw[hd] at N;generalize cQ Q n=W at aa N a9;generalize cQ Q (k+1)=y at ab N bb;have cf:Y V=X:=by
  rw[N,gD,l];simp;omega
 have gx:V[k]?=U W:=by rw[N,iC ae,l];simp
 have gy:V[k+1]?=U y:=by rw[N,iC ae,l];simp
 have c1:∀O:ak,O.r=[.mk (.slice R X x) Q,.mk (.slice R X x) Q,.mk (.slice R X x) V]->O.i=[(n:Int),((n+1:Nat):Int),b,i,i,k]->zx (C.cj O) (f (.v 2) (.bin .add I (.v 5) (.c 1)))=y:=λO D B=>ac.cj O _ _ y (by simp only[RE.rv,ak.rv,K.ah,D,B,LQ,Ff,RV.jD,C7 (a:=k) ae];exact gy) ab
 have c2:∀(O:ak) rv,O.r=[.mk (.slice R X x) Q,.mk (.slice R X x) Q,.mk (.slice R X x) V,rv]->O.i=[(n:Int),((n+1:Nat):Int),b,i,i,k]->zx (C.cj O) (f (.v 2) (.v 5))=W:=λO rv D B=>ac.cj O _ _ W (by simp only[RE.rv,ak.rv,K.ah,D,B,LQ,Ff,RV.jD];exact gx) aa
 have m1:(V.modify k λag=>fJ ag 0 y)=V.set k y:=E7 bd ab;have m2:((V.set k y).modify (k+1) λag=>fJ ag 0 W)=(V.set k y).set (k+1) W:=E7 (λz H=>by
  rcases C9 H with h|rfl;exact bd z h;exact ab) aa
 have al:(k:Int)<((i-1:Nat):Int):=ae;have bf:=C7 (a:=k) ae;generalize hw:((k+1:Nat):Int)=w at bf;have b2:w.toNat=k+1:=ae;have bg:=ayU (Q.take n++bc Q (n+1) (k+1)) (Q.drop (k+1+1)) y W l.symm;rw[<-N] at bg;simp[ba,al,bf,lenOf];rw[c1 _ rfl rfl,c2 _ _ rfl rfl,b2,m1,m2,bg];refine⟨ae,ae,ae,⟨k+1,_,by rw[hw],ae,ae, ?_⟩, ?_⟩;rw[bb];simp;show i-w.toNat<i-k;omega;have al:¬(k:Int)<((i-1:Nat):Int):=ae;have b3:k+1=i:=ae;rw[b3] at N;have hd:=JQ (Q.drop 0) (show i<=i from ae);have b4:Q.drop i=bc Q i b++Q.drop b:=by
  have:=pe Q s (show b<=b from ae);simp only[bc];have e:Q.drop b=(Q.drop i).drop (b-i):=by rw[LS];congr 1;omega
  rw[e,H6]
 have b5:V=F:=by
  rw[N,bk,a9,b4];simp
 simp[ba,al];exact⟨2,rfl,by rw[b5];rfl⟩
def ayW(ab:C6 d f)(ac:ld o.lt (λW=>o.ok W=J)){R:nG}{m b:Nat}(b7:Y Q=X)(hn:X<=1099511627776)(u:∀W∈Q,jl d W)(a3:∀W∈Q,o.ok W=J)
  (hm:b=m+1)(b8:n<m)(hb:b<=Y Q)(sA:gw o.lt (bc Q n m))(bk:F=Q.take n++(bT o.lt (bc Q n b)++Q.drop b)):
  T.hw ⟨d,g,o,e,.slice R X x,F⟩ (aen e g f) ⟨[(n:Int),m,b],[],[.mk (.slice R X x) Q],[]⟩ []:=by
 subst hm;have M:m<Y Q:=ae;have a4:∀k,k<Y Q->cQ Q k∈Q:=λk N=>jm (getD_some N)
 have t:∀k,k<Y Q->jl d (cQ Q k):=λk N=>u _ (a4 k N)
 have L:∀k,k<Y Q->o.ok (cQ Q k)=true:=λk N=>a3 _ (a4 k N)
 unfold aen;refine xF (λP=>∃(i j:Nat),P=[.r (.mk (.slice R X x) Q),.i i,.i j]/\n<=i/\i<=j/\j<=m/\(∀k,n<=k->k<i->o.lt (cQ Q m) (cQ Q k)=E)/\∀k,j<=k->k<m->o.lt (cQ Q m) (cQ Q k)=J) (λP=>match P with|[_,.i i,.i j]=>j.toNat-i.toNat|_=>0) ⟨n,m,rfl,ae,ae,ae,ae,ae⟩ ?_;rintro _ ⟨i,j,rfl,af,ca,ag,a9,ba⟩;by_cases bl:i<j;have s:=PM (i:=i) (j:=j) ae;have br:i<=(i+j)/2:=ae;have bs:(i+j)/2<j:=ae;generalize hq:(i+j)/2=q at s br bs;simp[bl,s,lenOf];refine⟨ae,ae, ?_⟩;refine VW ab rfl (cQ Q m) (cQ Q q) ?_ ?_ (t m M) (t q ae) (L m M) (L q ae) (λc hc=> ?_);simp;exact getD_some M;simp[s];exact getD_some ae;simp[s];refine tD (λcc=> ?_) (λcf=> ?_);rw[C7 ae];have D:o.lt (cQ Q m) (cQ Q q)=false:=by
  cases h:o.lt (cQ Q m) (cQ Q q);rfl;have:=hc.2 h;omega
 refine⟨⟨q+1,j,rfl,ae,ae,ag,λk B G=> ?_,ba⟩, ?_⟩;by_cases N:k=q;subst N;exact D;have hs:=JR (show m<=Y Q from ae) sA (i:=k) (j:=q) ae ae ae;exact ac.nt _ _ _ (L m M) (L q ae) (L k ae) D hs;show(j:Int).toNat-((q+1:Nat):Int).toNat<j-i;omega;have D:o.lt (cQ Q m) (cQ Q q)=true:=hc.1 ae;refine⟨⟨i,q,rfl,ae,ae,ae,a9,λk B G=> ?_⟩, ?_⟩;by_cases N:k=q;subst N;exact D;have hs:=JR (show m<=Y Q from ae) sA (i:=q) (j:=k) ae ae ae;cases h:o.lt (cQ Q m) (cQ Q k);have:=ac.nt _ _ _ (L m M) (L k ae) (L q ae) h hs;rw[D] at this;cases this;rfl;show((q:Nat):Int).toNat-(i:Int).toNat<j-i;omega;have bt:i=j:=ae;subst bt;simp;have bx:bT o.lt (bc Q n (m+1))=bc Q n i++cQ Q m::bc Q i m:=by
  have e0:bc Q n (m+1)=bc Q n i++bc Q i m++[cQ Q m]:=by
   rw[<-pe Q af ag,pe Q (show n<=m from ae) (show m<=m+1 from ae),PN M];rfl
  rw[e0];refine auZ ac (λz H=> ?_) (by rw[<-pe Q af ag];exact sA) (λy hy=> ?_) (λy hy=> ?_);rw[<-e0] at H;exact a3 z (tW H);obtain⟨k,k1,k2,_,rfl⟩:=DX hy;exact a9 k k1 k2;obtain⟨k,k1,k2,_,rfl⟩:=DX hy;exact ba k k1 k2
 refine xF (λP=>∃(k:Nat)(V:ax),P=[.r (.mk (.slice R X x) V),.i k]/\i<=k/\k<=m/\V=Q.take k++cQ Q m::(bc Q k m++Q.drop (m+1))) (λP=>match P with|[_,.i k]=>k.toNat|_=>0) ⟨m,Q,ay,ae,ae, ?_⟩ ?_;have e1:bc Q m m=[]:=by simp[bc]
 rw[e1,gr,<-apr M,H6];rintro _ ⟨k,V,rfl,ch,cl,bb⟩;by_cases N:i<k;obtain⟨q,rfl⟩:∃q,k=q+1:=⟨k-1,ae⟩;have al:aU .sub I (((q+1:Nat)):Int) 1=(q:Int):=by rw[VV ae ae];omega
 have p:(Q.take q).length=q:=dF;have b0:Q.take (q+1)=Q.take q++[cQ Q q]:=by
  rw[aqx,getD_some (show q<Y Q from ae)];rfl
 have b1:bc Q q m=cQ Q q::bc Q (q+1) m:=by
  rw[pe Q (show q<=q+1 from ae) (show q+1<=m from ae),PN ae];rfl
 have an:=t m M;have l:=t q ae;have A:V=Q.take q++(cQ Q q::cQ Q m::(bc Q (q+1) m++Q.drop (m+1))):=by rw[bb,b0];simp
 have bd:∀z∈V,jl d z:=λz H=>by
  rw[A] at H;simp only[eP,dP] at H;rcases H with h|h|h|h|h;exact u z (Db h);subst h;exact l;subst h;exact an;exact u z (tW h);exact u z (Bf h)
 have bf:=apo (Q.take q) (bc Q (q+1) m++Q.drop (m+1)) (cQ Q q) (cQ Q m) p.symm;rw[<-A] at bf;have cm:Y V=X:=by
  rw[A,gD,p];simp only[oK,gD,qB Q (show m<=Y Q from ae),Df];omega
 have gx:V[q+1]?=U (cQ Q m):=by rw[A,iC ae,p];simp
 have gy:V[q]?=U (cQ Q q):=by rw[A,iC ae,p];simp
 have bg:(i:Int)<((q+1:Nat):Int):=ae;have b2:((q+1:Nat):Int)<X:=ae;have a0:((q+1:Nat):Int).toNat=q+1:=rfl;have b3:(0:Int)<=((q+1:Nat):Int):=ae;have b4:∀aa,aa=Q.take q++cQ Q m::(bc Q q m++Q.drop (m+1))->HX (U ⟨1,λP=>∃(k:Nat)(V:ax),P=[.r (.mk (.slice R X x) V),.i k]/\i<=k/\k<=m/\V=Q.take k++cQ Q m::(bc Q k m++Q.drop (m+1)),λP=>match P with|[_,.i k]=>k.toNat|_=>0,q+1⟩) [.r (.mk (.slice R X x) aa),.i q]:=λaa G=>⟨⟨q,aa,rfl,ae,ae,G⟩,show(q:Int).toNat<q+1 from ae⟩
 generalize hw:((q+1:Nat):Int)=w at al bg b2 a0 b3⊢;have c1:∀O:ak,O.r=[.mk (.slice R X x) Q,.mk (.slice R X x) Q,.mk (.slice R X x) V]->O.i=[(n:Int),m,((m+1:Nat):Int),i,i,w]->zx (C.cj O) (f (.v 2) (.bin .sub I (.v 5) (.c 1)))=cQ Q q:=λO B G=>ab.cj O _ _ _ (by simp only[RE.rv,ak.rv,K.ah,B,G,LQ,Ff,RV.jD,al];exact gy) l
 have c2:∀(O:ak) rv,O.r=[.mk (.slice R X x) Q,.mk (.slice R X x) Q,.mk (.slice R X x) V,rv]->O.i=[(n:Int),m,((m+1:Nat):Int),i,i,w]->zx (C.cj O) (f (.v 2) (.v 5))=cQ Q m:=λO rv B G=>ab.cj O _ _ _ (by simp only[RE.rv,ak.rv,K.ah,B,G,LQ,Ff,RV.jD,a0];exact gx) an
 have m1:(V.modify (q+1) λa1=>fJ a1 0 (cQ Q q))=V.set (q+1) (cQ Q q):=E7 bd l;have m2:((V.set (q+1) (cQ Q q)).modify q λa1=>fJ a1 0 (cQ Q m))=(V.set (q+1) (cQ Q q)).set q (cQ Q m):=E7 (λz H=>by
  rcases C9 H with h|rfl;exact bd z h;exact l) an
 simp[al,bg,lenOf];rw[c1 _ rfl rfl,c2 _ _ rfl rfl,a0,m1,m2,bf];refine⟨ae,ae,ae, ?_⟩;exact b4 _ (by rw[b1];simp);have b5:k=i:=ae;subst b5;have b6:V=F:=by
  have ht:Q.take k=Q.take n++bc Q n k:=by
   have e1:=JQ Q af;have e2:(Q.take n++bc Q n k).length=k:=by rw[gD,qB Q ae];simp;omega
   calc Q.take k=(Q.take n++bc Q n k++Q.drop k).take k:=by rw[H7,e1]
    _=_:=by rw[aqh ae,Fb ae]
  rw[bb,bk,bx,ht];simp
 simp;exact⟨2,rfl,by rw[b6];rfl⟩
end
end
section
attribute[local simp] K.ah BE.ah RE.rv RE.ah gX ak.rv ak.ext ak.add C.xv v8 HZ H0 H3 A9 Ba LE.aj nM ki
attribute[local congr] HY
section
variable{d:lA}{e g l t N:Nat}{o:bm}{f:RE->K->av}
def aps(a3:C6 d f)(O:ld o.lt (λW=>o.ok W=J)){G:nG}{m b lo hi:Nat}(bl:Y Q=X)(hn:X<=1099511627776)(hT:∀W∈Q,jl d W)(ab:∀W∈Q,o.ok W=J)
  (br:n<m)(bs:m<b)(hb:b<=Y Q)(hN:b-n<N+1)(bt:2<=b-n)(sA:gw o.lt (bc Q n m))(sB:gw o.lt (bc Q m b))(a4:F=Q.take n++(bT o.lt (bc Q n b)++Q.drop b))
  (l1:n<=lo)(l2:lo<=hi)(l3:hi<=m)(l4:hi<=(n+b)/2)(l5:(n+b)/2+m<=lo+b)(l6:lo=n\/lo+b=(n+b)/2+m)(l7:hi=m\/hi=(n+b)/2)
  {ks:aQ}(a9:c.map (C.xv ⟨[(n:Int),m,b],[],[.mk (.slice G X x) Q],[]⟩)=[.r (.mk (.slice G X x) Q),.i lo,.i hi]):
  T.hw ⟨d,g,o,e,.slice G X x,F⟩ (.loop 0 ks c (.aW (.cmp .lss (.v 3) (.v 4)) (VS g f) (PH e g l t N o))) ⟨[(n:Int),m,b],[],[.mk (.slice G X x) Q],[]⟩ []:=by
 have ac:∀k,k<Y Q->cQ Q k∈Q:=λk D=>jm (getD_some D)
 have af:∀k,k<Y Q->jl d (cQ Q k):=λk D=>hT _ (ac k D)
 have R:∀k,k<Y Q->o.ok (cQ Q k)=true:=λk D=>ab _ (ac k D)
 have w:=PM (i:=n) (j:=b) ae;have bx:n<(n+b)/2/\(n+b)/2<b:=ae;generalize b0:(n+b)/2=P at*;have u:∀i j,n<=i->i<=j->j<m->o.lt (cQ Q j) (cQ Q i)=false:=λi j M B A=>by
  by_cases h:i=j;subst h;exact O.SI _ (R i ae);exact JR (show m<=Y Q from ae) sA M ae A
 have p:∀i j,m<=i->i<=j->j<b->o.lt (cQ Q j) (cQ Q i)=false:=λi j M B A=>by
  by_cases h:i=j;subst h;exact O.SI _ (R i ae);exact JR hb sB M ae A
 refine xF (λxs=>∃(s r:Nat),xs=[.r (.mk (.slice G X x) Q),.i s,.i r]/\lo<=s/\s<=r/\r<=hi/\(∀V,lo<=V->V<s->o.lt (cQ Q (P+m-1-V)) (cQ Q V)=E)/\∀V,r<=V->V<hi->o.lt (cQ Q (P+m-1-V)) (cQ Q V)=J) (λxs=>match xs with|[_,.i i,.i j]=>j.toNat-i.toNat|_=>0) ⟨lo,hi,a9,ae,l2,ae,ae,ae⟩ ?_;rintro _ ⟨s,r,rfl,b1,b2,ba,ag,al⟩;by_cases bb:s<r;have z:=PM (i:=s) (j:=r) ae;have bd:s<=(s+r)/2:=ae;have bf:(s+r)/2<r:=ae;generalize hq:(s+r)/2=q at z bd bf;have an:=zo (a:=P) (b:=m) ae;have a0:=VV (a:=P+m) ae ae;have a1:=xG (a:=P+m-1) (b:=q) ae ae;unfold VS;simp[bb,z,lenOf,w];rw[an,a0,a1];refine⟨ae,ae, ?_⟩;refine VW a3 rfl (cQ Q (P+m-1-q)) (cQ Q q) ?_ ?_ (af _ ae) (af q ae) (R _ ae) (R q ae) (λV hc=> ?_);simp[z,w];rw[an,a0,a1];exact getD_some ae;simp[z];exact getD_some ae;simp[z];refine tD (λb3=> ?_) (λb4=> ?_);rw[C7 ae];have aa:o.lt (cQ Q (P+m-1-q)) (cQ Q q)=false:=by
  cases h:o.lt (cQ Q (P+m-1-q)) (cQ Q q);rfl;have:=hc.2 h;omega
 refine⟨⟨q+1,r,rfl,ae,ae,ba,λk M B=> ?_,al⟩, ?_⟩;have L:=u k q ae ae ae;have H:=p (P+m-1-q) (P+m-1-k) ae ae ae;have t3:=O.nt _ _ _ (R _ ae) (R _ ae) (R q ae) H aa;exact O.nt _ _ _ (R _ ae) (R q ae) (R k ae) t3 L;show(r:Int).toNat-((q+1:Nat):Int).toNat<r-s;omega;have aa:o.lt (cQ Q (P+m-1-q)) (cQ Q q)=true:=hc.1 ae;refine⟨⟨s,q,rfl,ae,ae,ae,ag,λk M B=> ?_⟩, ?_⟩;cases h:o.lt (cQ Q (P+m-1-k)) (cQ Q k);have L:=u q k ae ae ae;have H:=p (P+m-1-k) (P+m-1-q) ae ae ae;have t3:=O.nt _ _ _ (R _ ae) (R _ ae) (R k ae) H h;have y:=O.nt _ _ _ (R _ ae) (R k ae) (R q ae) t3 L;rw[aa] at y;cases y;rfl;show((q:Nat):Int).toNat-(s:Int).toNat<r-s;omega;have bg:s=r:=ae;subst bg;simp;refine ayT O (a:=n) (m:=m) (b:=b) (s:=s) (mid:=P) (e1:=P+m-s) ⟨rfl,rfl,rfl,rfl, ?_, ?_⟩ rfl rfl ae ae ae ae hb ae ae ae ae ae ab sA sB (λi j M B A h4=> ?_) (λi j M B A h4=> ?_) a4;simp[w];simp[w];rw[zo ae,xG ae ae];have bk:lo<s:=by
  rcases l6 with h|h<;>omega
 have t0:=ag (s-1) ae ae;rw[show P+m-1-(s-1)=P+m-s from ae] at t0;have L:=u i (s-1) ae ae ae;have H:=p (P+m-s) j ae ae ae;have t3:=O.nt _ _ _ (R j ae) (R _ ae) (R (s-1) ae) H t0;exact O.nt _ _ _ (R j ae) (R (s-1) ae) (R i ae) t3 L;have bk:s<hi:=by
  rcases l7 with h|h<;>omega
 have t0:=al s ae ae;cases h:o.lt (cQ Q j) (cQ Q i);have L:=u s i ae ae ae;have H:=p j (P+m-1-s) ae ae ae;have t3:=O.nt _ _ _ (R _ ae) (R j ae) (R i ae) H h;have y:=O.nt _ _ _ (R _ ae) (R i ae) (R s ae) t3 L;rw[t0] at y;cases y;exact h
def ayX{a m b:Int}:mI (X+4) A [a,m,b] Q=if decide (0<=a)&&decide (a<m)&&decide (m<b)&&decide (b<=Y Q)&&decide (b-a<((X+1:Nat):Int))&&Q.all A.ok&&wG A.lt (bc Q a.toNat m.toNat)&&wG A.lt (bc Q m.toNat b.toNat) then U (Q.take a.toNat++(bT A.lt (bc Q a.toNat b.toNat)++Q.drop b.toNat)) else none:=rfl
def apu(W:C6 d f)(V:ld o.lt (λx=>o.ok x=J)):PG d e g o (N+4) 3 (VT e g l t N o f):=by
 rintro p _ A aE ns z y ⟨w,n,v,rfl,R,Q⟩ P u D s;obtain⟨a,m,b,rfl⟩:=Bb u;obtain⟨_,X⟩:=zY D;clear D;rw[ayX] at X;split at X;rename_i B;simp only[az,cF,fp,ajC] at B;obtain⟨⟨⟨⟨⟨⟨⟨r,aa⟩,ab⟩,ac⟩,af⟩,O⟩,M⟩,L⟩:=B;obtain⟨a,rfl⟩:=zp r;obtain⟨m,rfl⟩:=zp (a:=m) ae;obtain⟨b,rfl⟩:=zp (a:=b) ae;simp only[cG,zu] at X M L;have H:b<=Y A:=ae;refine xE ⟨d,g,o,e,.slice w n v,aE⟩ (z▸y) s _ _ _ ?_;unfold VT;have F:=PM (i:=a) (j:=b) ae;obtain⟨G,q⟩:∃G,G=(a+b)/2:=⟨_,rfl⟩;rw[<-q] at F;simp[xG (a:=m) (b:=a) ae ae,xG (a:=b) (b:=m) ae ae,F];refine tD (λk=> ?_) (λk=>tD (λh=> ?_) (λh=>tD (λc=> ?_) (λc=> ?_)));exact ayV W V R Q P O ae ae H L X.symm;exact ayW W V R Q P O ae ae H M X.symm;refine aps W V R Q P O (lo:=G+m-b) (hi:=G) ae ae H ae ae M L X.symm ae ae ae ae ae ae ae ?_;simp[F];rw[zo ae,xG ae ae];refine aps W V R Q P O (lo:=a) (hi:=m) ae ae H ae ae M L X.symm ae ae ae ae ae ae ae ?_;simp;cases X
end
end
section
attribute[local simp] K.ah BE.ah RE.rv RE.ah gX ak.rv ak.ext ak.add C.xv v8 HZ H0 H3 A9 Ba LE.aj nM ki
attribute[local congr] HY
section
variable{lt:aH->aH->Bool}
inductive kC(lt:List RV->List RV->Bool)(s:Nat):List (List RV)->List (List RV)->Prop
 |nil:kC lt s [] []
 |last (X:List (List RV)):1<=Y X->Y X<=s->kC lt s X (bT lt X)
 |cons (X R R':List (List RV)):Y X=s->kC lt s R R'->kC lt s (X++R) (bT lt X++R')
inductive wa(lt:List RV->List RV->Bool)(s:Nat):List (List RV)->List (List RV)->Prop
 |nil:wa lt s [] []
 |snoc (A A' X:List (List RV)):Y X=s->wa lt s A A'->wa lt s (A++X) (A'++bT lt X)
def wa.mW(h:wa lt X Q F):∀{R V:ax},kC lt X R V->kC lt X (Q++R) (F++V):=by
 induction h with
 |nil=>intro R V P;exact P
 |snoc Q F W O _ N=>
  intro R V P;have:=N (.cons W R V O P);simpa using this
def wa.len(h:wa lt X Q F):Y F=Y Q:=by
 induction h with
 |nil=>rfl
 |snoc Q F W R _ V=>simp[V,nO]
def kC.len(h:kC lt X Q F):Y F=Y Q:=by
 induction h with
 |nil=>rfl
 |last W _ _=>simp[nO]
 |cons W R P O _ V=>simp[V,nO]
def wa.mem(h:wa lt X Q F):∀x∈F,x∈Q:=by
 induction h with
 |nil=>simp
 |snoc Q F W V _ R=>
  intro x V;rcases eP.1 V with h|h;simp[R x h];simp[Gz h]
def kC.mem(h:kC lt X Q F):∀x∈F,x∈Q:=by
 induction h with
 |nil=>simp
 |last W _ _=>intro x V;exact Gz V
 |cons W R O V _ P=>
  intro x V;rcases eP.1 V with h|h;simp[Gz h];simp[P x h]
def kC.two(D:1<=X)(h:kC lt X Q F)(N:2*X<=Y Q):∃W V P O,Q=W++(V++P)/\F=bT lt W++(bT lt V++O)/\Y W=X/\Y V=X/\kC lt X P O:=by
 cases h with
 |nil=>simp at N;omega
 |last _ L H=>omega
 |cons W Q F M h=>
  simp only[gD] at N;cases h with
  |nil=>simp at N;omega
  |last _ L H=>exact⟨W,Q,[],[],ay,ay,M,ae,.nil⟩
  |cons V P O G h=>exact⟨W,V,P,O,rfl,rfl,M,G,h⟩
def kC.one(h:kC lt X Q F)(O:X<Y Q)(N:Y Q<2*X):∃W V,Q=W++V/\F=bT lt W++bT lt V/\Y W=X:=by
 cases h with
 |nil=>simp at O
 |last _ O N=>omega
 |cons W Q F M h=>
  simp only[gD] at O N;cases h with
  |nil=>simp at O;omega
  |last _ O N=>exact⟨W,Q,rfl,rfl,M⟩
  |cons V P L H h=>simp only[gD] at N;omega
def kC.short(h:kC lt X Q F)(O:Y Q<=X):F=bT lt Q:=by
 cases h with
 |nil=>rfl
 |last _ M L=>rfl
 |cons W Q F H h=>
  simp only[gD] at O;have V:Q=[]:=rZ ae;have P:=h.len;rw[V] at P;have N:F=[]:=rZ (by simpa using P);rw[V,N];simp
def kC.aes(W:Y Q<=X):kC lt X Q (bT lt Q):=by
 cases Q with
 |nil=>exact .nil
 |cons x r=>exact .last _ ay W
end
def apv{o:bm}{P X Q:ax}{a b:Int}(W:a=Y P)(V:b=Y P+Y X)(R:(P++(X++Q)).length<=1099511627776)(O:∀z∈P++(X++Q),o.ok z=J):
  oW 2 o [a,b] (P++(X++Q))=U (P++(bT o.lt X++Q)):=by
 subst W;subst V;unfold oW;rw[aI R];simp only[mI];have N:((Y P:Int)).toNat=Y P:=rfl;have M:((Y P:Int)+Y X).toNat=Y P+Y X:=ae;rw[N,M];have L:(P++(X++Q)).take (Y P)=P:=ay;have H:bc (P++(X++Q)) (Y P) (Y P+Y X)=X:=PJ P X _;have G:(P++(X++Q)).drop (Y P+Y X)=Q:=by
  have:P++(X++Q)=(P++X)++Q:=ay;rw[this,Wq ay]
 rw[L,H,G,aI];simp only[az,cF,fp,gD];exact⟨⟨⟨ae,ae⟩,ae⟩,O⟩
section
variable{d:lA}{e g j f:Nat}{o:bm}
def apw(c:ld o.lt (λx=>o.ok x=J)):VO d e g o (λns H=>if ns=[]/\H.length<X then iQ o J H else Z) 0 (VU e g j f X o):=by
 rintro p _ H aE ns hP bt ⟨D,n,B,rfl,bg,hn⟩ hT hN y bx;simp only at y;split at y;rename_i G;obtain⟨rfl,b8⟩:=G;have ca:=X0 y;have b0:(∀x∈H,o.ok x=J)/\aE=bT o.lt H:=by
  cases o with
  |dh k o zs=>simp[iQ] at y
  |_=>
   simp only[iQ] at y;split at y;rename_i hq;simp only[az,fp] at hq;exact⟨hq.2.1,(lT y).symm⟩;cases y
 obtain⟨an,b1⟩:=b0;clear y;refine xE ⟨d,g,o,e,.slice D n B,aE⟩ (hP▸bt) bx _ _ _ ?_;unfold VU;refine xF (λM=>∃(A O R:ax),M=[.r (.mk (.slice D n B) (O++R)),.i ((A.length+20:Nat):Int),.i A.length]/\H=A++R/\wa o.lt 20 A O) (λM=>match M with|[_,_,.i a]=>n-a.toNat|_=>0) ⟨[],[],H,ay,rfl,.nil⟩ ?_;rintro _ ⟨A,O,R,rfl,F,v⟩;have b2:=v.len;have a0:A.length+R.length=n:=by rw[<-bg,F];simp
 have ab:∀z∈O++R,o.ok z=true:=λz L=>an z (by
  rw[F];rcases eP.1 L with h|h;simp[v.mem z h];simp[h])
 by_cases b3:A.length+20<=n;obtain⟨W,R2,rfl,l⟩:∃W R2,R=W++R2/\W.length=20:=⟨R.take 20,R.drop 20,(H6 _ _).symm,dF⟩;have aa:=apv (o:=o) (P:=O) (X:=W) (Q:=R2) (a:=A.length) (b:=((A.length+20:Nat):Int)) ae ae (by simp at a0⊢;omega) ab;have G:((A.length+20:Nat):Int)<=n:=ae;have a1:=zo (a:=A.length+20) (b:=20) ae;have ac:HX (U ⟨0,λM=>∃(A O R:ax),M=[.r (.mk (.slice D n B) (O++R)),.i ((A.length+20:Nat):Int),.i A.length]/\H=A++R/\wa o.lt 20 A O,λM=>match M with|[_,_,.i a]=>n-a.toNat|_=>0,n-A.length⟩) [.r (.mk (.slice D n B) (O++(bT o.lt W++R2))),.i (aU .add I ((A.length+20:Nat):Int) 20),.i ((A.length+20:Nat):Int)]:=by
  refine⟨⟨A++W,O++bT o.lt W,R2, ?_,by rw[F];simp,.snoc A O W l v⟩, ?_⟩;rw[show((20:Int))=((20:Nat):Int) from rfl,a1];simp[l];show n-((A.length+20:Nat):Int).toNat<n-A.length;omega
 generalize L:((A.length+20:Nat):Int)=z at aa G ac⊢;simp[lenOf,G];exact⟨_,aa,ac⟩;have G:¬((A.length+20:Nat):Int)<=n:=ae;have aa:=apv (o:=o) (P:=O) (X:=R) (Q:=[]) (a:=A.length) (b:=n) ae ae dF (by simpa using ab);simp only[H9] at aa;generalize L:((A.length+20:Nat):Int)=z at G⊢;have hB:kC o.lt 20 H (O++bT o.lt R):=by rw[F];exact v.mW (.aes ae)
 simp[lenOf,G];refine⟨_,aa, ?_⟩;clear aa;generalize cc:O++bT o.lt R=b4 at hB⊢;have cf:∀{u:ax}{s:Nat},kC o.lt s H u->∀z∈u,o.ok z=true:=λh z L=>an z (h.mem z L)
 refine xF (λM=>∃(s:Nat)(u:ax),M=[.r (.mk (.slice D n B) u),.i s]/\20<=s/\s<=2*1099511627776/\kC o.lt s H u) (λM=>match M with|[_,.i s]=>4398046511104-s.toNat|_=>0) ⟨20,b4,rfl,ae,ae,hB⟩ ?_;rintro _ ⟨s,u,rfl,ch,cl,bk⟩;by_cases bl:s<n;have a9:aU .mul I 2 (s:Int)=((2*s:Nat):Int):=by simp only[aU];rw[PI ae ae];omega
 have ba:aU .mul I (s:Int) 2=((2*s:Nat):Int):=by simp only[aU];rw[PI ae ae];omega
 have bb:∀a3,kC o.lt (2*s) H a3->HX (U ⟨1,λM=>∃(s:Nat)(u:ax),M=[.r (.mk (.slice D n B) u),.i s]/\20<=s/\s<=2*1099511627776/\kC o.lt s H u,λM=>match M with|[_,.i s]=>4398046511104-s.toNat|_=>0,4398046511104-s⟩) [.r (.mk (.slice D n B) a3),.i ((2*s:Nat):Int)]:=λa3 h'=>⟨⟨2*s,a3,rfl,ae,ae,h'⟩,show 4398046511104-((2*s:Nat):Int).toNat<4398046511104-s from ae⟩
 generalize br:((2*s:Nat):Int)=w at a9 ba bb;simp[bl,lenOf];refine xF (λM=>∃(A O R t:ax),M=[.r (.mk (.slice D n B) (O++t)),.i ((A.length+2*s:Nat):Int),.i A.length]/\H=A++R/\wa o.lt (2*s) A O/\kC o.lt s R t) (λM=>match M with|[_,_,.i a]=>n-a.toNat|_=>0) ⟨[],[],H,u,by simp[a9,<-br],rfl,.nil,bk⟩ ?_;rintro _ ⟨A,O,R,t,rfl,F,v,hR⟩;have b2:=v.len;have bs:=hR.len;have a0:A.length+R.length=n:=by rw[<-bg,F];simp
 have ab:∀z∈O++t,o.ok z=true:=λz L=>an z (by
  rw[F];rcases eP.1 L with h|h;simp[v.mem z h];simp[hR.mem z h])
 have a4:∀z∈R,o.ok z=true:=λz L=>an z (by rw[F];simp[L])
 have has:=zo (a:=A.length) (b:=s) ae;by_cases b3:A.length+2*s<=n;obtain⟨W,V,Q,Q',rfl,rfl,l,hy,hq⟩:=hR.two ae ae;have b5:(bT o.lt W).length=s:=by rw[nO,l]
 have b6:(bT o.lt V).length=s:=by rw[nO,hy]
 have af:∀z∈W,o.ok z=true:=λz L=>a4 z (by simp[L])
 have ag:∀z∈V,o.ok z=true:=λz L=>a4 z (by simp[L])
 have q:=VX (o:=o) (N:=X) (P:=O) (X:=bT o.lt W) (Y:=bT o.lt V) (Q:=Q') (a:=A.length) (m:=((A.length+s:Nat):Int)) (b:=((A.length+2*s:Nat):Int)) ae ae ae ae ae ae (by simp only[gD] at bs a0⊢;omega) ab (Cd c af) (Cd c ag);rw[ajy c af ag] at q;have G:((A.length+2*s:Nat):Int)<=n:=ae;have a1:=zo (a:=A.length+2*s) (b:=2*s) ae;rw[br] at a1;have ac:HX (U ⟨2,λM=>∃(A O R t:ax),M=[.r (.mk (.slice D n B) (O++t)),.i ((A.length+2*s:Nat):Int),.i A.length]/\H=A++R/\wa o.lt (2*s) A O/\kC o.lt s R t,λM=>match M with|[_,_,.i a]=>n-a.toNat|_=>0,n-A.length⟩) [.r (.mk (.slice D n B) (O++(bT o.lt (W++V)++Q'))),.i (aU .add I ((A.length+2*s:Nat):Int) w),.i ((A.length+2*s:Nat):Int)]:=by
  refine⟨⟨A++(W++V),O++bT o.lt (W++V),Q,Q', ?_,by rw[F];simp,.snoc A O (W++V) dF v,hq⟩, ?_⟩;rw[a1];simp[l,hy];omega;show n-((A.length+2*s:Nat):Int).toNat<n-A.length;omega
 generalize L:((A.length+2*s:Nat):Int)=z at q G ac⊢;simp[lenOf,G,a9,has];exact⟨_,by simpa using q,ac⟩;have G:¬((A.length+2*s:Nat):Int)<=n:=ae;generalize L:((A.length+2*s:Nat):Int)=z at G⊢;by_cases cm:A.length+s<n;obtain⟨W,V,rfl,rfl,l⟩:=hR.one ae ae;simp only[gD] at a0 bs;have b5:(bT o.lt W).length=s:=by rw[nO,l]
 have b6:(bT o.lt V).length=V.length:=nO;have af:∀z∈W,o.ok z=true:=λz L=>a4 z (by simp[L])
 have ag:∀z∈V,o.ok z=true:=λz L=>a4 z (by simp[L])
 have q:=VX (o:=o) (N:=X) (P:=O) (X:=bT o.lt W) (Y:=bT o.lt V) (Q:=[]) (a:=A.length) (m:=((A.length+s:Nat):Int)) (b:=n) ae ae ae ae ae ae (by simp only[gD,Qf];omega) (by simpa using ab) (Cd c af) (Cd c ag);rw[ajy c af ag] at q;simp only[H9] at q;have al:((A.length+s:Nat):Int)<n:=ae;have bd:kC o.lt (2*s) H (O++bT o.lt (W++V)):=by rw[F];exact v.mW (.aes dF)
 generalize b7:((A.length+s:Nat):Int)=z3 at has q al;simp[lenOf,G,has,al,ba];exact⟨_,q,bb _ bd⟩;have al:¬((A.length+s:Nat):Int)<n:=ae;have bf:=hR.short ae;have bd:kC o.lt (2*s) H (O++t):=by rw[F,bf];exact v.mW (.aes ae)
 generalize b7:((A.length+s:Nat):Int)=z3 at has al;simp[lenOf,G,has,al,ba];exact bb _ bd;have bf:=bk.short ae;simp[bl,lenOf];exact⟨3,rfl,by rw[bf,b1];rfl⟩;cases y
end
end
