/- Part 9 of the proof. -/
import Derived.Test.YtfpoabmmjhhncaaGreatDoorQ4
import Derived.Test.YtfpoabmmjhhncaaGreatDoorProg
import Derived.ChangeKeysEq
import Derived.Laws.StructEq
import Derived.KernelRfl
import Derived.LoopTactic
import Derived.Lib.Hide
import Derived.Outline
import Derived.OwnWalk
import Derived.RegionTactic
import Derived.BigQuiet
import Derived.Deep.QuietTactic
import Derived.WalkSpells
import Derived.WalkLawsBesides
import Derived.WalkSmall
import Derived.Deep.RegionWith
set_option linter.all false
set_option maxRecDepth 100000
set_option maxHeartbeats 100000000
open Bool renaming and_eq_true->aw,not_eq_true'->f9,false_eq_true->iC,or_eq_true->iD,and_assoc->alA,true->J,false->E
open List renaming getElem?_eq_some_iff->bJ,getD_eq_getElem?_getD->cw,getElem?_eq_getElem->ce,getElem?_append_left->dF,getElem?_map->dM,getElem?_append_right->gK,mem_append->eC,mem_cons->dJ,all_eq_true->eO,replicate->ew,length_append->fQ,map_cons->ep,cons_append->gA,mem_of_getElem?->iU,nil_append->gU,ext_getElem?->jV,eq_nil_of_length_eq_zero->qG,length_eq_one_iff->nj,mem_map->gL,pairwise_append->mB,getElem?_take->lT,getElem?_of_mem->qI,getElem?_drop->rJ,getElem_mem->pN,length_cons->pO,length_map->o8,map_map->mT,getElem?_cons_zero->xR,getElem?_eq_none_iff->zT,getElem?_set->td,mem_or_eq_of_mem_set->Bw,nodup_append->uE,drop_eq_getElem_cons->Dv,mem_of_mem_drop->zU,length_eq_zero_iff->Dx,mem_of_mem_take->Bz,take_of_length_le->F7,getD_cons_zero->DA,append_assoc->BD,range'->uI,take_append_drop->JD,length_drop->DD,map_nil->xU,getD_cons_succ->JE,length_take->F9,range_eq_range'->NF,append_nil->Gc,set_append_right->Tl,drop_drop->JJ,map->xV,length_nil->NP,take_append_of_le_length->alh,all_map->JM,range'_succ->Ts,drop_left'->Tu,getElem?_modify->alo,set_cons_zero->axq,take_add_one->axx,length->Y
open Go.Result renaming andThen_ok->cT
open Nat renaming le_refl->bU,le_trans->pP,add_zero->uH,min_eq_left->Gb,add_sub_cancel_left->aaw,lt_of_lt_of_le->Tn,zero_le->NT,min_eq_right->aaE,sub_self->Tv,mul_one->alO
open Option renaming isSome_iff_exists->jw,map_eq_some_iff->ND,some->U,none->Z
open Go.Sem renaming run_bind->cZ,run_pure->eI
open Array renaming ext'->kG,getElem?_modify->JB,getElem?_eq_none->aw7
open Go.Op renaming equalIn->zW,equal->BL,eqFields->alN
open Go.World renaming cell?->mC,size_alloc->NL,setCell->NQ
open List.cons renaming injEq->uG
open Int renaming toNat_natCast->DC,fdiv_eq_ediv_of_nonneg->awY
open Go.IntKind renaming i64->I
namespace Go.Proofs.YtfpoabmmjhhncaaGreatDoor.Y
open Go.RowKit
noncomputable section
variable{R:TypeId}{X x n:Nat}{w:Bool}{z:aZ}{G:FuncId}{v:Func}{y:Code}{B:List (Nat×Nat×eV)}{c:am}{u:T}{M:World}
def s7:Option TypeDesc->Bool
 |U (.struct _)|U (.array _ _)=>J
 |_=>E
def ux(P:Program)(t:TypeId)(X:eX):Value:=if s7 (P.underlying t) then .agg X.toArray else X.getD 0 undef
def Nd(P:Program)(gF:TypeId->eG->Bool):Nat->List Field->eG->Bool
 |_,[],aj=>aj.isEmpty
 |X,f::W,aj=>f.name != "_"&&f.offset==X&&(P.info? f.type).isSome&&decide (P.cellsOf f.type<=Y aj)&&gF f.type (aj.take (P.cellsOf f.type))&&Nd P gF (X+P.cellsOf f.type) W (aj.drop (P.cellsOf f.type))
def Nf(gF:eG->Bool)(c:Nat):Nat->eG->Bool
 |0,aj=>aj.isEmpty
 |n+1,aj=>decide (c<=Y aj)&&gF (aj.take c)&&Nf gF c n (aj.drop c)
def s8(P:Program):Nat->TypeId->eG->Bool
 |0,_,_=>E
 |d+1,t,aj=>match P.underlying t with
  |U .bool=>(match aj with
   |[.bool]=>J
   |_=>E)
  |U (.int k)=>(match aj with
   |[.int X]=>decide (k=X)
   |_=>E)
  |U .string=>(match aj with
   |[.ac _ .str]=>J
   |_=>E)
  |U (.struct W)=> !P.stoodInHeld t&&Nd P (s8 P d) 0 W.toList aj
  |U (.array n e)=>(P.info? e).isSome&&Nf (s8 P d e) (P.cellsOf e) n aj
  |_=>E
def uy:∀{X:eG}{W:eX},jZ X W->Y W=Y X
 |[],[],_=>rfl
 |[],_::_,h=>h.elim
 |_::_,[],h=>h.elim
 |_::_,_::_,h=>by simp[uy h.2]
def ZO:∀{X:eG}{W:eX}(n:Nat),jZ X W->jZ (X.take n) (W.take n)/\jZ (X.drop n) (W.drop n)
 |[],[],n,_=>by simp[jZ]
 |[],_::_,n,h=>h.elim
 |_::_,[],n,h=>h.elim
 |_::_,_::_,0,h=>⟨trivial,h⟩
 |_::_,_::_,n+1,h=>by
  obtain⟨a,b⟩:=ZO n h.2;exact⟨⟨h.1,a⟩,b⟩
def ajT:∀{X W:eX}{r:Bool}(n:Nat),jm X W=U r->∃a b,jm (X.take n) (W.take n)=U a/\jm (X.drop n) (W.drop n)=U b/\r=(a&&b)
 |[],[],r,n,h=>by simp[jm] at h;subst h;exact⟨J,J,by simp[jm],by simp[jm],rfl⟩
 |[],_::_,r,n,h=>by simp[jm] at h
 |_::_,[],r,n,h=>by simp[jm] at h
 |x::X,y::W,r,0,h=>⟨J,r,rfl,h,au⟩
 |x::X,y::W,r,n+1,h=>by
  simp only[jm] at h;split at h;rename_i a b V R;cases h;obtain⟨c,d,Q,O,rfl⟩:=ajT n R;exact⟨a&&c,d,by simp[jm,V,Q],by simpa using O,by simp[alA]⟩;cases h
section
variable{P:Program}
def ajU(w:World){i:TypeInfo}(M:P.info? R=U i){W:eX}(h:s7 (P.underlying R)=J\/X<Y W/\P.cellsOf R=1)(L:(P.underlying R).isSome=J):(part R W.toArray X).run P w=.ok (ux P R ((W.drop X).take (P.cellsOf R))) w:=by
 obtain⟨d,Q⟩:=jw.1 L;unfold ux;by_cases V:s7 (P.underlying R)=J;rw[aE V];have:(W.toArray.extract X (X+P.cellsOf R))=((W.drop X).take (P.cellsOf R)).toArray:=by
  apply kG;simp[List.extract]
 rw[Q] at V;unfold s7 at V;split at V;rename_i O;cases O;simp[part,isAgg,run_underlying Q,run_sizeOf w M];rename_i O;cases O;simp[part,isAgg,run_underlying Q,run_sizeOf w M];cases V;rw[aJ V];obtain⟨N,H⟩:=h.resolve_left V;have F:W.toArray[X]?=U W[X]:=by simp[N]
 have G:((W.drop X).take (P.cellsOf R)).getD 0 undef=W[X]:=by rw[H];simp[cw,N]
 rw[G];rw[Q] at V;cases d<;>first|(exact bp rfl V)|simp[part,isAgg,run_underlying Q,N]
def asB{aj:eG}(h:s8 P X R aj=J):(P.underlying R).isSome=J/\(s7 (P.underlying R)=J\/Y aj=1):=by
 cases X with
 |zero=>simp[s8] at h
 |succ X=>
  simp only[s8] at h;split at h;rename_i W;rw[W];split at h;exact⟨rfl,.inr rfl⟩;cases h;rename_i W;rw[W];split at h;exact⟨rfl,.inr rfl⟩;cases h;rename_i W;rw[W];split at h;exact⟨rfl,.inr rfl⟩;cases h;rename_i W;rw[W];exact⟨rfl,.inl rfl⟩;rename_i W;rw[W];exact⟨rfl,.inl rfl⟩;cases h
def SL(P:Program)(V m:Nat):Prop:=∀(t:TypeId)(aj:eG)(X W:eX)(r:Bool)(w:World),s8 P m t aj=J->jZ aj X->jZ aj W->jm X W=U r->(zW V t (ux P t X) (ux P t W)).run P w=.ok r w
def ajV(y:SL P X x)(W:World){aj:eG}{V Q:eX}(M:(P.info? R).isSome=J)(j:P.cellsOf R<=Y aj)(G:s8 P x R (aj.take (P.cellsOf R))=J)
  (F:jZ aj (V.drop n))(D:jZ aj (Q.drop n))(v:jm (V.drop n) (Q.drop n)=U w):
  ∃a b q L,(part R V.toArray n).run P W=.ok a W/\(part R Q.toArray n).run P W=.ok b W/\(zW X R a b).run P W=.ok q W/\jm (V.drop (n+P.cellsOf R)) (Q.drop (n+P.cellsOf R))=U L/\w=(q&&L)/\
   jZ (aj.drop (P.cellsOf R)) (V.drop (n+P.cellsOf R))/\jZ (aj.drop (P.cellsOf R)) (Q.drop (n+P.cellsOf R)):=by
 obtain⟨i,M⟩:=jw.1 M;obtain⟨B,N⟩:=asB G;obtain⟨u,a2⟩:=ZO (P.cellsOf R) F;obtain⟨t,A⟩:=ZO (P.cellsOf R) D;obtain⟨q,L,s,H,p⟩:=ajT (P.cellsOf R) v;have o:=uy F;have l:=uy D;have z:∀O:eX,(O.drop n).length=Y aj->s7 (P.underlying R)=J\/n<Y O/\P.cellsOf R=1:=by
  intro O k;rcases N with N|N;exact .inl N;right;simp only[F9,DD] at N k;omega
 rw[JJ] at a2 A H;exact⟨_,_,q,L,ajU W M (z V o) B,ajU W M (z Q l) B,y R _ _ _ q W G u t s,by rw[<-JJ] at H⊢;simpa using H,p,a2,A⟩
def ajW{L m:Nat}(H:SL P L m)(X W:eX):∀(O:List Field)(V:Nat)(aj:eG)(r:Bool)(w:World),Nd P (s8 P m) V O aj=J->jZ aj (X.drop V)->jZ aj (W.drop V)->jm (X.drop V) (W.drop V)=U r->
  (alN L X.toArray W.toArray O).run P w=.ok r w
 |[],V,aj,r,w,R,N,M,Q=>by
  simp only[Nd,List.isEmpty_iff] at R;subst R;have:=uy N;have:=uy M;rw[Dx.1 ‹(X.drop V).length=_›,Dx.1 ‹(W.drop V).length=_›] at Q;simp[jm] at Q;subst Q;simp[alN]
 |f::O,V,aj,r,w,R,N,M,Q=>by
  simp only[Nd,aw,bne_iff_ne,di,bZ] at R;obtain⟨⟨⟨⟨⟨G,F⟩,D⟩,B⟩,A⟩,z⟩:=R;obtain⟨a,b,q,y,x,v,u,t,rfl,s,p⟩:=ajV H w D B A N M Q;have o:=ajW H X W O _ _ y w z s p t;simp only[alN,G,ne_eq,not_false_eq_true,cH,cZ,F,x,v,u,cT];cases q;simp;simpa using o
def ajX{N m:Nat}(M:SL P N m){e:TypeId}(L:(P.info? e).isSome=J)(X W:eX):∀(n j:Nat)(aj:eG)(r:Bool)(w:World),Nf (s8 P m e) (P.cellsOf e) n aj=J->jZ aj (X.drop (j*P.cellsOf e))->jZ aj (W.drop (j*P.cellsOf e))->jm (X.drop (j*P.cellsOf e)) (W.drop (j*P.cellsOf e))=U r->
  (Op.eqItems N e (P.cellsOf e) X.toArray W.toArray (uI j n)).run P w=.ok r w
 |0,j,aj,r,w,V,Q,O,R=>by
  simp only[Nf,List.isEmpty_iff] at V;subst V;have:=uy Q;have:=uy O;rw[Dx.1 ‹(X.drop _).length=_›,Dx.1 ‹(W.drop _).length=_›] at R;simp[jm] at R;subst R;simp[Op.eqItems]
 |n+1,j,aj,r,w,V,Q,O,R=>by
  simp only[Nf,aw,bZ] at V;obtain⟨⟨D,B⟩,A⟩:=V;obtain⟨a,b,q,z,y,x,v,H,rfl,G,F⟩:=ajV M w L D B Q O R;have u:j*P.cellsOf e+P.cellsOf e=(j+1)*P.cellsOf e:=by rw[Nat.succ_mul]
  rw[u] at H G F;have t:=ajX M L X W n (j+1) _ z w A G F H;rw[Ts];simp only[Op.eqItems,cZ,y,x,v,cT];cases q;simp;simpa using t
def ZP(d:Nat):∀m,SL P (d+m) m
 |0=>λt aj H G r w h=>by simp[s8] at h
 |m+1=>by
  intro t aj H G r w X V R Q;have F:=ZP d m;simp only[s8] at X;split at X;rename_i W;split at X;obtain⟨x,rfl⟩:=nj.1 (uy V);obtain⟨y,rfl⟩:=nj.1 (uy R);have N:=V.1;have M:=R.1;cases x<;>simp only[Av] at N;cases y<;>simp only[Av] at M;simp[jm,Au] at Q;subst Q;simp[ux,W,s7,zW,run_underlying W];cases X;rename_i k W;split at X;obtain⟨x,rfl⟩:=nj.1 (uy V);obtain⟨y,rfl⟩:=nj.1 (uy R);have N:=V.1;have M:=R.1;cases x<;>simp only[Av] at N;cases y<;>simp only[Av] at M;subst N M;simp[jm,Au] at Q;subst Q;simp[ux,W,s7,zW,run_underlying W];cases X;rename_i W;split at X;obtain⟨x,rfl⟩:=nj.1 (uy V);obtain⟨y,rfl⟩:=nj.1 (uy R);have N:=V.1;have M:=R.1;cases x<;>simp only[Av] at N;cases y<;>simp only[Av] at M;simp[jm,Au] at Q;subst Q;simp[ux,W,s7,zW,run_underlying W,beq_toListBytes];cases X;rename_i D W;simp only[aw,f9] at X;have B:P.fieldsOf t=D:=by simp[Program.fieldsOf,W]
  have L:∀O:eX,ux P t O=.agg O.toArray:=λO=>by simp[ux,W,s7]
  rw[L,L,show d+(m+1)=(d+m)+1 from rfl,run_equalIn_struct w (d+m) t _ _ (by rw[B];exact W) X.1,B];exact ajW F H G D.toList 0 aj r w X.2 V R Q;rename_i n e W;simp only[aw] at X;obtain⟨i,A⟩:=jw.1 X.1;have L:∀O:eX,ux P t O=.agg O.toArray:=λO=>by simp[ux,W,s7]
  rw[L,L,show d+(m+1)=(d+m)+1 from rfl,run_equalIn_array w (d+m) _ _ W A,NF];exact ajX F X.1 H G n 0 aj r w X.2 (by simpa using V) (by simpa using R) (by simpa using Q);cases X
def ZQ(P:Program)(t:TypeId)(X:TI):Bool:=s7 (P.underlying t)&&s8 P 20 t X.aj&& !P.eqGuardType P.depth t
def asC{V:TI}(h:ZQ P R V=J):∀(X W:eX)(r:Bool)(x y:Operand)(w:World),jZ V.aj X->jZ V.aj W->jm X W=U r->
  (do eqGuard .eql R x y (.agg X.toArray) (.agg W.toArray);binOp .eql R (.agg X.toArray) (.agg W.toArray)).run P w=.ok (.bool r) w/\
  (do eqGuard .neq R x y (.agg X.toArray) (.agg W.toArray);binOp .neq R (.agg X.toArray) (.agg W.toArray)).run P w=.ok (.bool !r) w:=by
 intro X W r x y w O N M;simp only[ZQ,aw,f9] at h;have:=ZP (P:=P) 9980 20 R V.aj X W r w h.1.2 O N M;simp only[ux,h.1.1,cH] at this;have Q:(BL R (.agg X.toArray) (.agg W.toArray)).run P w=.ok r w:=this;constructor;rw[cZ];simp[eqGuard,h.2,binOp,Q];rw[cZ];simp[eqGuard,h.2,binOp,Q]

def asD{ag:Bool}(W:Y z=X)(V:ag=E->X=1):uZ (gf ag z)=z:=by
 cases ag with
 |false=>
  have:=V rfl;subst this;obtain⟨x,rfl⟩:=nj.1 W;rfl
 |true=>simp[gf,uZ,Function.comp_def,bF]
def asE(O:P.underlying R=U (.int I)):rZ P R 1 false:=by
 refine⟨λ_=>rfl,λl X W M L=>⟨λb=>MapKept.run_checkKey O (by trivial) b 9999,MapKept.run_findKey O ?_⟩⟩;obtain⟨x,rfl⟩:=nj.1 M;have:∀(X:List MapEntry)(i:Nat),(∀e∈X,∃V:aZ,Y V=1/\e.key=gf E V)->Instr.findNow (.int I) (gf E [x]) X i=U (mZ [x] X i):=by
  intro X;induction X with
  |nil=>intro i _;rfl
  |cons e X H=>
   intro i N;obtain⟨V,G,F⟩:=N e au;obtain⟨y,rfl⟩:=nj.1 G;simp only[Instr.findNow,F,mZ];simp only[gf,iC,fH,List.headD_cons,Instr.sameNow,cH,uZ,uG,and_true];by_cases Q:x=y;subst Q;simp;have:¬y=x:=λe=>Q e.symm
   simp only[this,fH,show(x==y)=E by simpa using Q];exact H (i+1) (λe D=>N e (by simp[D]))
 exact this X 0 L
def asF(d:TypeDesc)(X:kH)(v:Value):Instr.sameNow d (.agg X) v=none:=by
 cases d<;>rfl
def ajY:∀(l X:aZ),Y l=Y X->jm (l.map (Value.int I)) (X.map (Value.int I))=U (l==X)
 |[],[],_=>rfl
 |[],_::_,h=>by simp at h
 |_::_,[],h=>by simp at h
 |x::W,y::V,h=>by
  have R:=ajY W V (by simpa using h);simp only[ep,jm,Au,R];rfl
def ZR:∀(l:aZ),jZ (ew (Y l) (.int I)) (l.map (Value.int I))
 |[]=>trivial
 |x::X=>⟨rfl,ZR X⟩
def ajZ(X:P.underlying R=U (.int I)){l:aZ}{off:Nat}(V:off<Y l)(W:World):∃a,(part R (l.map (Value.int I)).toArray off).run P W=.ok (.int I a) W:=by
 refine⟨l[off],run_part_plain W (by simp[Program.plainKey,X]) ?_⟩;simp[V]
def asG{e:TypeId}{i:TypeInfo}(N:P.underlying R=U (.array X e))(Q:P.underlying e=U (.int I))(M:P.info? e=U i)(L:P.cellsOf e=1)(H:Y z=X)(b:Bool)(m:Nat)(W:World):(Instr.checkKey b (m+2) R (gf J z)).run P W=.ok () W:=by
 rw[show m+2=(m+1)+1 from rfl,Instr.checkKey];simp only[cZ,eB.gp N,cT,gf,cH];simp only[Std.Legacy.Range.forIn_eq_forIn_range',Std.Legacy.Range.size,Nat.sub_zero,Nat.add_one_sub_one,Nat.div_one];have V:∀j∈uI 0 X,j<X:=λj G=>by simpa[List.mem_range'] using G
 generalize uI 0 X=O at V;induction O with
 |nil=>simp
 |cons j O F=>
  obtain⟨a,D⟩:=ajZ Q (l:=z) (off:=j*P.cellsOf e) (by rw[L,H,alO];exact V j au) W;have B:=MapKept.run_checkKey (w:=W) (k:=.int I a) Q (by trivial) b m;simp only[List.forIn_cons,cZ,run_sizeOf W M,cT,D,B,eI];exact F (λy A=>V y (by simp[A]))
def asH{V:Array Field}(N:P.underlying R=U (.struct V))(Q:∀f∈V.toList,f.name≠ "_"/\P.underlying f.type=U (.int I)/\f.offset<X)(M:Y z=X)(b:Bool)(m:Nat)(W:World):(Instr.checkKey b (m+2) R (gf J z)).run P W=.ok () W:=by
 rw[show m+2=(m+1)+1 from rfl,Instr.checkKey];simp only[cZ,eB.gp N,cT,gf,cH];rw[<-Array.forIn_toList];generalize V.toList=L at Q;induction L with
 |nil=>simp
 |cons f L H=>
  obtain⟨G,O,F⟩:=Q f au;obtain⟨a,D⟩:=ajZ O (l:=z) (off:=f.offset) (by rw[M];exact F) W;have B:=MapKept.run_checkKey (w:=W) (k:=.int I a) O (by trivial) b m;simp only[List.forIn_cons,cZ,G,ne_eq,not_false_eq_true,cH,cT,D,B,eI];exact H (λy A=>Q y (by simp[A]))
def aj0{d:TypeDesc}(L:P.underlying R=U d)(D:s7 (P.underlying R)=J)(B:s8 P 20 R (ew X (.int I))=J)
  (A:∀(l:aZ)(b:Bool)(W:World),Y l=X->(Instr.checkKey b 10000 R (gf J l)).run P W=.ok () W):rZ P R X true:=by
 refine⟨λh=>(by cases h),λl V W O z=>⟨λb=> ?_, ?_⟩⟩;exact A l b W O;have y:∀l:aZ,gf J l=.agg (l.map (Value.int I)).toArray:=λl=>rfl
 have x:∀(V:List MapEntry)(i:Nat),(∀e∈V,∃Q:aZ,Y Q=X/\e.key=gf J Q)->(Instr.findAsking R (gf J l) V i).run P W=.ok (mZ l V i) W:=by
  intro V;induction V with
  |nil=>intro i _;rfl
  |cons e V w=>
   intro i H;obtain⟨Q,N,G⟩:=H e au;have F:=ZP (P:=P) 9980 20 R (ew X (.int I)) (l.map (Value.int I)) (Q.map (Value.int I)) (l==Q) W B (by rw[<-O];exact ZR l) (by rw[<-N];exact ZR Q) (ajY l Q (by rw[O,N]));simp only[ux,D,cH] at F;have v:(BL R (gf J l) e.key).run P W=.ok (l==Q) W:=by rw[G];exact F
   simp only[Instr.findAsking,cZ,v,cT];simp only[mZ,G,asD (ag:=J) N au];by_cases M:Q=l;rw[M];simp;have u:(l==Q)=false:=by
    cases t:l==Q;rfl;exact bp (eq_of_beq t).symm M
   simp only[M,u,iC,fH];exact w (i+1) (λe s=>H e (by simp[s]))
 have r:=x V 0 z;cases V with
 |nil=>simp[Instr.findKey,eB.gp L,Instr.findNow,mZ,Result.andThen]
 |cons e V=>
  have:Instr.findNow d (gf J l) (e::V) 0=none:=by simp only[Instr.findNow,y,asF]
  simp only[Instr.findKey,cZ,eB.gp L,cT,this];exact r
end
def aL{p:Prop}(h:p:=by kernel_rfl):p:=h
def TT:List (List BM):=[
[Z,U ⟨.one,[.ac .nilFunc .ac],E⟩,U ⟨.one,[.int I],E⟩,U ⟨.one,[.int I],E⟩,U ⟨.one,[.bool],E⟩,U ⟨.one,[.int .u8],E⟩,U ⟨.one,[.int .u8],E⟩,U ⟨(.struct [(0,2),(1,3),(2,4),(3,6)]),[.int I,.int I,.bool,.int .u8],J⟩,U ⟨(.struct [(0,2),(1,3),(2,4),(3,6)]),[.int I,.int I,.bool,.int .u8],J⟩,U ⟨.str,[.ac (.string ⟨#[]⟩) .str],E⟩,U ⟨.str,[.ac (.string ⟨#[]⟩) .str],E⟩,U ⟨.str,[.ac (.string ⟨#[]⟩) .str],E⟩,U ⟨.one,[.int .u64],E⟩,U ⟨(.struct [(0,9),(1,12)]),[.ac (.string ⟨#[]⟩) .str,.int .u64],E⟩,U ⟨(.struct [(0,9),(1,12)]),[.ac (.string ⟨#[]⟩) .str,.int .u64],E⟩,U ⟨.one,[.ac (.pointer Z) .ac],E⟩],
 [U ⟨.one,[.ac (.pointer Z) .ac],E⟩,U ⟨.one,[.ac (.pointer Z) .ac],E⟩,U ⟨(.struct [(0,17)]),[.ac (.pointer Z) .ac],E⟩,U ⟨(.struct [(0,17)]),[.ac (.pointer Z) .ac],E⟩,U ⟨.fT,[.ac .nilIface .ac],E⟩,U ⟨.one,[.int .i32],E⟩,U ⟨(.struct [(0,3),(1,3),(2,3)]),[.int I,.int I,.int I],J⟩,U ⟨(.struct [(0,3),(1,3),(2,3)]),[.int I,.int I,.int I],J⟩,U ⟨(.slice 84),[.ac (.slice Z 0 0) (.sl 84)],E⟩,U ⟨(.slice 86),[.ac (.slice Z 0 0) (.sl 86)],E⟩,U ⟨(.slice 218),[.ac (.slice Z 0 0) (.sl 218)],E⟩,U ⟨(.slice 220),[.ac (.slice Z 0 0) (.sl 220)],E⟩,U ⟨(.struct [(0,3),(1,25),(2,26),(3,27)]),[.int I,.ac (.slice Z 0 0) (.sl 86),.ac (.slice Z 0 0) (.sl 218),.ac (.slice Z 0 0) (.sl 220)],E⟩,U ⟨(.struct [(0,3),(1,25),(2,26),(3,27)]),[.int I,.ac (.slice Z 0 0) (.sl 86),.ac (.slice Z 0 0) (.sl 218),.ac (.slice Z 0 0) (.sl 220)],E⟩,U ⟨(.slice 56),[.ac (.slice Z 0 0) (.sl 56)],E⟩,U ⟨(.struct [(0,3),(1,3),(2,23),(5,24),(6,29),(10,30)]),[.int I,.int I,.int I,.int I,.int I,.ac (.slice Z 0 0) (.sl 84),.int I,.ac (.slice Z 0 0) (.sl 86),.ac (.slice Z 0 0) (.sl 218),.ac (.slice Z 0 0) (.sl 220),.ac (.slice Z 0 0) (.sl 56)],E⟩],
 [U ⟨(.struct [(0,3),(1,3),(2,23),(5,24),(6,29),(10,30)]),[.int I,.int I,.int I,.int I,.int I,.ac (.slice Z 0 0) (.sl 84),.int I,.ac (.slice Z 0 0) (.sl 86),.ac (.slice Z 0 0) (.sl 218),.ac (.slice Z 0 0) (.sl 220),.ac (.slice Z 0 0) (.sl 56)],E⟩,U ⟨(.slice 126),[.ac (.slice Z 0 0) (.sl 126)],E⟩,U ⟨(.struct [(0,33)]),[.ac (.slice Z 0 0) (.sl 126)],E⟩,U ⟨(.struct [(0,33)]),[.ac (.slice Z 0 0) (.sl 126)],E⟩,U ⟨(.slice 81),[.ac (.slice Z 0 0) (.sl 81)],E⟩,U ⟨(.slice 39),[.ac (.slice Z 0 0) (.sl 39)],E⟩,U ⟨(.slice 57),[.ac (.slice Z 0 0) (.sl 57)],E⟩,U ⟨(.slice 3),[.ac (.slice Z 0 0) (.sl 3)],E⟩,U ⟨(.struct [(0,32),(11,35),(12,36),(13,37),(14,38),(15,39)]),[.int I,.int I,.int I,.int I,.int I,.ac (.slice Z 0 0) (.sl 84),.int I,.ac (.slice Z 0 0) (.sl 86),.ac (.slice Z 0 0) (.sl 218),.ac (.slice Z 0 0) (.sl 220),.ac (.slice Z 0 0) (.sl 56),.ac (.slice Z 0 0) (.sl 126),.ac (.slice Z 0 0) (.sl 81),.ac (.slice Z 0 0) (.sl 39),.ac (.slice Z 0 0) (.sl 57),.ac (.slice Z 0 0) (.sl 3)],E⟩,U ⟨(.struct [(0,32),(11,35),(12,36),(13,37),(14,38),(15,39)]),[.int I,.int I,.int I,.int I,.int I,.ac (.slice Z 0 0) (.sl 84),.int I,.ac (.slice Z 0 0) (.sl 86),.ac (.slice Z 0 0) (.sl 218),.ac (.slice Z 0 0) (.sl 220),.ac (.slice Z 0 0) (.sl 56),.ac (.slice Z 0 0) (.sl 126),.ac (.slice Z 0 0) (.sl 81),.ac (.slice Z 0 0) (.sl 39),.ac (.slice Z 0 0) (.sl 57),.ac (.slice Z 0 0) (.sl 3)],E⟩,U ⟨(.slice 96),[.ac (.slice Z 0 0) (.sl 96)],E⟩,U ⟨(.struct [(0,39),(1,3),(2,42),(3,39),(4,4)]),[.ac (.slice Z 0 0) (.sl 3),.int I,.ac (.slice Z 0 0) (.sl 96),.ac (.slice Z 0 0) (.sl 3),.bool],E⟩,U ⟨(.struct [(0,39),(1,3),(2,42),(3,39),(4,4)]),[.ac (.slice Z 0 0) (.sl 3),.int I,.ac (.slice Z 0 0) (.sl 96),.ac (.slice Z 0 0) (.sl 3),.bool],E⟩,U ⟨.one,[.ac .nilFunc .ac],E⟩,U ⟨.one,[.ac .nilFunc .ac],E⟩,U ⟨.one,[.int I],E⟩],
 [Z,U ⟨.one,[.ac .nilFunc .ac],E⟩,Z,U ⟨.one,[.ac .nilFunc .ac],E⟩,U ⟨(.map 3 4 1 E),[.ac (.map Z) .ac],E⟩,U ⟨(.struct [(0,3),(1,3)]),[.int I,.int I],J⟩,U ⟨(.struct [(0,3),(1,3)]),[.int I,.int I],J⟩,U ⟨(.struct [(0,3),(1,3),(2,3),(3,3),(4,3),(5,3),(6,3),(7,3),(8,3),(9,3),(10,54),(12,54)]),[.int I,.int I,.int I,.int I,.int I,.int I,.int I,.int I,.int I,.int I,.int I,.int I,.int I,.int I],J⟩,U ⟨(.struct [(0,3),(1,3),(2,3),(3,3),(4,3),(5,3),(6,3),(7,3),(8,3),(9,3),(10,54),(12,54)]),[.int I,.int I,.int I,.int I,.int I,.int I,.int I,.int I,.int I,.int I,.int I,.int I,.int I,.int I],J⟩,U ⟨(.slice 62),[.ac (.slice Z 0 0) (.sl 62)],E⟩,U ⟨(.slice 64),[.ac (.slice Z 0 0) (.sl 64)],E⟩,U ⟨(.slice 4),[.ac (.slice Z 0 0) (.sl 4)],E⟩,U ⟨(.slice 58),[.ac (.slice Z 0 0) (.sl 58)],E⟩,U ⟨(.struct [(0,59),(1,60)]),[.ac (.slice Z 0 0) (.sl 4),.ac (.slice Z 0 0) (.sl 58)],E⟩,U ⟨(.struct [(0,59),(1,60)]),[.ac (.slice Z 0 0) (.sl 4),.ac (.slice Z 0 0) (.sl 58)],E⟩,U ⟨(.struct [(0,3),(1,3),(2,3),(3,4)]),[.int I,.int I,.int I,.bool],J⟩],
 [U ⟨(.struct [(0,3),(1,3),(2,3),(3,4)]),[.int I,.int I,.int I,.bool],J⟩,U ⟨.one,[.ac .nilFunc .ac],E⟩,U ⟨.one,[.ac .nilFunc .ac],E⟩,Z,U ⟨.one,[.ac .nilFunc .ac],E⟩,Z,U ⟨.one,[.ac .nilFunc .ac],E⟩,U ⟨.one,[.ac .nilFunc .ac],E⟩,U ⟨.one,[.ac .nilFunc .ac],E⟩,U ⟨.one,[.ac .nilFunc .ac],E⟩,U ⟨.one,[.ac .nilFunc .ac],E⟩,Z,U ⟨.one,[.ac .nilFunc .ac],E⟩,U ⟨.one,[.ac .nilFunc .ac],E⟩,U ⟨.one,[.ac .nilFunc .ac],E⟩,U ⟨(.arr 3 3),[.int I,.int I,.int I],J⟩],
 [U ⟨(.struct [(0,9),(1,3),(2,3),(3,3),(4,3),(5,3),(6,79),(9,79),(12,79),(15,3),(16,3)]),[.ac (.string ⟨#[]⟩) .str,.int I,.int I,.int I,.int I,.int I,.int I,.int I,.int I,.int I,.int I,.int I,.int I,.int I,.int I,.int I,.int I],J⟩,U ⟨(.struct [(0,9),(1,3),(2,3),(3,3),(4,3),(5,3),(6,79),(9,79),(12,79),(15,3),(16,3)]),[.ac (.string ⟨#[]⟩) .str,.int I,.int I,.int I,.int I,.int I,.int I,.int I,.int I,.int I,.int I,.int I,.int I,.int I,.int I,.int I,.int I],J⟩,U ⟨.one,[.ac .nilFunc .ac],E⟩,U ⟨(.struct [(0,9),(1,3),(2,3),(3,3)]),[.ac (.string ⟨#[]⟩) .str,.int I,.int I,.int I],J⟩,U ⟨(.struct [(0,9),(1,3),(2,3),(3,3)]),[.ac (.string ⟨#[]⟩) .str,.int I,.int I,.int I],J⟩,U ⟨(.struct [(0,3),(1,3),(2,3)]),[.int I,.int I,.int I],J⟩,U ⟨(.struct [(0,3),(1,3),(2,3)]),[.int I,.int I,.int I],J⟩,U ⟨.one,[.ac .nilFunc .ac],E⟩,U ⟨.one,[.ac .nilFunc .ac],E⟩,U ⟨(.struct [(0,3),(1,3)]),[.int I,.int I],J⟩,U ⟨(.struct [(0,3),(1,3)]),[.int I,.int I],J⟩,U ⟨(.arr 5 90),[.int I,.int I,.int I,.int I,.int I,.int I,.int I,.int I,.int I,.int I],J⟩,U ⟨(.struct [(0,3),(1,3),(2,3),(3,91)]),[.int I,.int I,.int I,.int I,.int I,.int I,.int I,.int I,.int I,.int I,.int I,.int I,.int I],J⟩,U ⟨(.struct [(0,3),(1,3),(2,3),(3,91)]),[.int I,.int I,.int I,.int I,.int I,.int I,.int I,.int I,.int I,.int I,.int I,.int I,.int I],J⟩,Z,U ⟨.one,[.ac .nilFunc .ac],E⟩],
 [U ⟨(.slice 93),[.ac (.slice Z 0 0) (.sl 93)],E⟩,U ⟨.one,[.ac .nilFunc .ac],E⟩,U ⟨(.struct [(0,39),(1,3)]),[.ac (.slice Z 0 0) (.sl 3),.int I],E⟩,U ⟨(.struct [(0,39),(1,3)]),[.ac (.slice Z 0 0) (.sl 3),.int I],E⟩,U ⟨.one,[.ac .nilFunc .ac],E⟩,U ⟨.one,[.ac .nilFunc .ac],E⟩,U ⟨.one,[.ac .nilFunc .ac],E⟩,U ⟨.one,[.ac .nilFunc .ac],E⟩,U ⟨.one,[.ac .nilFunc .ac],E⟩,U ⟨.one,[.ac (.pointer Z) .ac],E⟩,U ⟨.one,[.ac .nilFunc .ac],E⟩,U ⟨.one,[.ac .nilFunc .ac],E⟩,U ⟨.one,[.ac .nilFunc .ac],E⟩,U ⟨.one,[.int .u64],E⟩,U ⟨.one,[.ac .nilFunc .ac],E⟩,U ⟨.one,[.ac .nilFunc .ac],E⟩],
 [U ⟨.one,[.ac .nilFunc .ac],E⟩,U ⟨(.map 3 3 1 E),[.ac (.map Z) .ac],E⟩,U ⟨.one,[.ac .nilFunc .ac],E⟩,U ⟨.one,[.ac .nilFunc .ac],E⟩,U ⟨.one,[.ac .nilFunc .ac],E⟩,U ⟨.one,[.ac (.pointer Z) .ac],E⟩,U ⟨.one,[.ac .nilFunc .ac],E⟩,U ⟨.one,[.ac .nilFunc .ac],E⟩,U ⟨.one,[.ac .nilFunc .ac],E⟩,U ⟨(.struct [(0,3),(1,3)]),[.int I,.int I],J⟩,U ⟨(.struct [(0,3),(1,3)]),[.int I,.int I],J⟩,U ⟨(.struct [(0,122),(2,122)]),[.int I,.int I,.int I,.int I],J⟩,U ⟨(.struct [(0,122),(2,122)]),[.int I,.int I,.int I,.int I],J⟩,U ⟨(.struct [(0,124),(4,3),(5,3),(6,3),(7,3)]),[.int I,.int I,.int I,.int I,.int I,.int I,.int I,.int I],J⟩,U ⟨(.struct [(0,124),(4,3),(5,3),(6,3),(7,3)]),[.int I,.int I,.int I,.int I,.int I,.int I,.int I,.int I],J⟩,Z],
 [U ⟨.one,[.ac .nilFunc .ac],E⟩,U ⟨.one,[.ac .nilFunc .ac],E⟩,U ⟨.one,[.ac .nilFunc .ac],E⟩,U ⟨.one,[.ac .nilFunc .ac],E⟩,U ⟨.one,[.ac (.pointer Z) .ac],E⟩,U ⟨.one,[.ac .nilFunc .ac],E⟩,Z,U ⟨.one,[.ac .nilFunc .ac],E⟩,U ⟨(.slice 140),[.ac (.slice Z 0 0) (.sl 140)],E⟩,Z,U ⟨.one,[.ac .nilFunc .ac],E⟩,U ⟨(.struct [(0,3),(1,3),(2,3),(3,3)]),[.int I,.int I,.int I,.int I],J⟩,U ⟨(.struct [(0,3),(1,3),(2,3),(3,3)]),[.int I,.int I,.int I,.int I],J⟩,U ⟨.one,[.ac .nilFunc .ac],E⟩,U ⟨(.struct [(0,3),(1,3),(2,3)]),[.int I,.int I,.int I],J⟩,U ⟨(.struct [(0,3),(1,3),(2,3)]),[.int I,.int I,.int I],J⟩],
 [U ⟨(.slice 148),[.ac (.slice Z 0 0) (.sl 148)],E⟩,Z,U ⟨.one,[.ac .nilFunc .ac],E⟩,U ⟨.one,[.ac .nilFunc .ac],E⟩,U ⟨(.arr 2 3),[.int I,.int I],J⟩,U ⟨.one,[.ac .nilFunc .ac],E⟩,U ⟨.one,[.ac .nilFunc .ac],E⟩,U ⟨.one,[.ac .nilFunc .ac],E⟩,U ⟨(.struct [(0,47)]),[.int I],J⟩,U ⟨(.struct [(0,47)]),[.int I],J⟩,U ⟨(.struct [(0,81)]),[.ac (.string ⟨#[]⟩) .str,.int I,.int I,.int I,.int I,.int I,.int I,.int I,.int I,.int I,.int I,.int I,.int I,.int I,.int I,.int I,.int I],J⟩,U ⟨(.struct [(0,81)]),[.ac (.string ⟨#[]⟩) .str,.int I,.int I,.int I,.int I,.int I,.int I,.int I,.int I,.int I,.int I,.int I,.int I,.int I,.int I,.int I,.int I],J⟩,U ⟨.one,[.ac .nilFunc .ac],E⟩,U ⟨.one,[.ac .nilFunc .ac],E⟩,U ⟨.one,[.ac .nilFunc .ac],E⟩,U ⟨(.struct [(0,158),(1,3),(2,3),(3,3)]),[.ac .nilFunc .ac,.int I,.int I,.int I],E⟩],
 [U ⟨(.struct [(0,158),(1,3),(2,3),(3,3)]),[.ac .nilFunc .ac,.int I,.int I,.int I],E⟩,U ⟨(.arr 7 160),[.ac .nilFunc .ac,.int I,.int I,.int I,.ac .nilFunc .ac,.int I,.int I,.int I,.ac .nilFunc .ac,.int I,.int I,.int I,.ac .nilFunc .ac,.int I,.int I,.int I,.ac .nilFunc .ac,.int I,.int I,.int I,.ac .nilFunc .ac,.int I,.int I,.int I,.ac .nilFunc .ac,.int I,.int I,.int I],E⟩,U ⟨.one,[.ac .nilFunc .ac],E⟩,U ⟨(.slice 160),[.ac (.slice Z 0 0) (.sl 160)],E⟩,U ⟨.one,[.ac (.pointer Z) .ac],E⟩,U ⟨.one,[.ac .nilFunc .ac],E⟩,U ⟨(.slice 124),[.ac (.slice Z 0 0) (.sl 124)],E⟩,U ⟨.one,[.ac .nilFunc .ac],E⟩,U ⟨.one,[.ac .nilFunc .ac],E⟩,U ⟨.one,[.ac .nilFunc .ac],E⟩,U ⟨.one,[.ac .nilFunc .ac],E⟩,Z,U ⟨.one,[.ac .nilFunc .ac],E⟩,U ⟨(.slice 205),[.ac (.slice Z 0 0) (.sl 205)],E⟩,Z,U ⟨.one,[.ac .nilFunc .ac],E⟩],
 [U ⟨(.slice 182),[.ac (.slice Z 0 0) (.sl 182)],E⟩,Z,U ⟨.one,[.ac .nilFunc .ac],E⟩,U ⟨.one,[.ac .nilFunc .ac],E⟩,U ⟨.one,[.ac .nilFunc .ac],E⟩,U ⟨(.struct [(0,3),(1,59),(2,96),(3,96),(4,60),(5,166)]),[.int I,.ac (.slice Z 0 0) (.sl 4),.ac (.slice Z 0 0) (.sl 93),.ac (.slice Z 0 0) (.sl 93),.ac (.slice Z 0 0) (.sl 58),.ac (.slice Z 0 0) (.sl 124)],E⟩,U ⟨(.struct [(0,3),(1,59),(2,96),(3,96),(4,60),(5,166)]),[.int I,.ac (.slice Z 0 0) (.sl 4),.ac (.slice Z 0 0) (.sl 93),.ac (.slice Z 0 0) (.sl 93),.ac (.slice Z 0 0) (.sl 58),.ac (.slice Z 0 0) (.sl 124)],E⟩,U ⟨.one,[.ac .nilFunc .ac],E⟩,U ⟨(.map 148 4 2 J),[.ac (.map Z) .ac],E⟩,U ⟨.one,[.ac .nilFunc .ac],E⟩,U ⟨.one,[.ac .nilFunc .ac],E⟩,U ⟨(.struct [(0,4),(1,4),(2,4),(3,3),(4,3),(5,3)]),[.bool,.bool,.bool,.int I,.int I,.int I],J⟩,U ⟨(.struct [(0,4),(1,4),(2,4),(3,3),(4,3),(5,3)]),[.bool,.bool,.bool,.int I,.int I,.int I],J⟩,U ⟨(.arr 10 188),[.bool,.bool,.bool,.int I,.int I,.int I,.bool,.bool,.bool,.int I,.int I,.int I,.bool,.bool,.bool,.int I,.int I,.int I,.bool,.bool,.bool,.int I,.int I,.int I,.bool,.bool,.bool,.int I,.int I,.int I,.bool,.bool,.bool,.int I,.int I,.int I,.bool,.bool,.bool,.int I,.int I,.int I,.bool,.bool,.bool,.int I,.int I,.int I,.bool,.bool,.bool,.int I,.int I,.int I,.bool,.bool,.bool,.int I,.int I,.int I],J⟩,U ⟨.one,[.ac .nilFunc .ac],E⟩,U ⟨(.arr 2 54),[.int I,.int I,.int I,.int I],J⟩],
 [U ⟨(.slice 191),[.ac (.slice Z 0 0) (.sl 191)],E⟩,U ⟨.one,[.ac .nilFunc .ac],E⟩,U ⟨.one,[.ac .nilFunc .ac],E⟩,U ⟨.one,[.ac .nilFunc .ac],E⟩,U ⟨.one,[.ac .nilFunc .ac],E⟩,U ⟨.one,[.ac .nilFunc .ac],E⟩,U ⟨(.struct [(0,122),(2,122)]),[.int I,.int I,.int I,.int I],J⟩,U ⟨.one,[.ac .nilFunc .ac],E⟩,U ⟨.one,[.ac .nilFunc .ac],E⟩,U ⟨.one,[.ac .nilFunc .ac],E⟩,U ⟨.one,[.ac .nilFunc .ac],E⟩,U ⟨.one,[.ac .nilFunc .ac],E⟩,U ⟨(.struct [(0,56),(14,64)]),[.int I,.int I,.int I,.int I,.int I,.int I,.int I,.int I,.int I,.int I,.int I,.int I,.int I,.int I,.int I,.int I,.int I,.bool],J⟩,U ⟨(.struct [(0,56),(14,64)]),[.int I,.int I,.int I,.int I,.int I,.int I,.int I,.int I,.int I,.int I,.int I,.int I,.int I,.int I,.int I,.int I,.int I,.bool],J⟩,U ⟨.one,[.ac .nilFunc .ac],E⟩,U ⟨.one,[.ac .nilFunc .ac],E⟩],
 [U ⟨.one,[.ac .nilFunc .ac],E⟩,Z,U ⟨.one,[.ac .nilFunc .ac],E⟩,U ⟨.one,[.ac .nilFunc .ac],E⟩,U ⟨.one,[.ac .nilFunc .ac],E⟩,U ⟨.one,[.ac .nilFunc .ac],E⟩,U ⟨.one,[.ac .nilFunc .ac],E⟩,U ⟨.one,[.ac .nilFunc .ac],E⟩,U ⟨.one,[.ac .nilFunc .ac],E⟩,U ⟨(.struct [(0,3),(1,3),(2,3),(3,3)]),[.int I,.int I,.int I,.int I],J⟩,U ⟨(.struct [(0,3),(1,3),(2,3),(3,3)]),[.int I,.int I,.int I,.int I],J⟩,U ⟨(.struct [(0,3),(1,3),(2,3),(3,3)]),[.int I,.int I,.int I,.int I],J⟩,U ⟨(.struct [(0,3),(1,3),(2,3),(3,3)]),[.int I,.int I,.int I,.int I],J⟩,U ⟨.one,[.ac .nilFunc .ac],E⟩,U ⟨.one,[.ac .nilFunc .ac],E⟩,U ⟨.one,[.ac .nilFunc .ac],E⟩],
 [U ⟨.one,[.ac .nilFunc .ac],E⟩,U ⟨.one,[.ac .nilFunc .ac],E⟩,U ⟨.one,[.ac .nilFunc .ac],E⟩,U ⟨.one,[.ac .nilFunc .ac],E⟩,U ⟨.one,[.ac .nilFunc .ac],E⟩,U ⟨.one,[.ac .nilFunc .ac],E⟩,U ⟨.one,[.ac .nilFunc .ac],E⟩,U ⟨.one,[.ac .nilFunc .ac],E⟩,U ⟨.one,[.ac .nilFunc .ac],E⟩,U ⟨.one,[.ac .nilFunc .ac],E⟩,U ⟨(.slice 275),[.ac (.slice Z 0 0) (.sl 275)],E⟩,Z,U ⟨.one,[.ac .nilFunc .ac],E⟩,U ⟨.one,[.ac .nilFunc .ac],E⟩,U ⟨.one,[.ac .nilFunc .ac],E⟩,U ⟨.one,[.ac .nilFunc .ac],E⟩],
 [U ⟨.one,[.ac .nilFunc .ac],E⟩,U ⟨.one,[.int I],E⟩,Z,U ⟨.one,[.ac .nilFunc .ac],E⟩,U ⟨.one,[.ac .nilFunc .ac],E⟩,U ⟨.one,[.ac .nilFunc .ac],E⟩,U ⟨.one,[.ac .nilFunc .ac],E⟩,U ⟨.one,[.ac .nilFunc .ac],E⟩,U ⟨.one,[.int .u32],E⟩,U ⟨.one,[.ac .nilFunc .ac],E⟩,U ⟨.one,[.int .u64],E⟩,Z,U ⟨.one,[.ac .nilFunc .ac],E⟩,U ⟨.one,[.ac .nilFunc .ac],E⟩,U ⟨.one,[.ac .nilFunc .ac],E⟩,U ⟨.one,[.ac .nilFunc .ac],E⟩],
 [U ⟨(.struct [(0,3),(1,4),(2,81),(19,93),(32,58)]),[.int I,.bool,.ac (.string ⟨#[]⟩) .str,.int I,.int I,.int I,.int I,.int I,.int I,.int I,.int I,.int I,.int I,.int I,.int I,.int I,.int I,.int I,.int I,.int I,.int I,.int I,.int I,.int I,.int I,.int I,.int I,.int I,.int I,.int I,.int I,.int I,.ac (.slice Z 0 0) (.sl 64)],E⟩,U ⟨(.struct [(0,3),(1,4),(2,81),(19,93),(32,58)]),[.int I,.bool,.ac (.string ⟨#[]⟩) .str,.int I,.int I,.int I,.int I,.int I,.int I,.int I,.int I,.int I,.int I,.int I,.int I,.int I,.int I,.int I,.int I,.int I,.int I,.int I,.int I,.int I,.int I,.int I,.int I,.int I,.int I,.int I,.int I,.int I,.ac (.slice Z 0 0) (.sl 64)],E⟩,U ⟨.one,[.ac .nilFunc .ac],E⟩,U ⟨.one,[.ac .nilFunc .ac],E⟩,U ⟨.one,[.ac .nilFunc .ac],E⟩,U ⟨.one,[.ac .nilFunc .ac],E⟩,U ⟨.one,[.ac .nilFunc .ac],E⟩,U ⟨.one,[.ac .nilFunc .ac],E⟩,U ⟨.one,[.ac .nilFunc .ac],E⟩,U ⟨(.map 267 4 3 J),[.ac (.map Z) .ac],E⟩,U ⟨(.struct [(0,3),(1,3),(2,3)]),[.int I,.int I,.int I],J⟩,U ⟨(.struct [(0,3),(1,3),(2,3)]),[.int I,.int I,.int I],J⟩,U ⟨.one,[.ac .nilFunc .ac],E⟩,U ⟨.one,[.ac .nilFunc .ac],E⟩,U ⟨.one,[.ac .nilFunc .ac],E⟩,U ⟨(.slice 267),[.ac (.slice Z 0 0) (.sl 267)],E⟩],
 [U ⟨.one,[.ac .nilFunc .ac],E⟩,U ⟨.one,[.ac .nilFunc .ac],E⟩,U ⟨.one,[.ac .nilFunc .ac],E⟩,U ⟨(.struct [(0,3),(1,3),(2,3)]),[.int I,.int I,.int I],J⟩,U ⟨.one,[.ac .nilFunc .ac],E⟩,U ⟨.one,[.ac .nilFunc .ac],E⟩,U ⟨.one,[.ac .nilFunc .ac],E⟩,U ⟨.one,[.int .u64],E⟩,U ⟨.one,[.ac .nilFunc .ac],E⟩,U ⟨.one,[.ac .nilFunc .ac],E⟩,U ⟨.one,[.ac .nilFunc .ac],E⟩,U ⟨.one,[.ac .nilFunc .ac],E⟩,U ⟨.one,[.ac .nilFunc .ac],E⟩,U ⟨.one,[.ac .nilFunc .ac],E⟩,U ⟨.one,[.ac .nilFunc .ac],E⟩,U ⟨(.arr 5 4),[.bool,.bool,.bool,.bool,.bool],J⟩],
 [U ⟨(.arr 2 39),[.ac (.slice Z 0 0) (.sl 3),.ac (.slice Z 0 0) (.sl 3)],E⟩,U ⟨(.arr 10 288),[.ac (.slice Z 0 0) (.sl 3),.ac (.slice Z 0 0) (.sl 3),.ac (.slice Z 0 0) (.sl 3),.ac (.slice Z 0 0) (.sl 3),.ac (.slice Z 0 0) (.sl 3),.ac (.slice Z 0 0) (.sl 3),.ac (.slice Z 0 0) (.sl 3),.ac (.slice Z 0 0) (.sl 3),.ac (.slice Z 0 0) (.sl 3),.ac (.slice Z 0 0) (.sl 3),.ac (.slice Z 0 0) (.sl 3),.ac (.slice Z 0 0) (.sl 3),.ac (.slice Z 0 0) (.sl 3),.ac (.slice Z 0 0) (.sl 3),.ac (.slice Z 0 0) (.sl 3),.ac (.slice Z 0 0) (.sl 3),.ac (.slice Z 0 0) (.sl 3),.ac (.slice Z 0 0) (.sl 3),.ac (.slice Z 0 0) (.sl 3),.ac (.slice Z 0 0) (.sl 3)],E⟩,U ⟨.one,[.ac .nilFunc .ac],E⟩,U ⟨.one,[.ac .nilFunc .ac],E⟩,U ⟨.one,[.ac .nilFunc .ac],E⟩,U ⟨(.struct [(0,3),(1,3),(2,3)]),[.int I,.int I,.int I],J⟩,U ⟨(.struct [(0,3),(1,3),(2,3)]),[.int I,.int I,.int I],J⟩,Z,U ⟨.one,[.ac .nilFunc .ac],E⟩,U ⟨.one,[.ac .nilFunc .ac],E⟩,U ⟨.one,[.ac .nilFunc .ac],E⟩,U ⟨.one,[.ac .nilFunc .ac],E⟩,U ⟨.one,[.ac .nilFunc .ac],E⟩,U ⟨.one,[.ac .nilFunc .ac],E⟩,Z,U ⟨.one,[.ac .nilFunc .ac],E⟩],
 [U ⟨.one,[.ac .nilFunc .ac],E⟩,U ⟨.one,[.ac .nilFunc .ac],E⟩,U ⟨(.slice 310),[.ac (.slice Z 0 0) (.sl 310)],E⟩,Z,U ⟨.one,[.ac .nilFunc .ac],E⟩,U ⟨(.struct [(0,3),(1,3)]),[.int I,.int I],J⟩,U ⟨(.struct [(0,3),(1,3)]),[.int I,.int I],J⟩,U ⟨.one,[.ac .nilFunc .ac],E⟩,U ⟨(.slice 316),[.ac (.slice Z 0 0) (.sl 316)],E⟩,Z,U ⟨.one,[.ac .nilFunc .ac],E⟩,U ⟨(.struct [(0,3),(1,3),(2,3)]),[.int I,.int I,.int I],J⟩,U ⟨(.struct [(0,3),(1,3),(2,3)]),[.int I,.int I,.int I],J⟩,U ⟨.one,[.ac .nilFunc .ac],E⟩,U ⟨.one,[.ac .nilFunc .ac],E⟩,U ⟨.one,[.ac (.pointer Z) .ac],E⟩],
 [Z,U ⟨.one,[.ac .nilFunc .ac],E⟩,U ⟨.one,[.ac .nilFunc .ac],E⟩,U ⟨.one,[.ac .nilFunc .ac],E⟩,U ⟨(.arr 8 148),[.int I,.int I,.int I,.int I,.int I,.int I,.int I,.int I,.int I,.int I,.int I,.int I,.int I,.int I,.int I,.int I],J⟩,Z,U ⟨.one,[.ac .nilFunc .ac],E⟩,U ⟨.one,[.ac .nilFunc .ac],E⟩,Z,U ⟨(.map 3 327 1 E),[.ac (.map Z) .ac],E⟩,U ⟨.one,[.ac .nilFunc .ac],E⟩,U ⟨.one,[.ac .nilFunc .ac],E⟩,U ⟨.one,[.ac .nilFunc .ac],E⟩,U ⟨.one,[.ac .nilFunc .ac],E⟩,U ⟨.one,[.ac .nilFunc .ac],E⟩,U ⟨.one,[.ac .nilFunc .ac],E⟩],
 [U ⟨.one,[.ac .nilFunc .ac],E⟩,U ⟨(.map 3 64 1 E),[.ac (.map Z) .ac],E⟩,U ⟨.one,[.ac .nilFunc .ac],E⟩,U ⟨.one,[.ac .nilFunc .ac],E⟩,U ⟨.one,[.ac .nilFunc .ac],E⟩,U ⟨(.arr 2 166),[.ac (.slice Z 0 0) (.sl 124),.ac (.slice Z 0 0) (.sl 124)],E⟩,U ⟨(.arr 5 341),[.ac (.slice Z 0 0) (.sl 124),.ac (.slice Z 0 0) (.sl 124),.ac (.slice Z 0 0) (.sl 124),.ac (.slice Z 0 0) (.sl 124),.ac (.slice Z 0 0) (.sl 124),.ac (.slice Z 0 0) (.sl 124),.ac (.slice Z 0 0) (.sl 124),.ac (.slice Z 0 0) (.sl 124),.ac (.slice Z 0 0) (.sl 124),.ac (.slice Z 0 0) (.sl 124)],E⟩,U ⟨.one,[.ac .nilFunc .ac],E⟩,U ⟨.one,[.ac .nilFunc .ac],E⟩,U ⟨.one,[.ac .nilFunc .ac],E⟩,U ⟨.one,[.ac .nilFunc .ac],E⟩,U ⟨.one,[.ac .nilFunc .ac],E⟩,U ⟨.one,[.ac .nilFunc .ac],E⟩,U ⟨(.arr 4 148),[.int I,.int I,.int I,.int I,.int I,.int I,.int I,.int I],J⟩,U ⟨(.arr 2 148),[.int I,.int I,.int I,.int I],J⟩,U ⟨.one,[.ac .nilFunc .ac],E⟩],
 [U ⟨(.struct [(0,349),(8,350),(12,351)]),[.int I,.int I,.int I,.int I,.int I,.int I,.int I,.int I,.int I,.int I,.int I,.int I,.ac .nilFunc .ac],E⟩,U ⟨(.struct [(0,349),(8,350),(12,351)]),[.int I,.int I,.int I,.int I,.int I,.int I,.int I,.int I,.int I,.int I,.int I,.int I,.ac .nilFunc .ac],E⟩,Z,U ⟨(.map 3 353 1 E),[.ac (.map Z) .ac],E⟩,U ⟨.one,[.ac .nilFunc .ac],E⟩,U ⟨.one,[.ac .nilFunc .ac],E⟩,U ⟨(.arr 4 3),[.int I,.int I,.int I,.int I],J⟩,U ⟨(.struct [(0,93),(13,56),(27,64)]),[.int I,.int I,.int I,.int I,.int I,.int I,.int I,.int I,.int I,.int I,.int I,.int I,.int I,.int I,.int I,.int I,.int I,.int I,.int I,.int I,.int I,.int I,.int I,.int I,.int I,.int I,.int I,.int I,.int I,.int I,.bool],J⟩,U ⟨(.struct [(0,93),(13,56),(27,64)]),[.int I,.int I,.int I,.int I,.int I,.int I,.int I,.int I,.int I,.int I,.int I,.int I,.int I,.int I,.int I,.int I,.int I,.int I,.int I,.int I,.int I,.int I,.int I,.int I,.int I,.int I,.int I,.int I,.int I,.int I,.bool],J⟩,U ⟨.one,[.ac (.pointer Z) .ac],E⟩,U ⟨.one,[.ac .nilFunc .ac],E⟩,U ⟨.one,[.ac .nilFunc .ac],E⟩,U ⟨.one,[.ac .nilFunc .ac],E⟩,U ⟨.one,[.ac .nilFunc .ac],E⟩,U ⟨.one,[.ac .nilFunc .ac],E⟩,U ⟨.one,[.ac .nilFunc .ac],E⟩],
 [U ⟨.one,[.ac .nilFunc .ac],E⟩,U ⟨.one,[.ac .nilFunc .ac],E⟩,U ⟨.one,[.ac .nilFunc .ac],E⟩,U ⟨.one,[.ac .nilFunc .ac],E⟩,U ⟨(.map 3 377 1 E),[.ac (.map Z) .ac],E⟩,U ⟨.one,[.ac .nilFunc .ac],E⟩,U ⟨.one,[.ac .nilFunc .ac],E⟩,U ⟨.one,[.ac .nilFunc .ac],E⟩,U ⟨(.struct [(0,374),(1,4),(2,365),(3,4),(4,375)]),[.ac .nilFunc .ac,.bool,.ac .nilFunc .ac,.bool,.ac .nilFunc .ac],E⟩,U ⟨(.struct [(0,374),(1,4),(2,365),(3,4),(4,375)]),[.ac .nilFunc .ac,.bool,.ac .nilFunc .ac,.bool,.ac .nilFunc .ac],E⟩,U ⟨.one,[.ac .nilFunc .ac],E⟩,U ⟨.one,[.ac .nilFunc .ac],E⟩,U ⟨(.map 3 45 1 E),[.ac (.map Z) .ac],E⟩,U ⟨.one,[.ac .nilFunc .ac],E⟩,U ⟨.one,[.ac .nilFunc .ac],E⟩,U ⟨.one,[.ac .nilFunc .ac],E⟩],
 [U ⟨.one,[.ac .nilFunc .ac],E⟩,U ⟨.one,[.ac .nilFunc .ac],E⟩,U ⟨.one,[.ac .nilFunc .ac],E⟩,U ⟨.one,[.ac .nilFunc .ac],E⟩,U ⟨.one,[.ac .nilFunc .ac],E⟩,U ⟨.one,[.ac .nilFunc .ac],E⟩,U ⟨.one,[.ac .nilFunc .ac],E⟩,Z,U ⟨.one,[.ac .nilFunc .ac],E⟩,U ⟨.one,[.ac .nilFunc .ac],E⟩,U ⟨.one,[.ac .nilFunc .ac],E⟩,U ⟨(.slice 397),[.ac (.slice Z 0 0) (.sl 397)],E⟩,U ⟨(.struct [(0,64),(4,3)]),[.int I,.int I,.int I,.bool,.int I],J⟩,U ⟨(.struct [(0,64),(4,3)]),[.int I,.int I,.int I,.bool,.int I],J⟩,U ⟨.one,[.ac .nilFunc .ac],E⟩,U ⟨.one,[.ac .nilFunc .ac],E⟩],
 [U ⟨.one,[.ac .nilFunc .ac],E⟩,U ⟨.one,[.ac .nilFunc .ac],E⟩,U ⟨.one,[.ac .nilFunc .ac],E⟩,U ⟨.one,[.ac .nilFunc .ac],E⟩,U ⟨.one,[.ac .nilFunc .ac],E⟩,U ⟨.one,[.ac .nilFunc .ac],E⟩,U ⟨.one,[.ac .nilFunc .ac],E⟩,U ⟨.one,[.ac .nilFunc .ac],E⟩,U ⟨.one,[.ac .nilFunc .ac],E⟩,U ⟨.one,[.ac .nilFunc .ac],E⟩,U ⟨.one,[.ac .nilFunc .ac],E⟩,U ⟨.one,[.ac .nilFunc .ac],E⟩,U ⟨.one,[.ac .nilFunc .ac],E⟩,U ⟨.one,[.ac .nilFunc .ac],E⟩,U ⟨.one,[.ac .nilFunc .ac],E⟩,U ⟨.one,[.ac .nilFunc .ac],E⟩],
 [U ⟨.one,[.ac .nilFunc .ac],E⟩,U ⟨.one,[.ac .nilFunc .ac],E⟩,U ⟨(.struct [(0,17),(1,17),(2,17),(3,9)]),[.ac (.pointer Z) .ac,.ac (.pointer Z) .ac,.ac (.pointer Z) .ac,.ac (.string ⟨#[]⟩) .str],E⟩,U ⟨(.struct [(0,17),(1,17),(2,17),(3,9)]),[.ac (.pointer Z) .ac,.ac (.pointer Z) .ac,.ac (.pointer Z) .ac,.ac (.string ⟨#[]⟩) .str],E⟩,U ⟨(.arr 0 16),[],J⟩,U ⟨(.struct [(0,420)]),[],E⟩,U ⟨(.struct [(0,420)]),[],E⟩,U ⟨.one,[.ac .nilFunc .ac],E⟩,U ⟨.one,[.int .u8],E⟩,U ⟨.one,[.int .u8],E⟩,U ⟨.one,[.ac .nilFunc .ac],E⟩,U ⟨.one,[.ac (.pointer Z) .ac],E⟩,U ⟨.one,[.int .i32],E⟩,U ⟨.one,[.int .i32],E⟩,U ⟨(.struct [(0,12),(1,12),(2,248),(3,424),(4,5),(5,5),(6,425),(7,426),(8,427),(9,428),(10,429)]),[.int .u64,.int .u64,.int .u32,.int .u8,.int .u8,.int .u8,.int .u8,.ac .nilFunc .ac,.ac (.pointer Z) .ac,.int .i32,.int .i32],E⟩,U ⟨(.struct [(0,12),(1,12),(2,248),(3,424),(4,5),(5,5),(6,425),(7,426),(8,427),(9,428),(10,429)]),[.int .u64,.int .u64,.int .u32,.int .u8,.int .u8,.int .u8,.int .u8,.ac .nilFunc .ac,.ac (.pointer Z) .ac,.int .i32,.int .i32],E⟩],
 [Z]]
def SG:List (List pQ):=[
[Z,Z,Z,U [4],U [4],U [4],U [3,47],U [39,47],U [41],U [44,47],U [39,3,3,47],U [4],U [4],U [4],U [3],U [3,4]],
 [U [47],U [59],Z,U [62],U [47],U [93,47],U [47],Z,Z,Z,U [44],U [4],U [4],Z,Z,U [39,47]],
 [Z,U [47],U [],Z,U [47],U [4],U [124,47],U [47],U [4],U [47],U [39],Z,U [4,47],U [44,136,47],U [44,47],U [4]],
 [U [144,47],U [3],U [47],U [4],U [47],U [4],U [4],Z,Z,U [4],U [4],Z,U [124,47],U [30,47],U [173,4],U [176,47]],
 [U [4],Z,U [47],U [],Z,U [23],U [4],U [3,47],U [3],Z,Z,Z,Z,Z,Z,Z],
 [U [124,47],U [4],U [],U [3],Z,U [],U [3],U [3],U [4],Z,U [182,47],U [36],Z,Z,U [4,47],Z],
 [Z,Z,U [3],Z,U [47],U [3],Z,Z,Z,Z,U [4],Z,U [],Z,Z,Z],
 [Z,Z,U [234,47],Z,Z,U [109],U [109],Z,Z,Z,Z,Z,Z,Z,Z,Z],
 [Z,Z,Z,Z,Z,U [59],U [96],U [58],U [93,47],U [124,47],U [124,47],U [],Z,U [4,47],Z,Z],
 [U [],U [3],Z,Z,Z,Z,Z,Z,Z,Z,Z,Z,Z,Z,U [3,47],Z],
 [Z,Z,Z,Z,Z,U [58,47],U [4],Z,U [306,47],Z,U [312,47],U [4,47],Z,Z,Z,Z],
 [Z,Z,U [93,47],Z,Z,U [56,47],Z,U [3],Z,Z,Z,Z,U [3],Z,Z,Z],
 [Z,Z,Z,Z,Z,Z,Z,Z,Z,Z,Z,Z,Z,Z,Z,Z],
 [Z,Z,Z,Z,Z,U [],Z,Z,Z,Z,Z,Z,Z,Z,Z,Z],
 [Z,Z,Z,Z,Z,Z,Z,Z,Z,Z,Z,Z,Z,Z,Z,Z],
 [Z,Z,Z,Z,Z,Z,Z,Z,Z,Z,Z,Z,Z,Z,Z,Z],
 [U [],U [3],Z,Z,Z,Z,Z,Z,Z,Z,Z,Z,Z,Z,U [3,3,47],Z]]
def PT:List (List pQ):=[
[Z,Z,Z,U [41,44,3],U [],U [41,44],U [41,44,3],U [41,44,3],U [],U [41],U [41,44,3],U [39,39],U [41],U [44],U [41,44],U [39,3]],
 [U [41,44,3],U [41,44,3],Z,U [64],U [41],U [84],U [41,44],Z,Z,Z,U [41,44,3],U [57],U [32],Z,Z,U [32,3]],
 [Z,U [32],U [117],Z,U [81],U [39,3],U [126,3],U [32,3,3,58],U [3,3,3],U [93],U [39],Z,U [41,44,3],U [41,44,3],U [41,44,143],U [3]],
 [U [32,3],Z,U [29],U [3,3,3],U [23],U [56,3,3],U [9],Z,Z,U [124],U [3,3,3],Z,U [124,124],U [32,3,3],U [30,58],U [41,44,3]],
 [U [41,44,176],Z,U [32,3],Z,Z,U [23],U [3,4,3,3],U [54,54],U [5],Z,Z,Z,Z,Z,Z,Z],
 [U [124,3,3],U [198],U [30,200],U [56,56],Z,U [30,200],U [56,56],U [3,3],U [56,64],Z,U [32,35,36,3,59,96,60],U [41,3],Z,Z,U [32,35,36,182],Z],
 [Z,Z,U [29,3],Z,U [54],U [9,5],Z,Z,Z,Z,U [3,3,3],Z,Z,Z,Z,Z],
 [Z,Z,U [32,35,36,182],Z,Z,U [109,109],U [3],Z,Z,Z,Z,Z,Z,Z,Z,Z],
 [Z,Z,Z,Z,Z,U [59],U [96],U [58],U [32,3,3,93,58],U [32,3,3,93,81,58],U [93,81],Z,Z,U [124,124],Z,Z],
 [U [271,273],U [267,267],Z,Z,Z,Z,Z,Z,Z,Z,Z,Z,Z,Z,U [3,3],Z],
 [Z,Z,Z,Z,Z,U [32,3,81],U [58,64],Z,U [32,3,3,93,36,58],Z,U [32,35,3,166,166,144],U [124,124],Z,Z,Z,Z],
 [Z,Z,U [93,56,64],Z,Z,U [32,3],Z,U [58,64],Z,Z,Z,Z,U [310,310],Z,Z,Z],
 [Z,Z,Z,Z,Z,Z,Z,Z,Z,Z,Z,Z,Z,Z,Z,Z],
 [Z,Z,Z,Z,Z,U [306,339],Z,Z,Z,Z,Z,Z,Z,Z,Z,Z],
 [Z,Z,Z,Z,Z,Z,Z,Z,Z,Z,Z,Z,Z,Z,Z,Z],
 [Z,Z,Z,Z,Z,Z,Z,Z,Z,Z,Z,Z,Z,Z,Z,Z],
 [U [395,399],U [397,397],Z,Z,Z,Z,Z,Z,Z,Z,Z,Z,Z,Z,U [3],Z]]
def aj1:TD->Bool
 |.map k _ n X=>(k==3&&n==1&& !X)||(k==148&&n==2&&X)||(k==267&&n==3&&X)
 |_=>J
def asI:rZ Tryz.prog 3 1 false:=asE aL
def asJ:rZ Tryz.prog 148 2 true:=by
 have X:Tryz.prog.underlying 148=U (.array 2 3):=aL;obtain⟨i,V⟩:∃i,Tryz.prog.info? 3=U i:=jw.1 aL;exact aj0 X aL aL (λl b W R=>asG X aL V aL R b 9998 W)
def aj2(P:Program)(k n:Nat):Bool:=match P.underlying k with
 |U (.struct X)=>X.toList.all λf=>f.name != "_"&&(match P.underlying f.type with
  |U (.int I)=>J
  |_=>E)&&decide (f.offset<n)
 |_=>E
def asK{P:Program}(h:aj2 P X x=J)(Q:s7 (P.underlying X)=J)(O:s8 P 20 X (ew x (.int I))=J):rZ P X x true:=by
 unfold aj2 at h;split at h;rename_i L V;refine aj0 V Q O (λl b W N=>asH V (λf M=> ?_) N b 9998 W);have:=eO.1 h f M;simp only[aw,bne_iff_ne,ne_eq,bZ] at this;refine⟨this.1.1, ?_,this.2⟩;have R:=this.1.2;split at R;assumption;cases R;cases h
def asL:rZ Tryz.prog 267 3 true:=asK aL aL aL
def asM:Cl (λt X=>V9 Tryz.prog t X&&(!X.eq||ZQ Tryz.prog t X)&&aj1 X.d) 0 TT=true:=aL
def Ng:Cl (λg _=>tP Tryz.prog g) 0 SG=true:=aL
def FW:ip Tryz.prog (look TT):=by
 intro t R h;have:=aeG asM h;simp only[aw,iD,f9] at this;refine ao1 this.1.1 (λW=>asC (this.1.2.resolve_left (by rw[W];simp))) (λk e n Q V=> ?_);have X:=this.2;rw[V] at X;simp only[aj1,iD,aw,di,f9] at X;rcases X with(⟨⟨rfl,rfl⟩,rfl⟩|⟨⟨rfl,rfl⟩,rfl⟩)|⟨⟨rfl,rfl⟩,rfl⟩;exact asI;exact asJ;exact asL
def Nh:Tryz.prog.follows .mixedOrders=true:=aL
def GL:lW:=[(0,0,6),(1,1,2),(3,2,2)]
def ZS:aY:=[.sl 188,.sl 288,.sl 148]
def GW(W:World):Prop:=∃X,HV (look TT) GL ZS HX W X
def GW.grow{W X:World}(V:Below W.heap.size W X)(h:GW W):GW X:=by
 obtain⟨R,Q,P,O,N⟩:=h;exact⟨R,Q,P,λk e M L H=>(O k e M L H).grow V,N⟩
def s9(X:xW):Prop:=∀x∈X,ly Tryz.prog (look TT) x.1 x.2.1 x.2.2.1 x.2.2.2.1 x.2.2.2.2
def GZ(z:Bool)(W:World):Prop:=z=J->GW W
def GZ.grow{z:Bool}{W X:World}(V:Below W.heap.size W X)(h:GZ z W):GZ z X:=λe=>(h e).grow V
abbrev qC(z:Bool)(f:FuncId)(F:aX->jC):Prop:=AO Tryz.prog (look TT) (look PT) (look SG) (GZ z) f F
def aj3:∀{X:aI},oB X=J->∀(k:Nat)(t:TypeId),(iP X)[k]?≠U (.own t)
 |[],_,k,t=>by simp[iP]
 |x::X,h,k,t=>by
  simp only[oB,aw] at h;have W:=aj3 h.2;cases x with
  |int _=>exact W k t
  |bool=>exact W k t
  |ah e=>
   cases k with
   |zero=>
    intro V;simp[iP] at V;subst V;simp[D8] at h
   |succ k=>simpa[iP] using W k t
def Dr(g:Bool):lW:=if g then GL else[]
def qD(g:Bool):aY:=if g then ZS else[]
def ZT(g:Bool)(X:g=J->w=J)(W:World)(h:GZ w W):∃V,HV (look TT) (Dr g) (qD g) (kV g) W V:=by
 cases g with
 |true=>exact h (X rfl)
 |false=>exact⟨[],rfl,λk v Q h=>by simp[kV] at h,λk e P h=>by simp[qD] at h,λO x R=>by simp[Dr] at R⟩
def asN{be:md}(ag:∀G,qC w G (be G))(hf:Tryz.prog.funcs[G]?=U v)(hb:v.body=U y){A:ap}(hi:A.all (tP Tryz.prog)=J){s:xW}(al:s9 s){ku:Bool}{af:zX}{g:Bool}{dT:Option TypeId}
  {ps qs:iX}{L qk:aI}{l:am}{H:aY}{F:aX->jC}
  (an:look PT G=U ps)(a0:look SG G=U qs)(a1:gH (look TT) ps=U L)(a3:gH (look TT) qs=U qk)
  (bf:oB L=J)(hl:jo (look TT) ps c=U l)(a4:p8 0 0 (qD g).length L l=J)(m:H=qD g++iP L)(hq:g=E\/sn qk=J)
  (bg:((⟨[],[],0,0,[],0,0,[]⟩:S).b9 L).2.ni=x)(bk:((⟨[],[],0,0,[],0,0,[]⟩:S).b9 L).2.nb=n)
  (a9:∀(p:Sp)(O:ai),u.aG p O []->(EP (n7 Tryz.prog TT SG (Dr g) A B s ku af) dT X G y v.ntmps v.results.toList c ⟨[],[],x,n,H,0,0,[]⟩).aG p O [])
  (bb:tV Tryz.prog y dT)(bc:dT≠Z->∀P V,F P≠U (.aW V))
  (hc:u.gF (look TT) (look PT) (look SG) qs x n H []=J)(hF:∀P o,ee L P->F P=U o->tT be u (fp (kV g) P) [] o)(hz:g=J->w=J):qC w G F:=by
 have e1:∀D P,ee L P->(fp D P).i.length=x:=λD P M=>by
  have h1:=(wF L P ⟨[],[],0,0,[],0,0,[]⟩ ⟨[],[],[],[]⟩ M rfl rfl rfl).1;have h2:=(Cp (O:=⟨[],[],[],[]⟩) M).1;have h3:=(Cp (O:=⟨[],[],D,[]⟩) M).1;rw[<-bg,<-h1,fp,h3,h2]
 have e2:∀D P,ee L P->(fp D P).b.length=n:=λD P M=>by
  have h1:=(wF L P ⟨[],[],0,0,[],0,0,[]⟩ ⟨[],[],[],[]⟩ M rfl rfl rfl).2.1;have h2:=(Cp (O:=⟨[],[],[],[]⟩) M).2.1;have h3:=(Cp (O:=⟨[],[],D,[]⟩) M).2.1;rw[<-bk,<-h1,fp,h3,h2]
 have e3:∀P,ee L P->(fp (kV g) P).r.length=Y H:=λP M=>by rw[m];exact Ll M (by cases g<;>rfl)
 have e4:∀(k:Nat)(u:TypeId),H[k]?≠U (.own u):=by
  rw[m];intro k u hk;by_cases bd:k<(qD g).length;rw[dF bd] at hk;cases g with
  |false=>simp[qD] at bd
  |true=>rcases k with _|_|_|k<;>simp[qD,ZS] at hk
  rw[gK aa] at hk;exact aj3 bf _ u hk
 have e5:kV g=[]\/sn qk=true:=hq.imp (λh=>by subst h;rfl) id;have ba:∀P o,ee L P->F P=U o->∃N,run (look TT) (look PT) (look SG) be qs N u (fp (kV g) P) H []=U o:=λP o M ho=>by
  obtain⟨N,hN⟩:=hF P o M ho;exact⟨N,sq N u _ H [] [] [] o hN (by rw[e1 _ P M,e2 _ P M];exact hc) (e3 P M) yQ.nil⟩
 cases dT with
 |none=>exact apu (cf:=n7 Tryz.prog TT SG (Dr g) A B s ku af) (glk:=qD g) (glv:=kV g) (λQ R j=>Le FW Ng hi Nh j al) rfl ag (λ_ _ e h=>h.grow e) hf hb an a0 a1 a3 hl (by cases g<;>exact a4) m e4 (by cases g<;>rfl) e5 e1 e2 (λW h=>ZT g hz W h) (λp O h=>(apN _ _ _ _ _ _ _ _).subst (motive:=λq=>T.aG p q O []) (a9 p O h)) ba
 |some eT=>
  cases a:pm y with
  |none=>exact apX (cf:=n7 Tryz.prog TT SG (Dr g) A B s ku af) (glk:=qD g) (glv:=kV g) (λQ R j=>Le FW Ng hi Nh j al) rfl ag (λ_ _ e h=>h.grow e) hf hb (bb.erl a) an a0 a1 a3 hl (by cases g<;>exact a4) m e4 (by cases g<;>rfl) e5 e1 e2 (λW h=>ZT g hz W h) (λp O h=>(apV a).subst (motive:=λq=>T.aG p q O []) (a9 p O h)) (bc au) ba
  |some d=>exact apv (cf:=n7 Tryz.prog TT SG (Dr g) A B s ku af) (glk:=qD g) (glv:=kV g) (λQ R j=>Le FW Ng hi Nh j al) rfl ag (λ_ _ e h=>h.grow e) hf hb a (bb.d a) an a0 a1 a3 hl (by cases g<;>exact a4) m e4 (by cases g<;>rfl) e5 e1 e2 (λW h=>ZT g hz W h) (λp O h=>((apW a).trans (apO _ _ _ _ _ _ _ _ _)).subst (motive:=λq=>T.aG p q O []) (a9 p O h)) (bc au) ba
def ZU(f:FuncId):qC w f (λ_=>Z):=λ_ _ _ _ _ _ _ _ _ _ _ h=>by cases h
def cq(f:FuncId)(g d:Bool)(t:T):Prop:=∀(z:Bool),(g=J->z=J)->∀(be:md),(∀g,qC z g (be g))->∀n,qC z f (λX=>yR d (exec be n t (fp (kV g) X) []))
def asO(k:Tryz.prog.funcs[G]?=U v)(j:v.body=U y){H:ap}(i:H.all (tP Tryz.prog)=J){D:xW}(e:s9 D){d:zX}{g:Bool}{Q:Option TypeId}
  {N M:iX}{V A:aI}{l:am}{L:aY}
  (b:look PT G=U N)(a:look SG G=U M)(af:gH (look TT) N=U V)(ag:gH (look TT) M=U A)
  (al:oB V=J)(hl:jo (look TT) N c=U l)(an:p8 0 0 (qD g).length V l=J)(a0:L=qD g++iP V)(hq:g=E\/sn A=J)
  (a1:((⟨[],[],0,0,[],0,0,[]⟩:S).b9 V).2.ni=x)(a3:((⟨[],[],0,0,[],0,0,[]⟩:S).b9 V).2.nb=n)
  (a4:tV Tryz.prog y Q)
  {s:Bool}(ht:Wp s u (EP (n7 Tryz.prog TT SG (Dr g) H B D w d) Q X G y v.ntmps v.results.toList c ⟨[],[],x,n,L,0,0,[]⟩)=u)
  (hc:u.gF (look TT) (look PT) (look SG) M x n L []=J):cq G g Q.isSome u:=
 λz hz be a9 m=>asN (F:=λP=>yR Q.isSome (exec be m u (fp (kV g) P) [])) a9 k j i e b a af ag al hl an a0 hq a1 a3 (λp O h=>aps (g:=u) (c:=s) (Eq.mpr (ji (λq=>T.aG p q O []) ht) h))
  a4 (λba P W h=>by
   cases Q with
   |none=>exact ba rfl
   |some eT=>
   simp only[Option.isSome_some] at h;cases R:exec be m u (fp (kV g) P) [] with
   |none=>rw[R] at h;cases h
   |some o=>rw[R] at h;cases o<;>simp[yR] at h) hc (λP o _ h=>by
   cases R:exec be m u (fp (kV g) P) [] with
   |none=>simp only[R,yR] at h;cases h
   |some r=>
    simp only[R] at h;have:o=r:=by
     cases r with
     |ret ys=>simp only[yR,cg] at h;exact h.symm
     |aW W=>
      simp only[yR] at h;split at h;cases h;cases h;rfl
    subst this;exact⟨m,R⟩) hz
def SM:eG->Nat->Nat->Nat->am×Nat×Nat×Nat
 |[],a,b,c=>([],a,b,c)
 |.int k::l,a,b,c=>let r:=SM l (a+1) b c;(.int k (.v a)::r.1,r.2)
 |.bool::l,a,b,c=>let r:=SM l a (b+1) c;(.bool (.v b)::r.1,r.2)
 |.ac _ _::l,a,b,c=>let r:=SM l a b (c+1);(.ah (.v c)::r.1,r.2)
def mkA:iX->Nat->Nat->Nat->am
 |[],_,_,_=>[]
 |t::W,a,b,c=>match look TT t with
  |U X=>let r:=SM X.aj a b c;(if X.d.isAgg then .agg r.1 else r.1.headD .any)::mkA W r.2.1 r.2.2.1 r.2.2.2
  |none=>[]
def ZV(f:FuncId):aI:=(gH (look TT) ((look PT f).getD [])).getD []
abbrev SN:S:=⟨[],[],0,0,[],0,0,[]⟩
def tk{W V:iX}{X O:aI}(M:Tryz.prog.funcs[G]?=U v)(loops:List (Nat×Nat×eV):=[])(inl:ap:=[])(srts:xW:=[])(ku:Bool:=E)(chs:zX:=[])(g:Bool:=E)(dT:Option TypeId:=Z)(n:Nat:=300)
  (N:am:=mkA ((look PT G).getD []) 0 0 (qD g).length)(R:Nat:=(SN.b9 (ZV G)).2.ni)(Q:Nat:=(SN.b9 (ZV G)).2.nb)(P:aY:=qD g++iP (ZV G))
  (hsr:s9 srts:=by exact λx L=>by cases L)(hdc:tV Tryz.prog (v.body.getD .skip) dT:=by exact trivial)
  (H:v.body=U (v.body.getD .skip):=by rfl)(F:inl.all (tP Tryz.prog)=true:=by kernel_rfl)
  (D:look PT G=U W:=by exact rfl)(B:look SG G=U V:=by exact rfl)(A:gH (look TT) W=U X:=by exact rfl)(z:gH (look TT) V=U O:=by exact rfl)
  (y:oB X=true:=by exact rfl)(w:jo (look TT) W N=U c:=by exact rfl)(s:p8 0 0 (qD g).length X c=true:=by exact rfl)(r:P=qD g++iP X:=by exact rfl)(q:g=E\/sn O=true:=by first|exact .inl rfl|exact .inr rfl)
  (p:(SN.b9 X).2.ni=R:=by exact rfl)(o:(SN.b9 X).2.nb=Q:=by exact rfl)
  (ct:Bool:=E)(m:Wp ct u (EP (n7 Tryz.prog TT SG (Dr g) inl loops srts ku chs) dT n G (v.body.getD .skip) v.ntmps v.results.toList N ⟨[],[],R,Q,P,0,0,[]⟩)=u:=by kernel_rfl)
  (k:u.gF (look TT) (look PT) (look SG) V R Q P []=true:=by kernel_rfl):cq G g dT.isSome u:=
 asO M H F hsr D B A z y w s r q p o hdc m k
structure ZW(tb:j8)(z:Bool):Prop where
 tree:∀f fn,tb.tree f=U fn->cq f fn.g fn.d fn.t
 laid:∀f fn,tb.tree f=U fn->fn.g=J->z=J
 q9:∀f,qC z f (tb.q9 f)
def qC.or{F X:aX->jC}(h:qC w G F)(k:qC w G X):qC w G (λV=>match F V with|U o=>U o|none=>X V):=by
 intro P O N M L H D B R V o W;simp only at W;cases Q:F R with
 |some A=>rw[Q] at W;simp only[cg] at W;subst W;exact h P O N M L H D B R V A Q
 |none=>rw[Q] at W;exact k P O N M L H D B R V o W
def SO{V:j8}{z:Bool}(X:ZW V z):∀n f,qC z f (V.be n f)
 |0,f=>X.q9 f
 |n+1,f=>by
  cases R:V.tree f with
  |none=>
   have:=qC.or (X.q9 f) (ZU f);intro Q P O N M L H G F D o W;simp only[j8.be,R] at W;exact this Q P O N M L H G F D o W
  |some t=>
   have:=qC.or (X.q9 f) (X.tree f t R z (X.laid f t R) (V.be n) (SO X n) n);intro Q P O N M L H G F D o W;simp only[j8.be,R] at W;exact this Q P O N M L H G F D o W
def aj5(W:pm y=Z)(h:AR y=U G)(k:AQ Tryz.prog G R):tV Tryz.prog y (U R):=by
 simp only[tV,W];exact λV X=>by rw[h] at X;cases X;exact k
def ZX(h:(pm y).map DI.g=U G)(k:vd Tryz.prog G R):tV Tryz.prog y (U R):=by
 cases X:pm y with
 |none=>rw[X] at h;cases h
 |some d=>rw[X] at h;cases h;simp only[tV,X];exact k
def SQ:∀X:aX,yM X X
 |[]=>trivial
 |x::X=>⟨by cases x with
  |i n=>rfl
  |b n=>rfl
  |r v=>exact dj.refl v,SQ X⟩
def SR{V:Ty}{X:aI}{R:aX}(h:∀e,LK.ah e∉X):wO V M X R:=λq e P Q _=>(h e (iU Q)).elim
def aj6{V:Ty}{W:aI}{R:aX}(h:∀e,LK.ah e∉W):¬wN V W R X:=λ⟨q,e,P,Q,_,_⟩=>h e (iU Q)
def qE:xW:=[(144,145,267,.lex [0,1,2] E,E),(82,83,56,.ratio 10 11,J),(85,86,56,.lex [0] E,E),(213,188,310,.lex [1,0] E,E),(256,257,397,.lex [4] J,J),(49,49,3,.da 0 (.lex [] E) [],J)]
end
end Go.Proofs.YtfpoabmmjhhncaaGreatDoor.Y
namespace Go.Proofs.YtfpoabmmjhhncaaGreatDoor
open Go.RowKit
variable{M:World}{X x:Nat}{w:Bool}{R:TypeId}{H:Array Value}
section
def asP{P:Program}(X:Array TypeId)(t:TypeId)(x y:Int):(Builtin.min_ X t #[.int I x,.int I y]).run P M=.ok (.int I (min x y)) M:=by
 simp[Builtin.min_,Builtin.min2];omega
def asQ{P:Program}(X:Array TypeId)(t:TypeId)(x y:Int):(Builtin.max_ X t #[.int I x,.int I y]).run P M=.ok (.int I (max x y)) M:=by
 simp[Builtin.max_,Builtin.max2];omega
attribute[go_sem high] asP asQ
def Sl{R:Type}(P:R->List Value)(k:Nat)(w:World)(v:Value)(X:List R):Prop:=
 ∃(a:Option Addr)(W V:Nat),v=.slice a W V/\Y X=W/\W<=V/\V<=4611686018427387904/\
  ∀i(h:i<Y X),∃b Q,a=U ⟨b,Q,Z⟩/\b<w.heap.size/\∀j,j<k->w.cell? ⟨b,Q+i*k+j,Z⟩=(P X[i])[j]?
def Sl.below{W:Type}{V:W->List Value}{R:World}{v:Value}{Q:List W}(h:Sl V X M v Q)(P:Below M.heap.size M R):Sl V X R v Q:=by
 obtain⟨a,N,L,H,G,F,D,B⟩:=h;refine⟨a,N,L,H,G,F,D,λi A=> ?_⟩;obtain⟨b,z,e,O,y⟩:=B i A;exact⟨b,z,e,Tn O P.size,λj x=>(P.cell (p:=⟨b,_,Z⟩) O).trans (y j x)⟩
def SS(n:Int):List Value:=[.int I n]
def Ju{b:Bool}(h:w=b):Ending.returned (.bool w)=.returned (.bool b):=by rw[h]
def aj7{X:World}(V:Below M.heap.size M X):(∀b o,b<M.heap.size->X.cell? ⟨b,o,Z⟩=M.cell? ⟨b,o,Z⟩)/\(∀b o,b<M.heap.size->X.frozen? ⟨b,o,Z⟩=M.frozen? ⟨b,o,Z⟩):=
 ⟨λb o h=>V.cell (p:=⟨b,o,Z⟩) h,λb o h=>V.frozen (p:=⟨b,o,Z⟩) h⟩
def asR:List Value:=[.int I 0,.int I 29,.int I 20,.int I 21,.int I 29,.int I 0,.int I 20,.int I (-21),.int I 0,.int I (-29),.int I (-20),.int I (-21),.int I (-29),.int I 0,.int I (-20),.int I 21]
def ZY(w:World):Prop:=4<=w.heap.size/\∀i,i<16->w.cell? ⟨2,i,Z⟩=asR[i]?
def ZY.below{X:World}(h:ZY M)(W:Below M.heap.size M X):ZY X:=
 ⟨pP h.1 W.size,λi V=>(W.cell (p:=⟨2,i,Z⟩) (by have:=h.1;show 2<_;omega)).trans (h.2 i V)⟩
def xL{X:World}(h:Below M.heap.size M X)(o:Obj):Below M.heap.size M (X.alloc o):=h.alloc h.size o
def ZZ{X:World}(h:Below M.heap.size M X){p:Addr}(W:M.heap.size<=p.block)(u:Value):Below M.heap.size M (X.setCell p u):=h.setCell W u
def Br{X W:World}(h:Below M.heap.size M X)(k:Below X.heap.size X W):Below M.heap.size M W:=h.trans (k.mono h.size)
def Z0{X:World}(h:Below M.heap.size M X):Below M.heap.size M X.drew:=h.drew
def Bx(W:World)(b:Nat)(t:TypeId)(X:Array Value):Prop:=W.heap[b]?=U (.cells X t (0,0))
def Bx.lt(h:Bx M X R H):X<M.heap.size:=by
 unfold Bx at h;by_cases V:X<M.heap.size;exact V;rw[aw7 (by omega)] at h;cases h
def Bx.cell(h:Bx M X R H):∀i,M.cell? ⟨X,i,Z⟩=H[i]?:=by
 intro i;unfold Bx at h;simp[mC,h]
def Bx.new(w:World)(X:Array Value)(t:TypeId):Bx (w.alloc (.cells X t)) w.heap.size t X:=by
 show(w.heap.push _)[w.heap.size]?=_;simp
def Bx.alloc(h:Bx M X R H)(o:Obj):Bx (M.alloc o) X R H:=
 (Below.heap_alloc M o X h.lt).trans h
def Bx.drew(h:Bx M X R H):Bx M.drew X R H:=h
def Bx.drewN(h:Bx M X R H)(n:Nat):Bx (M.drewN n) X R H:=h
def Bx.below{V:World}(h:Bx M X R H)(Q:Below M.heap.size M V):Bx V X R H:=
 (Q.block X h.lt).trans h
def Bx.set(h:Bx M X R H)(u:Value):Bx (M.setCell ⟨X,x,Z⟩ u) X R (H.setIfInBounds x u):=by
 unfold Bx at*;simp[NQ,JB,h]
end
end Go.Proofs.YtfpoabmmjhhncaaGreatDoor
namespace Go.Proofs.YtfpoabmmjhhncaaGreatDoor.K
structure Range where
 Lo:Int
 Hi:Int
 deriving DecidableEq
structure km where
 X:Range
 Y:Range
 deriving DecidableEq
structure Vec where
 X:Int
 Y:Int
 Z:Int
 deriving DecidableEq
def km.zero:km:=⟨⟨0,0⟩,⟨0,0⟩⟩
def xM(m:Int)(X:List Int):Bool:=X.all λn=> !(n< -m||n>m)
def km.valid(b:km):Bool:=xM 1099511627776 [b.X.Lo,b.X.Hi,b.Y.Lo,b.Y.Hi]&&decide (b.X.Lo<=b.X.Hi)&&decide (b.Y.Lo<=b.Y.Hi)
def Range.rG(x y:Range):Bool:=decide (x.Lo<=y.Hi)&&decide (y.Lo<=x.Hi)
def km.rG(a b:km):Bool:=a.X.rG b.X&&a.Y.rG b.Y
def asS(m:Int)(X:List Int)(k:Nat)(h:k<Y X):xM m (X.take (k+1))=(xM m (X.take k)&& !(X[k]< -m||X[k]>m)):=by
 unfold xM;rw[List.take_succ_eq_append_getElem h,List.all_append];simp
def asT{m:Int}{X:List Int}{k:Nat}(h:xM m (X.take k)=E):xM m X=false:=by
 unfold xM at*;rw[List.all_eq_false] at*;obtain⟨x,W,h⟩:=h;exact⟨x,Bz W,h⟩
end Go.Proofs.YtfpoabmmjhhncaaGreatDoor.K
namespace Go.Proofs.YtfpoabmmjhhncaaGreatDoor
open Go.RowKit
abbrev K.Range.v(x:K.Range):Value:=.agg #[.int I x.Lo,.int I x.Hi]
abbrev K.km.v(x:K.km):Value:=.agg #[.int I x.X.Lo,.int I x.X.Hi,.int I x.Y.Lo,.int I x.Y.Hi]
def asU(m:Int)(v:Value)(X:List Int)(w:World)(z:0<=m)(x:m<=4611686018427387904)(G:Sl SS 1 w v X):
  Calls Tryz.prog 102 #[.int I m,v] w λe F=>e=.returned (.bool (K.xM m X))/\w=F:=by
 obtain⟨a,W,u,rfl,R,t,s,Q⟩:=G;have D:=Lib.hid Q;clear Q;have P:=Lib.hid R;clear R;go_enter Tryz.func102,Tryz.ntmps102;go_wp2
 go_loop [9] (λi=>∃k:Nat,k<=W/\i=.int I k/\K.xM m (X.take k)=J) (λi=>W-(intOf i).toNat)
 case atStart=>exact⟨0,NT _,rfl,rfl⟩
 case round=>
  obtain⟨k,r,rfl,O⟩:=hrel;have V:=Lib.hid O;clear O;by_cases B:k<W
  ·have N:k<Y X:=by rw[P.out];exact B
   have M:=K.asS m X k N;have L:=Lib.hid M;clear M;obtain⟨b,q,rfl,p,H⟩:=D.out k N;have A:=H 0 (by omega);clear H;simp only[SS,xR,uH,alO] at A;generalize X[k]=y at*;go_wp2
   all_goals first
    |(go_ret;exact⟨Ju (K.asT (k:=k+1) (by rw[L.out,V.out];simp<;>omega)).symm,rfl⟩)
    |(go_round
      case rel=>exact⟨k+1,by omega,by go_num,by rw[L.out,V.out];simp<;>omega⟩
      case measure=>simp[intOf];omega)
  ·go_wp2;go_ret;exact⟨Ju (by rw[<-V.out,F7 (by rw[P.out];omega)]),rfl⟩
def Ni(x:K.km)(r:Bool)(R:x.valid=r)(w:World):
  Calls Tryz.prog 81 #[x.v] w λe W=>e=.returned (.bool r)/\Below w.heap.size w W:=by
 subst R;have Q:Sl SS 1 ((w.alloc (.cells #[.int I x.X.Lo,.int I x.X.Hi,.int I x.Y.Lo,.int I x.Y.Hi] 198)).alloc (.cells #[.int I x.X.Lo,.int I x.X.Hi,.int I x.Y.Lo,.int I x.Y.Hi] 3)) (.slice (U ⟨w.heap.size+1,0,Z⟩) 4 4) [x.X.Lo,x.X.Hi,x.Y.Lo,x.Y.Hi]:=by
  refine⟨_,_,_,rfl,rfl,by omega,by omega,λi P=>⟨w.heap.size+1,0,rfl,by simp,λj O=> ?_⟩⟩;obtain rfl:j=0:=by omega
  simp at P;rcases i with _|_|_|_|i<;>first|omega|simp[SS,go_sem]
 cases V:K.xM 1099511627776 [x.X.Lo,x.X.Hi,x.Y.Lo,x.Y.Hi]
 all_goals
  go_enter Tryz.func81,Tryz.ntmps81
  go_wp2_with (go_at_call 102;refine(asU _ _ _ _ (by omega) (by omega) Q).mono ?_;rw[V];rintro e W ⟨rfl,rfl⟩)
  all_goals(go_ret;exact⟨Ju (by simp[K.km.valid,V]<;>omega),xL (xL (Below.refl _ _) _) _⟩)
def Z1(x y:K.Range)(r:Bool)(X:x.rG y=r)(w:World):
  Calls Tryz.prog 192 #[x.v,y.v] w λe W=>e=.returned (.bool r)/\Below w.heap.size w W:=by
 subst X;by_cases V:x.Lo<=y.Hi
 all_goals
  go_enter Tryz.func192,Tryz.ntmps192;go_wp2
  all_goals(go_ret;exact⟨Ju (by simp[K.Range.rG]<;>omega),xL (xL (Below.refl _ _) _) _⟩)
def asV(a b:K.km)(w:World):
  Calls Tryz.prog 161 #[a.v,b.v,.func (.func 192) #[] #[]] w λe O=>e=.returned (.bool (a.rG b))/\Below w.heap.size w O:=by
 cases R:a.X.rG b.X
 ·have W:=Lib.hid R;clear R;go_enter Tryz.func161,Tryz.ntmps161
  go_wp2_with (go_at_call 192;refine(Z1 ⟨_,_⟩ ⟨_,_⟩ E W.out _).mono ?_;rintro e N ⟨rfl,V⟩;obtain⟨M,L⟩:=aj7 V)
  go_ret;exact⟨Ju (by simp[K.km.rG,W.out]),Br (xL (xL (Below.refl _ _) _) _) V⟩
 ·have W:=Lib.hid R;clear R;cases Q:a.Y.rG b.Y
  all_goals
   have P:=Lib.hid Q;clear Q;go_enter Tryz.func161,Tryz.ntmps161
   go_wp2_with fail
   refine(Z1 ⟨_,_⟩ ⟨_,_⟩ J W.out _).mono ?_;rintro e N ⟨rfl,V⟩;obtain⟨M,L⟩:=aj7 V
   go_wp2_with fail
   refine(Z1 ⟨_,_⟩ ⟨_,_⟩ _ P.out _).mono ?_;rintro e G ⟨rfl,H⟩;go_wp2;go_ret;exact⟨Ju (by simp[K.km.rG,W.out,P.out]),Br (Br (xL (xL (Below.refl _ _) _) _) V) H⟩
abbrev K.Vec.v(x:K.Vec):Value:=.agg #[.int I x.X,.int I x.Y,.int I x.Z]
def asW(a b:K.km)(Q:a.valid=J)(P:b.valid=J)(r:Bool)(O:a.rG b= !r)(w:World):
  Calls Tryz.prog 171 #[a.v,b.v] w λe N=>e=.returned (.tuple #[.bool r,.int I 0])/\Below w.heap.size w N:=by
 have M:=Lib.hid Q;clear Q;have L:=Lib.hid P;clear P;have H:=Lib.hid O;clear O;go_enter Tryz.func171,Tryz.ntmps171
 go_wp2_with fail
 refine(Ni ⟨⟨_,_⟩,⟨_,_⟩⟩ J M.out _).mono ?_;rintro e D ⟨rfl,W⟩;have V:=((Bx.new w _ _).alloc _).below W;have X:=(Bx.new (w.alloc _) _ _).below W;simp only[NL] at X;have G:=X.cell
 go_wp2_with fail
 refine(Ni ⟨⟨_,_⟩,⟨_,_⟩⟩ J L.out _).mono ?_;rintro e B ⟨rfl,R⟩;replace V:=V.below R;replace X:=X.below R;have A:=V.cell;have G:=X.cell
 go_wp2_with fail
 refine(asV ⟨⟨_,_⟩,⟨_,_⟩⟩ ⟨⟨_,_⟩,⟨_,_⟩⟩ _).mono ?_;rw[show K.km.rG ⟨⟨_,_⟩,⟨_,_⟩⟩ ⟨⟨_,_⟩,⟨_,_⟩⟩= !r from H.out];rintro e z ⟨rfl,F⟩;go_wp2
 go_ret2
 refine⟨by simp, ?_⟩
 repeat' first|with_reducible apply xL|with_reducible apply Z0|(with_reducible refine ZZ ?_ (by dsimp only;omega) _)|with_reducible exact Below.refl _ _|(refine Br ?_ F)|(refine Br ?_ R)|(refine Br ?_ W)
end Go.Proofs.YtfpoabmmjhhncaaGreatDoor
namespace Go.Proofs.YtfpoabmmjhhncaaGreatDoor.Y
open Go.RowKit
noncomputable section
variable{G:FuncId}{v:Func}{y:Code}{X x n:Nat}{c:am}{u:T}{R:TypeId}{Q F:aq}{A:bB}{z:aZ}{M:World}{w:Bool}{B:List (Nat×Nat×eV)}
def asX(a b:K.km)(X:a.valid=E)(w:World):Calls Tryz.prog 171 #[a.v,b.v] w λe R=>e=.returned (.tuple #[.bool E,.int I 150])/\Below w.heap.size w R:=by
 have Q:=Lib.hid X;clear X;go_enter Tryz.func171,Tryz.ntmps171
 go_wp2_with fail
 refine(Ni ⟨⟨_,_⟩,⟨_,_⟩⟩ E Q.out _).mono ?_;rintro e P ⟨rfl,W⟩;have V:=(Bx.new (w.alloc _) _ _).below W;simp only[NL] at V;have O:=V.cell;go_wp2
 go_ret2
 refine⟨au, ?_⟩
 repeat' first|with_reducible apply xL|with_reducible apply Z0|(with_reducible refine ZZ ?_ (by dsimp only;omega) _)|with_reducible exact Below.refl _ _|(refine Br ?_ W)
def asY(a b:K.km)(Q:a.valid=J)(P:b.valid=E)(w:World):Calls Tryz.prog 171 #[a.v,b.v] w λe O=>e=.returned (.tuple #[.bool E,.int I 150])/\Below w.heap.size w O:=by
 have N:=Lib.hid Q;clear Q;have M:=Lib.hid P;clear P;go_enter Tryz.func171,Tryz.ntmps171
 go_wp2_with fail
 refine(Ni ⟨⟨_,_⟩,⟨_,_⟩⟩ J N.out _).mono ?_;rintro e H ⟨rfl,W⟩;have V:=((Bx.new w _ _).alloc _).below W;have X:=(Bx.new (w.alloc _) _ _).below W;simp only[NL] at X;have L:=X.cell
 go_wp2_with fail
 refine(Ni ⟨⟨_,_⟩,⟨_,_⟩⟩ E M.out _).mono ?_;rintro e G ⟨rfl,R⟩;replace V:=V.below R;replace X:=X.below R;have F:=V.cell;have L:=X.cell;go_wp2
 go_ret2
 refine⟨au, ?_⟩
 repeat' first|with_reducible apply xL|with_reducible apply Z0|(with_reducible refine ZZ ?_ (by dsimp only;omega) _)|with_reducible exact Below.refl _ _|(refine Br ?_ R)|(refine Br ?_ W)
def S.bare(s:S):S:=⟨[],[],s.ni,s.nb,s.rs,0,0,s.pd⟩
def SU:XE->S->T:=λe s=>.out e s.bare
section
variable{g:ap}{q:World}{D:bI}{V:ap}{O:ai}{s:S}{a:Act}{W:World}{o:Ty}{cf:bi}{p:Sp}
def ax.bare(R:ax g q D o V O s a W):ax g q D o [] O s.bare ⟨#[],a.defers⟩ W where
 mem:=⟨R.mem.base,λi h=>by simp[S.bare,aF,bM] at h,λi j h=>by simp[S.bare,aF,bM] at h,λi t M h=>by simp[S.bare,bM] at h,λk e X Q P=>⟨(R.mem.ah k e X Q P).1,λb L i h=>by simp[S.bare,aF,bM] at h⟩⟩
 fM:=rfl
 ei:=R.ei
 eb:=R.eb
 er:=R.er
 cQ:=R.cQ
 size:=rfl
 tmps:=λt H h=>by simp[S.bare] at h
 fz:=λk e X b Q P N=>⟨(R.fz k e X b Q P N).own,(R.fz k e X b Q P N).mem,λi h=>by simp[S.bare,aF,bM] at h,(R.fz k e X b Q P N).alone,(R.fz k e X b Q P N).inner⟩
def asZ(F:iB p cf)(m:p.P.funcs[G]?=U v)(b:v.body=U y)(h0:v.results.toList=[])(hD:p.D=bI.none){s:S}{O:ai}{V:ap}
  (ht:eY cf X G y {s with tmps:=c++ew (v.ntmps-Y c) (.bA [])} gM SU=u)(z:u.aG p O [])(hg:et cf.gl O)(R:ax p.S0 p.w0 bI.none cf.ty V O {s with tmps:=[]} ⟨#[],[]⟩ p.w0)
  (hQ:∀e a W,p.Q e a W->(e=.normal\/e=.ret)/\p.R (.returned (.tuple #[])) W):
  Calls p.P G (C.ay O V c).toArray p.w0 p.R:=by
 subst ht;refine Hz m b ?_;have RE:=R.enter c v.ntmps R.cQ;refine(HG F X).1 bI.none ⟨{s with tmps:=c++ew (v.ntmps-Y c) (.bA [])},O,V,[]⟩ gM Z G y _ _ [] O V _ p.w0 _ (Ck _ _) (iG.here _ _ _ _) rfl (λhh=>by cases hh) ⟨v,m⟩ z RE hg ?_ ?_;intro k L x pd N hA hR;obtain⟨af,B,q0,w,A⟩:=hA.kQ;show LeavesInM Fence.wide 0 p.P v L.tmps p.R L.defers (.panicking k) x;rw[B];exact p7 au (uE.1 w).1 (λd H=>(A d (by simp[H])).1) (K6 (F.Pc k) (λd H=>(A d (by simp[H])).2) hR);intro e s' O' V' L x L' hl hL j z;obtain⟨af,B,q0,w,A⟩:=j.cQ.kQ;have i:=j.py B;have r:=hQ _ _ _ (z O'.y [] _ _ (by rw[F.pt,hD];exact i.bare));have h:LeavesInM Fence.wide 0 p.P v L.tmps p.R L.defers .returning (x):=by
  rw[B];refine p7 au (uE.1 w).1 (λd H=>(A d (by simp[H])).1) ⟨_,Hh (l:=[]) i F.jB (by rw[h0];rfl), ?_⟩;exact r.2
 cases e with
 |normal=>exact h
 |ret=>exact h
 |aW M=>have:=r.1;simp[XE.to] at this
 |exit id=>have:=r.1;simp[XE.to] at this
def as1{A:mU}(P:ax (kS A n).toList q D cf.ty V O s a W)(z:s.rs[X]?=U (.own R))(y:O.rv X=.mk (.slice A x n) Q):
  q.grownBy W (kS A n)/\Cb q W R (bm cf.ty (.sl R)).length (kS A n) Q A n:=by
 obtain⟨m,l,j,N,L,G⟩:=KE P z;rw[y] at N L;simp only[RV.ma] at N L;injection N with N _;injection N with w F v;subst w;subst F;subst v;obtain⟨F,g⟩:=qZ L;have M:=P.mem.base;refine⟨⟨M.os,M.tape,M.output,M.size,λi u t=>M.block i u (λH=>t ?_)⟩,⟨aa,G.nil, ?_⟩⟩;exact((by simpa[Option.mem_toList] using H:kS A n=U i)).symm;rcases G.mem with h|⟨b,cJ,rfl,B,H,r⟩;exact .inl h;cases n with
 |zero=>exact .inl rfl
 |succ c=>exact .inr ⟨b,cJ,rfl,B,H,r,UL L B,.inr rfl⟩
end
def iN:kJ->aC->Prop
 |[],x=>x=[]
 |b::X,c::r=>(if b then∃n,c=.mk (.int I n) [] else∃q,c=.mk (.bool q) [])/\iN X r
 |_::_,[]=>False
def Bs(b:Bool):CT:=if b then .int I else .bool
def ta(c:RV):RV:=.mk c.val []
def eK(X:aq):aq:=X.map λW=>W.map ta
def Z2(c:Nat)(x:aC):aK c (x.map ta)=aK c x:=by
 simp only[aK,cw,dM];cases x[c]?<;>rfl
def aj9(d:Bool)(x y:aC):∀X,i7 d X (x.map ta) (y.map ta)=i7 d X x y
 |[]=>rfl
 |c::X=>by simp only[i7,Z2,aj9 d x y X]
def Z3(o:bB)(x y:aC):o.lt (x.map ta) (y.map ta)=o.lt x y:=by
 cases o with
 |lex X d=>exact aj9 d x y X
 |ratio n d=>simp only[bB.lt,Z2]
 |da k o W=>rfl
def as2(o:bB)(x:aC):o.ok (x.map ta)=o.ok x:=by
 cases o with
 |lex X d=>rfl
 |ratio n d=>simp only[bB.ok,Z2]
 |da k o W=>rfl
def aka(o:bB)(x:aC):∀l,eH o.lt (x.map ta) (eK l)=eK (eH o.lt x l)
 |[]=>rfl
 |y::r=>by
  have X:=aka o x r;simp only[eK,ep,eH,Z3] at X⊢;split;rfl;rw[X];rfl
def akb(o:bB)(l:aq):bK o.lt (eK l)=eK (bK o.lt l):=by
 have:∀l acc,(eK l).foldl (λacc x=>eH o.lt x acc) (eK acc)=eK (l.foldl (λacc x=>eH o.lt x acc) acc):=by
  intro l;induction l with
  |nil=>intro acc;rfl
  |cons x l X=>
   intro acc;have:=X (eH o.lt x acc);rw[<-aka] at this;exact this
 exact this l []
def akc(o:bB)(l:aq):(eK l).all o.ok=l.all o.ok:=by
 simp only[eK,JM];congr 1;funext x;exact as2 o x
def as3(l:aq)(a b:Nat):aR (eK l) a b=eK (aR l a b):=by simp[aR,eK]
def akd(o:bB):∀l,uX o.lt (eK l)=uX o.lt l
 |[]=>rfl
 |x::r=>by
  have X:=akd o r;simp only[eK,ep,uX,JM] at X⊢;rw[X];congr 2;funext y;simp only[Function.comp,Z3]
def as4(l:aq)(a:Nat):(eK l).take a=eK (l.take a):=by simp[eK]
def as5(l:aq)(a:Nat):(eK l).drop a=eK (l.drop a):=by simp[eK]
def as6(l m:aq):eK (l++m)=eK l++eK m:=by simp[eK]
def xN(l:aq):(eK l).length=Y l:=by simp[eK]
def as7(h:mb X A z Q=U F):mb X A z (eK Q)=U (eK F):=by
 unfold mb at h⊢;split at h
 all_goals first|(split at h<;>first|(cases h;done)|skip)|skip
 all_goals first|(cases h;done)|skip
 all_goals
  rename_i W;cases h;simp only[xN,akc,as3,akd,as4,as5,akb,<-as6];rw[aE W]
def as8(h:nW X A z Q=U F):nW X A z (eK Q)=U (eK F):=by
 obtain⟨W,V⟩:=yH h;unfold nW;rw[xN,aE W];exact as7 V
def ake(l:aq):dX (eK l)=dX l:=by
 simp only[dX,eK,List.flatMap_map];congr 1;funext x;simp only[mT];rfl
def akf:∀(X:kJ)(W:aC),Y W=Y X->(∀(j:Nat)(c:RV)(k:IntKind),W[j]?=U c->(X.map Bs)[j]?=U (.int k)->∃n,c.val=.int k n)->(∀(j:Nat)(c:RV),W[j]?=U c->(X.map Bs)[j]?=U .bool->∃x,c.val=.bool x)->iN X (W.map ta)
 |[],[],_,_,_=>rfl
 |[],_::_,h,_,_=>by simp at h
 |_::_,[],h,_,_=>by simp at h
 |b::N,c::r,M,P,O=>by
  refine⟨?_,akf N r (by simpa using M) (λj c k V R=>P (j+1) c k (by simpa using V) (by simpa using R)) (λj c V R=>O (j+1) c (by simpa using V) (by simpa using R))⟩;cases b with
  |true=>
   obtain⟨n,Q⟩:=P 0 c I rfl rfl;exact⟨n,by simp[ta,Q]⟩
  |false=>
   obtain⟨n,Q⟩:=O 0 c rfl rfl;exact⟨n,by simp[ta,Q]⟩
def akg{H:Ty}{X:kJ}(P:bm H (.sl R)=X.map Bs)(h:fj M H R Q):∀x∈eK Q,iN X x:=by
 intro x G;obtain⟨V,F,rfl⟩:=gL.1 G;obtain⟨i,O⟩:=qI F;refine akf X V ?_ (λj c k N L=>h.int i j V c k O N (by rw[P];exact L)) (λj c N L=>h.bool i j V c O N (by rw[P];exact L));have:=h.len i V O;rw[P,o8] at this;exact this
def akh{w:Ty}{A:mU}(s:∀(j:Nat)(z:Value)(k:RK),(bm w (.sl R))[j]?≠U (.ac z k))(h:bu M w (.sl R) (.mk (.slice A X x) Q)):bu M w (.sl R) (.mk (.slice A X x) (eK Q)):=by
 have v:∀{i:Nat}{O:aC},(eK Q)[i]?=U O->∃V,Q[i]?=U V/\O=V.map ta:=by
  intro i O y;simp only[eK,dM,ND] at y;obtain⟨V,H,G⟩:=y;exact⟨V,H,G.symm⟩
 have u:∀{V:aC}{j:Nat}{c:RV},(V.map ta)[j]?=U c->∃P,V[j]?=U P/\c=ta P:=by
  intro V j c t;simp only[dM,ND] at t;obtain⟨P,H,G⟩:=t;exact⟨P,H,G.symm⟩
 cases h with
 |sl R A f x Q H G r y q d=>
  refine bu.sl R A X x (eK Q) (by rw[xN];exact H) G (λi O N=> ?_) (λi j O c k N L F=> ?_) (λi j O c N L F=> ?_) (λi j O c z k N L F=>(s j z k F).elim);obtain⟨V,D,rfl⟩:=v N;obtain⟨p,b,o,m,l,g⟩:=r i V D;refine⟨by simpa using p,b,o,m,l,λj c L=> ?_⟩;obtain⟨P,B,rfl⟩:=u L;exact g j P B;obtain⟨V,D,rfl⟩:=v N;obtain⟨P,B,rfl⟩:=u L;exact y i j V P k D B F;obtain⟨V,D,rfl⟩:=v N;obtain⟨P,B,rfl⟩:=u L;exact q i j V P D B F
def Tgt(p:Sp)(e:TypeId)(v:Value)(az:aq):Prop:=∀(X:Exit)(s:S)(O:ai)(V:ap)(a:Act)(W:World)(k:Nat),(X=.normal\/X=.ret)->ax p.S0 p.w0 p.D p.ty V O s a W->s.rs[k]?=U (.own e)->O.rv k=.mk v az->p.Q X a W
def FX(P:Program)(X:kJ)(g:FuncId)(o:bB):Prop:=∀(W:World)(x y:aC),iN X x->iN X y->o.ok x=J->o.ok y=J->
 Calls P g #[.agg (x.map RV.val).toArray,.agg (y.map RV.val).toArray] W λV R=>Below W.heap.size W R/\∃c:Int,V=.returned (.int I c)/\(c<0<->o.lt x y=J)
def SX(X:kJ)(e g:Nat)(o:bB)(F:aZ->aq->As)(N:Nat)(t:T):Prop:=∀(p:Sp)(v:Value)(W az:aq)(V:aZ),p.P=Tryz.prog->FX Tryz.prog X g o->(∃A n R,v=.slice A n R/\Y W=n/\n<=1099511627776)->(∀x∈W,iN X x)->Y V=N->F V W=U az->Tgt p e v az->t.aG p ⟨V,[],[.mk v W],[]⟩ []
abbrev Nj(X:kJ)(e g:Nat)(o:bB)(k N:Nat)(t:T):Prop:=SX X e g o (nW k o) N t
def Z4{N n:Nat}{o:bB}{F:aZ->aq->As}{K:kJ}{t:T}{args:am}{inl:ap}{loops:List (Nat×Nat×eV)}{srts:xW}{chs:zX}
  (hf:Tryz.prog.funcs[G]?=U v)(d:v.body=U y)(h0:v.results.toList=[])(hi:inl.all (tP Tryz.prog)=J)(an:s9 srts)(hK:bm (look TT) (.sl x)=K.map Bs)(a0:FX Tryz.prog K X o)
  (ht:eY (n7 Tryz.prog TT SG [] inl loops srts E chs) n G y ⟨args++ew (v.ntmps-Y args) (.bA []),[],N,0,[.own x],0,0,[]⟩ gM SU=t)(hh:SX K x X o F N t)
  (a1:∀(B:aZ)(m:RV),Y B=N->C.ay ⟨B,[],[m],[]⟩ [] args=m.val::(B.map (Value.int I)++[.func (.func X) #[] #[]]))
  (a3:∀(B:aZ)(Q az:aq),F B Q=U az->F B (eK Q)=U (eK az))
  (af:∀(B:aZ)(Q az:aq),F B Q=U az->Y B=N/\Y Q<=1099511627776){A:mU}{H L:Nat}{az:aq}(hH:bu M (look TT) (.sl x) (.mk (.slice A H L) Q))(hR:Et M x (bm (look TT) (.sl x)).length A L)(hT:F z Q=U az):
  Calls Tryz.prog G (KL (.slice A H L) z X) M λen D=>en=.returned (.tuple #[])/\M.grownBy D (kS A L)/\Cb M D x (bm (look TT) (.sl x)).length (kS A L) az A L:=by
 have hN:=(af _ _ _ hT).1;have hp:∀(j:Nat)(P:Value)(q:RK),(bm (look TT) (.sl x))[j]?≠U (.ac P q):=by
  intro j P q u;rw[hK,dM] at u;cases d:K[j]? with
  |none=>rw[d] at u;cases u
  |some b=>rw[d] at u;cases b<;>simp[Bs] at u
 have ag:=akh hp hH;have al:=a3 _ _ _ hT;obtain⟨a4,a9⟩:=qZ ag;let O0:ai:=⟨z,[],[.mk (.slice A H L) (eK Q)],[]⟩;let R:Ending->World->Prop:=λen D=>en=.returned (.tuple #[])/\M.grownBy D (kS A L)/\Cb M D x (bm (look TT) (.sl x)).length (kS A L) az A L
 let p:Sp:=⟨Tryz.prog,look TT,(kS A L).toList,M,bI.none,R,λex a D=>(ex=.normal\/ex=.ret)/\R (.returned (.tuple #[])) D⟩;have ok:iB p (n7 Tryz.prog TT SG [] inl loops srts E chs):=Le FW Ng hi Nh (λch D b ob _ h=>by have:=h.1;cases this) an;have ba:(C.ay O0 [] args).toArray=KL (.slice A H L) z X:=by rw[a1 z _ hN];rfl
 rw[<-ba];have bb:∀b,(RV.mk (.slice A H L) (eK Q)).jY=U b->kS A L=U b:=λb h=>by rw[G5] at h;exact h
 have bc:ax p.S0 p.w0 bI.none (look TT) [] O0 {(⟨[],[],N,0,[.own x],0,0,[]⟩:S) with tmps:=[]} ⟨#[],[]⟩ p.w0:=by
  refine⟨⟨ga.refl _ _,λi h=>by simp[aF,bM] at h,λi j h=>by simp[aF,bM] at h,λi t cs h=>by simp[bM] at h,λq e' m w r=> ?_⟩,rfl,hN,rfl,rfl,PM _ _,rfl,λt sv h=>by simp at h,λq e' m b w r h3=> ?_⟩;cases q with
  |succ q=>simp at w
  |zero=>
   simp only[xR,cg] at w;have r:m=.mk (.slice A H L) (eK Q):=(lf r).symm;subst w;subst r;refine⟨bu.own x _ ag λl y hv=> ?_,λb _ i h=>by simp[aF,bM] at h⟩;simp only[RV.l9,Value.slice.injEq] at hv;rw[<-hv.2.2];exact hR.nil hv.1
  cases q with
  |succ q=>simp at w
  |zero=>
   simp only[xR,cg] at w;have r:m=.mk (.slice A H L) (eK Q):=(lf r).symm;injection w with w;subst w;subst r;have k:=bb b h3;refine⟨.inr (by show b∈(kS A L).toList;rw[k];simp), ?_,λi h=>by simp[aF,bM] at h,λk' e' br hk h=> ?_, ?_⟩;rcases hR.mem with u|⟨b',cJ,rfl,hg,hm,bd⟩
   ·subst u;unfold kS at k;split at k<;>first|(cases k;done)|omega|skip
    all_goals simp_all
   have bf:b'=b:=by
    cases L with
    |zero=>cases k
    |succ y=>exact lf k
   subst bf;exact⟨H,L,cJ,rfl,hg,a9,hm,bd⟩;cases k' with
   |zero=>exact bp rfl hk
   |succ k'=>simp at h
   rintro⟨i,j,bs,y,P,q,_,_,hq,_⟩;exact hp j P q hq
 have bg:H<=1099511627776:=by
  have:=(af _ _ _ al).2;omega
 have bk:=hh p (.slice A H L) (eK Q) (eK az) z rfl a0 ⟨A,H,L,rfl,a4,bg⟩ (akg hK (fj.u0 hH)) hN al (λex s O1 V a D k' bl RR hk hr=>by
  refine⟨bl,rfl, ?_⟩;obtain⟨g1,g2⟩:=as1 (cf:=n7 Tryz.prog TT SG [] inl loops srts E chs) RR hk hr;exact⟨g1,⟨by have:=g2.le;rwa [xN] at this,g2.nil,by have:=g2.mem;rwa [ake,xN] at this⟩⟩)
 exact asZ ok hf d h0 rfl ht bk (λO hx=>by simp[n7] at hx) bc (λex a D h=>h)
def as9{V:Nat}{H:bB}{F:aZ->aq->As}{R:kJ}{D:xW}{s:zX}
  (r:Tryz.prog.funcs[G]?=U v)(q:v.body=U y)(p:v.results.toList=[])(m:tP Tryz.prog G=J)(l:s9 D)(k:bm (look TT) (.sl x)=R.map Bs)(j:FX Tryz.prog R X A)
  (i:eY (n7 Tryz.prog TT SG [] [] B D E s) V G y ⟨c++ew (v.ntmps-Y c) (.bA []),[],n,0,[.own x],0,0,[]⟩ gM SU=u)(h:SX R x X A F n u)
  (d:∀(P:aZ)(z:RV),Y P=n->C.ay ⟨P,[],[z],[]⟩ [] c=z.val::(P.map (Value.int I)++[.func (.func X) #[] #[]]))
  (b:∀(P:List K)(L:bB)(O:ai)(M az:aq),H.fill P=U L->jL O L w M=U az->F (P.map (K.ab O)) M=U az)(a:∀(P:aZ)(M az:aq),F P M=U az->F P (eK M)=U (eK az))
  (af:∀(P:aZ)(M az:aq),F P M=U az->Y P=n/\Y M<=1099511627776):oH Tryz.prog (look TT) G X x H w:=
 ⟨tQ m,λW Q n' al M az O P L ag hH hR hT=>Z4 (inl:=[]) r q p rfl l k j i h d a af hH hR (b P L O M az ag hT)⟩
def FY(W:X≠2)(h:mb X A z Q=U F):Y z=3:=by
 unfold mb at h;split at h
 all_goals first|rfl|(exact bp rfl W)|cases h
def akj(h:mb 2 A z Q=U F):Y z=2:=by
 unfold mb at h;split at h
 all_goals first|rfl|cases h|(rename_i X;cases X)
def Ds{k N n:Nat}{K:kJ}{t:T}{args:am}{loops:List (Nat×Nat×eV)}{srts:xW}{chs:zX}
  (P:Tryz.prog.funcs[G]?=U v)(M:v.body=U y)(L:v.results.toList=[])(H:tP Tryz.prog G=J)(D:s9 srts)(B:bm (look TT) (.sl x)=K.map Bs)(z:FX Tryz.prog K X A)
  (w:eY (n7 Tryz.prog TT SG [] [] loops srts E chs) n G y ⟨args++ew (v.ntmps-Y args) (.bA []),[],N,0,[.own x],0,0,[]⟩ gM SU=t)(u:Nj K x X A k N t)
  (s:∀(W:aZ)(R:RV),Y W=N->C.ay ⟨W,[],[R],[]⟩ [] args=R.val::(W.map (Value.int I)++[.func (.func X) #[] #[]]))
  (r:∀(W:aZ)(V az:aq),mb k A W V=U az->Y W=N):oH Tryz.prog (look TT) G X x (.da k A []) false:=
 as9 (F:=nW k A) P M L H D B z w u s (λW p O V az Q q=>by
  simp only[bB.fill,cg] at Q;subst Q;exact q) (λW V az h=>as8 h) (λW V az h=>⟨r W V az (yH h).2,(yH h).1⟩)
abbrev dI(a b:K):K:=.bin .add I a b
abbrev dU(a b:K):K:=.bin .sub I a b
abbrev gJ(a b:K):BE:=.cmp .lss a b
abbrev eU(a:K):C:=.int I a
abbrev fw(x:K)(k:Nat)(t:T):T:=.aN (.and (.cmp .leq (.c 0) x) (.cmp .lss x (.len (.v k)))) t
section
variable(e g i h j f N:Nat)(o:bB)(d:RE->K->am)
def SY:T:=(.loop 0 [.ah (.own e),.int I] [(.ah (.v 0)),(eU (.c 0))]
 (.aS (gJ (.v 3) (.v 2))
 (fw (dI (.v 1) (.v 3)) 1
 (fw (dI (.v 1) (.v 3)) 1
 (fw (dI (.v 0) (.v 3)) 1
 (fw (dI (.v 0) (.v 3)) 1
 (fw (dI (.v 0) (.v 3)) 1
 (fw (dI (.v 0) (.v 3)) 1
 (.new e (.set (.ah (.v 1)) (dI (.v 0) (.v 3)) 0 (d (.v 1) (dI (.v 1) (.v 3)))) [.ao,(.own e)] [.ao,.ao,(.own e)]
 (fw (dI (.v 1) (.v 3)) 2
 (fw (dI (.v 1) (.v 3)) 2
 (.new e (.set (.ah (.v 2)) (dI (.v 1) (.v 3)) 0 (d (.v 1) (dI (.v 0) (.v 3)))) [.ao,.ao,(.own e)] [.ao,.ao,.ao,(.own e)]
 (.back 0 [(.ah (.v 3)),(eU (dI (.v 3) (.c 1)))])))))))))))
 (.out .normal ⟨[],[],4,0,[.ao,(.own e)],0,0,[]⟩)))
def SZ:T:=(.loop 0 [.ah (.own e),.int I,.int I] [(.ah (.v 0)),(eU (dU (.v 1) (.v 0))),(eU (dU (.v 2) (.v 1)))]
 (.aS (.cmp .neq (.v 3) (.v 4))
 (.aS (.cmp .gtr (.v 3) (.v 4))
  (.dK i g e (.da 0 o [(dU (.v 1) (.v 3)),(.v 1),(.v 4)]) E (.v 1) [.ao,(.own e)]
  (.back 0 [(.ah (.v 2)),(eU (dU (.v 3) (.v 4))),(eU (.v 4))]))
  (.dK i g e (.da 0 o [(dU (.v 1) (.v 3)),(dU (dI (.v 1) (.v 4)) (.v 3)),(.v 3)]) E (.v 1) [.ao,(.own e)]
  (.back 0 [(.ah (.v 2)),(eU (.v 3)),(eU (dU (.v 4) (.v 3)))])))
 (.dK i g e (.da 0 o [(dU (.v 1) (.v 3)),(.v 1),(.v 3)]) E (.v 1) [.ao,(.own e)]
 (.out .normal ⟨[],[],5,0,[.ao,.ao,(.own e)],0,0,[]⟩))))
def S2:T:=(.loop 0 [.ah (.own e),.int I] [(.ah (.v 0)),(eU (dI (.v 0) (.c 1)))]
 (.aS (gJ (.v 2) (.v 1))
 (.loop 1 [.ah (.own e),.int I] [(.ah (.v 1)),(eU (.v 2))]
  (.aS (.cmp .gtr (.v 3) (.v 0))
  (fw (.v 3) 2
  (fw (.v 3) 2
  (fw (dU (.v 3) (.c 1)) 2
  (fw (dU (.v 3) (.c 1)) 2
  (.call g [(.agg (d (.v 2) (.v 3))),(.agg (d (.v 2) (dU (.v 3) (.c 1))))] [] [.ao,.ao,.ao] [.int I] (eU (.v 4))
  (.aS (gJ (.v 4) (.c 0))
   (fw (dU (.v 3) (.c 1)) 2
   (fw (dU (.v 3) (.c 1)) 2
   (fw (.v 3) 2
   (fw (.v 3) 2
   (fw (.v 3) 2
   (fw (.v 3) 2
   (.new e (.set (.ah (.v 2)) (.v 3) 0 (d (.v 2) (dU (.v 3) (.c 1)))) [.ao,.ao,(.own e)] [.ao,.ao,.ao,(.own e)]
   (fw (dU (.v 3) (.c 1)) 3
   (fw (dU (.v 3) (.c 1)) 3
   (.new e (.set (.ah (.v 3)) (dU (.v 3) (.c 1)) 0 (d (.v 2) (.v 3))) [.ao,.ao,.ao,(.own e)] [.ao,.ao,.ao,.ao,(.own e)]
   (.back 1 [(.ah (.v 4)),(eU (dU (.v 3) (.c 1)))])))))))))))
   (.back 0 [(.ah (.v 2)),(eU (dI (.v 2) (.c 1)))])))))))
  (.back 0 [(.ah (.v 2)),(eU (dI (.v 2) (.c 1)))])))
 (.out .normal ⟨[],[],3,0,[.ao,(.own e)],0,0,[]⟩)))
abbrev oZ:K:=(.conv I (.bin .shr .u64 (.conv .u64 (dI (.v 3) (.v 4))) (.c 1)))
abbrev dP:K:=(.conv I (.bin .shr .u64 (.conv .u64 (dI (.v 0) (.v 2))) (.c 1)))
def Nk:T:=(.aS (gJ (.v 3) (.v 1))
   (.aS (gJ (.v 1) (dU (dI dP (.v 1)) (.v 3)))
    (.dK h g e (.da 1 o [(.v 3),(.v 1),(dU (dI dP (.v 1)) (.v 3))]) E (.v 1) [.ao,(.own e)]
    (.aS (gJ (.v 0) (.v 3))
    (.aS (gJ (.v 3) dP)
     (.dK f g e (.da (N+3) o [(.v 0),(.v 3),dP]) E (.v 2) [.ao,.ao,(.own e)]
     (.aS (gJ dP (dU (dI dP (.v 1)) (.v 3)))
     (.aS (gJ (dU (dI dP (.v 1)) (.v 3)) (.v 2))
      (.dK f g e (.da (N+3) o [dP,(dU (dI dP (.v 1)) (.v 3)),(.v 2)]) E (.v 3) [.ao,.ao,.ao,(.own e)]
      (.out .normal ⟨[],[],5,0,[.ao,.ao,.ao,.ao,(.own e)],0,0,[]⟩))
      (.out .normal ⟨[],[],5,0,[.ao,.ao,.ao,(.own e)],0,0,[]⟩))
     (.out .normal ⟨[],[],5,0,[.ao,.ao,.ao,(.own e)],0,0,[]⟩)))
     (.aS (gJ dP (dU (dI dP (.v 1)) (.v 3)))
     (.aS (gJ (dU (dI dP (.v 1)) (.v 3)) (.v 2))
      (.dK f g e (.da (N+3) o [dP,(dU (dI dP (.v 1)) (.v 3)),(.v 2)]) E (.v 2) [.ao,.ao,(.own e)]
      (.out .normal ⟨[],[],5,0,[.ao,.ao,.ao,(.own e)],0,0,[]⟩))
      (.out .normal ⟨[],[],5,0,[.ao,.ao,(.own e)],0,0,[]⟩))
     (.out .normal ⟨[],[],5,0,[.ao,.ao,(.own e)],0,0,[]⟩)))
    (.aS (gJ dP (dU (dI dP (.v 1)) (.v 3)))
     (.aS (gJ (dU (dI dP (.v 1)) (.v 3)) (.v 2))
     (.dK f g e (.da (N+3) o [dP,(dU (dI dP (.v 1)) (.v 3)),(.v 2)]) E (.v 2) [.ao,.ao,(.own e)]
     (.out .normal ⟨[],[],5,0,[.ao,.ao,.ao,(.own e)],0,0,[]⟩))
     (.out .normal ⟨[],[],5,0,[.ao,.ao,(.own e)],0,0,[]⟩))
     (.out .normal ⟨[],[],5,0,[.ao,.ao,(.own e)],0,0,[]⟩))))
    (.aS (gJ (.v 0) (.v 3))
    (.aS (gJ (.v 3) dP)
     (.dK f g e (.da (N+3) o [(.v 0),(.v 3),dP]) E (.v 1) [.ao,(.own e)]
     (.aS (gJ dP (dU (dI dP (.v 1)) (.v 3)))
     (.aS (gJ (dU (dI dP (.v 1)) (.v 3)) (.v 2))
      (.dK f g e (.da (N+3) o [dP,(dU (dI dP (.v 1)) (.v 3)),(.v 2)]) E (.v 2) [.ao,.ao,(.own e)]
      (.out .normal ⟨[],[],5,0,[.ao,.ao,.ao,(.own e)],0,0,[]⟩))
      (.out .normal ⟨[],[],5,0,[.ao,.ao,(.own e)],0,0,[]⟩))
     (.out .normal ⟨[],[],5,0,[.ao,.ao,(.own e)],0,0,[]⟩)))
     (.aS (gJ dP (dU (dI dP (.v 1)) (.v 3)))
     (.aS (gJ (dU (dI dP (.v 1)) (.v 3)) (.v 2))
      (.dK f g e (.da (N+3) o [dP,(dU (dI dP (.v 1)) (.v 3)),(.v 2)]) E (.v 1) [.ao,(.own e)]
      (.out .normal ⟨[],[],5,0,[.ao,.ao,(.own e)],0,0,[]⟩))
      (.out .normal ⟨[],[],5,0,[.ao,(.own e)],0,0,[]⟩))
     (.out .normal ⟨[],[],5,0,[.ao,(.own e)],0,0,[]⟩)))
    (.aS (gJ dP (dU (dI dP (.v 1)) (.v 3)))
     (.aS (gJ (dU (dI dP (.v 1)) (.v 3)) (.v 2))
     (.dK f g e (.da (N+3) o [dP,(dU (dI dP (.v 1)) (.v 3)),(.v 2)]) E (.v 1) [.ao,(.own e)]
     (.out .normal ⟨[],[],5,0,[.ao,.ao,(.own e)],0,0,[]⟩))
     (.out .normal ⟨[],[],5,0,[.ao,(.own e)],0,0,[]⟩))
     (.out .normal ⟨[],[],5,0,[.ao,(.own e)],0,0,[]⟩))))
   (.aS (gJ (.v 0) (.v 3))
    (.aS (gJ (.v 3) dP)
    (.dK f g e (.da (N+3) o [(.v 0),(.v 3),dP]) E (.v 1) [.ao,(.own e)]
    (.aS (gJ dP (dU (dI dP (.v 1)) (.v 3)))
     (.aS (gJ (dU (dI dP (.v 1)) (.v 3)) (.v 2))
     (.dK f g e (.da (N+3) o [dP,(dU (dI dP (.v 1)) (.v 3)),(.v 2)]) E (.v 2) [.ao,.ao,(.own e)]
     (.out .normal ⟨[],[],5,0,[.ao,.ao,.ao,(.own e)],0,0,[]⟩))
     (.out .normal ⟨[],[],5,0,[.ao,.ao,(.own e)],0,0,[]⟩))
     (.out .normal ⟨[],[],5,0,[.ao,.ao,(.own e)],0,0,[]⟩)))
    (.aS (gJ dP (dU (dI dP (.v 1)) (.v 3)))
     (.aS (gJ (dU (dI dP (.v 1)) (.v 3)) (.v 2))
     (.dK f g e (.da (N+3) o [dP,(dU (dI dP (.v 1)) (.v 3)),(.v 2)]) E (.v 1) [.ao,(.own e)]
     (.out .normal ⟨[],[],5,0,[.ao,.ao,(.own e)],0,0,[]⟩))
     (.out .normal ⟨[],[],5,0,[.ao,(.own e)],0,0,[]⟩))
     (.out .normal ⟨[],[],5,0,[.ao,(.own e)],0,0,[]⟩)))
    (.aS (gJ dP (dU (dI dP (.v 1)) (.v 3)))
    (.aS (gJ (dU (dI dP (.v 1)) (.v 3)) (.v 2))
     (.dK f g e (.da (N+3) o [dP,(dU (dI dP (.v 1)) (.v 3)),(.v 2)]) E (.v 1) [.ao,(.own e)]
     (.out .normal ⟨[],[],5,0,[.ao,.ao,(.own e)],0,0,[]⟩))
     (.out .normal ⟨[],[],5,0,[.ao,(.own e)],0,0,[]⟩))
    (.out .normal ⟨[],[],5,0,[.ao,(.own e)],0,0,[]⟩))))
def Z5:T:=(.loop 0 [.ah (.own e),.int I,.int I] [(.ah (.v 0)),(eU (.v 1)),(eU (.v 2))]
 (.aS (gJ (.v 3) (.v 4))
  (fw oZ 1
  (fw oZ 1
  (fw (.v 0) 1
  (fw (.v 0) 1
  (.call g [(.agg (d (.v 1) oZ)),(.agg (d (.v 1) (.v 0)))] [] [.ao,.ao] [.int I] (eU (.v 5))
  (.aN (.c J)
  (.aS (gJ (.v 5) (.c 0))
  (.back 0 [(.ah (.v 1)),(eU (dI oZ (.c 1))),(eU (.v 4))])
  (.back 0 [(.ah (.v 1)),(eU (.v 3)),(eU oZ)]))))))))
  (.loop 1 [.ah (.own e),.int I] [(.ah (.v 1)),(eU (.v 0))]
  (.aS (gJ (.v 5) (dU (.v 3) (.c 1)))
   (fw (dI (.v 5) (.c 1)) 2
   (fw (dI (.v 5) (.c 1)) 2
   (fw (.v 5) 2
   (fw (.v 5) 2
   (fw (.v 5) 2
   (fw (.v 5) 2
   (.new e (.set (.ah (.v 2)) (.v 5) 0 (d (.v 2) (dI (.v 5) (.c 1)))) [.ao,.ao,(.own e)] [.ao,.ao,.ao,(.own e)]
   (fw (dI (.v 5) (.c 1)) 3
   (fw (dI (.v 5) (.c 1)) 3
   (.new e (.set (.ah (.v 3)) (dI (.v 5) (.c 1)) 0 (d (.v 2) (.v 5))) [.ao,.ao,.ao,(.own e)] [.ao,.ao,.ao,.ao,(.own e)]
   (.back 1 [(.ah (.v 4)),(eU (dI (.v 5) (.c 1)))])))))))))))
   (.out .ret ⟨[],[],6,0,[.ao,.ao,(.own e)],0,0,[]⟩)))))
def Z6:T:=(.loop 0 [.ah (.own e),.int I,.int I] [(.ah (.v 0)),(eU (.v 0)),(eU (.v 1))]
  (.aS (gJ (.v 3) (.v 4))
  (fw (.v 1) 1
  (fw (.v 1) 1
  (fw oZ 1
  (fw oZ 1
  (.call g [(.agg (d (.v 1) (.v 1))),(.agg (d (.v 1) oZ))] [] [.ao,.ao] [.int I] (eU (.v 5))
  (.aN (.c J)
  (.aN (.c J)
  (.aS (.not (gJ (.v 5) (.c 0)))
   (.back 0 [(.ah (.v 1)),(eU (dI oZ (.c 1))),(eU (.v 4))])
   (.back 0 [(.ah (.v 1)),(eU (.v 3)),(eU oZ)])))))))))
  (.loop 1 [.ah (.own e),.int I] [(.ah (.v 1)),(eU (.v 1))]
   (.aS (.cmp .gtr (.v 5) (.v 3))
   (fw (dU (.v 5) (.c 1)) 2
   (fw (dU (.v 5) (.c 1)) 2
   (fw (.v 5) 2
   (fw (.v 5) 2
   (fw (.v 5) 2
   (fw (.v 5) 2
   (.new e (.set (.ah (.v 2)) (.v 5) 0 (d (.v 2) (dU (.v 5) (.c 1)))) [.ao,.ao,(.own e)] [.ao,.ao,.ao,(.own e)]
   (fw (dU (.v 5) (.c 1)) 3
   (fw (dU (.v 5) (.c 1)) 3
   (.new e (.set (.ah (.v 3)) (dU (.v 5) (.c 1)) 0 (d (.v 2) (.v 5))) [.ao,.ao,.ao,(.own e)] [.ao,.ao,.ao,.ao,(.own e)]
   (.back 1 [(.ah (.v 4)),(eU (dU (.v 5) (.c 1)))])))))))))))
   (.out .ret ⟨[],[],6,0,[.ao,.ao,(.own e)],0,0,[]⟩)))))
def S3:T:=(fw (dU (dU (dI dP (.v 1)) (.c 1)) oZ) 1
   (fw (dU (dU (dI dP (.v 1)) (.c 1)) oZ) 1
   (fw oZ 1
   (fw oZ 1
   (.call g [(.agg (d (.v 1) (dU (dU (dI dP (.v 1)) (.c 1)) oZ))),(.agg (d (.v 1) oZ))] [] [.ao,.ao] [.int I] (eU (.v 5))
   (.aN (.c J)
   (.aN (.c J)
   (.aS (.not (gJ (.v 5) (.c 0)))
   (.back 0 [(.ah (.v 1)),(eU (dI oZ (.c 1))),(eU (.v 4))])
   (.back 0 [(.ah (.v 1)),(eU (.v 3)),(eU oZ)])))))))))
def ata:T:=(.loop 0 [.ah (.own e),.int I,.int I] [(.ah (.v 0)),(eU (dU (dI dP (.v 1)) (.v 2))),(eU dP)]
 (.aS (gJ (.v 3) (.v 4)) (S3 g d) (Nk e g h f N o)))
def atb:T:=(.loop 0 [.ah (.own e),.int I,.int I] [(.ah (.v 0)),(eU (.v 0)),(eU (.v 1))]
 (.aS (gJ (.v 3) (.v 4)) (S3 g d) (Nk e g h f N o)))
def S4:T:=(.aS (.cmp .eql (dU (.v 1) (.v 0)) (.c 1)) (Z5 e g d) (.aS (.cmp .eql (dU (.v 2) (.v 1)) (.c 1)) (Z6 e g d) (.aS (.cmp .gtr (.v 1) dP) (ata e g h f N o d) (atb e g h f N o d))))
def S5:T:=(.loop 0 [.ah (.own e),.int I,.int I] [(.ah (.v 0)),(eU (.c 20)),(eU (.c 0))]
 (.aS (.cmp .leq (.v 0) (.len (.v 0)))
 (.dK j g e (.da 2 o [(.v 1),(.v 0)]) E (.v 1) [.ao,(.own e)]
 (.back 0 [(.ah (.v 2)),(eU (dI (.v 0) (.c 20))),(eU (.v 0))]))
 (.dK j g e (.da 2 o [(.v 1),(.len (.v 0))]) E (.v 1) [.ao,(.own e)]
 (.loop 1 [.ah (.own e),.int I] [(.ah (.v 2)),(eU (.c 20))]
  (.aS (gJ (.v 2) (.len (.v 0)))
  (.loop 2 [.ah (.own e),.int I,.int I] [(.ah (.v 3)),(eU (.bin .mul I (.c 2) (.v 2))),(eU (.c 0))]
   (.aS (.cmp .leq (.v 3) (.len (.v 0)))
   (.dK f g e (.da (N+3) o [(.v 4),(dI (.v 4) (.v 2)),(.v 3)]) E (.v 4) [.ao,.ao,.ao,.ao,(.own e)]
   (.back 2 [(.ah (.v 5)),(eU (dI (.v 3) (.bin .mul I (.c 2) (.v 2)))),(eU (.v 3))]))
   (.aS (gJ (dI (.v 4) (.v 2)) (.len (.v 0)))
    (.dK f g e (.da (N+3) o [(.v 4),(dI (.v 4) (.v 2)),(.len (.v 0))]) E (.v 4) [.ao,.ao,.ao,.ao,(.own e)]
    (.back 1 [(.ah (.v 5)),(eU (.bin .mul I (.v 2) (.c 2)))]))
    (.back 1 [(.ah (.v 4)),(eU (.bin .mul I (.v 2) (.c 2)))]))))
  (.out .normal ⟨[],[],3,0,[.ao,.ao,.ao,(.own e)],0,0,[]⟩))))))
end
structure HP where
 K:kJ
 g:Nat
 o:bB
 e:TypeId
 v:Value
 az:aq
def Z7(O:ai)(l:am)(x:aC):Prop:=∀y V,C.ay (O.at y) V l=x.map RV.val
def FZ(c:Option LC)(X:aX):Prop:=match c with
 |U c=>c.I X/\c.μ X<c.m
 |none=>False
def atc(h:HP)(f:FuncId)(V:am)(R:aI)(iE:C)(O:ai)(k:Int->Prop):Prop:=f=h.g/\R=[.int I]/\iE=.int I (.v (Y O.i))/\∃X W x y,V=[.agg X,.agg W]/\Z7 O X x/\Z7 O W y/\iN h.K x/\iN h.K y/\h.o.ok x=J/\h.o.ok y=J/\∀c:Int,(c<0<->h.o.lt x y=J)->k c
def T.hw(h:HP):T->ai->cX->Prop
 |.out V s,O,_=>(V=.normal\/V=.ret)/\∃k,s.rs[k]?=U (.own h.e)/\O.rv k=.mk h.v h.az
 |.aS b t f,O,L=>if b.ab O=J then t.hw h O L else f.hw h O L
 |.aN b t,O,L=>b.ab O=J/\t.hw h O L
 |.call f P _ _ N iE t,O,L=>atc h f P N iE O λc=>t.hw h (O.add (.i c)) L
 |.loop av _ M t,O,L=>∃X R,X (M.map (C.xv O))/\∀W,X W->t.hw h (O.ext W) (⟨av,X,R,R W⟩::L)
 |.back av x,O,L=>FZ (mY av L) (x.map (C.xv O))
 |.new _ (.set (.ah (.v k)) i H G) _ _ t,O,L=>t.hw h (O.add (.r (.mk (O.rv k).val (LE.ae O (.set (.ah (.v k)) i H G))))) L
 |.dK _ _ _ F D r _ t,O,L=>∃Q,jL O F D (r.rv O).ae=U Q/\t.hw h (O.add (.r (.mk (r.rv O).val Q))) L
 |_,_,_=>False
def vR(h:HP){p:Sp}(F:FX p.P h.K h.g h.o)(D:Tgt p h.e h.v h.az):∀(t:T)(O:ai)(L:cX),t.hw h O L->t.aG p O L
 |.out ex s,O,L,Q=>by
  obtain⟨B,k,z,u⟩:=Q;intro y V a W R;refine D _ s (O.at y) V a W k ?_ R z u;rcases B with rfl|rfl;exact .inl rfl;exact .inr rfl
 |.aS b t f,O,L,Q=>by
  simp only[T.hw] at Q;refine⟨λq=>vR h F D t O L ?_,λq=>vR h F D f O L ?_⟩
  rwa [aE q] at Q
  rwa [aJ (by simp[q])] at Q
 |.aN b t,O,L,Q=>⟨Q.1,vR h F D t O L Q.2⟩
 |.call f al bx N d iE t,O,L,Q=>by
  obtain⟨rfl,rfl,rfl,l1,l2,x,y,rfl,B,z,u,h4,h5,h6,h7⟩:=Q;intro m V W R;have e:(C.ay (O.at m) V [.agg l1,.agg l2]).toArray= #[.agg (x.map RV.val).toArray,.agg (y.map RV.val).toArray]:=by
   simp only[C.ay,C.ab,B m V,z m V]
  rw[e];refine(F W x y u h4 h5 h6).mono ?_;rintro en W' ⟨hB,c,rfl,af⟩;refine⟨[.i c],⟨trivial,trivial⟩, ?_,hB,⟨trivial,trivial⟩, ?_⟩;simp[C.ab,K.ab,ai.ext,ai.add,ai.at];exact vR h F D t (O.add (.i c)) L (h7 c af)
 |.loop av d x0 t,O,L,Q=>by
  obtain⟨X,μ,B,z⟩:=Q;exact⟨X,μ,B,λxs _ hx=>vR h F D t _ _ (z xs hx)⟩
 |.back av x,O,L,Q=>by
  simp only[T.hw,FZ] at Q;simp only[T.aG];cases j:mY av L with
  |none=>rw[j] at Q;exact Q
  |some c=>rw[j] at Q;exact Q
 |.new e (.set (.ah (.v k)) i G H) N M t,O,L,Q=>by
  intro rv hn;obtain⟨⟨A,n,c,rfl,hl⟩,_,w⟩:=hn;have w:=w k i G H rfl;refine vR h F D t _ L ?_;simp only[RV.l9] at w;rw[w];exact Q
 |.new e (.ah r) N M t,O,L,Q=>by simp[T.hw] at Q
 |.new e (.lit l) N M t,O,L,Q=>by simp[T.hw] at Q
 |.new e (.jW a b) N M t,O,L,Q=>by simp[T.hw] at Q
 |.new e (.tq n an) N M t,O,L,Q=>by simp[T.hw] at Q
 |.new e (.sub a lo hi) N M t,O,L,Q=>by simp[T.hw] at Q
 |.new e (.ins a n H) N M t,O,L,Q=>by simp[T.hw] at Q
 |.new e (.set (.ah (.k _)) i G H) N M t,O,L,Q=>by simp[T.hw] at Q
 |.new e (.set (.lit _) i G H) N M t,O,L,Q=>by simp[T.hw] at Q
 |.new e (.set (.jW _ _) i G H) N M t,O,L,Q=>by simp[T.hw] at Q
 |.new e (.set (.tq _ _) i G H) N M t,O,L,Q=>by simp[T.hw] at Q
 |.new e (.set (.set _ _ _ _) i G H) N M t,O,L,Q=>by simp[T.hw] at Q
 |.new e (.set (.sub _ _ _) i G H) N M t,O,L,Q=>by simp[T.hw] at Q
 |.new e (.set (.ins _ _ _) i G H) N M t,O,L,Q=>by simp[T.hw] at Q
 |.new e (.set (.ah (.cell _ _ _ _)) i G H) N M t,O,L,Q=>by simp[T.hw] at Q
 |.dK f g e sp st r N t,O,L,Q=>by
  obtain⟨ag,B,z⟩:=Q;exact⟨ag,B,vR h F D t _ L z⟩
 |.ret ..,_,_,Q=>by simp[T.hw] at Q
 |.aW ..,_,_,Q=>by simp[T.hw] at Q
 |.ae ..,_,_,Q=>by simp[T.hw] at Q
 |.fU ..,_,_,Q=>by simp[T.hw] at Q
 |.pick ..,_,_,Q=>by simp[T.hw] at Q
 |.stuck _,_,_,Q=>by simp[T.hw] at Q
section
variable{h:HP}{O:ai}{L:cX}
def F0{X:ai}(e:O=X):T.hw h u O L=T.hw h u X L:=by rw[e]
def uz(b:BE)(t f:T):T.hw h (.aS b t f) O L=(if b.ab O=J then t.hw h O L else f.hw h O L):=rfl
def F1(b:BE)(t:T):T.hw h (.aN b t) O L=(b.ab O=J/\t.hw h O L):=rfl
def F2(av:Nat)(x:am):T.hw h (.back av x) O L=FZ (mY av L) (x.map (C.xv O)):=rfl
def F3(e:TypeId)(k:Nat)(i:K)(X:Nat)(W:am)(V R:aY)(t:T):T.hw h (.new e (.set (.ah (.v k)) i X W) V R t) O L=t.hw h (O.add (.r (.mk (O.rv k).val (LE.ae O (.set (.ah (.v k)) i X W))))) L:=rfl
def zP(f g:FuncId)(e:TypeId)(X:bB)(W:Bool)(r:RE)(R:aY)(t:T):T.hw h (.dK f g e X W r R t) O L=(∃V,jL O X W (r.rv O).ae=U V/\t.hw h (O.add (.r (.mk (r.rv O).val V))) L):=rfl
def zQ(X:XE)(s:S):T.hw h (.out X s) O L=((X=.normal\/X=.ret)/\∃k,s.rs[k]?=U (.own h.e)/\O.rv k=.mk h.v h.az):=rfl
def vS{Q:aI}(W:aX->Prop)(V:aX->Nat)(P:W (c.map (C.xv O)))(N:∀R,W R->u.hw h (O.ext R) (⟨X,W,V,V R⟩::L)):T.hw h (.loop X Q c u) O L:=⟨W,V,P,N⟩
end
section
attribute[local simp] K.ab BE.ab RE.rv RE.ab gm ai.rv ai.ext ai.add C.xv uz F1 F2 F3 zP zQ LE.ae mY
attribute[local congr] F0
structure Bt(d:kJ)(f:RE->K->am):Prop where
 bN:∀(O:ai)(r:RE)(i:K)(x:aC),(r.rv O).ae[(i.ab O).toNat]?=U x->iN d x->(f r i).map (C.bN O)=x
 ab:∀(O:ai)(r:RE)(i:K)(x:aC),(r.rv O).ae[(i.ab O).toNat]?=U x->iN d x->Z7 O (f r i) x
def Z8:∀{d:kJ}{x:aC},iN d x->Y x=Y d
 |[],_,h=>by cases h;rfl
 |_::_,[],h=>h.elim
 |_::_,_::_,h=>by simp[Z8 h.2]
def akk:∀(x W X:aC),Y W=Y x->gE (X++W) (Y X) x=X++x
 |[],W,X,h=>by
  have:W=[]:=qG h;subst this;rfl
 |v::r,[],X,h=>by simp at h
 |v::r,c::W,X,h=>by
  have V:=akk r W (X++[v]) (by simpa using h);simp only[fQ,pO,NP,BD,gA,gU] at V;simp only[gE];rw[Tl _ _ (bU _),Tv,axq];exact V
def Dt{d:kJ}{x:aC}(P:∀y∈Q,iN d y)(O:iN d x):(Q.modify X λW=>gE W 0 x)=Q.set X x:=by
 apply jV;intro k;rw[alo,td];by_cases R:X=k;subst R;simp only[cH];cases V:Q[X]? with
 |none=>
  have:=zT.1 V;rw[aJ aa];rfl
 |some W=>
  obtain⟨N,_⟩:=bJ.1 V;rw[aE N];have:=akk x W [] (by rw[Z8 (P W (iU V)),Z8 O]);simpa using this
 simp[R]
def Nl{n:Int}(X:-9223372036854775808<=n)(W:n<9223372036854775808):IntKind.i64.wrap n=n:=by
 rw[IntKind.wrap_i64];omega
def xO{a b:Nat}(h:a+b<=4398046511104):bH .add I (a:Int) (b:Int)=((a+b:Nat):Int):=by
 simp only[bH];rw[Nl aa aa];omega
def vT{a b:Nat}(h:b<=a)(X:a<=4398046511104):bH .sub I (a:Int) (b:Int)=((a-b:Nat):Int):=by
 simp only[bH];rw[Nl aa aa];omega
def Bu{a:Nat}(h:a<=4398046511103):bH .add I (a:Int) 1=((a+1:Nat):Int):=xO (b:=1) aa
def S7{a:Nat}(h:1<=a)(X:a<=4398046511104):bH .sub I (a:Int) 1=((a-1:Nat):Int):=vT (b:=1) h X
def atd(W:aq)(M:X+n<=x)(V:x+n<=Y W)(k:Nat):
  (W.take X++(aR W x (x+n)++(aR W (X+n) x++(aR W X (X+n)++W.drop (x+n)))))[k]?=if X<=k/\k<X+n then W[k-X+x]? else if x<=k/\k<x+n then W[k-x+X]? else W[k]?:=by
 have R:(W.take X).length=X:=dG;have Q:(aR W x (x+n)).length=n:=by rw[pz W V];omega
 have P:(aR W (X+n) x).length=x-(X+n):=pz W aa;have O:(aR W X (X+n)).length=n:=by rw[pz W aa];omega
 by_cases N:k<X;rw[dF aa,aJ aa,aJ aa,lT,aE N];rw[gK aa,R];by_cases L:k<X+n;rw[dF aa,aE aa,LB W aa];congr 1;omega;rw[gK aa,Q,aJ aa];by_cases H:k<x;rw[dF aa,aJ aa,LB W aa];congr 1;omega;rw[gK aa,P];by_cases G:k<x+n;rw[dF aa,aE aa,LB W aa];congr 1;omega;rw[gK aa,O,aJ aa,rJ];congr 1;omega
def zR(h:Y z=3):∃a b c,z=[a,b,c]:=by
 match z,h with
 |[a,b,c],_=>exact⟨a,b,c,rfl⟩
def two(h:Y z=2):∃a b,z=[a,b]:=by
 match z,h with
 |[a,b],_=>exact⟨a,b,rfl⟩
def xP{a:Int}(h:0<=a):∃n:Nat,a=n:=⟨a.toNat,aa⟩
section
variable{d:kJ}{e g:Nat}{o:bB}{f:RE->K->am}
def akl(B:Bt d f):Nj d e g o 0 3 (SY e f):=by
 rintro p _ W az ns hP af ⟨A,n,R,rfl,ag,hn⟩ hT hN V al;obtain⟨a,b,m,rfl⟩:=zR hN;obtain⟨_,V⟩:=yH V;simp only[mb] at V;split at V;rename_i O;simp only[aw,bZ] at O;obtain⟨a,rfl⟩:=xP O.1.1.1;obtain⟨m,rfl⟩:=xP O.1.1.2;obtain⟨b,rfl⟩:=xP (a:=b) aa;have h1:a+m<=b:=aa;have h2:b+m<=Y W:=aa;simp only[cg] at V;have e1:((a:Int)).toNat=a:=rfl;have e2:((b:Int)).toNat=b:=rfl;have e3:((b:Int)+(m:Int)).toNat=b+m:=aa;have e4:((a:Int)+(m:Int)).toNat=a+m:=aa;rw[e1,e2,e3,e4] at V;have w:=atd W h1 h2;rw[V] at w;clear V;refine vR ⟨d,g,o,e,.slice A n R,az⟩ (hP▸af) al _ _ _ ?_;unfold SY;refine vS (λN=>∃(i:Nat)(X:aq),N=[.r (.mk (.slice A n R) X),.i i]/\i<=m/\Y X=n/\(∀x∈X,iN d x)/\∀k:Nat,X[k]?=if a<=k/\k<a+i then W[k-a+b]? else if b<=k/\k<b+i then W[k-b+a]? else W[k]?) (λN=>match N with|[_,.i j]=>m-j.toNat|_=>0) ⟨0,W,rfl,aa,ag,hT,λk=>by rw[aJ aa,aJ aa]⟩ ?_;rintro _ ⟨i,X,rfl,hi,hl,Q,P⟩;by_cases an:i<m;obtain⟨x,M⟩:∃x,X[a+i]?=U x:=bJ.2 ⟨aa,rfl⟩|>λh=>⟨_,h⟩
 obtain⟨y,L⟩:∃y,X[b+i]?=U y:=bJ.2 ⟨aa,rfl⟩|>λh=>⟨_,h⟩
 have H:=Q x (iU M);have G:=Q y (iU L);have u:=xO (a:=a) (b:=i) aa;have t:=xO (a:=b) (b:=i) aa;have c1:xV (C.bN ⟨[(a:Int),b,m,i],[],[.mk (.slice A n R) W,.mk (.slice A n R) X],[]⟩) (f (.v 1) (.bin .add I (.v 1) (.v 3)))=y:=B.bN _ _ _ y (by simp only[RE.rv,ai.rv,K.ab,JE,DA,RV.ma,t,DC];exact L) G;have c2:∀s,xV (C.bN ⟨[(a:Int),b,m,i],[],[.mk (.slice A n R) W,.mk (.slice A n R) X,s],[]⟩) (f (.v 1) (.bin .add I (.v 0) (.v 3)))=x:=λs=>B.bN _ _ _ x (by simp only[RE.rv,ai.rv,K.ab,JE,DA,RV.ma,u,DC];exact M) H
 have m1:(X.modify (a+i) λF=>gE F 0 y)=X.set (a+i) y:=Dt Q G;have q:∀z∈X.set (a+i) y,iN d z:=λz D=>by
  rcases Bw D with h|rfl;exact Q z h;exact G
 have m2:((X.set (a+i) y).modify (b+i) λF=>gE F 0 x)=(X.set (a+i) y).set (b+i) x:=Dt q H;have t1:((a:Int)+(i:Int)).toNat=a+i:=aa;have t2:((b:Int)+(i:Int)).toNat=b+i:=aa;simp[u,t,Bu (a:=i) aa,an,c1,c2,t1,t2,m1,m2,lenOf];refine⟨aa,aa,aa,⟨i+1,_,rfl,aa,by simp[hl],λz D=> ?_,λk=> ?_⟩,show m-((i:Int)+1).toNat<m-i from aa⟩;rcases Bw D with h|rfl;exact q z h;exact H;have a0:W[a+i]?=U x:=by
  have:=P (a+i);rw[aJ aa,aJ aa] at this;rw[<-this];exact M
 have a1:W[b+i]?=U y:=by
  have:=P (b+i);rw[aJ aa,aJ aa] at this;rw[<-this];exact L
 rw[td,td];by_cases l:b+i=k;subst l;rw[aE rfl,aE dG,aJ aa,aE aa,<-a0];congr 1;omega;rw[aJ l];by_cases c:a+i=k;subst c;rw[aE rfl,aE aa,aE aa,<-a1];congr 1;omega;rw[aJ c,P k];by_cases k3:a<=k/\k<a+i;rw[aE k3,aE aa];rw[aJ k3];by_cases k4:b<=k/\k<b+i;rw[aE k4,aJ aa,aE aa];rw[aJ k4,aJ aa,aJ aa];have a3:i=m:=aa;subst a3;have a4:X=az:=jV λk=>by rw[P k,w k]
 subst a4;simp;exact⟨1,rfl,rfl⟩;cases V
end
end
section
attribute[local simp] K.ab BE.ab RE.rv RE.ab gm ai.rv ai.ext ai.add C.xv uz F1 F2 F3 zP zQ LE.ae mY jL
attribute[local congr] F0
def Nn(P S Q:aq):aR (P++(S++Q)) (Y P) (Y P+Y S)=S:=by simp[aR]
def No{W P Q:aq}(h:W=P++(F++Q))(V:X=Y P)(R:x=X+Y F):aR W X x=F:=by
 subst h;subst V;subst R;exact Nn P F Q
def Z9{o:bB}{P X M Y Q:aq}{a b n:Int}(W:a=P.length)(V:b=P.length+X.length+M.length)(R:n=X.length)(y:Y.length=X.length)(O:(P++(X++(M++(Y++Q)))).length<=1099511627776):
  nW 0 o [a,b,n] (P++(X++(M++(Y++Q))))=U (P++(Y++(M++(X++Q)))):=by
 subst W;subst V;subst R;unfold nW;rw[aE O];simp only[mb];rw[aE (by simp only[aw,bZ,fQ];omega)];have N:((P.length:Int)).toNat=P.length:=rfl;have L:((P.length:Int)+X.length+M.length).toNat=P.length+X.length+M.length:=aa;have H:((P.length:Int)+X.length+M.length+X.length).toNat=P.length+X.length+M.length+X.length:=aa;have G:((P.length:Int)+X.length).toNat=P.length+X.length:=aa;rw[N,L,H,G];have F:(P++(X++(M++(Y++Q)))).take P.length=P:=au;have D:aR (P++(X++(M++(Y++Q)))) (P.length+X.length+M.length) (P.length+X.length+M.length+X.length)=Y:=No (P:=P++(X++M)) (Q:=Q) au dG aa;have B:aR (P++(X++(M++(Y++Q)))) (P.length+X.length) (P.length+X.length+M.length)=M:=No (P:=P++X) (Q:=Y++Q) au au rfl;have A:aR (P++(X++(M++(Y++Q)))) P.length (P.length+X.length)=X:=Nn P X _;have z:(P++(X++(M++(Y++Q)))).drop (P.length+X.length+M.length+X.length)=Q:=by
  have:P++(X++(M++(Y++Q)))=(P++(X++(M++Y)))++Q:=au;rw[this,Tu dG]
 rw[F,D,B,A,z]
def akm(W:aq)(V:X<=x)(R:x<=n):W.take X++(aR W X x++(aR W x n++W.drop n))=W:=by
 rw[<-BD (aR W X x),<-od W V R,H3 W aa]
def rH{c:Prop}[Decidable c]{A B:Prop}(X:c->A)(W:¬c->B):if c then A else B:=by
 by_cases h:c;rw[aE h];exact X h;rw[aJ h];exact W h
section
variable{d:kJ}{e g f:Nat}{o:bB}{k:RE->K->am}
def akn:Nj d e g o 1 3 (SZ e g f o):=by
 rintro p _ W az ns s q ⟨y,n,x,rfl,l,hn⟩ hT k L h;obtain⟨a,m,b,rfl⟩:=zR k;obtain⟨_,L⟩:=yH L;simp only[mb] at L;split at L;rename_i w;simp only[aw,bZ] at w;obtain⟨a,rfl⟩:=xP w.1.1.1;obtain⟨m,rfl⟩:=xP (a:=m) aa;obtain⟨b,rfl⟩:=xP (a:=b) aa;simp only[cg,DC] at L;have v:b<=W.length:=aa;refine vR ⟨d,g,o,e,.slice y n x,az⟩ (s▸q) h _ _ _ ?_;unfold SZ;refine vS (λF=>∃(P A B Q:aq),F=[.r (.mk (.slice y n x) (P++(A++(B++Q)))),.i A.length,.i B.length]/\1<=A.length/\1<=B.length/\P.length+A.length=m/\m+B.length<=b/\(P++(A++(B++Q))).length=n/\P++(B++(A++Q))=az) (λF=>match F with|[_,.i i,.i j]=>i.toNat+j.toNat|_=>0) ⟨W.take a,aR W a m,aR W m b,W.drop b, ?_, ?_⟩ ?_;have c:W.take a++(aR W a m++(aR W m b++W.drop b))=W:=by
  exact akm W aa aa
 have u:(aR W a m).length=m-a:=pz W aa;have t:(aR W m b).length=b-m:=pz W v;simp only[ep,xU,C.xv,RE.rv,ai.rv,DA,JE,K.ab,c,u,t];rw[vT (a:=m) (b:=a) aa aa,vT (a:=b) (b:=m) aa aa];have u:(aR W a m).length=m-a:=pz W aa;have t:(aR W m b).length=b-m:=pz W v;refine⟨aa,aa,dG,aa, ?_,L⟩;rw[akm W aa aa];exact l;rintro _ ⟨P,A,B,Q,rfl,hA,hB,a4,a9,af,D⟩;have ag:=vT (a:=m) (b:=A.length) aa aa;have al:((m-A.length:Nat):Int)=P.length:=aa;simp only[fQ] at af;simp[ag,al];refine rH (λan=> ?_) (λan=>rH (λa0=> ?_) (λa0=> ?_));have H:=Z9 (o:=o) (P:=P) (X:=A) (M:=[]) (Y:=B) (Q:=Q) (a:=P.length) (b:=m) (n:=A.length) rfl dG rfl aa dG;refine⟨P++(B++(A++Q)),by simpa using H,2,rfl, ?_⟩;simp[D];obtain⟨O,N,rfl,z⟩:∃O N,A=O++N/\O.length=B.length:=⟨A.take B.length,A.drop B.length,(JD _ _).symm,dG⟩;simp only[fQ] at*;have G:=vT (a:=O.length+N.length) (b:=B.length) aa aa;have H:=Z9 (o:=o) (P:=P) (X:=O) (M:=N) (Y:=B) (Q:=Q) (a:=P.length) (b:=m) (n:=B.length) rfl aa aa aa dG;refine⟨P++(B++(N++(O++Q))),by simpa using H,⟨P++B,N,O,Q, ?_,aa,aa,dG,aa,dG, ?_⟩, ?_⟩;rw[G,z];simp;rw[<-D];simp;rw[G];show((O.length+N.length-B.length:Nat):Int).toNat+((B.length:Int)).toNat<O.length+N.length+B.length;omega;obtain⟨R,V,rfl,z⟩:∃R V,B=R++V/\V.length=A.length:=⟨B.take (B.length-A.length),B.drop (B.length-A.length),(JD _ _).symm,dG⟩;simp only[fQ] at*;have a1:=xO (a:=m) (b:=R.length+V.length) aa;have G:=vT (a:=m+(R.length+V.length)) (b:=A.length) aa aa;have a3:=vT (a:=R.length+V.length) (b:=A.length) aa aa;have H:=Z9 (o:=o) (P:=P) (X:=A) (M:=R) (Y:=V) (Q:=Q) (a:=P.length) (b:=((m+(R.length+V.length)-A.length:Nat):Int)) (n:=A.length) rfl aa rfl aa dG;rw[a1,G,a3];refine⟨P++(V++(R++(A++Q))),by simpa using H,⟨P,V,R,A++Q, ?_,aa,aa,aa,aa,dG, ?_⟩, ?_⟩;rw[z];simp;rw[<-D];simp;show((A.length:Int)).toNat+((R.length+V.length-A.length:Nat):Int).toNat<A.length+(R.length+V.length);omega;cases L
end
end
section
attribute[local simp] K.ab BE.ab RE.rv RE.ab gm ai.rv ai.ext ai.add C.xv uz F1 F2 F3 zP zQ LE.ae mY jL
attribute[local congr] F0
def ate{lt:aC->aC->Bool}(l:aq)(x:aC):bK lt (l++[x])=eH lt x (bK lt l):=by simp[bK]
def ako{lt:aC->aC->Bool}{x:aC}:∀{L G:aq},(∀l∈L,lt x l=E)->(∀g∈G,lt x g=J)->eH lt x (L++G)=L++x::G
 |[],[],_,_=>rfl
 |[],g::G,_,h=>by simp[eH,h g au]
 |l::L,G,X,W=>by
  have V:=ako (L:=L) (G:=G) (λy R=>X y (by simp[R])) W;simp only[gA,eH,X l au];rw[V];simp
def akp(A R:aq)(l x:aC)(W:X=Y A):((A++(l::x::R)).set (X+1) l).set X x=A++(x::l::R):=by
 subst W;rw[Tl _ _ aa,aaw,Tl _ _ aa,Tv];rfl
def S8{h:HP}{O:ai}{L:cX}{d:RE->K->am}(P:Bt h.K d){W V:RE}{R Q:K}{H:bn}{G:aY}(F:X=Y O.i)(x y:aC)(D:(W.rv O).ae[(R.ab O).toNat]?=U x)(B:(V.rv O).ae[(Q.ab O).toNat]?=U y)(N:iN h.K x)(M:iN h.K y)(A:h.o.ok x=J)(z:h.o.ok y=J)
  (w:∀c:Int,(c<0<->h.o.lt x y=J)->u.hw h (O.add (.i c)) L):T.hw h (.call h.g [.agg (d W R),.agg (d V Q)] H G [.int I] (.int I (.v X)) u) O L:=by
 subst F;exact⟨rfl,rfl,rfl,_,_,x,y,rfl,P.ab O W R x D N,P.ab O V Q y B M,N,M,A,z,w⟩
section
variable{f:kJ}{e g:Nat}{o:bB}{d:RE->K->am}
def akq(al:Bt f d)(a3:kW o.lt (λx=>o.ok x=J)):Nj f e g o 2 2 (S2 e g d):=by
 rintro p _ X az ns hP bg ⟨R,n,Q,rfl,cf,hn⟩ hT hN N bk;obtain⟨a,b,rfl⟩:=two hN;obtain⟨_,N⟩:=yH N;simp only[mb] at N;split at N;rename_i t;simp only[aw,bZ,eO] at t;obtain⟨⟨⟨bl,br⟩,ch⟩,a4⟩:=t;obtain⟨a,rfl⟩:=xP bl;obtain⟨b,rfl⟩:=xP (a:=b) aa;simp only[cg,DC] at N;have hb:b<=Y X:=aa;have br:a<=b:=aa;refine vR ⟨f,g,o,e,.slice R n Q,az⟩ (hP▸bg) bk _ _ _ ?_;unfold S2;refine vS (λM=>∃(i:Nat)(s:aq),M=[.r (.mk (.slice R n Q) s),.i i]/\a<i/\i<=b+1/\s=X.take a++(bK o.lt (aR X a (min i b))++X.drop (min i b))) (λM=>match M with|[_,.i i]=>b+1-i.toNat|_=>0) ⟨a+1,X, ?_,aa,aa, ?_⟩ ?_;simp only[ep,xU,C.xv,RE.rv,ai.rv,DA,K.ab];rw[Bu aa];by_cases h:a+1<=b;rw[Gb h];have:aR X a (a+1)=[X[a]' aa]:=by
  simp only[aR,show a+1-a=1 from aa];rw[Dv aa];rfl
 rw[this];show X=_++([X[a]' aa]++_);rw[<-this,H3 X aa];have:b=a:=aa;subst this;rw[aaE aa];have:aR X b b=[]:=by simp[aR]
 rw[this];show X=X.take b++([]++X.drop b);simp;rintro _ ⟨i,s,rfl,cl,cn,H⟩;by_cases a9:i<b;rw[Gb aa] at H;obtain⟨x,hx⟩:∃x,x=X[i]' aa:=⟨_,rfl⟩;have hd:X.drop i=x::X.drop (i+1):=by rw[hx,Dv aa]
 have hS:(bK o.lt (aR X a i)).length=i-a:=by rw[oI,pz X aa]
 have bs:aR X a (i+1)=aR X a i++[x]:=by
  rw[od X (show a<=i from aa) (show i<=i+1 from aa)];congr 1;simp only[aR,aaw,hd];rfl
 have F:∀y,y∈X.take a\/y∈bK o.lt (aR X a i)\/y=x\/y∈X.drop (i+1)->iN f y/\o.ok y=true:=by
  intro y V;have:y∈X:=by
   rcases V with h|h|rfl|h;exact Bz h;exact se (ET h);rw[hx];exact pN _;exact zU h
  exact⟨hT y this,a4 y this⟩
 have an:gg o.lt (bK o.lt (aR X a i)):=ES a3 λz hz=>a4 z (se hz)
 have bt:(X.take a).length=a:=dG;have bx:(X.drop (i+1)).length=n-(i+1):=dG;generalize b0:bK o.lt (aR X a i)=S at H hS F an;generalize co:X.take a=P at H F bt N;generalize b1:X.drop (i+1)=D at hd F bx;rw[hd] at H;have ba:∀L G,S=L++G->(∀l∈L,o.lt x l=E)->(∀g∈G,o.lt x g=J)->P++(L++x::(G++D))=P++(bK o.lt (aR X a (min (i+1) b))++X.drop (min (i+1) b)):=by
  intro L G q m h3;rw[Gb aa,bs,ate,b0,q,ako m h3,b1];simp
 simp[a9];refine vS (λM=>∃(L G:aq),M=[.r (.mk (.slice R n Q) (P++(L++x::(G++D)))),.i ((a+Y L:Nat):Int)]/\S=L++G/\∀g∈G,o.lt x g=J) (λM=>match M with|[_,.i j]=>j.toNat|_=>0) ⟨S,[], ?_,au,au⟩ ?_;simp[H,hS];omega;rintro _ ⟨L,G,rfl,W,hG⟩;rcases List.eq_nil_or_concat L with rfl|⟨L,l,rfl⟩;simp;rw[Bu aa];refine⟨⟨i+1,_,rfl,aa,aa, ?_⟩, ?_⟩;exact ba [] G W au hG;show b+1-((i+1:Nat):Int).toNat<b+1-i;omega;simp only[List.concat_eq_append] at W⊢;have cp:a+Y L+1<=i:=by
  have:=ji Y W;simp only[fQ,pO,NP] at this;omega
 have B:bH .sub I (((a+(Y L+1):Nat)):Int) 1=((a+Y L:Nat):Int):=by rw[S7 aa aa];omega
 have k:=F x au;have A:=F l (.inr (.inl (by rw[W];simp)));have e0:P++(L++[l]++x::(G++D))=(P++L)++(l::x::(G++D)):=au;have gx:((P++L)++(l::x::(G++D)))[a+(Y L+1)]?=U x:=by
  rw[gK dG];simp[show a+(Y L+1)-(Y P+Y L)=1 from aa]
 have gl:((P++L)++(l::x::(G++D)))[a+Y L]?=U l:=by
  rw[gK dG];simp[show a+Y L-(Y P+Y L)=0 from aa]
 have a0:∀y∈(P++L)++(l::x::(G++D)),iN f y/\o.ok y=true:=by
  intro y V;refine F y ?_;simp only[eC,dJ] at V;rcases V with(h|h)|h|h|h|h;exact .inl h;exact .inr (.inl (by rw[W];simp[h]));subst h;exact .inr (.inl (by rw[W];simp));exact .inr (.inr (.inl h));exact .inr (.inl (by rw[W];simp[h]));exact .inr (.inr (.inr h))
 have bb:((P++L)++(l::x::(G++D))).length=n:=by
  have:=ji Y W;simp only[fQ,pO,NP] at this;simp only[fQ,pO];omega
 rw[e0];have b2:(((a+(L++[l]).length:Nat):Int))=((a+(Y L+1):Nat):Int):=au;rw[b2];have af:((a+(Y L+1):Nat):Int).toNat=a+(Y L+1):=rfl;have ag:((a+Y L:Nat):Int).toNat=a+Y L:=rfl;have bc:((a+(Y L+1):Nat):Int)=((a+Y L:Nat):Int)+1:=aa;have b3:((a+(Y L+1):Nat):Int)<n:=by
  have:=bb;simp only[fQ,pO] at this;omega
 have bd:(a:Int)<((a+(Y L+1):Nat):Int):=aa;have b4:(0:Int)<=((a+Y L:Nat):Int):=aa;generalize hz:((a+(Y L+1):Nat):Int)=z at B af bc b3 bd⊢;generalize hw:((a+Y L:Nat):Int)=w at B ag bc b4⊢;generalize hR:(P++L)++(l::x::(G++D))=u at gx gl a0 bb⊢;simp[B,bd];refine⟨⟨aa,by simp[lenOf];omega⟩,⟨aa,by simp[lenOf];omega⟩, ?_⟩;refine S8 al rfl x l ?_ ?_ k.1 A.1 k.2 A.2 (λc t=> ?_);simp[af];exact gx;simp[B,ag];exact gl;have c1:∀O:ai,O.r=[.mk (.slice R n Q) X,.mk (.slice R n Q) s,.mk (.slice R n Q) u]->O.i=[(a:Int),b,i,z,c]->xV (C.bN O) (d (.v 2) (.bin .sub I (.v 3) (.c 1)))=l:=λO q m=>al.bN O _ _ l (by simp[q,m,B,ag];exact gl) A.1
 have c2:∀(O:ai) rv,O.r=[.mk (.slice R n Q) X,.mk (.slice R n Q) s,.mk (.slice R n Q) u,rv]->O.i=[(a:Int),b,i,z,c]->xV (C.bN O) (d (.v 2) (.v 3))=x:=λO rv q m=>al.bN O _ _ x (by simp[q,m,af];exact gx) k.1
 simp[B];refine rH (λb5=> ?_) (λb6=> ?_);rw[c1 _ rfl rfl,c2 _ _ rfl rfl];have m1:(u.modify z.toNat λa1=>gE a1 0 l)=u.set (a+Y L+1) l:=by rw[af];exact Dt (λy V=>(a0 y V).1) A.1
 have m2:((u.set (a+Y L+1) l).modify w.toNat λa1=>gE a1 0 x)=(u.set (a+Y L+1) l).set (a+Y L) x:=by
  rw[ag];refine Dt (λy V=> ?_) k.1;rcases Bw V with h|rfl;exact(a0 y h).1;exact A.1
 rw[m1,m2,<-hR,akp (P++L) (G++D) l x dG];refine⟨⟨aa,by simp[lenOf];omega⟩,⟨aa,by simp[lenOf];omega⟩,⟨aa,by simp[lenOf];omega⟩,⟨L,l::G, ?_,by rw[W];simp,λg' b7=> ?_⟩, ?_⟩;simp;omega;rcases dJ.1 b7 with rfl|h;exact t.1 b5;exact hG g' h;show w.toNat<z.toNat;omega;have bf:o.lt x l=false:=by
  cases h:o.lt x l;rfl;exact bp (t.2 h) b6
 have b8:∀y∈L++[l],o.lt x y=false:=by
  intro y V;rcases eC.1 V with h|h;have:o.lt l y=false:=by
   rw[W] at an;exact(mB.1 (mB.1 an).1).2.2 y h l au
  have ca:=F y (.inr (.inl (by rw[W];simp[h])));exact a3.nt x l y k.2 A.2 ca.2 bf this;simp at h;subst h;exact bf
 rw[Bu aa];refine⟨⟨i+1,_,rfl,aa,aa, ?_⟩, ?_⟩;rw[<-ba (L++[l]) G W b8 hG,<-hR];simp;show b+1-((i+1:Nat):Int).toNat<b+1-i;omega;have cc:min i b=b:=aaE aa;rw[cc,N] at H;simp[a9];exact⟨1,rfl,by rw[H];rfl⟩;cases N
end
end
section
attribute[local simp] K.ab BE.ab RE.rv RE.ab gm ai.rv ai.ext ai.add C.xv uz F1 F2 F3 zP zQ LE.ae mY jL
attribute[local congr] F0
def atf(h:X<=4398046511104):IntKind.i64.wrap (bH .shr .u64 (IntKind.u64.wrap (X:Int)) 1)=((X/2:Nat):Int):=by
 have e1:IntKind.u64.wrap (X:Int)=(X:Int):=by
  rw[IntKind.wrap_u64];omega
 rw[e1];simp only[bH];have W:(2:Int)^min (Int.toNat 1) IntKind.u64.bits=2:=rfl;rw[W,awY _ aa,Nl aa aa];omega
def S9{o:bB}{N:Nat}{P X Y Q:aq}{a m b:Int}(W:a=P.length)(V:m=P.length+X.length)(R:b=P.length+X.length+Y.length)(u:1<=X.length)(t:1<=Y.length)(q:X.length+Y.length<N)(M:(P++(X++(Y++Q))).length<=1099511627776)(H:∀z∈P++(X++(Y++Q)),o.ok z=J)(G:gg o.lt X)(F:gg o.lt Y):
  nW (N+3) o [a,m,b] (P++(X++(Y++Q)))=U (P++(bK o.lt (X++Y)++Q)):=by
 subst W;subst V;subst R;unfold nW;rw[aE M];simp only[mb];have e1:((P.length:Int)).toNat=P.length:=rfl;have D:((P.length:Int)+X.length).toNat=P.length+X.length:=aa;have B:((P.length:Int)+X.length+Y.length).toNat=P.length+X.length+Y.length:=aa;rw[e1,D,B];have A:(P++(X++(Y++Q))).take P.length=P:=au;have y:aR (P++(X++(Y++Q))) P.length (P.length+X.length)=X:=Nn P X _;have x:aR (P++(X++(Y++Q))) (P.length+X.length) (P.length+X.length+Y.length)=Y:=No (P:=P++X) (Q:=Q) au au rfl;have w:aR (P++(X++(Y++Q))) P.length (P.length+X.length+Y.length)=X++Y:=No (P:=P) (Q:=Q) au rfl dG;have v:(P++(X++(Y++Q))).drop (P.length+X.length+Y.length)=Q:=by
  have:P++(X++(Y++Q))=(P++(X++Y))++Q:=au;rw[this,Tu dG]
 rw[A,y,x,w,v,aE];simp only[aw,bZ,eO,afG];refine⟨⟨⟨⟨⟨⟨⟨aa,aa⟩,aa⟩, ?_⟩,aa⟩,H⟩,G⟩,F⟩;simp only[fQ];omega
def Ta{lt:aC->aC->Bool}(h:Q=[]\/F=[])(W:gg lt Q)(V:gg lt F):bK lt (Q++F)=Q++F:=by
 rcases h with rfl|rfl;simpa using Qd V;simpa using Qd W
def atg{B X:aq}{a m b:Int}(W:a=Y Q)(V:m=Y Q+Y F)(R:b=Y Q+Y F+Y B)(w:1<=Y F)(v:1<=Y B)(M:(Q++(F++(B++X))).length<=1099511627776):
  nW 1 A [a,m,b] (Q++(F++(B++X)))=U (Q++(B++(F++X))):=by
 subst W;subst V;subst R;unfold nW;rw[aE M];simp only[mb];have e1:((Y Q:Int)).toNat=Y Q:=rfl;have H:((Y Q:Int)+Y F).toNat=Y Q+Y F:=aa;have G:((Y Q:Int)+Y F+Y B).toNat=Y Q+Y F+Y B:=aa;rw[e1,H,G];have D:(Q++(F++(B++X))).take (Y Q)=Q:=au;have z:aR (Q++(F++(B++X))) (Y Q) (Y Q+Y F)=F:=Nn Q F _;have y:aR (Q++(F++(B++X))) (Y Q+Y F) (Y Q+Y F+Y B)=B:=No (P:=Q++F) (Q:=X) au au rfl;have x:(Q++(F++(B++X))).drop (Y Q+Y F+Y B)=X:=by
  have:Q++(F++(B++X))=(Q++(F++B))++X:=au;rw[this,Tu dG]
 rw[D,z,y,x,aE];simp only[aw,bZ,fQ];omega
abbrev Jv:K:=.bin .sub I (.bin .add I dP (.v 1)) (.v 3)
section
variable{f d g e N:Nat}{o:bB}{h:HP}{O:ai}{L:cX}{a m b s r mid e1:Nat}
structure F4(O:ai)(a m b s:Nat)(mid e1:Nat):Prop where
 va:O.i.getD 0 0=a
 vm:O.i.getD 1 0=m
 vb:O.i.getD 2 0=b
 vs:O.i.getD 3 0=s
 Np:dP.ab O=mid
 ve:Jv.ab O=e1
def F4.add{rv:RV}(H:F4 O a m b s mid e1):F4 (O.add (.r rv)) a m b s mid e1:=by
 have X:∀(x:Nat),K.ab (O.add (.r rv)) (.v x)=K.ab O (.v x):=λx=>rfl
 exact⟨H.va,H.vm,H.vb,H.vs,by rw[<-H.Np];rfl,by rw[<-H.ve];rfl⟩
def Bv(H:F4 O a m b s mid e1)(M:h.e=e){t:aY}{y x w:S}{v:Value}{W V:aq}(R:O.rv X=.mk v (Q++(F++(W++V))))(q:X+1=Y O.r)(G:h.v=v)(D:h.az=Q++(bK o.lt (F++W)++V))
  (hP:Y Q=mid)(hX:Y F=e1-mid)(hY:Y W=b-e1)(h1:mid<=e1)(h2:e1<=b)(hN:b-mid<N)(p:(Q++(F++(W++V))).length<=1099511627776)(n:∀z∈Q++(F++(W++V)),o.ok z=J)(B:gg o.lt F)(A:gg o.lt W)
  (l:y.rs[X+1]?=U (.own e))(j:x.rs[X]?=U (.own e))(i:w.rs[X]?=U (.own e)):
  T.hw h (.aS (.cmp .lss dP Jv) (.aS (.cmp .lss Jv (.v 2)) (.dK f g e (.da (N+3) o [dP,Jv,.v 2]) E (.v X) t (.out .normal y)) (.out .normal x)) (.out .normal w)) O L:=by
 have u:K.ab O (.v 2)=b:=H.vb;rw[uz];simp only[BE.ab,gm,H.Np,H.ve,bZ];refine rH (λd=> ?_) (λd=> ?_);rw[uz];simp only[BE.ab,gm,H.ve,u,bZ];refine rH (λq2=> ?_) (λq2=> ?_);rw[zP];refine⟨Q++(bK o.lt (F++W)++V), ?_, ?_⟩;simp only[jL,ep,xU,H.Np,H.ve,u,RE.rv,R,RV.ma];exact S9 aa aa aa aa aa aa p n B A;rw[zQ];refine⟨.inl rfl,X+1,by rw[M];exact l, ?_⟩;have af:(O.rv X).val=v:=by rw[R];rfl
 rw[show(RE.v X).rv O=O.rv X from rfl,af,G,D];simp[ai.add,ai.rv,q];rw[zQ];refine⟨.inl rfl,X,by rw[M];exact j, ?_⟩;rw[R,G,D,Ta (.inr (qG aa)) B A];simp;rw[zQ];refine⟨.inl rfl,X,by rw[M];exact i, ?_⟩;rw[R,G,D,Ta (.inl (qG aa)) B A];simp
def aaa(H:F4 O a m b s mid e1){x:aY}{B A:T}{v:Value}{W R:aq}(V:O.rv X=.mk v (Q++(F++(W++R))))
  (i:Y Q=a)(d:Y F=s-a)(hY:Y W=mid-s)(h1:a<=s)(h2:s<=mid)(hN:mid-a<N)(w:(Q++(F++(W++R))).length<=1099511627776)(t:∀z∈Q++(F++(W++R)),o.ok z=J)(M:gg o.lt F)(G:gg o.lt W)
  (q:T.hw h u (O.add (.r (.mk v (Q++(bK o.lt (F++W)++R))))) L)(p:O.rv X=.mk v (Q++(bK o.lt (F++W)++R))->T.hw h B O L)(n:O.rv X=.mk v (Q++(bK o.lt (F++W)++R))->T.hw h A O L):
  T.hw h (.aS (.cmp .lss (.v 0) (.v 3)) (.aS (.cmp .lss (.v 3) dP) (.dK f g e (.da (N+3) o [.v 0,.v 3,dP]) E (.v X) x u) B) A) O L:=by
 have y:K.ab O (.v 0)=a:=H.va;have D:K.ab O (.v 3)=s:=H.vs;rw[uz];simp only[BE.ab,gm,y,D,bZ];refine rH (λl=> ?_) (λl=> ?_);rw[uz];simp only[BE.ab,gm,H.Np,D,bZ];refine rH (λj=> ?_) (λj=> ?_);rw[zP];refine⟨Q++(bK o.lt (F++W)++R), ?_, ?_⟩;simp only[jL,ep,xU,H.Np,y,D,RE.rv,V,RV.ma];exact S9 aa aa aa aa aa aa w t M G;simp only[RE.rv,V,RV.l9];exact q;refine p ?_;rw[V,Ta (.inr (qG aa)) M G];simp;refine n ?_;rw[V,Ta (.inl (qG aa)) M G];simp
def ath(H:F4 O a m b s mid e1){z:aY}{M G:T}{v:Value}{B R:aq}(W:O.rv X=.mk v (Q++(F++(B++R))))
  (n:Y Q=s)(l:Y F=m-s)(j:Y B=e1-m)(i:s<=m)(f:m<=e1)(y:(Q++(F++(B++R))).length<=1099511627776)
  (x:T.hw h u (O.add (.r (.mk v (Q++(B++(F++R)))))) L)(w:O.rv X=.mk v (Q++(B++(F++R)))->T.hw h M O L)(t:O.rv X=.mk v (Q++(B++(F++R)))->T.hw h G O L):
  T.hw h (.aS (.cmp .lss (.v 3) (.v 1)) (.aS (.cmp .lss (.v 1) Jv) (.dK d g e (.da 1 o [.v 3,.v 1,Jv]) E (.v X) z u) M) G) O L:=by
 have V:K.ab O (.v 1)=m:=H.vm;have D:K.ab O (.v 3)=s:=H.vs;rw[uz];simp only[BE.ab,gm,V,D,bZ];refine rH (λq=> ?_) (λq=> ?_);rw[uz];simp only[BE.ab,gm,H.ve,V,bZ];refine rH (λp=> ?_) (λp=> ?_);rw[zP];refine⟨Q++(B++(F++R)), ?_, ?_⟩;simp only[jL,ep,xU,H.ve,V,D,RE.rv,W,RV.ma];exact atg aa aa aa aa aa y;simp only[RE.rv,W,RV.l9];exact x;refine w ?_;have:B=[]:=qG aa;rw[W,this];simp;refine t ?_;have:F=[]:=qG aa;rw[W,this];simp
end
section
variable{f d e g N:Nat}{o:bB}{O:ai}{L:cX}{a m b s mid e1:Nat}{k:kJ}
def Tb{O:ai}{v:RV}(h:X=Y O.r):(O.add (.r v)).rv X=v:=by subst h;simp[ai.rv,ai.add]
def ati(bf:kW o.lt (λx=>o.ok x=J))(H:F4 O a m b s mid e1){v:Value}(an:Y O.r=2)(hc:O.rv 1=.mk v Q)
  (h1:a<=s)(h2:s<=m)(h3:m<=e1)(D:e1<=b)(hb:b<=Y Q)(a1:s<=mid)(bs:mid+m=e1+s)(a3:mid-a<N)(w:b-mid<N)(hl:Y Q<=1099511627776)(bb:∀z∈Q,o.ok z=J)(sA:gg o.lt (aR Q a m))(sB:gg o.lt (aR Q m b))
  (q1:∀i j,a<=i->i<s->e1<=j->j<b->o.lt (Q.getD j []) (Q.getD i [])=E)(q2:∀i j,s<=i->i<m->m<=j->j<e1->o.lt (Q.getD j []) (Q.getD i [])=J)
  (bc:F=Q.take a++(bK o.lt (aR Q a b)++Q.drop b)):T.hw ⟨k,g,o,e,v,F⟩ (Nk e g d f N o) O L:=by
 have bg:=ap9 bf bb h1 h2 h3 D hb sA sB q1 q2;have e0:Q=Q.take a++(aR Q a s++(aR Q s m++(aR Q m e1++(aR Q e1 b++Q.drop b)))):=by
  have:=H3 Q (show a<=b from aa);rw[od Q (show a<=s from aa) (show s<=b from aa),od Q h2 (show m<=b from aa),od Q h3 D] at this;simpa using this.symm
 have l1:(aR Q a s).length=s-a:=pz Q aa;have l2:(aR Q s m).length=m-s:=pz Q aa;have l3:(aR Q m e1).length=e1-m:=pz Q aa;have u:(aR Q e1 b).length=b-e1:=pz Q aa;have lP:(Q.take a).length=a:=dG;rw[od Q h1 h2] at sA;rw[od Q h3 D] at sB;have a4:gg o.lt (aR Q a s):=(mB.1 sA).1;have t:gg o.lt (aR Q s m):=(mB.1 sA).2.1;have a9:gg o.lt (aR Q m e1):=(mB.1 sB).1;have q:gg o.lt (aR Q e1 b):=(mB.1 sB).2.1;rw[bg] at bc;have bk:∀x,(x∈Q.take a\/x∈aR Q a s\/x∈aR Q s m\/x∈aR Q m e1\/x∈aR Q e1 b\/x∈Q.drop b)->o.ok x=true:=λx hx=>bb x (by
  rcases hx with h|h|h|h|h|h;exact Bz h;exact se h;exact se h;exact se h;exact se h;exact zU h)
 rw[e0] at hc hl;generalize Q.take a=P at*;generalize aR Q a s=W at*;generalize aR Q s m=B at*;generalize aR Q m e1=V at*;generalize aR Q e1 b=y at*;generalize Q.drop b=X at*;have p:F=(P++bK o.lt (W++V))++(bK o.lt (B++y)++X):=by rw[bc];simp
 have bl:∀x∈bK o.lt (W++V),x∈W\/x∈V:=λx hx=>by simpa using ET hx
 have bd:(bK o.lt (W++V)).length=mid-a:=by rw[oI];simp;omega
 have bt:Y P+(Y W+(Y B+(Y V+(Y y+Y X))))<=1099511627776:=by simpa using hl
 have a0:∀z∈P++(W++(V++(B++(y++X)))),o.ok z=true:=λz hz=>bk z (by
  simp only[eC] at hz;rcases hz with h|h|h|h|h|h;exact .inl h;exact .inr (.inl h);exact .inr (.inr (.inr (.inl h)));exact .inr (.inr (.inl h));exact .inr (.inr (.inr (.inr (.inl h))));exact .inr (.inr (.inr (.inr (.inr h)))))
 have n:∀z∈(P++bK o.lt (W++V))++(B++(y++X)),o.ok z=true:=λz hz=>a0 z (by
  simp only[eC] at hz⊢;rcases hz with(h|h)|h|h|h;exact .inl h;rcases bl z h with h|h;exact .inr (.inl h);exact .inr (.inr (.inl h));exact .inr (.inr (.inr (.inl h)));exact .inr (.inr (.inr (.inr (.inl h))));exact .inr (.inr (.inr (.inr (.inr h)))))
 have lU:(P++(W++(V++(B++(y++X))))).length<=1099511627776:=dG;have l:((P++bK o.lt (W++V))++(B++(y++X))).length<=1099511627776:=by simp only[fQ,bd];omega
 have c:(P++bK o.lt (W++V)).length=mid:=by simp only[fQ,bd];omega
 have af:Y B=e1-mid:=aa;have br:O.rv 1=.mk v ((P++W)++(B++(V++(y++X)))):=by rw[hc];simp
 have ba:∀R:aq,(P++W)++(V++R)=P++(W++(V++R)):=λR=>au
 have ag:∀R:aq,P++(bK o.lt (W++V)++R)=(P++bK o.lt (W++V))++R:=λR=>au
 unfold Nk;refine ath H br dG l2 l3 h2 h3 dG ?_ (λal=> ?_) (λal=> ?_);have al:=Tb (v:=.mk v ((P++W)++(V++(B++(y++X))))) (show 2=Y O.r from aa);rw[ba] at al⊢;have M:=H.add (rv:=.mk v (P++(W++(V++(B++(y++X))))));have G:(O.add (.r (.mk v (P++(W++(V++(B++(y++X)))))))).r.length=3:=by simp[ai.add,an]
 refine aaa M al lP l1 aa h1 a1 a3 lU a0 a4 a9 ?_ (λA=> ?_) (λA=> ?_);refine Bv M.add rfl ((Tb (show 3=_ from G.symm)).trans (by rw[ag])) (by simp[ai.add,an]) rfl p c af u aa D w l n t q rfl rfl rfl;refine Bv M rfl (A.trans (by rw[ag])) (show 2+1=_ from G.symm) rfl p c af u aa D w l n t q rfl rfl rfl;refine Bv M rfl (A.trans (by rw[ag])) (show 2+1=_ from G.symm) rfl p c af u aa D w l n t q rfl rfl rfl;rw[ba] at al;have M:=H;have G:=an;refine aaa M al lP l1 aa h1 a1 a3 lU a0 a4 a9 ?_ (λA=> ?_) (λA=> ?_);refine Bv M.add rfl ((Tb (show 2=_ from G.symm)).trans (by rw[ag])) (by simp[ai.add,G]) rfl p c af u aa D w l n t q rfl rfl rfl;refine Bv M rfl (A.trans (by rw[ag])) (show 1+1=_ from G.symm) rfl p c af u aa D w l n t q rfl rfl rfl;refine Bv M rfl (A.trans (by rw[ag])) (show 1+1=_ from G.symm) rfl p c af u aa D w l n t q rfl rfl rfl;rw[ba] at al;have M:=H;have G:=an;refine aaa M al lP l1 aa h1 a1 a3 lU a0 a4 a9 ?_ (λA=> ?_) (λA=> ?_);refine Bv M.add rfl ((Tb (show 2=_ from G.symm)).trans (by rw[ag])) (by simp[ai.add,G]) rfl p c af u aa D w l n t q rfl rfl rfl;refine Bv M rfl (A.trans (by rw[ag])) (show 1+1=_ from G.symm) rfl p c af u aa D w l n t q rfl rfl rfl;refine Bv M rfl (A.trans (by rw[ag])) (show 1+1=_ from G.symm) rfl p c af u aa D w l n t q rfl rfl rfl
end
end
section
attribute[local simp] K.ab BE.ab RE.rv RE.ab gm ai.rv ai.ext ai.add C.xv uz F1 F2 F3 zP zQ LE.ae mY jL
attribute[local congr] F0
def getD_some(h:X<Y Q):Q[X]?=U (Q.getD X []):=by
 rw[cw,ce h];rfl
def Nq{i j:Nat}(h:i+j<=4398046511104):IntKind.i64.wrap (bH .shr .u64 (IntKind.u64.wrap (bH .add I (i:Int) (j:Int))) 1)=(((i+j)/2:Nat):Int):=by
 rw[xO h];exact atf h
def Nr(h:X<Y Q):aR Q X (X+1)=[Q.getD X []]:=by
 have e:Q.getD X []=Q[X]:=by rw[cw,ce h];rfl
 simp only[aR,aaw];rw[Dv h,e];rfl
def atj(A R:aq)(y x:aC)(W:X=Y A):((A++(x::y::R)).set X y).set (X+1) x=A++(y::x::R):=by
 subst W;rw[Tl _ _ aa,Tv,Tl _ _ aa,aaw];rfl
def cu(X:aq)(k:Nat):aC:=X.getD k []
def akr(h:X<Y Q):Q.drop X=cu Q X::Q.drop (X+1):=by
 rw[Dv h,cu,cw,ce h];rfl
section
variable{d:kJ}{e g:Nat}{o:bB}{f:RE->K->am}
def atk(al:Bt d f)(an:kW o.lt (λW=>o.ok W=J)){R:mU}{m b:Nat}(b8:Y Q=X)(hn:X<=1099511627776)(u:∀W∈Q,iN d W)(a3:∀W∈Q,o.ok W=J)
  (hm:m=n+1)(ca:m<b)(hb:b<=Y Q)(sB:gg o.lt (aR Q m b))(br:F=Q.take n++(bK o.lt (aR Q n b)++Q.drop b)):
  T.hw ⟨d,g,o,e,.slice R X x,F⟩ (Z5 e g f) ⟨[(n:Int),m,b],[],[.mk (.slice R X x) Q],[]⟩ []:=by
 subst hm;have M:n<Y Q:=aa;have a4:∀k,k<Y Q->cu Q k∈Q:=λk P=>iU (getD_some P)
 have t:∀k,k<Y Q->iN d (cu Q k):=λk P=>u _ (a4 k P)
 have L:∀k,k<Y Q->o.ok (cu Q k)=true:=λk P=>a3 _ (a4 k P)
 unfold Z5;refine vS (λG=>∃(i j:Nat),G=[.r (.mk (.slice R X x) Q),.i i,.i j]/\n+1<=i/\i<=j/\j<=b/\(∀k,n+1<=k->k<i->o.lt (cu Q k) (cu Q n)=J)/\∀k,j<=k->k<b->o.lt (cu Q k) (cu Q n)=E) (λG=>match G with|[_,.i i,.i j]=>j.toNat-i.toNat|_=>0) ⟨n+1,b,rfl,aa,aa,aa,aa,aa⟩ ?_;rintro _ ⟨i,j,rfl,a9,cc,s,ba,bb⟩;by_cases bs:i<j;have p:=Nq (i:=i) (j:=j) aa;have bt:i<=(i+j)/2:=aa;have bx:(i+j)/2<j:=aa;generalize hq:(i+j)/2=q at p bt bx;simp[bs,p,lenOf];refine⟨aa,aa, ?_⟩;refine S8 al rfl (cu Q q) (cu Q n) ?_ ?_ (t q aa) (t n M) (L q aa) (L n M) (λc hc=> ?_);simp[p];exact getD_some aa;simp;exact getD_some M;simp[p];refine rH (λb0=> ?_) (λb1=> ?_);rw[Bu aa];refine⟨⟨q+1,j,rfl,aa,aa,s,λk D B=> ?_,bb⟩, ?_⟩;have A:=hc.1 b0;by_cases P:k=q;subst P;exact A;have hs:=H4 hb sB (i:=k) (j:=q) aa aa aa;cases h:o.lt (cu Q k) (cu Q n);have:=an.nt _ _ _ (L q aa) (L k aa) (L n M) hs h;rw[A] at this;cases this;rfl;show(j:Int).toNat-((q+1:Nat):Int).toNat<j-i;omega;have A:o.lt (cu Q q) (cu Q n)=false:=by
  cases h:o.lt (cu Q q) (cu Q n);rfl;exact bp (hc.2 h) b1
 refine⟨⟨i,q,rfl,aa,aa,aa,ba,λk D B=> ?_⟩, ?_⟩;by_cases P:k=q;subst P;exact A;have hs:=H4 hb sB (i:=q) (j:=k) aa aa aa;exact an.nt _ _ _ (L k aa) (L q aa) (L n M) hs A;show((q:Nat):Int).toNat-(i:Int).toNat<j-i;omega;have b2:i=j:=aa;subst b2;simp;have bc:bK o.lt (aR Q n b)=aR Q (n+1) i++cu Q n::aR Q i b:=by
  have e0:aR Q n b=cu Q n::(aR Q (n+1) i++aR Q i b):=by
   rw[<-od Q a9 s,od Q (show n<=n+1 from aa) (show n+1<=b from aa)];have:aR Q n (n+1)=[cu Q n]:=Nr M;rw[this];rfl
  rw[e0];refine ap6 an (λz H=> ?_) (by rw[<-od Q a9 s];exact sB) (λy hy=> ?_) (λy hy=> ?_);rw[<-e0] at H;exact a3 z (se H);obtain⟨k,k1,k2,_,rfl⟩:=Cr hy;exact ba k k1 k2;obtain⟨k,k1,k2,_,rfl⟩:=Cr hy;exact bb k k1 k2
 have b3:(Q.take n).length=n:=dG;refine vS (λG=>∃(k:Nat)(V:aq),G=[.r (.mk (.slice R X x) V),.i k]/\n<=k/\k+1<=i/\V=(Q.take n++aR Q (n+1) (k+1))++cu Q n::Q.drop (k+1)) (λG=>match G with|[_,.i k]=>i-k.toNat|_=>0) ⟨n,Q,au,aa,aa, ?_⟩ ?_;have e1:aR Q (n+1) (n+1)=[]:=by simp[aR]
 have:=H3 Q (show n<=n+1 from aa);rw[Nr M] at this;rw[e1,Gc];exact this.symm;rintro _ ⟨k,V,rfl,cf,ch,N⟩;have bd:bH .sub I (i:Int) 1=((i-1:Nat):Int):=S7 aa aa;have l:(Q.take n++aR Q (n+1) (k+1)).length=k:=by rw[fQ,b3,pz Q aa];omega
 by_cases P:k<i-1;have hd:Q.drop (k+1)=cu Q (k+1)::Q.drop (k+1+1):=by
  exact akr aa
 have bf:aR Q (n+1) (k+1+1)=aR Q (n+1) (k+1)++[cu Q (k+1)]:=by
  rw[od Q (show n+1<=k+1 from aa) (show k+1<=k+1+1 from aa),Nr aa];rfl
 have af:=t n M;have ag:=t (k+1) aa;have bg:∀z∈V,iN d z:=λz H=>by
  rw[N] at H;simp only[eC,dJ] at H;rcases H with(h|h)|h|h;exact u z (Bz h);exact u z (se h);subst h;exact af;exact u z (zU h)
 rw[hd] at N;generalize cu Q n=W at af N bc;generalize cu Q (k+1)=y at ag N bf;have cl:Y V=X:=by
  rw[N,fQ,l];simp;omega
 have gx:V[k]?=U W:=by rw[N,gK aa,l];simp
 have gy:V[k+1]?=U y:=by rw[N,gK aa,l];simp
 have c1:∀O:ai,O.r=[.mk (.slice R X x) Q,.mk (.slice R X x) Q,.mk (.slice R X x) V]->O.i=[(n:Int),((n+1:Nat):Int),b,i,i,k]->xV (C.bN O) (f (.v 2) (.bin .add I (.v 5) (.c 1)))=y:=λO D B=>al.bN O _ _ y (by simp only[RE.rv,ai.rv,K.ab,D,B,JE,DA,RV.ma,Bu (a:=k) aa];exact gy) ag
 have c2:∀(O:ai) rv,O.r=[.mk (.slice R X x) Q,.mk (.slice R X x) Q,.mk (.slice R X x) V,rv]->O.i=[(n:Int),((n+1:Nat):Int),b,i,i,k]->xV (C.bN O) (f (.v 2) (.v 5))=W:=λO rv D B=>al.bN O _ _ W (by simp only[RE.rv,ai.rv,K.ab,D,B,JE,DA,RV.ma];exact gx) af
 have m1:(V.modify k λa0=>gE a0 0 y)=V.set k y:=Dt bg ag;have m2:((V.set k y).modify (k+1) λa0=>gE a0 0 W)=(V.set k y).set (k+1) W:=Dt (λz H=>by
  rcases Bw H with h|rfl;exact bg z h;exact ag) af
 have a1:(k:Int)<((i-1:Nat):Int):=aa;have bk:=Bu (a:=k) aa;generalize hw:((k+1:Nat):Int)=w at bk;have b4:w.toNat=k+1:=aa;have bl:=atj (Q.take n++aR Q (n+1) (k+1)) (Q.drop (k+1+1)) y W l.symm;rw[<-N] at bl;simp[bd,a1,bk,lenOf];rw[c1 _ rfl rfl,c2 _ _ rfl rfl,b4,m1,m2,bl];refine⟨aa,aa,aa,⟨k+1,_,by rw[hw],aa,aa, ?_⟩, ?_⟩;rw[bf];simp;show i-w.toNat<i-k;omega;have a1:¬(k:Int)<((i-1:Nat):Int):=aa;have b5:k+1=i:=aa;rw[b5] at N;have hd:=H3 (Q.drop 0) (show i<=i from aa);have b6:Q.drop i=aR Q i b++Q.drop b:=by
  have:=od Q s (show b<=b from aa);simp only[aR];have e:Q.drop b=(Q.drop i).drop (b-i):=by rw[JJ];congr 1;omega
  rw[e,JD]
 have b7:V=F:=by
  rw[N,br,bc,b6];simp
 simp[bd,a1];exact⟨2,rfl,by rw[b7];rfl⟩
def atl(ag:Bt d f)(al:kW o.lt (λW=>o.ok W=J)){R:mU}{m b:Nat}(ca:Y Q=X)(hn:X<=1099511627776)(u:∀W∈Q,iN d W)(ba:∀W∈Q,o.ok W=J)
  (hm:b=m+1)(cc:n<m)(hb:b<=Y Q)(sA:gg o.lt (aR Q n m))(br:F=Q.take n++(bK o.lt (aR Q n b)++Q.drop b)):
  T.hw ⟨d,g,o,e,.slice R X x,F⟩ (Z6 e g f) ⟨[(n:Int),m,b],[],[.mk (.slice R X x) Q],[]⟩ []:=by
 subst hm;have M:m<Y Q:=aa;have bb:∀k,k<Y Q->cu Q k∈Q:=λk N=>iU (getD_some N)
 have t:∀k,k<Y Q->iN d (cu Q k):=λk N=>u _ (bb k N)
 have L:∀k,k<Y Q->o.ok (cu Q k)=true:=λk N=>ba _ (bb k N)
 unfold Z6;refine vS (λP=>∃(i j:Nat),P=[.r (.mk (.slice R X x) Q),.i i,.i j]/\n<=i/\i<=j/\j<=m/\(∀k,n<=k->k<i->o.lt (cu Q m) (cu Q k)=E)/\∀k,j<=k->k<m->o.lt (cu Q m) (cu Q k)=J) (λP=>match P with|[_,.i i,.i j]=>j.toNat-i.toNat|_=>0) ⟨n,m,rfl,aa,aa,aa,aa,aa⟩ ?_;rintro _ ⟨i,j,rfl,an,cf,a0,bc,bd⟩;by_cases bs:i<j;have s:=Nq (i:=i) (j:=j) aa;have bt:i<=(i+j)/2:=aa;have bx:(i+j)/2<j:=aa;generalize hq:(i+j)/2=q at s bt bx;simp[bs,s,lenOf];refine⟨aa,aa, ?_⟩;refine S8 ag rfl (cu Q m) (cu Q q) ?_ ?_ (t m M) (t q aa) (L m M) (L q aa) (λc hc=> ?_);simp;exact getD_some M;simp[s];exact getD_some aa;simp[s];refine rH (λch=> ?_) (λcl=> ?_);rw[Bu aa];have D:o.lt (cu Q m) (cu Q q)=false:=by
  cases h:o.lt (cu Q m) (cu Q q);rfl;have:=hc.2 h;omega
 refine⟨⟨q+1,j,rfl,aa,aa,a0,λk B G=> ?_,bd⟩, ?_⟩;by_cases N:k=q;subst N;exact D;have hs:=H4 (show m<=Y Q from aa) sA (i:=k) (j:=q) aa aa aa;exact al.nt _ _ _ (L m M) (L q aa) (L k aa) D hs;show(j:Int).toNat-((q+1:Nat):Int).toNat<j-i;omega;have D:o.lt (cu Q m) (cu Q q)=true:=hc.1 aa;refine⟨⟨i,q,rfl,aa,aa,aa,bc,λk B G=> ?_⟩, ?_⟩;by_cases N:k=q;subst N;exact D;have hs:=H4 (show m<=Y Q from aa) sA (i:=q) (j:=k) aa aa aa;cases h:o.lt (cu Q m) (cu Q k);have:=al.nt _ _ _ (L m M) (L k aa) (L q aa) h hs;rw[D] at this;cases this;rfl;show((q:Nat):Int).toNat-(i:Int).toNat<j-i;omega;have b0:i=j:=aa;subst b0;simp;have b1:bK o.lt (aR Q n (m+1))=aR Q n i++cu Q m::aR Q i m:=by
  have e0:aR Q n (m+1)=aR Q n i++aR Q i m++[cu Q m]:=by
   rw[<-od Q an a0,od Q (show n<=m from aa) (show m<=m+1 from aa),Nr M];rfl
  rw[e0];refine ap7 al (λz H=> ?_) (by rw[<-od Q an a0];exact sA) (λy hy=> ?_) (λy hy=> ?_);rw[<-e0] at H;exact ba z (se H);obtain⟨k,k1,k2,_,rfl⟩:=Cr hy;exact bc k k1 k2;obtain⟨k,k1,k2,_,rfl⟩:=Cr hy;exact bd k k1 k2
 refine vS (λP=>∃(k:Nat)(V:aq),P=[.r (.mk (.slice R X x) V),.i k]/\i<=k/\k<=m/\V=Q.take k++cu Q m::(aR Q k m++Q.drop (m+1))) (λP=>match P with|[_,.i k]=>k.toNat|_=>0) ⟨m,Q,au,aa,aa, ?_⟩ ?_;have e1:aR Q m m=[]:=by simp[aR]
 rw[e1,gU,<-akr M,JD];rintro _ ⟨k,V,rfl,cn,co,bf⟩;by_cases N:i<k;obtain⟨q,rfl⟩:∃q,k=q+1:=⟨k-1,aa⟩;have a1:bH .sub I (((q+1:Nat)):Int) 1=(q:Int):=by rw[S7 aa aa];omega
 have p:(Q.take q).length=q:=dG;have b2:Q.take (q+1)=Q.take q++[cu Q q]:=by
  rw[axx,getD_some (show q<Y Q from aa)];rfl
 have b3:aR Q q m=cu Q q::aR Q (q+1) m:=by
  rw[od Q (show q<=q+1 from aa) (show q+1<=m from aa),Nr aa];rfl
 have a3:=t m M;have l:=t q aa;have A:V=Q.take q++(cu Q q::cu Q m::(aR Q (q+1) m++Q.drop (m+1))):=by rw[bf,b2];simp
 have bg:∀z∈V,iN d z:=λz H=>by
  rw[A] at H;simp only[eC,dJ] at H;rcases H with h|h|h|h|h;exact u z (Bz h);subst h;exact l;subst h;exact a3;exact u z (se h);exact u z (zU h)
 have bk:=akp (Q.take q) (aR Q (q+1) m++Q.drop (m+1)) (cu Q q) (cu Q m) p.symm;rw[<-A] at bk;have cp:Y V=X:=by
  rw[A,fQ,p];simp only[pO,fQ,pz Q (show m<=Y Q from aa),DD];omega
 have gx:V[q+1]?=U (cu Q m):=by rw[A,gK aa,p];simp
 have gy:V[q]?=U (cu Q q):=by rw[A,gK aa,p];simp
 have bl:(i:Int)<((q+1:Nat):Int):=aa;have b4:((q+1:Nat):Int)<X:=aa;have a4:((q+1:Nat):Int).toNat=q+1:=rfl;have b5:(0:Int)<=((q+1:Nat):Int):=aa;have b6:∀af,af=Q.take q++cu Q m::(aR Q q m++Q.drop (m+1))->FZ (U ⟨1,λP=>∃(k:Nat)(V:aq),P=[.r (.mk (.slice R X x) V),.i k]/\i<=k/\k<=m/\V=Q.take k++cu Q m::(aR Q k m++Q.drop (m+1)),λP=>match P with|[_,.i k]=>k.toNat|_=>0,q+1⟩) [.r (.mk (.slice R X x) af),.i q]:=λaf G=>⟨⟨q,af,rfl,aa,aa,G⟩,show(q:Int).toNat<q+1 from aa⟩
 generalize hw:((q+1:Nat):Int)=w at a1 bl b4 a4 b5⊢;have c1:∀O:ai,O.r=[.mk (.slice R X x) Q,.mk (.slice R X x) Q,.mk (.slice R X x) V]->O.i=[(n:Int),m,((m+1:Nat):Int),i,i,w]->xV (C.bN O) (f (.v 2) (.bin .sub I (.v 5) (.c 1)))=cu Q q:=λO B G=>ag.bN O _ _ _ (by simp only[RE.rv,ai.rv,K.ab,B,G,JE,DA,RV.ma,a1];exact gy) l
 have c2:∀(O:ai) rv,O.r=[.mk (.slice R X x) Q,.mk (.slice R X x) Q,.mk (.slice R X x) V,rv]->O.i=[(n:Int),m,((m+1:Nat):Int),i,i,w]->xV (C.bN O) (f (.v 2) (.v 5))=cu Q m:=λO rv B G=>ag.bN O _ _ _ (by simp only[RE.rv,ai.rv,K.ab,B,G,JE,DA,RV.ma,a4];exact gx) a3
 have m1:(V.modify (q+1) λa9=>gE a9 0 (cu Q q))=V.set (q+1) (cu Q q):=Dt bg l;have m2:((V.set (q+1) (cu Q q)).modify q λa9=>gE a9 0 (cu Q m))=(V.set (q+1) (cu Q q)).set q (cu Q m):=Dt (λz H=>by
  rcases Bw H with h|rfl;exact bg z h;exact l) a3
 simp[a1,bl,lenOf];rw[c1 _ rfl rfl,c2 _ _ rfl rfl,a4,m1,m2,bk];refine⟨aa,aa,aa, ?_⟩;exact b6 _ (by rw[b3];simp);have b7:k=i:=aa;subst b7;have b8:V=F:=by
  have ht:Q.take k=Q.take n++aR Q n k:=by
   have e1:=H3 Q an;have e2:(Q.take n++aR Q n k).length=k:=by rw[fQ,pz Q aa];simp;omega
   calc Q.take k=(Q.take n++aR Q n k++Q.drop k).take k:=by rw[BD,e1]
    _=_:=by rw[alh aa,F7 aa]
  rw[bf,br,b1,ht];simp
 simp;exact⟨2,rfl,by rw[b8];rfl⟩
end
end
section
attribute[local simp] K.ab BE.ab RE.rv RE.ab gm ai.rv ai.ext ai.add C.xv uz F1 F2 F3 zP zQ LE.ae mY jL
attribute[local congr] F0
section
variable{d:kJ}{e g l t N:Nat}{o:bB}{f:RE->K->am}
def aks(ba:Bt d f)(O:kW o.lt (λW=>o.ok W=J)){G:mU}{m b lo hi:Nat}(bs:Y Q=X)(hn:X<=1099511627776)(hT:∀W∈Q,iN d W)(ag:∀W∈Q,o.ok W=J)
  (bt:n<m)(bx:m<b)(hb:b<=Y Q)(hN:b-n<N+1)(b0:2<=b-n)(sA:gg o.lt (aR Q n m))(sB:gg o.lt (aR Q m b))(bb:F=Q.take n++(bK o.lt (aR Q n b)++Q.drop b))
  (l1:n<=lo)(l2:lo<=hi)(l3:hi<=m)(l4:hi<=(n+b)/2)(l5:(n+b)/2+m<=lo+b)(l6:lo=n\/lo+b=(n+b)/2+m)(l7:hi=m\/hi=(n+b)/2)
  {ks:aI}(bc:c.map (C.xv ⟨[(n:Int),m,b],[],[.mk (.slice G X x) Q],[]⟩)=[.r (.mk (.slice G X x) Q),.i lo,.i hi]):
  T.hw ⟨d,g,o,e,.slice G X x,F⟩ (.loop 0 ks c (.aS (.cmp .lss (.v 3) (.v 4)) (S3 g f) (Nk e g l t N o))) ⟨[(n:Int),m,b],[],[.mk (.slice G X x) Q],[]⟩ []:=by
 have al:∀k,k<Y Q->cu Q k∈Q:=λk D=>iU (getD_some D)
 have an:∀k,k<Y Q->iN d (cu Q k):=λk D=>hT _ (al k D)
 have R:∀k,k<Y Q->o.ok (cu Q k)=true:=λk D=>ag _ (al k D)
 have w:=Nq (i:=n) (j:=b) aa;have b1:n<(n+b)/2/\(n+b)/2<b:=aa;generalize b2:(n+b)/2=P at*;have u:∀i j,n<=i->i<=j->j<m->o.lt (cu Q j) (cu Q i)=false:=λi j M B A=>by
  by_cases h:i=j;subst h;exact O.Qc _ (R i aa);exact H4 (show m<=Y Q from aa) sA M aa A
 have p:∀i j,m<=i->i<=j->j<b->o.lt (cu Q j) (cu Q i)=false:=λi j M B A=>by
  by_cases h:i=j;subst h;exact O.Qc _ (R i aa);exact H4 hb sB M aa A
 refine vS (λxs=>∃(s r:Nat),xs=[.r (.mk (.slice G X x) Q),.i s,.i r]/\lo<=s/\s<=r/\r<=hi/\(∀V,lo<=V->V<s->o.lt (cu Q (P+m-1-V)) (cu Q V)=E)/\∀V,r<=V->V<hi->o.lt (cu Q (P+m-1-V)) (cu Q V)=J) (λxs=>match xs with|[_,.i i,.i j]=>j.toNat-i.toNat|_=>0) ⟨lo,hi,bc,aa,l2,aa,aa,aa⟩ ?_;rintro _ ⟨s,r,rfl,b3,b4,bd,a0,a1⟩;by_cases bf:s<r;have z:=Nq (i:=s) (j:=r) aa;have bg:s<=(s+r)/2:=aa;have bk:(s+r)/2<r:=aa;generalize hq:(s+r)/2=q at z bg bk;have a3:=xO (a:=P) (b:=m) aa;have a4:=S7 (a:=P+m) aa aa;have a9:=vT (a:=P+m-1) (b:=q) aa aa;unfold S3;simp[bf,z,lenOf,w];rw[a3,a4,a9];refine⟨aa,aa, ?_⟩;refine S8 ba rfl (cu Q (P+m-1-q)) (cu Q q) ?_ ?_ (an _ aa) (an q aa) (R _ aa) (R q aa) (λV hc=> ?_);simp[z,w];rw[a3,a4,a9];exact getD_some aa;simp[z];exact getD_some aa;simp[z];refine rH (λb5=> ?_) (λb6=> ?_);rw[Bu aa];have af:o.lt (cu Q (P+m-1-q)) (cu Q q)=false:=by
  cases h:o.lt (cu Q (P+m-1-q)) (cu Q q);rfl;have:=hc.2 h;omega
 refine⟨⟨q+1,r,rfl,aa,aa,bd,λk M B=> ?_,a1⟩, ?_⟩;have L:=u k q aa aa aa;have H:=p (P+m-1-q) (P+m-1-k) aa aa aa;have t3:=O.nt _ _ _ (R _ aa) (R _ aa) (R q aa) H af;exact O.nt _ _ _ (R _ aa) (R q aa) (R k aa) t3 L;show(r:Int).toNat-((q+1:Nat):Int).toNat<r-s;omega;have af:o.lt (cu Q (P+m-1-q)) (cu Q q)=true:=hc.1 aa;refine⟨⟨s,q,rfl,aa,aa,aa,a0,λk M B=> ?_⟩, ?_⟩;cases h:o.lt (cu Q (P+m-1-k)) (cu Q k);have L:=u q k aa aa aa;have H:=p (P+m-1-k) (P+m-1-q) aa aa aa;have t3:=O.nt _ _ _ (R _ aa) (R _ aa) (R k aa) H h;have y:=O.nt _ _ _ (R _ aa) (R k aa) (R q aa) t3 L;rw[af] at y;cases y;rfl;show((q:Nat):Int).toNat-(s:Int).toNat<r-s;omega;have bl:s=r:=aa;subst bl;simp;refine ati O (a:=n) (m:=m) (b:=b) (s:=s) (mid:=P) (e1:=P+m-s) ⟨rfl,rfl,rfl,rfl, ?_, ?_⟩ rfl rfl aa aa aa aa hb aa aa aa aa aa ag sA sB (λi j M B A h4=> ?_) (λi j M B A h4=> ?_) bb;simp[w];simp[w];rw[xO aa,vT aa aa];have br:lo<s:=by
  rcases l6 with h|h<;>omega
 have t0:=a0 (s-1) aa aa;rw[show P+m-1-(s-1)=P+m-s from aa] at t0;have L:=u i (s-1) aa aa aa;have H:=p (P+m-s) j aa aa aa;have t3:=O.nt _ _ _ (R j aa) (R _ aa) (R (s-1) aa) H t0;exact O.nt _ _ _ (R j aa) (R (s-1) aa) (R i aa) t3 L;have br:s<hi:=by
  rcases l7 with h|h<;>omega
 have t0:=a1 s aa aa;cases h:o.lt (cu Q j) (cu Q i);have L:=u s i aa aa aa;have H:=p j (P+m-1-s) aa aa aa;have t3:=O.nt _ _ _ (R _ aa) (R j aa) (R i aa) H h;have y:=O.nt _ _ _ (R _ aa) (R i aa) (R s aa) t3 L;rw[t0] at y;cases y;exact h
def atm{a m b:Int}:mb (X+4) A [a,m,b] Q=if decide (0<=a)&&decide (a<m)&&decide (m<b)&&decide (b<=Y Q)&&decide (b-a<((X+1:Nat):Int))&&Q.all A.ok&&uX A.lt (aR Q a.toNat m.toNat)&&uX A.lt (aR Q m.toNat b.toNat) then U (Q.take a.toNat++(bK A.lt (aR Q a.toNat b.toNat)++Q.drop b.toNat)) else none:=rfl
def akt(W:Bt d f)(V:kW o.lt (λx=>o.ok x=J)):Nj d e g o (N+4) 3 (S4 e g l t N o f):=by
 rintro p _ A az ns z y ⟨w,n,v,rfl,R,Q⟩ P u D s;obtain⟨a,m,b,rfl⟩:=zR u;obtain⟨_,X⟩:=yH D;clear D;rw[atm] at X;split at X;rename_i B;simp only[aw,bZ,eO,afG] at B;obtain⟨⟨⟨⟨⟨⟨⟨r,af⟩,ag⟩,al⟩,an⟩,O⟩,M⟩,L⟩:=B;obtain⟨a,rfl⟩:=xP r;obtain⟨m,rfl⟩:=xP (a:=m) aa;obtain⟨b,rfl⟩:=xP (a:=b) aa;simp only[cg,DC] at X M L;have H:b<=Y A:=aa;refine vR ⟨d,g,o,e,.slice w n v,az⟩ (z▸y) s _ _ _ ?_;unfold S4;have F:=Nq (i:=a) (j:=b) aa;obtain⟨G,q⟩:∃G,G=(a+b)/2:=⟨_,rfl⟩;rw[<-q] at F;simp[vT (a:=m) (b:=a) aa aa,vT (a:=b) (b:=m) aa aa,F];refine rH (λk=> ?_) (λk=>rH (λh=> ?_) (λh=>rH (λc=> ?_) (λc=> ?_)));exact atk W V R Q P O aa aa H L X.symm;exact atl W V R Q P O aa aa H M X.symm;refine aks W V R Q P O (lo:=G+m-b) (hi:=G) aa aa H aa aa M L X.symm aa aa aa aa aa aa aa ?_;simp[F];rw[xO aa,vT aa aa];refine aks W V R Q P O (lo:=a) (hi:=m) aa aa H aa aa M L X.symm aa aa aa aa aa aa aa ?_;simp;cases X
end
end
section
attribute[local simp] K.ab BE.ab RE.rv RE.ab gm ai.rv ai.ext ai.add C.xv uz F1 F2 F3 zP zQ LE.ae mY jL
attribute[local congr] F0
section
variable{lt:aC->aC->Bool}
inductive jU(lt:List RV->List RV->Bool)(s:Nat):List (List RV)->List (List RV)->Prop
 |nil:jU lt s [] []
 |last (X:List (List RV)):1<=Y X->Y X<=s->jU lt s X (bK lt X)
 |cons (X R R':List (List RV)):Y X=s->jU lt s R R'->jU lt s (X++R) (bK lt X++R')
inductive uA(lt:List RV->List RV->Bool)(s:Nat):List (List RV)->List (List RV)->Prop
 |nil:uA lt s [] []
 |snoc (A A' X:List (List RV)):Y X=s->uA lt s A A'->uA lt s (A++X) (A'++bK lt X)
def uA.jW(h:uA lt X Q F):∀{R V:aq},jU lt X R V->jU lt X (Q++R) (F++V):=by
 induction h with
 |nil=>intro R V P;exact P
 |snoc Q F W O _ N=>
  intro R V P;have:=N (.cons W R V O P);simpa using this
def uA.len(h:uA lt X Q F):Y F=Y Q:=by
 induction h with
 |nil=>rfl
 |snoc Q F W R _ V=>simp[V,oI]
def jU.len(h:jU lt X Q F):Y F=Y Q:=by
 induction h with
 |nil=>rfl
 |last W _ _=>simp[oI]
 |cons W R P O _ V=>simp[V,oI]
def uA.mem(h:uA lt X Q F):∀x∈F,x∈Q:=by
 induction h with
 |nil=>simp
 |snoc Q F W V _ R=>
  intro x V;rcases eC.1 V with h|h;simp[R x h];simp[ET h]
def jU.mem(h:jU lt X Q F):∀x∈F,x∈Q:=by
 induction h with
 |nil=>simp
 |last W _ _=>intro x V;exact ET V
 |cons W R O V _ P=>
  intro x V;rcases eC.1 V with h|h;simp[ET h];simp[P x h]
def jU.two(D:1<=X)(h:jU lt X Q F)(N:2*X<=Y Q):∃W V P O,Q=W++(V++P)/\F=bK lt W++(bK lt V++O)/\Y W=X/\Y V=X/\jU lt X P O:=by
 cases h with
 |nil=>simp at N;omega
 |last _ L H=>omega
 |cons W Q F M h=>
  simp only[fQ] at N;cases h with
  |nil=>simp at N;omega
  |last _ L H=>exact⟨W,Q,[],[],au,au,M,aa,.nil⟩
  |cons V P O G h=>exact⟨W,V,P,O,rfl,rfl,M,G,h⟩
def jU.one(h:jU lt X Q F)(O:X<Y Q)(N:Y Q<2*X):∃W V,Q=W++V/\F=bK lt W++bK lt V/\Y W=X:=by
 cases h with
 |nil=>simp at O
 |last _ O N=>omega
 |cons W Q F M h=>
  simp only[fQ] at O N;cases h with
  |nil=>simp at O;omega
  |last _ O N=>exact⟨W,Q,rfl,rfl,M⟩
  |cons V P L H h=>simp only[fQ] at N;omega
def jU.short(h:jU lt X Q F)(O:Y Q<=X):F=bK lt Q:=by
 cases h with
 |nil=>rfl
 |last _ M L=>rfl
 |cons W Q F H h=>
  simp only[fQ] at O;have V:Q=[]:=qG aa;have P:=h.len;rw[V] at P;have N:F=[]:=qG (by simpa using P);rw[V,N];simp
def jU.aab(W:Y Q<=X):jU lt X Q (bK lt Q):=by
 cases Q with
 |nil=>exact .nil
 |cons x r=>exact .last _ au W
end
def aku{o:bB}{P X Q:aq}{a b:Int}(W:a=Y P)(V:b=Y P+Y X)(R:(P++(X++Q)).length<=1099511627776)(O:∀z∈P++(X++Q),o.ok z=J):
  nW 2 o [a,b] (P++(X++Q))=U (P++(bK o.lt X++Q)):=by
 subst W;subst V;unfold nW;rw[aE R];simp only[mb];have N:((Y P:Int)).toNat=Y P:=rfl;have M:((Y P:Int)+Y X).toNat=Y P+Y X:=aa;rw[N,M];have L:(P++(X++Q)).take (Y P)=P:=au;have H:aR (P++(X++Q)) (Y P) (Y P+Y X)=X:=Nn P X _;have G:(P++(X++Q)).drop (Y P+Y X)=Q:=by
  have:P++(X++Q)=(P++X)++Q:=au;rw[this,Tu au]
 rw[L,H,G,aE];simp only[aw,bZ,eO,fQ];exact⟨⟨⟨aa,aa⟩,aa⟩,O⟩
section
variable{d:kJ}{e g j f:Nat}{o:bB}
def akv(c:kW o.lt (λx=>o.ok x=J)):SX d e g o (λns H=>if ns=[]/\H.length<X then io o J H else Z) 0 (S5 e g j f X o):=by
 rintro p _ H az ns hP b0 ⟨D,n,B,rfl,bl,hn⟩ hT hN y b1;simp only at y;split at y;rename_i G;obtain⟨rfl,cc⟩:=G;have cf:=U9 y;have b2:(∀x∈H,o.ok x=J)/\az=bK o.lt H:=by
  cases o with
  |da k o zs=>simp[io] at y
  |_=>
   simp only[io] at y;split at y;rename_i hq;simp only[aw,eO] at hq;exact⟨hq.2.1,(lf y).symm⟩;cases y
 obtain⟨a3,b3⟩:=b2;clear y;refine vR ⟨d,g,o,e,.slice D n B,az⟩ (hP▸b0) b1 _ _ _ ?_;unfold S5;refine vS (λM=>∃(A O R:aq),M=[.r (.mk (.slice D n B) (O++R)),.i ((A.length+20:Nat):Int),.i A.length]/\H=A++R/\uA o.lt 20 A O) (λM=>match M with|[_,_,.i a]=>n-a.toNat|_=>0) ⟨[],[],H,au,rfl,.nil⟩ ?_;rintro _ ⟨A,O,R,rfl,F,v⟩;have b4:=v.len;have a4:A.length+R.length=n:=by rw[<-bl,F];simp
 have ag:∀z∈O++R,o.ok z=true:=λz L=>a3 z (by
  rw[F];rcases eC.1 L with h|h;simp[v.mem z h];simp[h])
 by_cases b5:A.length+20<=n;obtain⟨W,R2,rfl,l⟩:∃W R2,R=W++R2/\W.length=20:=⟨R.take 20,R.drop 20,(JD _ _).symm,dG⟩;have af:=aku (o:=o) (P:=O) (X:=W) (Q:=R2) (a:=A.length) (b:=((A.length+20:Nat):Int)) aa aa (by simp at a4⊢;omega) ag;have G:((A.length+20:Nat):Int)<=n:=aa;have a9:=xO (a:=A.length+20) (b:=20) aa;have al:FZ (U ⟨0,λM=>∃(A O R:aq),M=[.r (.mk (.slice D n B) (O++R)),.i ((A.length+20:Nat):Int),.i A.length]/\H=A++R/\uA o.lt 20 A O,λM=>match M with|[_,_,.i a]=>n-a.toNat|_=>0,n-A.length⟩) [.r (.mk (.slice D n B) (O++(bK o.lt W++R2))),.i (bH .add I ((A.length+20:Nat):Int) 20),.i ((A.length+20:Nat):Int)]:=by
  refine⟨⟨A++W,O++bK o.lt W,R2, ?_,by rw[F];simp,.snoc A O W l v⟩, ?_⟩;rw[show((20:Int))=((20:Nat):Int) from rfl,a9];simp[l];show n-((A.length+20:Nat):Int).toNat<n-A.length;omega
 generalize L:((A.length+20:Nat):Int)=z at af G al⊢;simp[lenOf,G];exact⟨_,af,al⟩;have G:¬((A.length+20:Nat):Int)<=n:=aa;have af:=aku (o:=o) (P:=O) (X:=R) (Q:=[]) (a:=A.length) (b:=n) aa aa dG (by simpa using ag);simp only[Gc] at af;generalize L:((A.length+20:Nat):Int)=z at G⊢;have hB:jU o.lt 20 H (O++bK o.lt R):=by rw[F];exact v.jW (.aab aa)
 simp[lenOf,G];refine⟨_,af, ?_⟩;clear af;generalize ch:O++bK o.lt R=b6 at hB⊢;have cl:∀{u:aq}{s:Nat},jU o.lt s H u->∀z∈u,o.ok z=true:=λh z L=>a3 z (h.mem z L)
 refine vS (λM=>∃(s:Nat)(u:aq),M=[.r (.mk (.slice D n B) u),.i s]/\20<=s/\s<=2*1099511627776/\jU o.lt s H u) (λM=>match M with|[_,.i s]=>4398046511104-s.toNat|_=>0) ⟨20,b6,rfl,aa,aa,hB⟩ ?_;rintro _ ⟨s,u,rfl,cn,co,br⟩;by_cases bs:s<n;have bc:bH .mul I 2 (s:Int)=((2*s:Nat):Int):=by simp only[bH];rw[Nl aa aa];omega
 have bd:bH .mul I (s:Int) 2=((2*s:Nat):Int):=by simp only[bH];rw[Nl aa aa];omega
 have bf:∀ba,jU o.lt (2*s) H ba->FZ (U ⟨1,λM=>∃(s:Nat)(u:aq),M=[.r (.mk (.slice D n B) u),.i s]/\20<=s/\s<=2*1099511627776/\jU o.lt s H u,λM=>match M with|[_,.i s]=>4398046511104-s.toNat|_=>0,4398046511104-s⟩) [.r (.mk (.slice D n B) ba),.i ((2*s:Nat):Int)]:=λba h'=>⟨⟨2*s,ba,rfl,aa,aa,h'⟩,show 4398046511104-((2*s:Nat):Int).toNat<4398046511104-s from aa⟩
 generalize bt:((2*s:Nat):Int)=w at bc bd bf;simp[bs,lenOf];refine vS (λM=>∃(A O R t:aq),M=[.r (.mk (.slice D n B) (O++t)),.i ((A.length+2*s:Nat):Int),.i A.length]/\H=A++R/\uA o.lt (2*s) A O/\jU o.lt s R t) (λM=>match M with|[_,_,.i a]=>n-a.toNat|_=>0) ⟨[],[],H,u,by simp[bc,<-bt],rfl,.nil,br⟩ ?_;rintro _ ⟨A,O,R,t,rfl,F,v,hR⟩;have b4:=v.len;have bx:=hR.len;have a4:A.length+R.length=n:=by rw[<-bl,F];simp
 have ag:∀z∈O++t,o.ok z=true:=λz L=>a3 z (by
  rw[F];rcases eC.1 L with h|h;simp[v.mem z h];simp[hR.mem z h])
 have bb:∀z∈R,o.ok z=true:=λz L=>a3 z (by rw[F];simp[L])
 have has:=xO (a:=A.length) (b:=s) aa;by_cases b5:A.length+2*s<=n;obtain⟨W,V,Q,Q',rfl,rfl,l,hy,hq⟩:=hR.two aa aa;have b7:(bK o.lt W).length=s:=by rw[oI,l]
 have b8:(bK o.lt V).length=s:=by rw[oI,hy]
 have an:∀z∈W,o.ok z=true:=λz L=>bb z (by simp[L])
 have a0:∀z∈V,o.ok z=true:=λz L=>bb z (by simp[L])
 have q:=S9 (o:=o) (N:=X) (P:=O) (X:=bK o.lt W) (Y:=bK o.lt V) (Q:=Q') (a:=A.length) (m:=((A.length+s:Nat):Int)) (b:=((A.length+2*s:Nat):Int)) aa aa aa aa aa aa (by simp only[fQ] at bx a4⊢;omega) ag (ES c an) (ES c a0);rw[afC c an a0] at q;have G:((A.length+2*s:Nat):Int)<=n:=aa;have a9:=xO (a:=A.length+2*s) (b:=2*s) aa;rw[bt] at a9;have al:FZ (U ⟨2,λM=>∃(A O R t:aq),M=[.r (.mk (.slice D n B) (O++t)),.i ((A.length+2*s:Nat):Int),.i A.length]/\H=A++R/\uA o.lt (2*s) A O/\jU o.lt s R t,λM=>match M with|[_,_,.i a]=>n-a.toNat|_=>0,n-A.length⟩) [.r (.mk (.slice D n B) (O++(bK o.lt (W++V)++Q'))),.i (bH .add I ((A.length+2*s:Nat):Int) w),.i ((A.length+2*s:Nat):Int)]:=by
  refine⟨⟨A++(W++V),O++bK o.lt (W++V),Q,Q', ?_,by rw[F];simp,.snoc A O (W++V) dG v,hq⟩, ?_⟩;rw[a9];simp[l,hy];omega;show n-((A.length+2*s:Nat):Int).toNat<n-A.length;omega
 generalize L:((A.length+2*s:Nat):Int)=z at q G al⊢;simp[lenOf,G,bc,has];exact⟨_,by simpa using q,al⟩;have G:¬((A.length+2*s:Nat):Int)<=n:=aa;generalize L:((A.length+2*s:Nat):Int)=z at G⊢;by_cases cp:A.length+s<n;obtain⟨W,V,rfl,rfl,l⟩:=hR.one aa aa;simp only[fQ] at a4 bx;have b7:(bK o.lt W).length=s:=by rw[oI,l]
 have b8:(bK o.lt V).length=V.length:=oI;have an:∀z∈W,o.ok z=true:=λz L=>bb z (by simp[L])
 have a0:∀z∈V,o.ok z=true:=λz L=>bb z (by simp[L])
 have q:=S9 (o:=o) (N:=X) (P:=O) (X:=bK o.lt W) (Y:=bK o.lt V) (Q:=[]) (a:=A.length) (m:=((A.length+s:Nat):Int)) (b:=n) aa aa aa aa aa aa (by simp only[fQ,NP];omega) (by simpa using ag) (ES c an) (ES c a0);rw[afC c an a0] at q;simp only[Gc] at q;have a1:((A.length+s:Nat):Int)<n:=aa;have bg:jU o.lt (2*s) H (O++bK o.lt (W++V)):=by rw[F];exact v.jW (.aab dG)
 generalize ca:((A.length+s:Nat):Int)=z3 at has q a1;simp[lenOf,G,has,a1,bd];exact⟨_,q,bf _ bg⟩;have a1:¬((A.length+s:Nat):Int)<n:=aa;have bk:=hR.short aa;have bg:jU o.lt (2*s) H (O++t):=by rw[F,bk];exact v.jW (.aab aa)
 generalize ca:((A.length+s:Nat):Int)=z3 at has a1;simp[lenOf,G,has,a1,bd];exact bf _ bg;have bk:=br.short aa;simp[bs,lenOf];exact⟨3,rfl,by rw[bk,b3];rfl⟩;cases y
end
end
