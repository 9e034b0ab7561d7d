/- Part 9 of the proof. -/
import Derived.Test.YtejplpmpldcmlaaGreatDoorQ4
import Derived.Test.YtejplpmpldcmlaaGreatDoorProg
import Derived.ChangeKeysEq
import Derived.Laws.StructEq
import Derived.KernelRfl
import Derived.LoopTactic
import Derived.Lib.Hide
import Derived.Outline
import Derived.OwnWalk
import Derived.RegionTactic
import Derived.BigQuiet
import Derived.Deep.QuietTactic
import Derived.WalkSpells
import Derived.WalkLawsBesides
import Derived.WalkSmall
import Derived.Deep.RegionWith
set_option linter.all false
set_option maxRecDepth 100000
set_option maxHeartbeats 100000000
open Bool renaming and_eq_true->aw,not_eq_true'->ik,false_eq_true->jp,or_eq_true->jy,and_assoc->avi,true->J,false->E
open Nat renaming le_refl->b9,le_trans->pw,add_zero->zl,min_eq_left->Hd,zero_le->Hh,lt_of_lt_of_le->Zn,min_eq_right->Zt,sub_self->Zz,add_sub_cancel_left->aiK,mul_one->ai6
open List renaming getElem?_eq_some_iff->ck,getD_eq_getElem?_getD->cz,getElem?_eq_getElem->cS,getElem?_append_left->dH,mem_cons->dP,map_cons->dU,getElem?_map->dW,cons_append->ez,replicate->eN,mem_append->eV,nil_append->eW,all_eq_true->fO,length_append->gc,mem_map->iq,getElem?_append_right->iE,mem_of_getElem?->jI,ext_getElem?->kG,length_cons->lH,getElem?_take->nj,pairwise_append->nU,map_map->ov,length_eq_one_iff->oR,getElem_mem->ql,map_nil->qn,length_map->qX,eq_nil_of_length_eq_zero->tw,getElem?_of_mem->tB,getElem?_drop->uC,getElem?_set->v6,nodup_append->xF,range'->xJ,getElem?_cons_zero->A4,append_assoc->A6,map->A8,drop_eq_getElem_cons->CU,getElem?_eq_none_iff->CV,length_eq_zero_iff->CW,mem_of_mem_drop->CY,length_drop->C1,mem_or_eq_of_mem_set->EU,mem_of_mem_take->EW,length_take->EY,length_nil->E0,take_of_length_le->G5,getD_cons_zero->G7,take_append_drop->J0,append_nil->J3,getD_cons_succ->N3,drop_drop->N6,all_map->N9,range_eq_range'->SJ,set_append_right->Zk,range'_succ->Zr,drop_left'->Zu,getElem?_modify->aiO,take_append_of_le_length->auS,take_add_one->au8,set_cons_zero->aIA,length->Y
open Go.Result renaming andThen_ok->dv
open Go.Sem renaming run_bind->dA,run_pure->fq
open Option renaming isSome_iff_exists->ln,map_eq_some_iff->SH,some->U,none->Z
open Go.Op renaming equalIn->C3,equal->E3,eqFields->avr
open Array renaming ext'->nq,getElem?_modify->SI,getElem?_eq_none->aIk
open Go.World renaming cell?->ow,setCell->Zw,size_alloc->aiW
open Int renaming toNat_natCast->v7,fdiv_eq_ediv_of_nonneg->aIc
open List.cons renaming injEq->xH
open Go.IntKind renaming i64->I
namespace Go.Proofs.YtejplpmpldcmlaaGreatDoor.Y
open Go.RowKit
noncomputable section
variable{R:TypeId}{X w n:Nat}{v:Bool}{y:bz}{u:Func}{x:Code}{A:List (Nat×Nat×fH)}{t:T}{F:FuncId}{H:World}
def vT:Option TypeDesc->Bool
 |U (.struct _)|U (.array _ _)=>J
 |_=>E
def xx(P:Program)(t:TypeId)(X:gt):Value:=if vT (P.underlying t) then .agg X.toArray else X.getD 0 undef
def Se(P:Program)(iw:TypeId->fj->Bool):Nat->List Field->fj->Bool
 |_,[],aj=>aj.isEmpty
 |X,f::W,aj=>f.name != "_"&&f.offset==X&&(P.info? f.type).isSome&&decide (P.cellsOf f.type<=Y aj)&&iw f.type (aj.take (P.cellsOf f.type))&&Se P iw (X+P.cellsOf f.type) W (aj.drop (P.cellsOf f.type))
def Sf(iw:fj->Bool)(c:Nat):Nat->fj->Bool
 |0,aj=>aj.isEmpty
 |n+1,aj=>decide (c<=Y aj)&&iw (aj.take c)&&Sf iw c n (aj.drop c)
def vU(P:Program):Nat->TypeId->fj->Bool
 |0,_,_=>E
 |d+1,t,aj=>match P.underlying t with
  |U .bool=>(match aj with
   |[.bool]=>J
   |_=>E)
  |U (.int k)=>(match aj with
   |[.int X]=>decide (k=X)
   |_=>E)
  |U .string=>(match aj with
   |[.ae _ .str]=>J
   |_=>E)
  |U (.struct W)=> !P.stoodInHeld t&&Se P (vU P d) 0 W.toList aj
  |U (.array n e)=>(P.info? e).isSome&&Sf (vU P d e) (P.cellsOf e) n aj
  |_=>E
def xz:∀{X:fj}{W:gt},lw X W->Y W=Y X
 |[],[],_=>rfl
 |[],_::_,h=>h.elim
 |_::_,[],h=>h.elim
 |_::_,_::_,h=>by simp[xz h.2]
def ah0:∀{X:fj}{W:gt}(n:Nat),lw X W->lw (X.take n) (W.take n)/\lw (X.drop n) (W.drop n)
 |[],[],n,_=>by simp[lw]
 |[],_::_,n,h=>h.elim
 |_::_,[],n,h=>h.elim
 |_::_,_::_,0,h=>⟨trivial,h⟩
 |_::_,_::_,n+1,h=>by
  obtain⟨a,b⟩:=ah0 n h.2;exact⟨⟨h.1,a⟩,b⟩
def att:∀{X W:gt}{r:Bool}(n:Nat),km X W=U r->∃a b,km (X.take n) (W.take n)=U a/\km (X.drop n) (W.drop n)=U b/\r=(a&&b)
 |[],[],r,n,h=>by simp[km] at h;subst h;exact⟨J,J,by simp[km],by simp[km],rfl⟩
 |[],_::_,r,n,h=>by simp[km] at h
 |_::_,[],r,n,h=>by simp[km] at h
 |x::X,y::W,r,0,h=>⟨J,r,rfl,h,av⟩
 |x::X,y::W,r,n+1,h=>by
  simp only[km] at h;split at h;rename_i a b V R;cases h;obtain⟨c,d,Q,O,rfl⟩:=att n R;exact⟨a&&c,d,by simp[km,V,Q],by simpa using O,by simp[avi]⟩;cases h
section
variable{P:Program}
def atu(w:World){i:TypeInfo}(M:P.info? R=U i){W:gt}(h:vT (P.underlying R)=J\/X<Y W/\P.cellsOf R=1)(L:(P.underlying R).isSome=J):(part R W.toArray X).run P w=.ok (xx P R ((W.drop X).take (P.cellsOf R))) w:=by
 obtain⟨d,Q⟩:=ln.1 L;unfold xx;by_cases V:vT (P.underlying R)=J;rw[aJ V];have:(W.toArray.extract X (X+P.cellsOf R))=((W.drop X).take (P.cellsOf R)).toArray:=by
  apply nq;simp[List.extract]
 rw[Q] at V;unfold vT at V;split at V;rename_i O;cases O;simp[part,isAgg,run_underlying Q,run_sizeOf w M];rename_i O;cases O;simp[part,isAgg,run_underlying Q,run_sizeOf w M];cases V;rw[aQ V];obtain⟨N,H⟩:=h.resolve_left V;have F:W.toArray[X]?=U W[X]:=by simp[N]
 have G:((W.drop X).take (P.cellsOf R)).getD 0 undef=W[X]:=by rw[H];simp[cz,N]
 rw[G];rw[Q] at V;cases d<;>first|(exact aZ rfl V)|simp[part,isAgg,run_underlying Q,N]
def aDe{aj:fj}(h:vU P X R aj=J):(P.underlying R).isSome=J/\(vT (P.underlying R)=J\/Y aj=1):=by
 cases X with
 |zero=>simp[vU] at h
 |succ X=>
  simp only[vU] at h;split at h;rename_i W;rw[W];split at h;exact⟨rfl,.inr rfl⟩;cases h;rename_i W;rw[W];split at h;exact⟨rfl,.inr rfl⟩;cases h;rename_i W;rw[W];split at h;exact⟨rfl,.inr rfl⟩;cases h;rename_i W;rw[W];exact⟨rfl,.inl rfl⟩;rename_i W;rw[W];exact⟨rfl,.inl rfl⟩;cases h
def YU(P:Program)(V m:Nat):Prop:=∀(t:TypeId)(aj:fj)(X W:gt)(r:Bool)(w:World),vU P m t aj=J->lw aj X->lw aj W->km X W=U r->(C3 V t (xx P t X) (xx P t W)).run P w=.ok r w
def atv(y:YU P X w)(W:World){aj:fj}{V Q:gt}(M:(P.info? R).isSome=J)(j:P.cellsOf R<=Y aj)(G:vU P w R (aj.take (P.cellsOf R))=J)
  (F:lw aj (V.drop n))(D:lw aj (Q.drop n))(x:km (V.drop n) (Q.drop n)=U v):
  ∃a b q L,(part R V.toArray n).run P W=.ok a W/\(part R Q.toArray n).run P W=.ok b W/\(C3 X R a b).run P W=.ok q W/\km (V.drop (n+P.cellsOf R)) (Q.drop (n+P.cellsOf R))=U L/\v=(q&&L)/\
   lw (aj.drop (P.cellsOf R)) (V.drop (n+P.cellsOf R))/\lw (aj.drop (P.cellsOf R)) (Q.drop (n+P.cellsOf R)):=by
 obtain⟨i,M⟩:=ln.1 M;obtain⟨B,N⟩:=aDe G;obtain⟨u,a2⟩:=ah0 (P.cellsOf R) F;obtain⟨t,A⟩:=ah0 (P.cellsOf R) D;obtain⟨q,L,s,H,p⟩:=att (P.cellsOf R) x;have o:=xz F;have l:=xz D;have z:∀O:gt,(O.drop n).length=Y aj->vT (P.underlying R)=J\/n<Y O/\P.cellsOf R=1:=by
  intro O k;rcases N with N|N;exact .inl N;right;simp only[EY,C1] at N k;omega
 rw[N6] at a2 A H;exact⟨_,_,q,L,atu W M (z V o) B,atu W M (z Q l) B,y R _ _ _ q W G u t s,by rw[<-N6] at H⊢;simpa using H,p,a2,A⟩
def atw{L m:Nat}(H:YU P L m)(X W:gt):∀(O:List Field)(V:Nat)(aj:fj)(r:Bool)(w:World),Se P (vU P m) V O aj=J->lw aj (X.drop V)->lw aj (W.drop V)->km (X.drop V) (W.drop V)=U r->
  (avr L X.toArray W.toArray O).run P w=.ok r w
 |[],V,aj,r,w,R,N,M,Q=>by
  simp only[Se,List.isEmpty_iff] at R;subst R;have:=xz N;have:=xz M;rw[CW.1 ‹(X.drop V).length=_›,CW.1 ‹(W.drop V).length=_›] at Q;simp[km] at Q;subst Q;simp[avr]
 |f::O,V,aj,r,w,R,N,M,Q=>by
  simp only[Se,aw,bne_iff_ne,dE,cm] at R;obtain⟨⟨⟨⟨⟨G,F⟩,D⟩,B⟩,A⟩,z⟩:=R;obtain⟨a,b,q,y,x,v,u,t,rfl,s,p⟩:=atv H w D B A N M Q;have o:=atw H X W O _ _ y w z s p t;simp only[avr,G,ne_eq,not_false_eq_true,cN,dA,F,x,v,u,dv];cases q;simp;simpa using o
def atx{N m:Nat}(M:YU P N m){e:TypeId}(L:(P.info? e).isSome=J)(X W:gt):∀(n j:Nat)(aj:fj)(r:Bool)(w:World),Sf (vU P m e) (P.cellsOf e) n aj=J->lw aj (X.drop (j*P.cellsOf e))->lw aj (W.drop (j*P.cellsOf e))->km (X.drop (j*P.cellsOf e)) (W.drop (j*P.cellsOf e))=U r->
  (Op.eqItems N e (P.cellsOf e) X.toArray W.toArray (xJ j n)).run P w=.ok r w
 |0,j,aj,r,w,V,Q,O,R=>by
  simp only[Sf,List.isEmpty_iff] at V;subst V;have:=xz Q;have:=xz O;rw[CW.1 ‹(X.drop _).length=_›,CW.1 ‹(W.drop _).length=_›] at R;simp[km] at R;subst R;simp[Op.eqItems]
 |n+1,j,aj,r,w,V,Q,O,R=>by
  simp only[Sf,aw,cm] at V;obtain⟨⟨D,B⟩,A⟩:=V;obtain⟨a,b,q,z,y,x,v,H,rfl,G,F⟩:=atv M w L D B Q O R;have u:j*P.cellsOf e+P.cellsOf e=(j+1)*P.cellsOf e:=by rw[Nat.succ_mul]
  rw[u] at H G F;have t:=atx M L X W n (j+1) _ z w A G F H;rw[Zr];simp only[Op.eqItems,dA,y,x,v,dv];cases q;simp;simpa using t
def ah1(d:Nat):∀m,YU P (d+m) m
 |0=>λt aj H G r w h=>by simp[vU] at h
 |m+1=>by
  intro t aj H G r w X V R Q;have F:=ah1 d m;simp only[vU] at X;split at X;rename_i W;split at X;obtain⟨x,rfl⟩:=oR.1 (xz V);obtain⟨y,rfl⟩:=oR.1 (xz R);have N:=V.1;have M:=R.1;cases x<;>simp only[Dr] at N;cases y<;>simp only[Dr] at M;simp[km,Dq] at Q;subst Q;simp[xx,W,vT,C3,run_underlying W];cases X;rename_i k W;split at X;obtain⟨x,rfl⟩:=oR.1 (xz V);obtain⟨y,rfl⟩:=oR.1 (xz R);have N:=V.1;have M:=R.1;cases x<;>simp only[Dr] at N;cases y<;>simp only[Dr] at M;subst N M;simp[km,Dq] at Q;subst Q;simp[xx,W,vT,C3,run_underlying W];cases X;rename_i W;split at X;obtain⟨x,rfl⟩:=oR.1 (xz V);obtain⟨y,rfl⟩:=oR.1 (xz R);have N:=V.1;have M:=R.1;cases x<;>simp only[Dr] at N;cases y<;>simp only[Dr] at M;simp[km,Dq] at Q;subst Q;simp[xx,W,vT,C3,run_underlying W,beq_toListBytes];cases X;rename_i D W;simp only[aw,ik] at X;have B:P.fieldsOf t=D:=by simp[Program.fieldsOf,W]
  have L:∀O:gt,xx P t O=.agg O.toArray:=λO=>by simp[xx,W,vT]
  rw[L,L,show d+(m+1)=(d+m)+1 from rfl,run_equalIn_struct w (d+m) t _ _ (by rw[B];exact W) X.1,B];exact atw F H G D.toList 0 aj r w X.2 V R Q;rename_i n e W;simp only[aw] at X;obtain⟨i,A⟩:=ln.1 X.1;have L:∀O:gt,xx P t O=.agg O.toArray:=λO=>by simp[xx,W,vT]
  rw[L,L,show d+(m+1)=(d+m)+1 from rfl,run_equalIn_array w (d+m) _ _ W A,SJ];exact atx F X.1 H G n 0 aj r w X.2 (by simpa using V) (by simpa using R) (by simpa using Q);cases X
def ah2(P:Program)(t:TypeId)(X:TI):Bool:=vT (P.underlying t)&&vU P 20 t X.aj&& !P.eqGuardType P.depth t
def aDf{V:TI}(h:ah2 P R V=J):∀(X W:gt)(r:Bool)(x y:Operand)(w:World),lw V.aj X->lw V.aj W->km X W=U r->
  (do eqGuard .eql R x y (.agg X.toArray) (.agg W.toArray);binOp .eql R (.agg X.toArray) (.agg W.toArray)).run P w=.ok (.bool r) w/\
  (do eqGuard .neq R x y (.agg X.toArray) (.agg W.toArray);binOp .neq R (.agg X.toArray) (.agg W.toArray)).run P w=.ok (.bool !r) w:=by
 intro X W r x y w O N M;simp only[ah2,aw,ik] at h;have:=ah1 (P:=P) 9980 20 R V.aj X W r w h.1.2 O N M;simp only[xx,h.1.1,cN] at this;have Q:(E3 R (.agg X.toArray) (.agg W.toArray)).run P w=.ok r w:=this;constructor;rw[dA];simp[eqGuard,h.2,binOp,Q];rw[dA];simp[eqGuard,h.2,binOp,Q]

def aDg{ag:Bool}(W:Y y=X)(V:ag=E->X=1):xZ (ij ag y)=y:=by
 cases ag with
 |false=>
  have:=V rfl;subst this;obtain⟨x,rfl⟩:=oR.1 W;rfl
 |true=>simp[ij,xZ,Function.comp_def,bn]
def aDh(O:P.underlying R=U (.int I)):uR P R 1 false:=by
 refine⟨λ_=>rfl,λl X W M L=>⟨λb=>MapKept.run_checkKey O (by trivial) b 9999,MapKept.run_findKey O ?_⟩⟩;obtain⟨x,rfl⟩:=oR.1 M;have:∀(X:List MapEntry)(i:Nat),(∀e∈X,∃V:bz,Y V=1/\e.key=ij E V)->Instr.findNow (.int I) (ij E [x]) X i=U (oE [x] X i):=by
  intro X;induction X with
  |nil=>intro i _;rfl
  |cons e X H=>
   intro i N;obtain⟨V,G,F⟩:=N e av;obtain⟨y,rfl⟩:=oR.1 G;simp only[Instr.findNow,F,oE];simp only[ij,jp,gf,List.headD_cons,Instr.sameNow,cN,xZ,xH,and_true];by_cases Q:x=y;subst Q;simp;have:¬y=x:=λe=>Q e.symm
   simp only[this,gf,show(x==y)=E by simpa using Q];exact H (i+1) (λe D=>N e (by simp[D]))
 exact this X 0 L
def aDi(d:TypeDesc)(X:mI)(v:Value):Instr.sameNow d (.agg X) v=none:=by
 cases d<;>rfl
def aty:∀(l X:bz),Y l=Y X->km (l.map (Value.int I)) (X.map (Value.int I))=U (l==X)
 |[],[],_=>rfl
 |[],_::_,h=>by simp at h
 |_::_,[],h=>by simp at h
 |x::W,y::V,h=>by
  have R:=aty W V (by simpa using h);simp only[dU,km,Dq,R];rfl
def ah3:∀(l:bz),lw (eN (Y l) (.int I)) (l.map (Value.int I))
 |[]=>trivial
 |x::X=>⟨rfl,ah3 X⟩
def atz(X:P.underlying R=U (.int I)){l:bz}{off:Nat}(V:off<Y l)(W:World):∃a,(part R (l.map (Value.int I)).toArray off).run P W=.ok (.int I a) W:=by
 refine⟨l[off],run_part_plain W (by simp[Program.plainKey,X]) ?_⟩;simp[V]
def aDj{e:TypeId}{i:TypeInfo}(M:P.underlying R=U (.array X e))(O:P.underlying e=U (.int I))(L:P.info? e=U i)(H:P.cellsOf e=1)(G:Y y=X)(b:Bool)(m:Nat)(W:World):(Instr.checkKey b (m+2) R (ij J y)).run P W=.ok () W:=by
 rw[show m+2=(m+1)+1 from rfl,Instr.checkKey];simp only[dA,fk.iC M,dv,ij,cN];simp only[Std.Legacy.Range.forIn_eq_forIn_range',Std.Legacy.Range.size,Nat.sub_zero,Nat.add_one_sub_one,Nat.div_one];have Q:∀j∈xJ 0 X,j<X:=λj F=>by simpa[List.mem_range'] using F
 generalize xJ 0 X=N at Q;induction N with
 |nil=>simp
 |cons j N D=>
  obtain⟨a,B⟩:=atz O (l:=y) (off:=j*P.cellsOf e) (by rw[H,G,ai6];exact Q j av) W;have A:=MapKept.run_checkKey (w:=W) (k:=.int I a) O (by trivial) b m;simp only[List.forIn_cons,dA,run_sizeOf W L,dv,B,A,fq];exact D (λV z=>Q V (by simp[z]))
def aDk{Q:Array Field}(M:P.underlying R=U (.struct Q))(O:∀f∈Q.toList,f.name≠ "_"/\P.underlying f.type=U (.int I)/\f.offset<X)(H:Y y=X)(b:Bool)(m:Nat)(W:World):(Instr.checkKey b (m+2) R (ij J y)).run P W=.ok () W:=by
 rw[show m+2=(m+1)+1 from rfl,Instr.checkKey];simp only[dA,fk.iC M,dv,ij,cN];rw[<-Array.forIn_toList];generalize Q.toList=L at O;induction L with
 |nil=>simp
 |cons f L G=>
  obtain⟨F,N,D⟩:=O f av;obtain⟨a,B⟩:=atz N (l:=y) (off:=f.offset) (by rw[H];exact D) W;have A:=MapKept.run_checkKey (w:=W) (k:=.int I a) N (by trivial) b m;simp only[List.forIn_cons,dA,F,ne_eq,not_false_eq_true,cN,dv,B,A,fq];exact G (λV z=>O V (by simp[z]))
def atA{d:TypeDesc}(L:P.underlying R=U d)(D:vT (P.underlying R)=J)(B:vU P 20 R (eN X (.int I))=J)
  (A:∀(l:bz)(b:Bool)(W:World),Y l=X->(Instr.checkKey b 10000 R (ij J l)).run P W=.ok () W):uR P R X true:=by
 refine⟨λh=>(by cases h),λl V W O z=>⟨λb=> ?_, ?_⟩⟩;exact A l b W O;have y:∀l:bz,ij J l=.agg (l.map (Value.int I)).toArray:=λl=>rfl
 have x:∀(V:List MapEntry)(i:Nat),(∀e∈V,∃Q:bz,Y Q=X/\e.key=ij J Q)->(Instr.findAsking R (ij J l) V i).run P W=.ok (oE l V i) W:=by
  intro V;induction V with
  |nil=>intro i _;rfl
  |cons e V w=>
   intro i H;obtain⟨Q,N,G⟩:=H e av;have F:=ah1 (P:=P) 9980 20 R (eN X (.int I)) (l.map (Value.int I)) (Q.map (Value.int I)) (l==Q) W B (by rw[<-O];exact ah3 l) (by rw[<-N];exact ah3 Q) (aty l Q (by rw[O,N]));simp only[xx,D,cN] at F;have v:(E3 R (ij J l) e.key).run P W=.ok (l==Q) W:=by rw[G];exact F
   simp only[Instr.findAsking,dA,v,dv];simp only[oE,G,aDg (ag:=J) N av];by_cases M:Q=l;rw[M];simp;have u:(l==Q)=false:=by
    cases t:l==Q;rfl;exact aZ (eq_of_beq t).symm M
   simp only[M,u,jp,gf];exact w (i+1) (λe s=>H e (by simp[s]))
 have r:=x V 0 z;cases V with
 |nil=>simp[Instr.findKey,fk.iC L,Instr.findNow,oE,Result.andThen]
 |cons e V=>
  have:Instr.findNow d (ij J l) (e::V) 0=none:=by simp only[Instr.findNow,y,aDi]
  simp only[Instr.findKey,dA,fk.iC L,dv,this];exact r
end
def aY{p:Prop}(h:p:=by kernel_rfl):p:=h
def TT:List (List E4):=[
[Z,U ⟨.one,[.ae .nilFunc .ae],E⟩,U ⟨.one,[.int I],E⟩,U ⟨.one,[.int I],E⟩,U ⟨.one,[.bool],E⟩,U ⟨.one,[.int .u8],E⟩,U ⟨.one,[.int .u8],E⟩,U ⟨(.struct [(0,2),(1,3),(2,4),(3,6)]),[.int I,.int I,.bool,.int .u8],J⟩,U ⟨(.struct [(0,2),(1,3),(2,4),(3,6)]),[.int I,.int I,.bool,.int .u8],J⟩,U ⟨.str,[.ae (.string ⟨#[]⟩) .str],E⟩,U ⟨.str,[.ae (.string ⟨#[]⟩) .str],E⟩,U ⟨.str,[.ae (.string ⟨#[]⟩) .str],E⟩,U ⟨.one,[.int .u64],E⟩,U ⟨(.struct [(0,9),(1,12)]),[.ae (.string ⟨#[]⟩) .str,.int .u64],E⟩,U ⟨(.struct [(0,9),(1,12)]),[.ae (.string ⟨#[]⟩) .str,.int .u64],E⟩,U ⟨.one,[.ae (.pointer Z) .ae],E⟩],
 [U ⟨.one,[.ae (.pointer Z) .ae],E⟩,U ⟨.one,[.ae (.pointer Z) .ae],E⟩,U ⟨(.struct [(0,17)]),[.ae (.pointer Z) .ae],E⟩,U ⟨(.struct [(0,17)]),[.ae (.pointer Z) .ae],E⟩,U ⟨.gX,[.ae .nilIface .ae],E⟩,U ⟨.one,[.int .i32],E⟩,U ⟨(.struct [(0,3),(1,3),(2,3)]),[.int I,.int I,.int I],J⟩,U ⟨(.struct [(0,3),(1,3),(2,3)]),[.int I,.int I,.int I],J⟩,U ⟨(.slice 130),[.ae (.slice Z 0 0) (.sl 130)],E⟩,U ⟨(.slice 132),[.ae (.slice Z 0 0) (.sl 132)],E⟩,U ⟨(.slice 253),[.ae (.slice Z 0 0) (.sl 253)],E⟩,U ⟨(.slice 255),[.ae (.slice Z 0 0) (.sl 255)],E⟩,U ⟨(.struct [(0,3),(1,25),(2,26),(3,27)]),[.int I,.ae (.slice Z 0 0) (.sl 132),.ae (.slice Z 0 0) (.sl 253),.ae (.slice Z 0 0) (.sl 255)],E⟩,U ⟨(.struct [(0,3),(1,25),(2,26),(3,27)]),[.int I,.ae (.slice Z 0 0) (.sl 132),.ae (.slice Z 0 0) (.sl 253),.ae (.slice Z 0 0) (.sl 255)],E⟩,U ⟨(.slice 128),[.ae (.slice Z 0 0) (.sl 128)],E⟩,U ⟨(.struct [(0,3),(1,3),(2,23),(5,24),(6,29),(10,30)]),[.int I,.int I,.int I,.int I,.int I,.ae (.slice Z 0 0) (.sl 130),.int I,.ae (.slice Z 0 0) (.sl 132),.ae (.slice Z 0 0) (.sl 253),.ae (.slice Z 0 0) (.sl 255),.ae (.slice Z 0 0) (.sl 128)],E⟩],
 [U ⟨(.struct [(0,3),(1,3),(2,23),(5,24),(6,29),(10,30)]),[.int I,.int I,.int I,.int I,.int I,.ae (.slice Z 0 0) (.sl 130),.int I,.ae (.slice Z 0 0) (.sl 132),.ae (.slice Z 0 0) (.sl 253),.ae (.slice Z 0 0) (.sl 255),.ae (.slice Z 0 0) (.sl 128)],E⟩,U ⟨(.slice 141),[.ae (.slice Z 0 0) (.sl 141)],E⟩,U ⟨(.struct [(0,33)]),[.ae (.slice Z 0 0) (.sl 141)],E⟩,U ⟨(.struct [(0,33)]),[.ae (.slice Z 0 0) (.sl 141)],E⟩,U ⟨(.slice 94),[.ae (.slice Z 0 0) (.sl 94)],E⟩,U ⟨(.slice 39),[.ae (.slice Z 0 0) (.sl 39)],E⟩,U ⟨(.slice 66),[.ae (.slice Z 0 0) (.sl 66)],E⟩,U ⟨(.slice 3),[.ae (.slice Z 0 0) (.sl 3)],E⟩,U ⟨(.struct [(0,32),(11,35),(12,36),(13,37),(14,38),(15,39)]),[.int I,.int I,.int I,.int I,.int I,.ae (.slice Z 0 0) (.sl 130),.int I,.ae (.slice Z 0 0) (.sl 132),.ae (.slice Z 0 0) (.sl 253),.ae (.slice Z 0 0) (.sl 255),.ae (.slice Z 0 0) (.sl 128),.ae (.slice Z 0 0) (.sl 141),.ae (.slice Z 0 0) (.sl 94),.ae (.slice Z 0 0) (.sl 39),.ae (.slice Z 0 0) (.sl 66),.ae (.slice Z 0 0) (.sl 3)],E⟩,U ⟨(.struct [(0,32),(11,35),(12,36),(13,37),(14,38),(15,39)]),[.int I,.int I,.int I,.int I,.int I,.ae (.slice Z 0 0) (.sl 130),.int I,.ae (.slice Z 0 0) (.sl 132),.ae (.slice Z 0 0) (.sl 253),.ae (.slice Z 0 0) (.sl 255),.ae (.slice Z 0 0) (.sl 128),.ae (.slice Z 0 0) (.sl 141),.ae (.slice Z 0 0) (.sl 94),.ae (.slice Z 0 0) (.sl 39),.ae (.slice Z 0 0) (.sl 66),.ae (.slice Z 0 0) (.sl 3)],E⟩,U ⟨(.slice 70),[.ae (.slice Z 0 0) (.sl 70)],E⟩,U ⟨(.struct [(0,39),(1,3),(2,42),(3,39),(4,4)]),[.ae (.slice Z 0 0) (.sl 3),.int I,.ae (.slice Z 0 0) (.sl 70),.ae (.slice Z 0 0) (.sl 3),.bool],E⟩,U ⟨(.struct [(0,39),(1,3),(2,42),(3,39),(4,4)]),[.ae (.slice Z 0 0) (.sl 3),.int I,.ae (.slice Z 0 0) (.sl 70),.ae (.slice Z 0 0) (.sl 3),.bool],E⟩,U ⟨.one,[.ae .nilFunc .ae],E⟩,U ⟨.one,[.ae .nilFunc .ae],E⟩,U ⟨.one,[.ae .nilFunc .ae],E⟩],
 [U ⟨.one,[.int I],E⟩,U ⟨.one,[.ae .nilFunc .ae],E⟩,U ⟨(.slice 96),[.ae (.slice Z 0 0) (.sl 96)],E⟩,Z,U ⟨.one,[.ae .nilFunc .ae],E⟩,U ⟨.one,[.ae .nilFunc .ae],E⟩,U ⟨.one,[.ae .nilFunc .ae],E⟩,U ⟨.one,[.ae .nilFunc .ae],E⟩,U ⟨.one,[.int .u16],E⟩,U ⟨(.slice 79),[.ae (.slice Z 0 0) (.sl 79)],E⟩,Z,U ⟨.one,[.ae .nilFunc .ae],E⟩,Z,U ⟨.one,[.ae .nilFunc .ae],E⟩,Z,U ⟨.one,[.ae .nilFunc .ae],E⟩],
 [U ⟨(.slice 4),[.ae (.slice Z 0 0) (.sl 4)],E⟩,U ⟨(.slice 67),[.ae (.slice Z 0 0) (.sl 67)],E⟩,U ⟨(.slice 69),[.ae (.slice Z 0 0) (.sl 69)],E⟩,U ⟨(.slice 134),[.ae (.slice Z 0 0) (.sl 134)],E⟩,U ⟨(.struct [(0,64),(1,65)]),[.ae (.slice Z 0 0) (.sl 4),.ae (.slice Z 0 0) (.sl 67)],E⟩,U ⟨(.struct [(0,64),(1,65)]),[.ae (.slice Z 0 0) (.sl 4),.ae (.slice Z 0 0) (.sl 67)],E⟩,U ⟨(.slice 76),[.ae (.slice Z 0 0) (.sl 76)],E⟩,U ⟨.one,[.ae .nilFunc .ae],E⟩,U ⟨(.struct [(0,3),(1,3)]),[.int I,.int I],J⟩,U ⟨(.struct [(0,3),(1,3)]),[.int I,.int I],J⟩,U ⟨(.arr 5 73),[.int I,.int I,.int I,.int I,.int I,.int I,.int I,.int I,.int I,.int I],J⟩,U ⟨(.struct [(0,3),(1,3),(2,3),(3,74)]),[.int I,.int I,.int I,.int I,.int I,.int I,.int I,.int I,.int I,.int I,.int I,.int I,.int I],J⟩,U ⟨(.struct [(0,3),(1,3),(2,3),(3,74)]),[.int I,.int I,.int I,.int I,.int I,.int I,.int I,.int I,.int I,.int I,.int I,.int I,.int I],J⟩,U ⟨(.slice 124),[.ae (.slice Z 0 0) (.sl 124)],E⟩,U ⟨(.struct [(0,3),(1,64),(2,70),(3,70),(4,65),(5,77)]),[.int I,.ae (.slice Z 0 0) (.sl 4),.ae (.slice Z 0 0) (.sl 76),.ae (.slice Z 0 0) (.sl 76),.ae (.slice Z 0 0) (.sl 67),.ae (.slice Z 0 0) (.sl 124)],E⟩,U ⟨(.struct [(0,3),(1,64),(2,70),(3,70),(4,65),(5,77)]),[.int I,.ae (.slice Z 0 0) (.sl 4),.ae (.slice Z 0 0) (.sl 76),.ae (.slice Z 0 0) (.sl 76),.ae (.slice Z 0 0) (.sl 67),.ae (.slice Z 0 0) (.sl 124)],E⟩],
 [Z,U ⟨.one,[.ae .nilFunc .ae],E⟩,U ⟨.one,[.ae .nilFunc .ae],E⟩,U ⟨.one,[.ae .nilFunc .ae],E⟩,U ⟨.one,[.ae .nilFunc .ae],E⟩,Z,U ⟨.one,[.ae .nilFunc .ae],E⟩,U ⟨.one,[.ae .nilFunc .ae],E⟩,U ⟨(.struct [(0,3),(1,3),(2,3)]),[.int I,.int I,.int I],J⟩,U ⟨(.struct [(0,3),(1,3),(2,3)]),[.int I,.int I,.int I],J⟩,Z,U ⟨.one,[.ae .nilFunc .ae],E⟩,U ⟨(.arr 3 3),[.int I,.int I,.int I],J⟩,U ⟨(.struct [(0,9),(1,3),(2,3),(3,3),(4,3),(5,3),(6,92),(9,92),(12,92),(15,3),(16,3)]),[.ae (.string ⟨#[]⟩) .str,.int I,.int I,.int I,.int I,.int I,.int I,.int I,.int I,.int I,.int I,.int I,.int I,.int I,.int I,.int I,.int I],J⟩,U ⟨(.struct [(0,9),(1,3),(2,3),(3,3),(4,3),(5,3),(6,92),(9,92),(12,92),(15,3),(16,3)]),[.ae (.string ⟨#[]⟩) .str,.int I,.int I,.int I,.int I,.int I,.int I,.int I,.int I,.int I,.int I,.int I,.int I,.int I,.int I,.int I,.int I],J⟩,U ⟨(.struct [(0,3),(1,3),(2,3),(3,3)]),[.int I,.int I,.int I,.int I],J⟩],
 [U ⟨(.struct [(0,3),(1,3),(2,3),(3,3)]),[.int I,.int I,.int I,.int I],J⟩,U ⟨.one,[.ae .nilFunc .ae],E⟩,U ⟨.one,[.ae .nilFunc .ae],E⟩,U ⟨.one,[.ae .nilFunc .ae],E⟩,U ⟨.one,[.ae .nilFunc .ae],E⟩,U ⟨.one,[.ae .nilFunc .ae],E⟩,U ⟨.one,[.ae .nilFunc .ae],E⟩,U ⟨.one,[.ae .nilFunc .ae],E⟩,U ⟨.one,[.ae .nilFunc .ae],E⟩,U ⟨.one,[.ae .nilFunc .ae],E⟩,U ⟨.one,[.ae (.pointer Z) .ae],E⟩,U ⟨.one,[.ae .nilFunc .ae],E⟩,U ⟨.one,[.ae .nilFunc .ae],E⟩,U ⟨.one,[.ae .nilFunc .ae],E⟩,U ⟨.one,[.ae .nilFunc .ae],E⟩,U ⟨.one,[.ae .nilFunc .ae],E⟩],
 [U ⟨.one,[.ae .nilFunc .ae],E⟩,U ⟨.one,[.ae .nilFunc .ae],E⟩,U ⟨.one,[.ae .nilFunc .ae],E⟩,U ⟨.one,[.ae .nilFunc .ae],E⟩,U ⟨.one,[.ae .nilFunc .ae],E⟩,U ⟨.one,[.ae .nilFunc .ae],E⟩,U ⟨.one,[.ae .nilFunc .ae],E⟩,U ⟨.one,[.ae .nilFunc .ae],E⟩,U ⟨.one,[.ae .nilFunc .ae],E⟩,U ⟨(.struct [(0,3),(1,3)]),[.int I,.int I],J⟩,U ⟨(.struct [(0,3),(1,3)]),[.int I,.int I],J⟩,U ⟨(.struct [(0,122),(2,122)]),[.int I,.int I,.int I,.int I],J⟩,U ⟨(.struct [(0,122),(2,122)]),[.int I,.int I,.int I,.int I],J⟩,U ⟨(.struct [(0,3),(1,3)]),[.int I,.int I],J⟩,U ⟨(.struct [(0,3),(1,3)]),[.int I,.int I],J⟩,U ⟨(.struct [(0,3),(1,3),(2,3),(3,3),(4,3),(5,3),(6,3),(7,3),(8,3),(9,3),(10,126),(12,126)]),[.int I,.int I,.int I,.int I,.int I,.int I,.int I,.int I,.int I,.int I,.int I,.int I,.int I,.int I],J⟩],
 [U ⟨(.struct [(0,3),(1,3),(2,3),(3,3),(4,3),(5,3),(6,3),(7,3),(8,3),(9,3),(10,126),(12,126)]),[.int I,.int I,.int I,.int I,.int I,.int I,.int I,.int I,.int I,.int I,.int I,.int I,.int I,.int I],J⟩,U ⟨(.struct [(0,9),(1,3),(2,3),(3,3)]),[.ae (.string ⟨#[]⟩) .str,.int I,.int I,.int I],J⟩,U ⟨(.struct [(0,9),(1,3),(2,3),(3,3)]),[.ae (.string ⟨#[]⟩) .str,.int I,.int I,.int I],J⟩,U ⟨(.struct [(0,3),(1,3),(2,3)]),[.int I,.int I,.int I],J⟩,U ⟨(.struct [(0,3),(1,3),(2,3)]),[.int I,.int I,.int I],J⟩,U ⟨(.struct [(0,3),(1,3),(2,3),(3,4)]),[.int I,.int I,.int I,.bool],J⟩,U ⟨(.struct [(0,3),(1,3),(2,3),(3,4)]),[.int I,.int I,.int I,.bool],J⟩,U ⟨.one,[.ae .nilFunc .ae],E⟩,Z,U ⟨.one,[.ae .nilFunc .ae],E⟩,U ⟨.one,[.ae .nilFunc .ae],E⟩,U ⟨.one,[.ae .nilFunc .ae],E⟩,U ⟨(.struct [(0,124),(4,3),(5,3),(6,3),(7,3)]),[.int I,.int I,.int I,.int I,.int I,.int I,.int I,.int I],J⟩,U ⟨(.struct [(0,124),(4,3),(5,3),(6,3),(7,3)]),[.int I,.int I,.int I,.int I,.int I,.int I,.int I,.int I],J⟩,Z,U ⟨.one,[.ae .nilFunc .ae],E⟩],
 [U ⟨.one,[.ae .nilFunc .ae],E⟩,U ⟨.one,[.ae .nilFunc .ae],E⟩,U ⟨(.map 3 4 1 E),[.ae (.map Z) .ae],E⟩,U ⟨.one,[.ae .nilFunc .ae],E⟩,U ⟨.one,[.ae .nilFunc .ae],E⟩,U ⟨.one,[.ae .nilFunc .ae],E⟩,U ⟨.one,[.ae .nilFunc .ae],E⟩,U ⟨.one,[.ae .nilFunc .ae],E⟩,U ⟨.one,[.ae .nilFunc .ae],E⟩,U ⟨.one,[.ae .nilFunc .ae],E⟩,U ⟨.one,[.ae .nilFunc .ae],E⟩,U ⟨.one,[.ae .nilFunc .ae],E⟩,U ⟨.one,[.ae .nilFunc .ae],E⟩,U ⟨(.struct [(0,48)]),[.int I],J⟩,U ⟨(.struct [(0,48)]),[.int I],J⟩,U ⟨(.map 3 3 1 E),[.ae (.map Z) .ae],E⟩],
 [U ⟨.one,[.ae .nilFunc .ae],E⟩,U ⟨.one,[.ae .nilFunc .ae],E⟩,Z,U ⟨.one,[.ae .nilFunc .ae],E⟩,U ⟨.one,[.ae .nilFunc .ae],E⟩,U ⟨.one,[.ae .nilFunc .ae],E⟩,U ⟨.one,[.ae .nilFunc .ae],E⟩,U ⟨(.struct [(0,3),(1,4),(2,94),(19,76),(32,67)]),[.int I,.bool,.ae (.string ⟨#[]⟩) .str,.int I,.int I,.int I,.int I,.int I,.int I,.int I,.int I,.int I,.int I,.int I,.int I,.int I,.int I,.int I,.int I,.int I,.int I,.int I,.int I,.int I,.int I,.int I,.int I,.int I,.int I,.int I,.int I,.int I,.ae (.slice Z 0 0) (.sl 134)],E⟩,U ⟨(.struct [(0,3),(1,4),(2,94),(19,76),(32,67)]),[.int I,.bool,.ae (.string ⟨#[]⟩) .str,.int I,.int I,.int I,.int I,.int I,.int I,.int I,.int I,.int I,.int I,.int I,.int I,.int I,.int I,.int I,.int I,.int I,.int I,.int I,.int I,.int I,.int I,.int I,.int I,.int I,.int I,.int I,.int I,.int I,.ae (.slice Z 0 0) (.sl 134)],E⟩,U ⟨.one,[.ae .nilFunc .ae],E⟩,U ⟨.one,[.ae .nilFunc .ae],E⟩,U ⟨.one,[.ae .nilFunc .ae],E⟩,U ⟨.one,[.ae .nilFunc .ae],E⟩,U ⟨.one,[.ae .nilFunc .ae],E⟩,U ⟨.one,[.ae .nilFunc .ae],E⟩,U ⟨.one,[.ae .nilFunc .ae],E⟩],
 [U ⟨(.struct [(0,94)]),[.ae (.string ⟨#[]⟩) .str,.int I,.int I,.int I,.int I,.int I,.int I,.int I,.int I,.int I,.int I,.int I,.int I,.int I,.int I,.int I,.int I],J⟩,U ⟨(.struct [(0,94)]),[.ae (.string ⟨#[]⟩) .str,.int I,.int I,.int I,.int I,.int I,.int I,.int I,.int I,.int I,.int I,.int I,.int I,.int I,.int I,.int I,.int I],J⟩,U ⟨.one,[.ae .nilFunc .ae],E⟩,U ⟨.one,[.ae .nilFunc .ae],E⟩,U ⟨.one,[.ae .nilFunc .ae],E⟩,U ⟨(.struct [(0,180),(1,3),(2,3),(3,3)]),[.ae .nilFunc .ae,.int I,.int I,.int I],E⟩,U ⟨(.struct [(0,180),(1,3),(2,3),(3,3)]),[.ae .nilFunc .ae,.int I,.int I,.int I],E⟩,U ⟨(.arr 7 182),[.ae .nilFunc .ae,.int I,.int I,.int I,.ae .nilFunc .ae,.int I,.int I,.int I,.ae .nilFunc .ae,.int I,.int I,.int I,.ae .nilFunc .ae,.int I,.int I,.int I,.ae .nilFunc .ae,.int I,.int I,.int I,.ae .nilFunc .ae,.int I,.int I,.int I,.ae .nilFunc .ae,.int I,.int I,.int I],E⟩,U ⟨.one,[.ae .nilFunc .ae],E⟩,U ⟨(.slice 182),[.ae (.slice Z 0 0) (.sl 182)],E⟩,U ⟨.one,[.ae (.pointer Z) .ae],E⟩,U ⟨.one,[.ae (.pointer Z) .ae],E⟩,U ⟨.one,[.ae .nilFunc .ae],E⟩,U ⟨.one,[.ae .nilFunc .ae],E⟩,U ⟨.one,[.ae .nilFunc .ae],E⟩,U ⟨.one,[.ae .nilFunc .ae],E⟩],
 [U ⟨.one,[.ae .nilFunc .ae],E⟩,U ⟨(.slice 197),[.ae (.slice Z 0 0) (.sl 197)],E⟩,Z,U ⟨.one,[.ae .nilFunc .ae],E⟩,U ⟨.one,[.ae .nilFunc .ae],E⟩,U ⟨(.arr 2 3),[.int I,.int I],J⟩,Z,U ⟨.one,[.ae .nilFunc .ae],E⟩,U ⟨(.slice 226),[.ae (.slice Z 0 0) (.sl 226)],E⟩,Z,U ⟨.one,[.ae .nilFunc .ae],E⟩,U ⟨.one,[.ae .nilFunc .ae],E⟩,U ⟨.one,[.ae .nilFunc .ae],E⟩,U ⟨(.struct [(0,4),(1,4),(2,4),(3,3),(4,3),(5,3)]),[.bool,.bool,.bool,.int I,.int I,.int I],J⟩,U ⟨(.struct [(0,4),(1,4),(2,4),(3,3),(4,3),(5,3)]),[.bool,.bool,.bool,.int I,.int I,.int I],J⟩,U ⟨(.arr 10 206),[.bool,.bool,.bool,.int I,.int I,.int I,.bool,.bool,.bool,.int I,.int I,.int I,.bool,.bool,.bool,.int I,.int I,.int I,.bool,.bool,.bool,.int I,.int I,.int I,.bool,.bool,.bool,.int I,.int I,.int I,.bool,.bool,.bool,.int I,.int I,.int I,.bool,.bool,.bool,.int I,.int I,.int I,.bool,.bool,.bool,.int I,.int I,.int I,.bool,.bool,.bool,.int I,.int I,.int I,.bool,.bool,.bool,.int I,.int I,.int I],J⟩],
 [U ⟨.one,[.ae .nilFunc .ae],E⟩,U ⟨(.arr 2 126),[.int I,.int I,.int I,.int I],J⟩,U ⟨(.slice 209),[.ae (.slice Z 0 0) (.sl 209)],E⟩,Z,U ⟨.one,[.ae .nilFunc .ae],E⟩,U ⟨.one,[.ae .nilFunc .ae],E⟩,U ⟨.one,[.ae .nilFunc .ae],E⟩,U ⟨.one,[.ae .nilFunc .ae],E⟩,U ⟨.one,[.ae .nilFunc .ae],E⟩,U ⟨(.slice 275),[.ae (.slice Z 0 0) (.sl 275)],E⟩,Z,U ⟨.one,[.ae .nilFunc .ae],E⟩,U ⟨.one,[.ae .nilFunc .ae],E⟩,U ⟨.one,[.ae .nilFunc .ae],E⟩,U ⟨.one,[.ae .nilFunc .ae],E⟩,U ⟨.one,[.ae .nilFunc .ae],E⟩],
 [U ⟨(.arr 5 4),[.bool,.bool,.bool,.bool,.bool],J⟩,U ⟨(.struct [(0,128),(14,134)]),[.int I,.int I,.int I,.int I,.int I,.int I,.int I,.int I,.int I,.int I,.int I,.int I,.int I,.int I,.int I,.int I,.int I,.bool],J⟩,U ⟨(.struct [(0,128),(14,134)]),[.int I,.int I,.int I,.int I,.int I,.int I,.int I,.int I,.int I,.int I,.int I,.int I,.int I,.int I,.int I,.int I,.int I,.bool],J⟩,U ⟨(.arr 2 39),[.ae (.slice Z 0 0) (.sl 3),.ae (.slice Z 0 0) (.sl 3)],E⟩,U ⟨(.arr 10 227),[.ae (.slice Z 0 0) (.sl 3),.ae (.slice Z 0 0) (.sl 3),.ae (.slice Z 0 0) (.sl 3),.ae (.slice Z 0 0) (.sl 3),.ae (.slice Z 0 0) (.sl 3),.ae (.slice Z 0 0) (.sl 3),.ae (.slice Z 0 0) (.sl 3),.ae (.slice Z 0 0) (.sl 3),.ae (.slice Z 0 0) (.sl 3),.ae (.slice Z 0 0) (.sl 3),.ae (.slice Z 0 0) (.sl 3),.ae (.slice Z 0 0) (.sl 3),.ae (.slice Z 0 0) (.sl 3),.ae (.slice Z 0 0) (.sl 3),.ae (.slice Z 0 0) (.sl 3),.ae (.slice Z 0 0) (.sl 3),.ae (.slice Z 0 0) (.sl 3),.ae (.slice Z 0 0) (.sl 3),.ae (.slice Z 0 0) (.sl 3),.ae (.slice Z 0 0) (.sl 3)],E⟩,U ⟨.one,[.ae .nilFunc .ae],E⟩,U ⟨.one,[.ae .nilFunc .ae],E⟩,U ⟨.one,[.ae .nilFunc .ae],E⟩,U ⟨(.struct [(0,3),(1,3),(2,3)]),[.int I,.int I,.int I],J⟩,U ⟨(.struct [(0,3),(1,3),(2,3)]),[.int I,.int I,.int I],J⟩,Z,U ⟨.one,[.ae .nilFunc .ae],E⟩,U ⟨.one,[.ae .nilFunc .ae],E⟩,U ⟨.one,[.ae .nilFunc .ae],E⟩,U ⟨.one,[.ae .nilFunc .ae],E⟩,U ⟨.one,[.ae .nilFunc .ae],E⟩],
 [U ⟨.one,[.ae .nilFunc .ae],E⟩,U ⟨.one,[.ae .nilFunc .ae],E⟩,U ⟨.one,[.ae .nilFunc .ae],E⟩,U ⟨(.struct [(0,122),(2,122)]),[.int I,.int I,.int I,.int I],J⟩,U ⟨.one,[.ae .nilFunc .ae],E⟩,U ⟨(.map 197 4 2 J),[.ae (.map Z) .ae],E⟩,U ⟨.one,[.ae .nilFunc .ae],E⟩,U ⟨.one,[.ae .nilFunc .ae],E⟩,U ⟨.one,[.ae .nilFunc .ae],E⟩,U ⟨.one,[.ae .nilFunc .ae],E⟩,U ⟨.one,[.ae .nilFunc .ae],E⟩,U ⟨.one,[.ae .nilFunc .ae],E⟩,U ⟨(.struct [(0,3),(1,3),(2,3),(3,3)]),[.int I,.int I,.int I,.int I],J⟩,U ⟨(.struct [(0,3),(1,3),(2,3),(3,3)]),[.int I,.int I,.int I,.int I],J⟩,U ⟨(.struct [(0,3),(1,3),(2,3),(3,3)]),[.int I,.int I,.int I,.int I],J⟩,U ⟨(.struct [(0,3),(1,3),(2,3),(3,3)]),[.int I,.int I,.int I,.int I],J⟩],
 [U ⟨.one,[.ae .nilFunc .ae],E⟩,U ⟨.one,[.ae .nilFunc .ae],E⟩,U ⟨.one,[.ae .nilFunc .ae],E⟩,U ⟨.one,[.ae .nilFunc .ae],E⟩,U ⟨.one,[.ae .nilFunc .ae],E⟩,U ⟨.one,[.ae .nilFunc .ae],E⟩,U ⟨.one,[.ae .nilFunc .ae],E⟩,U ⟨.one,[.ae .nilFunc .ae],E⟩,U ⟨.one,[.ae .nilFunc .ae],E⟩,U ⟨(.map 267 4 3 J),[.ae (.map Z) .ae],E⟩,U ⟨(.struct [(0,3),(1,3),(2,3)]),[.int I,.int I,.int I],J⟩,U ⟨(.struct [(0,3),(1,3),(2,3)]),[.int I,.int I,.int I],J⟩,U ⟨.one,[.ae .nilFunc .ae],E⟩,U ⟨.one,[.ae .nilFunc .ae],E⟩,U ⟨.one,[.ae .nilFunc .ae],E⟩,U ⟨(.slice 267),[.ae (.slice Z 0 0) (.sl 267)],E⟩],
 [U ⟨.one,[.ae .nilFunc .ae],E⟩,U ⟨.one,[.ae .nilFunc .ae],E⟩,U ⟨.one,[.ae .nilFunc .ae],E⟩,U ⟨(.struct [(0,3),(1,3),(2,3)]),[.int I,.int I,.int I],J⟩,U ⟨.one,[.ae .nilFunc .ae],E⟩,U ⟨.one,[.ae .nilFunc .ae],E⟩,U ⟨(.arr 8 197),[.int I,.int I,.int I,.int I,.int I,.int I,.int I,.int I,.int I,.int I,.int I,.int I,.int I,.int I,.int I,.int I],J⟩,U ⟨.one,[.ae .nilFunc .ae],E⟩,U ⟨.one,[.ae .nilFunc .ae],E⟩,U ⟨.one,[.ae .nilFunc .ae],E⟩,U ⟨.one,[.ae .nilFunc .ae],E⟩,U ⟨.one,[.ae .nilFunc .ae],E⟩,U ⟨.one,[.ae .nilFunc .ae],E⟩,U ⟨.one,[.int .u64],E⟩,U ⟨.one,[.ae .nilFunc .ae],E⟩,U ⟨.one,[.ae .nilFunc .ae],E⟩],
 [U ⟨.one,[.ae .nilFunc .ae],E⟩,U ⟨.one,[.ae .nilFunc .ae],E⟩,U ⟨.one,[.ae .nilFunc .ae],E⟩,U ⟨.one,[.ae .nilFunc .ae],E⟩,U ⟨.one,[.ae .nilFunc .ae],E⟩,U ⟨.one,[.ae .nilFunc .ae],E⟩,U ⟨.one,[.ae .nilFunc .ae],E⟩,U ⟨.one,[.ae .nilFunc .ae],E⟩,U ⟨.one,[.ae .nilFunc .ae],E⟩,U ⟨.one,[.ae .nilFunc .ae],E⟩,Z,U ⟨.one,[.ae .nilFunc .ae],E⟩,U ⟨.one,[.ae .nilFunc .ae],E⟩,U ⟨.one,[.ae .nilFunc .ae],E⟩,U ⟨(.slice 306),[.ae (.slice Z 0 0) (.sl 306)],E⟩,Z],
 [U ⟨.one,[.ae .nilFunc .ae],E⟩,U ⟨(.struct [(0,3),(1,3)]),[.int I,.int I],J⟩,U ⟨(.struct [(0,3),(1,3)]),[.int I,.int I],J⟩,U ⟨.one,[.ae .nilFunc .ae],E⟩,U ⟨(.slice 312),[.ae (.slice Z 0 0) (.sl 312)],E⟩,Z,U ⟨.one,[.ae .nilFunc .ae],E⟩,U ⟨(.struct [(0,3),(1,3),(2,3)]),[.int I,.int I,.int I],J⟩,U ⟨(.struct [(0,3),(1,3),(2,3)]),[.int I,.int I,.int I],J⟩,U ⟨.one,[.ae .nilFunc .ae],E⟩,U ⟨(.arr 4 197),[.int I,.int I,.int I,.int I,.int I,.int I,.int I,.int I],J⟩,U ⟨(.arr 2 197),[.int I,.int I,.int I,.int I],J⟩,U ⟨.one,[.ae .nilFunc .ae],E⟩,U ⟨(.struct [(0,314),(8,315),(12,316)]),[.int I,.int I,.int I,.int I,.int I,.int I,.int I,.int I,.int I,.int I,.int I,.int I,.ae .nilFunc .ae],E⟩,U ⟨(.struct [(0,314),(8,315),(12,316)]),[.int I,.int I,.int I,.int I,.int I,.int I,.int I,.int I,.int I,.int I,.int I,.int I,.ae .nilFunc .ae],E⟩,Z],
 [U ⟨(.map 3 318 1 E),[.ae (.map Z) .ae],E⟩,U ⟨.one,[.ae .nilFunc .ae],E⟩,U ⟨.one,[.ae .nilFunc .ae],E⟩,U ⟨(.arr 4 3),[.int I,.int I,.int I,.int I],J⟩,U ⟨(.struct [(0,76),(13,128),(27,134)]),[.int I,.int I,.int I,.int I,.int I,.int I,.int I,.int I,.int I,.int I,.int I,.int I,.int I,.int I,.int I,.int I,.int I,.int I,.int I,.int I,.int I,.int I,.int I,.int I,.int I,.int I,.int I,.int I,.int I,.int I,.bool],J⟩,U ⟨(.struct [(0,76),(13,128),(27,134)]),[.int I,.int I,.int I,.int I,.int I,.int I,.int I,.int I,.int I,.int I,.int I,.int I,.int I,.int I,.int I,.int I,.int I,.int I,.int I,.int I,.int I,.int I,.int I,.int I,.int I,.int I,.int I,.int I,.int I,.int I,.bool],J⟩,U ⟨.one,[.ae (.pointer Z) .ae],E⟩,U ⟨.one,[.ae .nilFunc .ae],E⟩,U ⟨.one,[.int I],E⟩,Z,U ⟨.one,[.ae .nilFunc .ae],E⟩,U ⟨.one,[.ae .nilFunc .ae],E⟩,U ⟨.one,[.ae .nilFunc .ae],E⟩,Z,U ⟨.one,[.ae .nilFunc .ae],E⟩,U ⟨.one,[.ae .nilFunc .ae],E⟩],
 [U ⟨.one,[.int .u32],E⟩,U ⟨.one,[.ae .nilFunc .ae],E⟩,U ⟨.one,[.int .u64],E⟩,U ⟨.one,[.ae .nilFunc .ae],E⟩,U ⟨.one,[.ae .nilFunc .ae],E⟩,U ⟨.one,[.ae .nilFunc .ae],E⟩,U ⟨.one,[.ae .nilFunc .ae],E⟩,U ⟨.one,[.ae .nilFunc .ae],E⟩,U ⟨.one,[.ae .nilFunc .ae],E⟩,Z,U ⟨.one,[.ae .nilFunc .ae],E⟩,U ⟨.one,[.ae .nilFunc .ae],E⟩,U ⟨.one,[.ae .nilFunc .ae],E⟩,Z,U ⟨.one,[.ae .nilFunc .ae],E⟩,U ⟨.one,[.ae .nilFunc .ae],E⟩],
 [Z,U ⟨(.map 3 351 1 E),[.ae (.map Z) .ae],E⟩,U ⟨.one,[.ae .nilFunc .ae],E⟩,U ⟨.one,[.ae .nilFunc .ae],E⟩,U ⟨.one,[.ae .nilFunc .ae],E⟩,U ⟨.one,[.ae .nilFunc .ae],E⟩,U ⟨.one,[.ae .nilFunc .ae],E⟩,U ⟨.one,[.ae .nilFunc .ae],E⟩,U ⟨.one,[.ae .nilFunc .ae],E⟩,U ⟨(.map 3 134 1 E),[.ae (.map Z) .ae],E⟩,U ⟨.one,[.ae .nilFunc .ae],E⟩,U ⟨.one,[.ae .nilFunc .ae],E⟩,U ⟨.one,[.ae .nilFunc .ae],E⟩,U ⟨(.arr 2 77),[.ae (.slice Z 0 0) (.sl 124),.ae (.slice Z 0 0) (.sl 124)],E⟩,U ⟨(.arr 5 365),[.ae (.slice Z 0 0) (.sl 124),.ae (.slice Z 0 0) (.sl 124),.ae (.slice Z 0 0) (.sl 124),.ae (.slice Z 0 0) (.sl 124),.ae (.slice Z 0 0) (.sl 124),.ae (.slice Z 0 0) (.sl 124),.ae (.slice Z 0 0) (.sl 124),.ae (.slice Z 0 0) (.sl 124),.ae (.slice Z 0 0) (.sl 124),.ae (.slice Z 0 0) (.sl 124)],E⟩,U ⟨.one,[.ae .nilFunc .ae],E⟩],
 [U ⟨.one,[.ae .nilFunc .ae],E⟩,U ⟨.one,[.ae .nilFunc .ae],E⟩,U ⟨.one,[.ae .nilFunc .ae],E⟩,U ⟨.one,[.ae .nilFunc .ae],E⟩,U ⟨.one,[.ae .nilFunc .ae],E⟩,U ⟨.one,[.int .u64],E⟩,U ⟨.one,[.ae .nilFunc .ae],E⟩,U ⟨.one,[.ae .nilFunc .ae],E⟩,U ⟨.one,[.ae .nilFunc .ae],E⟩,U ⟨.one,[.ae .nilFunc .ae],E⟩,U ⟨.one,[.ae .nilFunc .ae],E⟩,U ⟨.one,[.ae .nilFunc .ae],E⟩,U ⟨.one,[.ae .nilFunc .ae],E⟩,U ⟨.one,[.ae .nilFunc .ae],E⟩,U ⟨.one,[.ae .nilFunc .ae],E⟩,U ⟨.one,[.ae .nilFunc .ae],E⟩],
 [U ⟨.one,[.ae .nilFunc .ae],E⟩,U ⟨.one,[.ae .nilFunc .ae],E⟩,U ⟨.one,[.ae .nilFunc .ae],E⟩,U ⟨.one,[.ae .nilFunc .ae],E⟩,U ⟨.one,[.ae .nilFunc .ae],E⟩,U ⟨(.map 3 394 1 E),[.ae (.map Z) .ae],E⟩,U ⟨.one,[.ae .nilFunc .ae],E⟩,U ⟨.one,[.ae .nilFunc .ae],E⟩,U ⟨.one,[.ae .nilFunc .ae],E⟩,U ⟨(.struct [(0,391),(1,4),(2,382),(3,4),(4,392)]),[.ae .nilFunc .ae,.bool,.ae .nilFunc .ae,.bool,.ae .nilFunc .ae],E⟩,U ⟨(.struct [(0,391),(1,4),(2,382),(3,4),(4,392)]),[.ae .nilFunc .ae,.bool,.ae .nilFunc .ae,.bool,.ae .nilFunc .ae],E⟩,U ⟨.one,[.ae .nilFunc .ae],E⟩,U ⟨.one,[.ae .nilFunc .ae],E⟩,U ⟨(.map 3 45 1 E),[.ae (.map Z) .ae],E⟩,U ⟨.one,[.ae .nilFunc .ae],E⟩,U ⟨.one,[.ae .nilFunc .ae],E⟩],
 [U ⟨.one,[.ae .nilFunc .ae],E⟩,U ⟨.one,[.ae .nilFunc .ae],E⟩,U ⟨.one,[.ae (.pointer Z) .ae],E⟩,Z,U ⟨.one,[.ae .nilFunc .ae],E⟩,U ⟨.one,[.ae .nilFunc .ae],E⟩,U ⟨.one,[.ae .nilFunc .ae],E⟩,U ⟨.one,[.ae .nilFunc .ae],E⟩,U ⟨.one,[.ae .nilFunc .ae],E⟩,U ⟨.one,[.ae .nilFunc .ae],E⟩,U ⟨.one,[.ae .nilFunc .ae],E⟩,U ⟨.one,[.ae .nilFunc .ae],E⟩,U ⟨.one,[.ae .nilFunc .ae],E⟩,Z,U ⟨.one,[.ae .nilFunc .ae],E⟩,U ⟨.one,[.ae .nilFunc .ae],E⟩],
 [U ⟨.one,[.ae .nilFunc .ae],E⟩,U ⟨(.slice 419),[.ae (.slice Z 0 0) (.sl 419)],E⟩,U ⟨(.struct [(0,134),(4,3)]),[.int I,.int I,.int I,.bool,.int I],J⟩,U ⟨(.struct [(0,134),(4,3)]),[.int I,.int I,.int I,.bool,.int I],J⟩,U ⟨.one,[.ae .nilFunc .ae],E⟩,U ⟨.one,[.ae .nilFunc .ae],E⟩,U ⟨.one,[.ae .nilFunc .ae],E⟩,U ⟨.one,[.ae .nilFunc .ae],E⟩,U ⟨.one,[.ae .nilFunc .ae],E⟩,U ⟨.one,[.ae .nilFunc .ae],E⟩,U ⟨.one,[.ae .nilFunc .ae],E⟩,U ⟨.one,[.ae .nilFunc .ae],E⟩,U ⟨.one,[.ae .nilFunc .ae],E⟩,U ⟨.one,[.ae .nilFunc .ae],E⟩,U ⟨.one,[.ae .nilFunc .ae],E⟩,U ⟨.one,[.ae .nilFunc .ae],E⟩],
 [U ⟨.one,[.ae .nilFunc .ae],E⟩,U ⟨.one,[.ae .nilFunc .ae],E⟩,U ⟨.one,[.ae .nilFunc .ae],E⟩,U ⟨.one,[.ae .nilFunc .ae],E⟩,U ⟨.one,[.ae .nilFunc .ae],E⟩,U ⟨.one,[.ae .nilFunc .ae],E⟩,U ⟨.one,[.ae .nilFunc .ae],E⟩,U ⟨(.struct [(0,17),(1,17),(2,17),(3,9)]),[.ae (.pointer Z) .ae,.ae (.pointer Z) .ae,.ae (.pointer Z) .ae,.ae (.string ⟨#[]⟩) .str],E⟩,U ⟨(.struct [(0,17),(1,17),(2,17),(3,9)]),[.ae (.pointer Z) .ae,.ae (.pointer Z) .ae,.ae (.pointer Z) .ae,.ae (.string ⟨#[]⟩) .str],E⟩,U ⟨(.arr 0 16),[],J⟩,U ⟨(.struct [(0,441)]),[],E⟩,U ⟨(.struct [(0,441)]),[],E⟩,U ⟨.one,[.ae .nilFunc .ae],E⟩,U ⟨.one,[.int .u8],E⟩,U ⟨.one,[.int .u8],E⟩,U ⟨.one,[.ae .nilFunc .ae],E⟩],
 [U ⟨.one,[.ae (.pointer Z) .ae],E⟩,U ⟨.one,[.int .i32],E⟩,U ⟨.one,[.int .i32],E⟩,U ⟨(.struct [(0,12),(1,12),(2,336),(3,445),(4,5),(5,5),(6,446),(7,447),(8,448),(9,449),(10,450)]),[.int .u64,.int .u64,.int .u32,.int .u8,.int .u8,.int .u8,.int .u8,.ae .nilFunc .ae,.ae (.pointer Z) .ae,.int .i32,.int .i32],E⟩,U ⟨(.struct [(0,12),(1,12),(2,336),(3,445),(4,5),(5,5),(6,446),(7,447),(8,448),(9,449),(10,450)]),[.int .u64,.int .u64,.int .u32,.int .u8,.int .u8,.int .u8,.int .u8,.ae .nilFunc .ae,.ae (.pointer Z) .ae,.int .i32,.int .i32],E⟩,Z]]
def SG:List (List rY):=[
[Z,Z,Z,U [4],Z,U [4],U [4],U [4],U [48],U [44,50,48],Z,U [4],U [48],U [57,48],U [39,48],U [36,48]],
 [Z,U [79,48],Z,U [41],U [44,48],U [44,48],U [4,48],U [48],U [48],U [4],U [4],U [48],U [4],Z,U [4],U [4]],
 [U [4],U [],U [],U [48],U [48],U [64],Z,U [36],U [],Z,Z,Z,Z,Z,Z,U [94]],
 [U [76,48],U [48],U [4],U [124,48],U [39,48],U [48],U [48],U [4],U [48],U [4],U [48],U [4],U [48],U [4],U [4],U [4]],
 [U [4],U [4],Z,Z,Z,Z,U [4,48],U [4],Z,Z,Z,Z,U [64],U [70],U [67],U [76,48]],
 [U [124,48],U [124,48],Z,U [4],Z,Z,U [4],U [4],Z,U [124,48],U [193,48],U [3],U [30,48],U [200,4],U [],Z],
 [U [23],U [4],U [3,48],U [48],U [4],U [4],Z,Z,U [124,48],U [4],U [3],U [48],Z,U [217,48],Z,Z],
 [Z,Z,U [3,48],U [233,48],U [124,48],Z,U [3],Z,Z,Z,Z,Z,Z,Z,U [4],U [48]],
 [U [],U [3],Z,U [],U [3],U [3],U [4],Z,Z,U [3],Z,U [48],U [4],Z,Z,Z],
 [U [4],U [48],U [4],U [4],Z,Z,U [4],U [4],U [124,48],U [124,48],U [39],U [48],Z,U [],Z,U [4,48]],
 [Z,Z,U [],U [3],Z,U [76,48],Z,Z,Z,U [3],Z,Z,Z,U [4],U [4],Z],
 [Z,U [285],U [285],U [3],U [3],Z,U [48],U [3,48],Z,U [4],U [124,48],Z,U [39],U [193],U [30,48],U [4]],
 [Z,Z,Z,Z,U [67,48],U [4],Z,U [302,48],Z,U [308,48],U [4,48],Z,Z,Z,Z,Z],
 [Z,Z,Z,Z,Z,Z,Z,Z,Z,Z,Z,Z,Z,Z,Z,U [4]],
 [Z,U [4],U [30],Z,Z,U [128,48],Z,U [3],Z,Z,Z,Z,U [3],Z,Z,Z],
 [Z,Z,Z,Z,Z,Z,Z,Z,Z,Z,Z,Z,Z,Z,Z,Z],
 [Z,Z,Z,Z,Z,Z,Z,Z,Z,Z,U [3],U [3],Z,Z,Z,Z],
 [Z,Z,Z,Z,Z,Z,Z,Z,U [],Z,Z,Z,Z,Z,Z,Z],
 [Z,Z,Z,Z,Z,Z,Z,Z,Z,Z,U [4],Z,Z,Z,Z,Z],
 [Z,Z,Z,Z,Z,Z,Z,Z,Z,Z,Z,Z,Z,U [3,3,48],U [],U [3]]]
def PT:List (List rY):=[
[Z,Z,Z,U [41,44,5],Z,U [],U [41],U [44],U [41,44],U [41,44,3],Z,U [44,44],U [41,44],U [41,44,3],U [41,44,3],U [41,3]],
 [Z,U [32,35,36,3,64,70,65],Z,U [],U [41],U [41,44,89],U [41,44,3],U [41],U [32],U [66],U [32],U [41],U [41,44],Z,U [41,44,57],U [39,39]],
 [U [70,70],U [106],U [4,48],U [76],U [41,44,3],U [41,44,3],Z,U [41,3],Z,Z,Z,Z,Z,Z,Z,U [9]],
 [U [130],U [94],U [39,3],U [141,3],U [32,3],U [32,3,3,67],U [29],U [3,3,3],U [23],U [128,3,3],U [32],U [41],U [94],U [41],U [41],U [41]],
 [U [41],U [44,3],Z,Z,Z,Z,U [32,35,36,79],U [3,3,3],Z,Z,Z,Z,U [64],U [70],U [67],U [32,3,3,76,67]],
 [U [32,3,3,76,94,67],U [76,94],Z,U [9],Z,Z,U [124],U [3,3,3],Z,U [124,124],U [32,3],Z,U [32,3,3],U [30,67],Z,Z],
 [U [23],U [3,4,3,3],U [126,126],U [29],U [32],U [9],Z,Z,U [141,3],U [32,3,69],U [30,3],U [76],Z,U [32,35,36,79],Z,Z],
 [Z,Z,U [3,3],U [3,3],U [124,3,3],Z,U [5],Z,Z,Z,Z,Z,Z,Z,U [243],U [32,3]],
 [U [30,247],U [128,128],Z,U [30,247],U [128,128],U [3,3],U [128,134],Z,Z,U [29,3],Z,U [126],U [3,3,3],Z,Z,Z],
 [U [3,3,3],U [23],U [128,3],U [128],Z,Z,U [141],U [3,3,3],U [141,3],U [124,124],U [32,3],U [32,3,3,67],Z,Z,Z,U [124,124]],
 [Z,Z,U [271,273],U [267,267],Z,U [76,128,134],Z,Z,Z,U [9,5],Z,Z,Z,U [3],U [3,3,3],Z],
 [Z,U [285,285],U [3],U [29,3],U [3,3],Z,U [126],U [126,126],Z,U [124],U [124,3,3],Z,U [3,193],U [32,3],U [32,3,3],U [30,67]],
 [Z,Z,Z,Z,U [32,3,94],U [67,134],Z,U [32,3,3,76,36,67],Z,U [32,35,3,77,77,193],U [124,124],Z,Z,Z,Z,Z],
 [Z,Z,Z,Z,Z,Z,Z,Z,Z,Z,Z,Z,Z,Z,Z,U [122]],
 [Z,U [32,3,3,3],U [32,3,3],Z,Z,U [32,3],Z,U [67,134],Z,Z,Z,Z,U [306,306],Z,Z,Z],
 [Z,Z,Z,Z,Z,Z,Z,Z,Z,Z,Z,Z,Z,Z,Z,Z],
 [Z,Z,Z,Z,Z,Z,Z,Z,Z,Z,U [3,3],U [3],Z,Z,Z,Z],
 [Z,Z,Z,Z,Z,Z,Z,Z,U [302,363],Z,Z,Z,Z,Z,Z,Z],
 [Z,Z,Z,Z,Z,Z,Z,Z,Z,Z,U [128,128],Z,Z,Z,Z,Z],
 [Z,Z,Z,Z,Z,Z,Z,Z,Z,Z,Z,Z,Z,U [3],U [417,421],U [419,419]]]
def atB:TD->Bool
 |.map k _ n X=>(k==3&&n==1&& !X)||(k==197&&n==2&&X)||(k==267&&n==3&&X)
 |_=>J
def aDl:uR Tryz.prog 3 1 false:=aDh aY
def aDm:uR Tryz.prog 197 2 true:=by
 have X:Tryz.prog.underlying 197=U (.array 2 3):=aY;obtain⟨i,V⟩:∃i,Tryz.prog.info? 3=U i:=ln.1 aY;exact atA X aY aY (λl b W R=>aDj X aY V aY R b 9998 W)
def atC(P:Program)(k n:Nat):Bool:=match P.underlying k with
 |U (.struct X)=>X.toList.all λf=>f.name != "_"&&(match P.underlying f.type with
  |U (.int I)=>J
  |_=>E)&&decide (f.offset<n)
 |_=>E
def aDn{P:Program}(h:atC P X w=J)(Q:vT (P.underlying X)=J)(O:vU P 20 X (eN w (.int I))=J):uR P X w true:=by
 unfold atC at h;split at h;rename_i L V;refine atA V Q O (λl b W N=>aDk V (λf M=> ?_) N b 9998 W);have:=fO.1 h f M;simp only[aw,bne_iff_ne,ne_eq,cm] at this;refine⟨this.1.1, ?_,this.2⟩;have R:=this.1.2;split at R;assumption;cases R;cases h
def aDo:uR Tryz.prog 267 3 true:=aDn aY aY aY
def aDp:FF (λt X=>abS Tryz.prog t X&&(!X.eq||ah2 Tryz.prog t X)&&atB X.d) 0 TT=true:=aY
def Sg:FF (λg _=>wB Tryz.prog g) 0 SG=true:=aY
def JQ:jg Tryz.prog (look TT):=by
 intro t R h;have:=amI aDp h;simp only[aw,jy,ik] at this;refine ayx this.1.1 (λW=>aDf (this.1.2.resolve_left (by rw[W];simp))) (λk e n Q V=> ?_);have X:=this.2;rw[V] at X;simp only[atB,jy,aw,dE,ik] at X;rcases X with(⟨⟨rfl,rfl⟩,rfl⟩|⟨⟨rfl,rfl⟩,rfl⟩)|⟨⟨rfl,rfl⟩,rfl⟩;exact aDl;exact aDm;exact aDo
def Si:Tryz.prog.follows .mixedOrders=true:=aY
def GL:nu:=[(0,0,6),(1,1,2),(2,2,2)]
def GLK:bv:=[.sl 206,.sl 227,.sl 197]
def GW(W:World):Prop:=∃X,LL (look TT) GL GLK kV W X
def GW.grow{W X:World}(V:Below W.heap.size W X)(h:GW W):GW X:=by
 obtain⟨R,Q,P,O,N⟩:=h;exact⟨R,Q,P,λk e M L H=>(O k e M L H).grow V,N⟩
def vV(X:A9):Prop:=∀x∈X,mP Tryz.prog (look TT) x.1 x.2.1 x.2.2.1 x.2.2.2.1 x.2.2.2.2
def GZ(z:Bool)(W:World):Prop:=z=J->GW W
def GZ.grow{z:Bool}{W X:World}(V:Below W.heap.size W X)(h:GZ z W):GZ z X:=λe=>(h e).grow V
abbrev td(z:Bool)(f:FuncId)(F:bq->kE):Prop:=DM Tryz.prog (look TT) (look PT) (look SG) (GZ z) f F
def atD:∀{X:aS},qu X=J->∀(k:Nat)(t:TypeId),(jM X)[k]?≠U (.own t)
 |[],_,k,t=>by simp[jM]
 |x::X,h,k,t=>by
  simp only[qu,aw] at h;have W:=atD h.2;cases x with
  |int _=>exact W k t
  |bool=>exact W k t
  |ah e=>
   cases k with
   |zero=>
    intro V;simp[jM] at V;subst V;simp[HM] at h
   |succ k=>simpa[jM] using W k t
def G0(g:Bool):nu:=if g then GL else[]
def th(g:Bool):bv:=if g then GLK else[]
def ah5(g:Bool)(V:g=J->v=J)(W:World)(h:GZ v W):∃R,LL (look TT) (G0 g) (th g) (mo g) W R:=by
 cases g with
 |true=>exact h (V rfl)
 |false=>exact⟨[],rfl,λk X P h=>by simp[mo] at h,λk e O h=>by simp[th] at h,λN x Q=>by simp[G0] at Q⟩
def aDq{bA:nG}(af:∀f,td v f (bA f)){f:FuncId}(hf:Tryz.prog.funcs[f]?=U u)(hb:u.body=U x){D:ar}(hi:D.all (wB Tryz.prog)=J){B:A9}(ag:vV B){lK:Bool}{j:C4}{g:Bool}{e:Option TypeId}
  {ps a:jU}{L qk:aS}{ba l:aq}{H:bv}{F:bq->kE}
  (al:look PT f=U ps)(an:look SG f=U a)(a0:iG (look TT) ps=U L)(a1:iG (look TT) a=U qk)
  (bf:qu L=J)(hl:ku (look TT) ps ba=U l)(a3:su 0 0 (th g).length L l=J)(y:H=th g++jM L)(hq:g=E\/uY qk=J)
  (bg:((⟨[],[],0,0,[],0,0,[]⟩:S).cP L).2.ni=w)(bk:((⟨[],[],0,0,[],0,0,[]⟩:S).cP L).2.nb=n)
  (a4:∀(p:Sp)(O:ai),t.aP p O []->(evX (pN Tryz.prog TT SG (G0 g) D A B lK j) e X f x u.ntmps u.results.toList ba ⟨[],[],w,n,H,0,0,[]⟩).aP p O [])
  (bb:acs Tryz.prog x e)(bc:e≠Z->∀P V,F P≠U (.bI V))
  (hc:t.iw (look TT) (look PT) (look SG) a w n H []=J)(hF:∀P o,eP L P->F P=U o->wF bA t (fU (mo g) P) [] o)(hz:g=J->v=J):td v f F:=by
 have e1:∀G P,eP L P->(fU G P).i.length=w:=λG P M=>by
  have h1:=(zL L P ⟨[],[],0,0,[],0,0,[]⟩ ⟨[],[],[],[]⟩ M rfl rfl rfl).1;have h2:=(FI (O:=⟨[],[],[],[]⟩) M).1;have h3:=(FI (O:=⟨[],[],G,[]⟩) M).1;rw[<-bg,<-h1,fU,h3,h2]
 have e2:∀G P,eP L P->(fU G P).b.length=n:=λG P M=>by
  have h1:=(zL L P ⟨[],[],0,0,[],0,0,[]⟩ ⟨[],[],[],[]⟩ M rfl rfl rfl).2.1;have h2:=(FI (O:=⟨[],[],[],[]⟩) M).2.1;have h3:=(FI (O:=⟨[],[],G,[]⟩) M).2.1;rw[<-bk,<-h1,fU,h3,h2]
 have e3:∀P,eP L P->(fU (mo g) P).r.length=Y H:=λP M=>by rw[y];exact PM M (by cases g<;>rfl)
 have e4:∀(k:Nat)(t:TypeId),H[k]?≠U (.own t):=by
  rw[y];intro k t hk;by_cases bd:k<(th g).length;rw[dH bd] at hk;cases g with
  |false=>simp[th] at bd
  |true=>rcases k with _|_|_|k<;>simp[th,GLK] at hk
  rw[iE aa] at hk;exact atD bf _ t hk
 have e5:mo g=[]\/uY qk=true:=hq.imp (λh=>by subst h;rfl) id;have a9:∀P o,eP L P->F P=U o->∃N,run (look TT) (look PT) (look SG) bA a N t (fU (mo g) P) H []=U o:=λP o M ho=>by
  obtain⟨N,hN⟩:=hF P o M ho;exact⟨N,uZ N t _ H [] [] [] o hN (by rw[e1 _ P M,e2 _ P M];exact hc) (e3 P M) BM.nil⟩
 cases e with
 |none=>exact ayX (cf:=pN Tryz.prog TT SG (G0 g) D A B lK j) (glk:=th g) (glv:=mo g) (λQ R s=>PF JQ Sg hi Si s ag) rfl af (λ_ _ m h=>h.grow m) hf hb al an a0 a1 hl (by cases g<;>exact a3) y e4 (by cases g<;>rfl) e5 e1 e2 (λW h=>ah5 g hz W h) (λp O h=>(azg _ _ _ _ _ _ _ _).subst (motive:=λq=>T.aP p q O []) (a4 p O h)) a9
 |some eT=>
  cases eT with
  |zero=>exact azo (cf:=pN Tryz.prog TT SG (G0 g) D A B lK j) (glk:=th g) (glv:=mo g) (λQ R s=>PF JQ Sg hi Si s ag) rfl af (λ_ _ m h=>h.grow m) hf hb bb al an a0 a1 hl (by cases g<;>exact a3) y e4 (by cases g<;>rfl) e5 e1 e2 (λW h=>ah5 g hz W h) a4 (bc av) a9
  |succ eT=>
   obtain⟨d,hd,bl⟩:=bb;exact ayY (cf:=pN Tryz.prog TT SG (G0 g) D A B lK j) (glk:=th g) (glv:=mo g) (λQ R s=>PF JQ Sg hi Si s ag) rfl af (λ_ _ m h=>h.grow m) hf hb hd bl al an a0 a1 hl (by cases g<;>exact a3) y e4 (by cases g<;>rfl) e5 e1 e2 (λW h=>ah5 g hz W h) (λp O h=>(azh _ _ _ _ _ _ _ _ _).subst (motive:=λq=>T.aP p q O []) (a4 p O h)) (bc av) a9
def ah6(f:FuncId):td v f (λ_=>Z):=λ_ _ _ _ _ _ _ _ _ _ _ h=>by cases h
def bF(f:FuncId)(g d:Bool)(t:T):Prop:=∀(z:Bool),(g=J->z=J)->∀(bA:nG),(∀g,td z g (bA g))->∀n,td z f (λX=>BN d (exec bA n t (fU (mo g) X) []))
def aDr(r:Tryz.prog.funcs[F]?=U u)(k:u.body=U x){H:ar}(j:H.all (wB Tryz.prog)=J){G:A9}(i:vV G){e:C4}{g:Bool}{Q:Option TypeId}
  {N M:jU}{V D:aS}{B l:aq}{L:bv}
  (d:look PT F=U N)(b:look SG F=U M)(a:iG (look TT) N=U V)(af:iG (look TT) M=U D)
  (ag:qu V=J)(hl:ku (look TT) N B=U l)(al:su 0 0 (th g).length V l=J)(an:L=th g++jM V)(hq:g=E\/uY D=J)
  (a0:((⟨[],[],0,0,[],0,0,[]⟩:S).cP V).2.ni=w)(a1:((⟨[],[],0,0,[],0,0,[]⟩:S).cP V).2.nb=n)
  (a3:acs Tryz.prog x Q)
  {y:Bool}(ht:ctE y t (evX (pN Tryz.prog TT SG (G0 g) H A G v e) Q X F x u.ntmps u.results.toList B ⟨[],[],w,n,L,0,0,[]⟩)=t)
  (hc:t.iw (look TT) (look PT) (look SG) M w n L []=J):bF F g Q.isSome t:=
 λz hz bA a4 m=>aDq (F:=λP=>BN Q.isSome (exec bA m t (fU (mo g) P) [])) a4 r k j i d b a af ag hl al an hq a0 a1 (λp O h=>ayW (g:=t) (c:=y) (Eq.mpr (kh (λq=>T.aP p q O []) ht) h))
  a3 (λa9 P W h=>by
   cases Q with
   |none=>exact a9 rfl
   |some eT=>
   simp only[Option.isSome_some] at h;cases R:exec bA m t (fU (mo g) P) [] with
   |none=>rw[R] at h;cases h
   |some o=>rw[R] at h;cases o<;>simp[BN] at h) hc (λP o _ h=>by
   cases R:exec bA m t (fU (mo g) P) [] with
   |none=>simp only[R,BN] at h;cases h
   |some s=>
    simp only[R] at h;have:o=s:=by
     cases s with
     |ret ys=>simp only[BN,cU] at h;exact h.symm
     |bI W=>
      simp only[BN] at h;split at h;cases h;cases h;rfl
    subst this;exact⟨m,R⟩) hz
def YV:fj->Nat->Nat->Nat->aq×Nat×Nat×Nat
 |[],a,b,c=>([],a,b,c)
 |.int k::l,a,b,c=>let r:=YV l (a+1) b c;(.int k (.v a)::r.1,r.2)
 |.bool::l,a,b,c=>let r:=YV l a (b+1) c;(.bool (.v b)::r.1,r.2)
 |.ae _ _::l,a,b,c=>let r:=YV l a b (c+1);(.ah (.v c)::r.1,r.2)
def mkA:jU->Nat->Nat->Nat->aq
 |[],_,_,_=>[]
 |t::W,a,b,c=>match look TT t with
  |U X=>let r:=YV X.aj a b c;(if X.d.isAgg then .agg r.1 else r.1.headD .any)::mkA W r.2.1 r.2.2.1 r.2.2.2
  |none=>[]
def pkF(f:FuncId):aS:=(iG (look TT) ((look PT f).getD [])).getD []
abbrev YW:S:=⟨[],[],0,0,[],0,0,[]⟩
def tk{W V:jU}{X O:aS}{l:aq}(M:Tryz.prog.funcs[F]?=U u)(loops:List (Nat×Nat×fH):=[])(inl:ar:=[])(srts:A9:=[])(lK:Bool:=E)(chs:C4:=[])(g:Bool:=E)(dT:Option TypeId:=Z)(n:Nat:=300)
  (N:aq:=mkA ((look PT F).getD []) 0 0 (th g).length)(R:Nat:=(YW.cP (pkF F)).2.ni)(Q:Nat:=(YW.cP (pkF F)).2.nb)(P:bv:=th g++jM (pkF F))
  (hsr:vV srts:=by exact λx L=>by cases L)(hdc:acs Tryz.prog (u.body.getD .skip) dT:=by exact trivial)
  (H:u.body=U (u.body.getD .skip):=by rfl)(G:inl.all (wB Tryz.prog)=true:=by kernel_rfl)
  (D:look PT F=U W:=by exact rfl)(B:look SG F=U V:=by exact rfl)(A:iG (look TT) W=U X:=by exact rfl)(z:iG (look TT) V=U O:=by exact rfl)
  (y:qu X=true:=by exact rfl)(w:ku (look TT) W N=U l:=by exact rfl)(v:su 0 0 (th g).length X l=true:=by exact rfl)(s:P=th g++jM X:=by exact rfl)(r:g=E\/uY O=true:=by first|exact .inl rfl|exact .inr rfl)
  (q:(YW.cP X).2.ni=R:=by exact rfl)(p:(YW.cP X).2.nb=Q:=by exact rfl)
  (ct:Bool:=E)(o:ctE ct t (evX (pN Tryz.prog TT SG (G0 g) inl loops srts lK chs) dT n F (u.body.getD .skip) u.ntmps u.results.toList N ⟨[],[],R,Q,P,0,0,[]⟩)=t:=by kernel_rfl)
  (m:t.iw (look TT) (look PT) (look SG) V R Q P []=true:=by kernel_rfl):bF F g dT.isSome t:=
 aDr M H G hsr D B A z y w v s r q p hdc o m
structure ah8(tb:lA)(z:Bool):Prop where
 tree:∀f fn,tb.tree f=U fn->bF f fn.g fn.d fn.t
 laid:∀f fn,tb.tree f=U fn->fn.g=J->z=J
 tW:∀f,td z f (tb.tW f)
def td.or{X G:bq->kE}(h:td v F X)(k:td v F G):td v F (λV=>match X V with|U o=>U o|none=>G V):=by
 intro P O N M L H D B R V o W;simp only at W;cases Q:X R with
 |some A=>rw[Q] at W;simp only[cU] at W;subst W;exact h P O N M L H D B R V A Q
 |none=>rw[Q] at W;exact k P O N M L H D B R V o W
def YX{V:lA}{z:Bool}(X:ah8 V z):∀n f,td z f (V.bA n f)
 |0,f=>X.tW f
 |n+1,f=>by
  cases R:V.tree f with
  |none=>
   have:=td.or (X.tW f) (ah6 f);intro Q P O N M L H G F D o W;simp only[lA.bA,R] at W;exact this Q P O N M L H G F D o W
  |some t=>
   have:=td.or (X.tW f) (X.tree f t R z (X.laid f t R) (V.bA n) (YX X n) n);intro Q P O N M L H G F D o W;simp only[lA.bA,R] at W;exact this Q P O N M L H G F D o W
def atF(h:DQ x=U F)(k:DP Tryz.prog F):∀X,DQ x=U X->DP Tryz.prog X:=λX W=>by rw[h] at W;cases W;exact k
def ah9(h:(zA x).map DI.g=U F)(k:yj Tryz.prog F R):∃d,zA x=U d/\yj Tryz.prog d.g R:=by
 cases X:zA x with
 |none=>rw[X] at h;cases h
 |some d=>rw[X] at h;cases h;exact⟨d,rfl,k⟩
def YY:∀X:bq,BJ X X
 |[]=>trivial
 |x::X=>⟨by cases x with
  |i n=>rfl
  |b n=>rfl
  |r v=>exact dG.refl v,YY X⟩
def YZ{V:Ty}{X:aS}{R:bq}(h:∀e,LK.ah e∉X):zV V H X R:=λq e P Q _=>(h e (jI Q)).elim
def atG{V:Ty}{W:aS}{R:bq}(h:∀e,LK.ah e∉W):¬zU V W R X:=λ⟨q,e,P,Q,_,_⟩=>h e (jI Q)
def tj:A9:=[(162,163,267,.lex [0,1,2] E,E),(128,129,128,.ratio 10 11,J),(131,132,128,.lex [0] E,E),(280,236,306,.lex [1,0] E,E),(318,319,419,.lex [4] J,J),(91,91,3,.dw 0 (.lex [] E) [],J)]
end
end Go.Proofs.YtejplpmpldcmlaaGreatDoor.Y
namespace Go.Proofs.YtejplpmpldcmlaaGreatDoor
open Go.RowKit
variable{H:World}{X w:Nat}{v:Bool}{R:TypeId}{G:Array Value}
section
def aDs{P:Program}(X:Array TypeId)(t:TypeId)(x y:Int):(Builtin.min_ X t #[.int I x,.int I y]).run P H=.ok (.int I (min x y)) H:=by
 simp[Builtin.min_,Builtin.min2];omega
def aDt{P:Program}(X:Array TypeId)(t:TypeId)(x y:Int):(Builtin.max_ X t #[.int I x,.int I y]).run P H=.ok (.int I (max x y)) H:=by
 simp[Builtin.max_,Builtin.max2];omega
attribute[go_sem high] aDs aDt
def Sl{R:Type}(P:R->List Value)(k:Nat)(w:World)(v:Value)(X:List R):Prop:=
 ∃(a:Option Addr)(W V:Nat),v=.slice a W V/\Y X=W/\W<=V/\V<=4611686018427387904/\
  ∀i(h:i<Y X),∃b Q,a=U ⟨b,Q,Z⟩/\b<w.heap.size/\∀j,j<k->w.cell? ⟨b,Q+i*k+j,Z⟩=(P X[i])[j]?
def Sl.below{W:Type}{V:W->List Value}{R:World}{v:Value}{Q:List W}(h:Sl V X H v Q)(P:Below H.heap.size H R):Sl V X R v Q:=by
 obtain⟨a,N,M,L,G,F,D,B⟩:=h;refine⟨a,N,M,L,G,F,D,λi A=> ?_⟩;obtain⟨b,z,e,O,y⟩:=B i A;exact⟨b,z,e,Zn O P.size,λj x=>(P.cell (p:=⟨b,_,Z⟩) O).trans (y j x)⟩
def Y0(n:Int):List Value:=[.int I n]
def NT{b:Bool}(h:v=b):Ending.returned (.bool v)=.returned (.bool b):=by rw[h]
def atH{X:World}(V:Below H.heap.size H X):(∀b o,b<H.heap.size->X.cell? ⟨b,o,Z⟩=H.cell? ⟨b,o,Z⟩)/\(∀b o,b<H.heap.size->X.frozen? ⟨b,o,Z⟩=H.frozen? ⟨b,o,Z⟩):=
 ⟨λb o h=>V.cell (p:=⟨b,o,Z⟩) h,λb o h=>V.frozen (p:=⟨b,o,Z⟩) h⟩
def aDu:List Value:=[.int I 0,.int I 29,.int I 20,.int I 21,.int I 29,.int I 0,.int I 20,.int I (-21),.int I 0,.int I (-29),.int I (-20),.int I (-21),.int I (-29),.int I 0,.int I (-20),.int I 21]
def aia(w:World):Prop:=4<=w.heap.size/\∀i,i<16->w.cell? ⟨2,i,Z⟩=aDu[i]?
def aia.below{X:World}(h:aia H)(W:Below H.heap.size H X):aia X:=
 ⟨pw h.1 W.size,λi V=>(W.cell (p:=⟨2,i,Z⟩) (by have:=h.1;show 2<_;omega)).trans (h.2 i V)⟩
def AU{X:World}(h:Below H.heap.size H X)(o:Obj):Below H.heap.size H (X.alloc o):=h.alloc h.size o
def aib{X:World}(h:Below H.heap.size H X){p:Addr}(W:H.heap.size<=p.block)(u:Value):Below H.heap.size H (X.setCell p u):=h.setCell W u
def EP{X W:World}(h:Below H.heap.size H X)(k:Below X.heap.size X W):Below H.heap.size H W:=h.trans (k.mono h.size)
def aic{X:World}(h:Below H.heap.size H X):Below H.heap.size H X.drew:=h.drew
def Bx(W:World)(b:Nat)(t:TypeId)(X:Array Value):Prop:=W.heap[b]?=U (.cells X t (0,0))
def Bx.lt(h:Bx H X R G):X<H.heap.size:=by
 unfold Bx at h;by_cases V:X<H.heap.size;exact V;rw[aIk (by omega)] at h;cases h
def Bx.cell(h:Bx H X R G):∀i,H.cell? ⟨X,i,Z⟩=G[i]?:=by
 intro i;unfold Bx at h;simp[ow,h]
def Bx.new(w:World)(X:Array Value)(t:TypeId):Bx (w.alloc (.cells X t)) w.heap.size t X:=by
 show(w.heap.push _)[w.heap.size]?=_;simp
def Bx.alloc(h:Bx H X R G)(o:Obj):Bx (H.alloc o) X R G:=
 (Below.heap_alloc H o X h.lt).trans h
def Bx.drew(h:Bx H X R G):Bx H.drew X R G:=h
def Bx.drewN(h:Bx H X R G)(n:Nat):Bx (H.drewN n) X R G:=h
def Bx.below{V:World}(h:Bx H X R G)(Q:Below H.heap.size H V):Bx V X R G:=
 (Q.block X h.lt).trans h
def Bx.set(h:Bx H X R G)(u:Value):Bx (H.setCell ⟨X,w,Z⟩ u) X R (G.setIfInBounds w u):=by
 unfold Bx at*;simp[Zw,SI,h]
end
end Go.Proofs.YtejplpmpldcmlaaGreatDoor
namespace Go.Proofs.YtejplpmpldcmlaaGreatDoor.K
structure Range where
 Lo:Int
 Hi:Int
 deriving DecidableEq
structure lG where
 X:Range
 Y:Range
 deriving DecidableEq
structure Vec where
 X:Int
 Y:Int
 Z:Int
 deriving DecidableEq
def lG.zero:lG:=⟨⟨0,0⟩,⟨0,0⟩⟩
def AV(m:Int)(X:List Int):Bool:=X.all λn=> !(n< -m||n>m)
def lG.valid(b:lG):Bool:=AV 1099511627776 [b.X.Lo,b.X.Hi,b.Y.Lo,b.Y.Hi]&&decide (b.X.Lo<=b.X.Hi)&&decide (b.Y.Lo<=b.Y.Hi)
def Range.uz(x y:Range):Bool:=decide (x.Lo<=y.Hi)&&decide (y.Lo<=x.Hi)
def lG.uz(a b:lG):Bool:=a.X.uz b.X&&a.Y.uz b.Y
def aDv(m:Int)(X:List Int)(k:Nat)(h:k<Y X):AV m (X.take (k+1))=(AV m (X.take k)&& !(X[k]< -m||X[k]>m)):=by
 unfold AV;rw[List.take_succ_eq_append_getElem h,List.all_append];simp
def aDw{m:Int}{X:List Int}{k:Nat}(h:AV m (X.take k)=E):AV m X=false:=by
 unfold AV at*;rw[List.all_eq_false] at*;obtain⟨x,W,h⟩:=h;exact⟨x,EW W,h⟩
end Go.Proofs.YtejplpmpldcmlaaGreatDoor.K
namespace Go.Proofs.YtejplpmpldcmlaaGreatDoor
open Go.RowKit
abbrev K.Range.v(x:K.Range):Value:=.agg #[.int I x.Lo,.int I x.Hi]
abbrev K.lG.v(x:K.lG):Value:=.agg #[.int I x.X.Lo,.int I x.X.Hi,.int I x.Y.Lo,.int I x.Y.Hi]
def aDx(m:Int)(v:Value)(X:List Int)(w:World)(z:0<=m)(x:m<=4611686018427387904)(G:Sl Y0 1 w v X):
  Calls Tryz.prog 167 #[.int I m,v] w λe F=>e=.returned (.bool (K.AV m X))/\w=F:=by
 obtain⟨a,W,u,rfl,R,t,s,Q⟩:=G;have D:=Lib.hid Q;clear Q;have P:=Lib.hid R;clear R;go_enter Tryz.func167,Tryz.ntmps167;go_wp2
 go_loop [9] (λi=>∃k:Nat,k<=W/\i=.int I k/\K.AV m (X.take k)=J) (λi=>W-(intOf i).toNat)
 case atStart=>exact⟨0,Hh _,rfl,rfl⟩
 case round=>
  obtain⟨k,r,rfl,O⟩:=hrel;have V:=Lib.hid O;clear O;by_cases B:k<W
  ·have N:k<Y X:=by rw[P.out];exact B
   have M:=K.aDv m X k N;have L:=Lib.hid M;clear M;obtain⟨b,q,rfl,p,H⟩:=D.out k N;have A:=H 0 (by omega);clear H;simp only[Y0,A4,zl,ai6] at A;generalize X[k]=y at*;go_wp2
   all_goals first
    |(go_ret;exact⟨NT (K.aDw (k:=k+1) (by rw[L.out,V.out];simp<;>omega)).symm,rfl⟩)
    |(go_round
      case rel=>exact⟨k+1,by omega,by go_num,by rw[L.out,V.out];simp<;>omega⟩
      case measure=>simp[intOf];omega)
  ·go_wp2;go_ret;exact⟨NT (by rw[<-V.out,G5 (by rw[P.out];omega)]),rfl⟩
def Sj(x:K.lG)(r:Bool)(R:x.valid=r)(w:World):
  Calls Tryz.prog 126 #[x.v] w λe W=>e=.returned (.bool r)/\Below w.heap.size w W:=by
 subst R;have Q:Sl Y0 1 ((w.alloc (.cells #[.int I x.X.Lo,.int I x.X.Hi,.int I x.Y.Lo,.int I x.Y.Hi] 243)).alloc (.cells #[.int I x.X.Lo,.int I x.X.Hi,.int I x.Y.Lo,.int I x.Y.Hi] 3)) (.slice (U ⟨w.heap.size+1,0,Z⟩) 4 4) [x.X.Lo,x.X.Hi,x.Y.Lo,x.Y.Hi]:=by
  refine⟨_,_,_,rfl,rfl,by omega,by omega,λi P=>⟨w.heap.size+1,0,rfl,by simp,λj O=> ?_⟩⟩;obtain rfl:j=0:=by omega
  simp at P;rcases i with _|_|_|_|i<;>first|omega|simp[Y0,go_sem]
 cases V:K.AV 1099511627776 [x.X.Lo,x.X.Hi,x.Y.Lo,x.Y.Hi]
 all_goals
  go_enter Tryz.func126,Tryz.ntmps126
  go_wp2_with (go_at_call 167;refine(aDx _ _ _ _ (by omega) (by omega) Q).mono ?_;rw[V];rintro e W ⟨rfl,rfl⟩)
  all_goals(go_ret;exact⟨NT (by simp[K.lG.valid,V]<;>omega),AU (AU (Below.refl _ _) _) _⟩)
def aid(x y:K.Range)(r:Bool)(X:x.uz y=r)(w:World):
  Calls Tryz.prog 240 #[x.v,y.v] w λe W=>e=.returned (.bool r)/\Below w.heap.size w W:=by
 subst X;by_cases V:x.Lo<=y.Hi
 all_goals
  go_enter Tryz.func240,Tryz.ntmps240;go_wp2
  all_goals(go_ret;exact⟨NT (by simp[K.Range.uz]<;>omega),AU (AU (Below.refl _ _) _) _⟩)
def aDy(a b:K.lG)(w:World):
  Calls Tryz.prog 192 #[a.v,b.v,.func (.func 240) #[] #[]] w λe O=>e=.returned (.bool (a.uz b))/\Below w.heap.size w O:=by
 cases R:a.X.uz b.X
 ·have W:=Lib.hid R;clear R;go_enter Tryz.func192,Tryz.ntmps192
  go_wp2_with (go_at_call 240;refine(aid ⟨_,_⟩ ⟨_,_⟩ E W.out _).mono ?_;rintro e N ⟨rfl,V⟩;obtain⟨M,L⟩:=atH V)
  go_ret;exact⟨NT (by simp[K.lG.uz,W.out]),EP (AU (AU (Below.refl _ _) _) _) V⟩
 ·have W:=Lib.hid R;clear R;cases Q:a.Y.uz b.Y
  all_goals
   have P:=Lib.hid Q;clear Q;go_enter Tryz.func192,Tryz.ntmps192
   go_wp2_with fail
   refine(aid ⟨_,_⟩ ⟨_,_⟩ J W.out _).mono ?_;rintro e N ⟨rfl,V⟩;obtain⟨M,L⟩:=atH V
   go_wp2_with fail
   refine(aid ⟨_,_⟩ ⟨_,_⟩ _ P.out _).mono ?_;rintro e G ⟨rfl,H⟩;go_wp2;go_ret;exact⟨NT (by simp[K.lG.uz,W.out,P.out]),EP (EP (AU (AU (Below.refl _ _) _) _) V) H⟩
abbrev K.Vec.v(x:K.Vec):Value:=.agg #[.int I x.X,.int I x.Y,.int I x.Z]
def aDz(a b:K.lG)(Q:a.valid=J)(P:b.valid=J)(r:Bool)(O:a.uz b= !r)(w:World):
  Calls Tryz.prog 202 #[a.v,b.v] w λe N=>e=.returned (.tuple #[.bool r,.int I 0])/\Below w.heap.size w N:=by
 have M:=Lib.hid Q;clear Q;have L:=Lib.hid P;clear P;have H:=Lib.hid O;clear O;go_enter Tryz.func202,Tryz.ntmps202
 go_wp2_with fail
 refine(Sj ⟨⟨_,_⟩,⟨_,_⟩⟩ J M.out _).mono ?_;rintro e D ⟨rfl,W⟩;have V:=((Bx.new w _ _).alloc _).below W;have X:=(Bx.new (w.alloc _) _ _).below W;simp only[aiW] at X;have G:=X.cell
 go_wp2_with fail
 refine(Sj ⟨⟨_,_⟩,⟨_,_⟩⟩ J L.out _).mono ?_;rintro e B ⟨rfl,R⟩;replace V:=V.below R;replace X:=X.below R;have A:=V.cell;have G:=X.cell
 go_wp2_with fail
 refine(aDy ⟨⟨_,_⟩,⟨_,_⟩⟩ ⟨⟨_,_⟩,⟨_,_⟩⟩ _).mono ?_;rw[show K.lG.uz ⟨⟨_,_⟩,⟨_,_⟩⟩ ⟨⟨_,_⟩,⟨_,_⟩⟩= !r from H.out];rintro e z ⟨rfl,F⟩;go_wp2
 go_ret2
 refine⟨by simp, ?_⟩
 repeat' first|with_reducible apply AU|with_reducible apply aic|(with_reducible refine aib ?_ (by dsimp only;omega) _)|with_reducible exact Below.refl _ _|(refine EP ?_ F)|(refine EP ?_ R)|(refine EP ?_ W)
end Go.Proofs.YtejplpmpldcmlaaGreatDoor
namespace Go.Proofs.YtejplpmpldcmlaaGreatDoor.Y
open Go.RowKit
noncomputable section
variable{F:FuncId}{u:Func}{x:Code}{X w n:Nat}{t:T}{R:TypeId}{M B:au}{z:bp}{y:bz}{H:World}{v:Bool}{A:List (Nat×Nat×fH)}
def aDA(a b:K.lG)(X:a.valid=E)(w:World):Calls Tryz.prog 202 #[a.v,b.v] w λe R=>e=.returned (.tuple #[.bool E,.int I 150])/\Below w.heap.size w R:=by
 have Q:=Lib.hid X;clear X;go_enter Tryz.func202,Tryz.ntmps202
 go_wp2_with fail
 refine(Sj ⟨⟨_,_⟩,⟨_,_⟩⟩ E Q.out _).mono ?_;rintro e P ⟨rfl,W⟩;have V:=(Bx.new (w.alloc _) _ _).below W;simp only[aiW] at V;have O:=V.cell;go_wp2
 go_ret2
 refine⟨av, ?_⟩
 repeat' first|with_reducible apply AU|with_reducible apply aic|(with_reducible refine aib ?_ (by dsimp only;omega) _)|with_reducible exact Below.refl _ _|(refine EP ?_ W)
def aDB(a b:K.lG)(Q:a.valid=J)(P:b.valid=E)(w:World):Calls Tryz.prog 202 #[a.v,b.v] w λe O=>e=.returned (.tuple #[.bool E,.int I 150])/\Below w.heap.size w O:=by
 have N:=Lib.hid Q;clear Q;have M:=Lib.hid P;clear P;go_enter Tryz.func202,Tryz.ntmps202
 go_wp2_with fail
 refine(Sj ⟨⟨_,_⟩,⟨_,_⟩⟩ J N.out _).mono ?_;rintro e H ⟨rfl,W⟩;have V:=((Bx.new w _ _).alloc _).below W;have X:=(Bx.new (w.alloc _) _ _).below W;simp only[aiW] at X;have L:=X.cell
 go_wp2_with fail
 refine(Sj ⟨⟨_,_⟩,⟨_,_⟩⟩ E M.out _).mono ?_;rintro e G ⟨rfl,R⟩;replace V:=V.below R;replace X:=X.below R;have F:=V.cell;have L:=X.cell;go_wp2
 go_ret2
 refine⟨av, ?_⟩
 repeat' first|with_reducible apply AU|with_reducible apply aic|(with_reducible refine aib ?_ (by dsimp only;omega) _)|with_reducible exact Below.refl _ _|(refine EP ?_ R)|(refine EP ?_ W)
def S.bare(s:S):S:=⟨[],[],s.ni,s.nb,s.rs,0,0,s.pd⟩
def Y1:XE->S->T:=λe s=>.out e s.bare
section
variable{g:ar}{q:World}{D:cg}{V:ar}{O:ai}{s:S}{a:Act}{W:World}{o:Ty}{cf:bE}{p:Sp}
def az.bare(R:az g q D o V O s a W):az g q D o [] O s.bare ⟨#[],a.defers⟩ W where
 mem:=⟨R.mem.base,λi h=>by simp[S.bare,aK,cw] at h,λi j h=>by simp[S.bare,aK,cw] at h,λi t M h=>by simp[S.bare,cw] at h,λk e X Q P=>⟨(R.mem.ah k e X Q P).1,λb L i h=>by simp[S.bare,aK,cw] at h⟩⟩
 gJ:=rfl
 ei:=R.ei
 eb:=R.eb
 er:=R.er
 dl:=R.dl
 size:=rfl
 tmps:=λt H h=>by simp[S.bare] at h
 gj:=λk e X b Q P N=>⟨(R.gj k e X b Q P N).own,(R.gj k e X b Q P N).mem,λi h=>by simp[S.bare,aK,cw] at h,(R.gj k e X b Q P N).alone,(R.gj k e X b Q P N).inner⟩
def aDC(H:jL p cf)(m:p.P.funcs[F]?=U u)(b:u.body=U x)(h0:u.results.toList=[])(hD:p.D=cg.none){N:aq}{s:S}{O:ai}{V:ar}
  (ht:fY cf X F x {s with tmps:=N++eN (u.ntmps-Y N) (.bM [])} iY Y1=t)(A:t.aP p O [])(hg:e8 cf.gl O)(R:az p.S0 p.w0 cg.none cf.ty V O {s with tmps:=[]} ⟨#[],[]⟩ p.w0)
  (hQ:∀e a W,p.Q e a W->(e=.normal\/e=.ret)/\p.R (.returned (.tuple #[])) W):
  Calls p.P F (C.aE O V N).toArray p.w0 p.R:=by
 subst ht;refine Lk m b ?_;have RE:=R.enter N u.ntmps R.dl;refine(Lw H X).1 cg.none ⟨{s with tmps:=N++eN (u.ntmps-Y N) (.bM [])},O,V,[]⟩ iY Z F x _ _ [] O V _ p.w0 _ (FE _ _) (jX.here _ _ _ _) rfl (λhh=>by cases hh) ⟨u,m⟩ A RE hg ?_ ?_;intro k M z pd y hA hR;obtain⟨af,G,q0,w,B⟩:=hA.mh;show LeavesInM Fence.wide 0 p.P u M.tmps p.R M.defers (.panicking k) z;rw[G];exact tV av (xF.1 w).1 (λd L=>(B d (by simp[L])).1) (Px (H.Uh k) (λd L=>(B d (by simp[L])).2) hR);intro e s' O' V' M z L' hl hL j A;obtain⟨af,G,q0,w,B⟩:=j.dl.mh;have i:=j.rq G;have r:=hQ _ _ _ (A O'.y [] _ _ (by rw[H.pt,hD];exact i.bare));have h:LeavesInM Fence.wide 0 p.P u M.tmps p.R M.defers .returning (z):=by
  rw[G];refine tV av (xF.1 w).1 (λd L=>(B d (by simp[L])).1) ⟨_,K8 (l:=[]) i H.kQ (by rw[h0];rfl), ?_⟩;exact r.2
 cases e with
 |normal=>exact h
 |ret=>exact h
 |bI v=>have:=r.1;simp[XE.to] at this
 |exit id=>have:=r.1;simp[XE.to] at this
def aDD{A:oz}(Q:az (lx A n).toList q D cf.ty V O s a W)(z:s.rs[X]?=U (.own R))(y:O.rv X=.mk (.slice A w n) M):
  q.grownBy W (lx A n)/\Ft q W R (bD cf.ty (.sl R)).length (lx A n) M A n:=by
 obtain⟨m,l,j,P,L,G⟩:=O6 Q z;rw[y] at P L;simp only[RV.nD] at P L;injection P with P _;injection P with x F v;subst x;subst F;subst v;obtain⟨F,g⟩:=tS L;have N:=Q.mem.base;refine⟨⟨N.os,N.tape,N.output,N.size,λi u t=>N.block i u (λH=>t ?_)⟩,⟨aa,G.nil, ?_⟩⟩;exact((by simpa[Option.mem_toList] using H:lx A n=U i)).symm;rcases G.mem with h|⟨b,da,rfl,B,H,r⟩;exact .inl h;cases n with
 |zero=>exact .inl rfl
 |succ c=>exact .inr ⟨b,da,rfl,B,H,r,aaC L B,.inr rfl⟩
end
def jH:ma->aC->Prop
 |[],x=>x=[]
 |b::X,c::r=>(if b then∃n,c=.mk (.int I n) [] else∃q,c=.mk (.bool q) [])/\jH X r
 |_::_,[]=>False
def EQ(b:Bool):CT:=if b then .int I else .bool
def vW(c:RV):RV:=.mk c.val []
def fC(X:au):au:=X.map λW=>W.map vW
def aie(c:Nat)(x:aC):aI c (x.map vW)=aI c x:=by
 simp only[aI,cz,dW];cases x[c]?<;>rfl
def atJ(d:Bool)(x y:aC):∀X,jK d X (x.map vW) (y.map vW)=jK d X x y
 |[]=>rfl
 |c::X=>by simp only[jK,aie,atJ d x y X]
def aif(o:bp)(x y:aC):o.lt (x.map vW) (y.map vW)=o.lt x y:=by
 cases o with
 |lex X d=>exact atJ d x y X
 |ratio n d=>simp only[bp.lt,aie]
 |dw k o W=>rfl
def aDE(o:bp)(x:aC):o.ok (x.map vW)=o.ok x:=by
 cases o with
 |lex X d=>rfl
 |ratio n d=>simp only[bp.ok,aie]
 |dw k o W=>rfl
def atK(o:bp)(x:aC):∀l,eC o.lt (x.map vW) (fC l)=fC (eC o.lt x l)
 |[]=>rfl
 |y::r=>by
  have X:=atK o x r;simp only[fC,dU,eC,aif] at X⊢;split;rfl;rw[X];rfl
def atL(o:bp)(l:au):bX o.lt (fC l)=fC (bX o.lt l):=by
 have:∀l acc,(fC l).foldl (λacc x=>eC o.lt x acc) (fC acc)=fC (l.foldl (λacc x=>eC o.lt x acc) acc):=by
  intro l;induction l with
  |nil=>intro acc;rfl
  |cons x l X=>
   intro acc;have:=X (eC o.lt x acc);rw[<-atK] at this;exact this
 exact this l []
def atM(o:bp)(l:au):(fC l).all o.ok=l.all o.ok:=by
 simp only[fC,N9];congr 1;funext x;exact aDE o x
def aDF(l:au)(a b:Nat):bm (fC l) a b=fC (bm l a b):=by simp[bm,fC]
def atN(o:bp):∀l,xY o.lt (fC l)=xY o.lt l
 |[]=>rfl
 |x::r=>by
  have X:=atN o r;simp only[fC,dU,xY,N9] at X⊢;rw[X];congr 2;funext y;simp only[Function.comp,aif]
def aDG(l:au)(a:Nat):(fC l).take a=fC (l.take a):=by simp[fC]
def aDH(l:au)(a:Nat):(fC l).drop a=fC (l.drop a):=by simp[fC]
def aDI(l m:au):fC (l++m)=fC l++fC m:=by simp[fC]
def AW(l:au):(fC l).length=Y l:=by simp[fC]
def aDJ(h:nE X z y M=U B):nE X z y (fC M)=U (fC B):=by
 unfold nE at h⊢;split at h
 all_goals first|(split at h<;>first|(cases h;done)|skip)|skip
 all_goals first|(cases h;done)|skip
 all_goals
  rename_i W;cases h;simp only[AW,atM,aDF,atN,aDG,aDH,atL,<-aDI];rw[aJ W]
def aDK(h:pL X z y M=U B):pL X z y (fC M)=U (fC B):=by
 obtain⟨W,V⟩:=BC h;unfold pL;rw[AW,aJ W];exact aDJ V
def atO(l:au):eG (fC l)=eG l:=by
 simp only[eG,fC,List.flatMap_map];congr 1;funext x;simp only[ov];rfl
def atP:∀(X:ma)(W:aC),Y W=Y X->(∀(j:Nat)(c:RV)(k:IntKind),W[j]?=U c->(X.map EQ)[j]?=U (.int k)->∃n,c.val=.int k n)->(∀(j:Nat)(c:RV),W[j]?=U c->(X.map EQ)[j]?=U .bool->∃x,c.val=.bool x)->jH X (W.map vW)
 |[],[],_,_,_=>rfl
 |[],_::_,h,_,_=>by simp at h
 |_::_,[],h,_,_=>by simp at h
 |b::N,c::r,M,P,O=>by
  refine⟨?_,atP N r (by simpa using M) (λj c k V R=>P (j+1) c k (by simpa using V) (by simpa using R)) (λj c V R=>O (j+1) c (by simpa using V) (by simpa using R))⟩;cases b with
  |true=>
   obtain⟨n,Q⟩:=P 0 c I rfl rfl;exact⟨n,by simp[vW,Q]⟩
  |false=>
   obtain⟨n,Q⟩:=O 0 c rfl rfl;exact⟨n,by simp[vW,Q]⟩
def atQ{L:Ty}{X:ma}(Q:bD L (.sl R)=X.map EQ)(h:fQ H L R M):∀x∈fC M,jH X x:=by
 intro x G;obtain⟨V,F,rfl⟩:=iq.1 G;obtain⟨i,P⟩:=tB F;refine atP X V ?_ (λj c k O N=>h.int i j V c k P O (by rw[Q];exact N)) (λj c O N=>h.bool i j V c P O (by rw[Q];exact N));have:=h.len i V P;rw[Q,qX] at this;exact this
def atS{x:Ty}{A:oz}(s:∀(j:Nat)(z:Value)(k:RK),(bD x (.sl R))[j]?≠U (.ae z k))(h:bJ H x (.sl R) (.mk (.slice A X w) M)):bJ H x (.sl R) (.mk (.slice A X w) (fC M)):=by
 have v:∀{i:Nat}{P:aC},(fC M)[i]?=U P->∃V,M[i]?=U V/\P=V.map vW:=by
  intro i P y;simp only[fC,dW,SH] at y;obtain⟨V,L,G⟩:=y;exact⟨V,L,G.symm⟩
 have u:∀{V:aC}{j:Nat}{c:RV},(V.map vW)[j]?=U c->∃Q,V[j]?=U Q/\c=vW Q:=by
  intro V j c t;simp only[dW,SH] at t;obtain⟨Q,L,G⟩:=t;exact⟨Q,L,G.symm⟩
 cases h with
 |sl R A f w M L G r y q d=>
  refine bJ.sl R A X w (fC M) (by rw[AW];exact L) G (λi P O=> ?_) (λi j P c k O N F=> ?_) (λi j P c O N F=> ?_) (λi j P c z k O N F=>(s j z k F).elim);obtain⟨V,D,rfl⟩:=v O;obtain⟨p,b,o,m,l,g⟩:=r i V D;refine⟨by simpa using p,b,o,m,l,λj c N=> ?_⟩;obtain⟨Q,B,rfl⟩:=u N;exact g j Q B;obtain⟨V,D,rfl⟩:=v O;obtain⟨Q,B,rfl⟩:=u N;exact y i j V Q k D B F;obtain⟨V,D,rfl⟩:=v O;obtain⟨Q,B,rfl⟩:=u N;exact q i j V Q D B F
def Tgt(p:Sp)(e:TypeId)(v:Value)(aA:au):Prop:=∀(X:Exit)(s:S)(O:ai)(V:ar)(a:Act)(W:World)(k:Nat),(X=.normal\/X=.ret)->az p.S0 p.w0 p.D p.ty V O s a W->s.rs[k]?=U (.own e)->O.rv k=.mk v aA->p.Q X a W
def JR(P:Program)(X:ma)(g:FuncId)(o:bp):Prop:=∀(W:World)(x y:aC),jH X x->jH X y->o.ok x=J->o.ok y=J->
 Calls P g #[.agg (x.map RV.val).toArray,.agg (y.map RV.val).toArray] W λV R=>Below W.heap.size W R/\∃c:Int,V=.returned (.int I c)/\(c<0<->o.lt x y=J)
def Y2(X:ma)(e g:Nat)(o:bp)(F:bz->au->Do)(N:Nat)(t:T):Prop:=∀(p:Sp)(v:Value)(W aA:au)(V:bz),p.P=Tryz.prog->JR Tryz.prog X g o->(∃A n R,v=.slice A n R/\Y W=n/\n<=1099511627776)->(∀x∈W,jH X x)->Y V=N->F V W=U aA->Tgt p e v aA->t.aP p ⟨V,[],[.mk v W],[]⟩ []
abbrev Sk(X:ma)(e g:Nat)(o:bp)(k N:Nat)(t:T):Prop:=Y2 X e g o (pL k o) N t
def aig{f:FuncId}{N n:Nat}{o:bp}{F:bz->au->Do}{K:ma}{t:T}{args:aq}{inl:ar}{loops:List (Nat×Nat×fH)}{srts:A9}{chs:C4}
  (hf:Tryz.prog.funcs[f]?=U u)(d:u.body=U x)(h0:u.results.toList=[])(hi:inl.all (wB Tryz.prog)=J)(an:vV srts)(hK:bD (look TT) (.sl w)=K.map EQ)(a0:JR Tryz.prog K X o)
  (ht:fY (pN Tryz.prog TT SG [] inl loops srts E chs) n f x ⟨args++eN (u.ntmps-Y args) (.bM []),[],N,0,[.own w],0,0,[]⟩ iY Y1=t)(hh:Y2 K w X o F N t)
  (a1:∀(G:bz)(m:RV),Y G=N->C.aE ⟨G,[],[m],[]⟩ [] args=m.val::(G.map (Value.int I)++[.func (.func X) #[] #[]]))
  (a3:∀(G:bz)(M B:au),F G M=U B->F G (fC M)=U (fC B))
  (af:∀(G:bz)(M B:au),F G M=U B->Y G=N/\Y M<=1099511627776){A:oz}{O P:Nat}(hH:bJ H (look TT) (.sl w) (.mk (.slice A O P) M))(hR:KZ H w (bD (look TT) (.sl w)).length A P)(hT:F y M=U B):
  Calls Tryz.prog f (Pd (.slice A O P) y X) H λen L=>en=.returned (.tuple #[])/\H.grownBy L (lx A P)/\Ft H L w (bD (look TT) (.sl w)).length (lx A P) B A P:=by
 have hN:=(af _ _ _ hT).1;have hp:∀(j:Nat)(z:Value)(q:RK),(bD (look TT) (.sl w))[j]?≠U (.ae z q):=by
  intro j z q v;rw[hK,dW] at v;cases d:K[j]? with
  |none=>rw[d] at v;cases v
  |some b=>rw[d] at v;cases b<;>simp[EQ] at v
 have ag:=atS hp hH;have al:=a3 _ _ _ hT;obtain⟨a4,a9⟩:=tS ag;let O0:ai:=⟨y,[],[.mk (.slice A O P) (fC M)],[]⟩;let R:Ending->World->Prop:=λen L=>en=.returned (.tuple #[])/\H.grownBy L (lx A P)/\Ft H L w (bD (look TT) (.sl w)).length (lx A P) B A P
 let p:Sp:=⟨Tryz.prog,look TT,(lx A P).toList,H,cg.none,R,λex a L=>(ex=.normal\/ex=.ret)/\R (.returned (.tuple #[])) L⟩;have ok:jL p (pN Tryz.prog TT SG [] inl loops srts E chs):=PF JQ Sg hi Si (λch L b ob _ h=>by have:=h.1;cases this) an;have ba:(C.aE O0 [] args).toArray=Pd (.slice A O P) y X:=by rw[a1 y _ hN];rfl
 rw[<-ba];have bb:∀b,(RV.mk (.slice A O P) (fC M)).lu=U b->lx A P=U b:=λb h=>by rw[KY] at h;exact h
 have bc:az p.S0 p.w0 cg.none (look TT) [] O0 {(⟨[],[],N,0,[.own w],0,0,[]⟩:S) with tmps:=[]} ⟨#[],[]⟩ p.w0:=by
  refine⟨⟨gY.refl _ _,λi h=>by simp[aK,cw] at h,λi j h=>by simp[aK,cw] at h,λi t cs h=>by simp[cw] at h,λq e' m D r=> ?_⟩,rfl,hN,rfl,rfl,UQ _ _,rfl,λt sv h=>by simp at h,λq e' m b D r h3=> ?_⟩;cases q with
  |succ q=>simp at D
  |zero=>
   simp only[A4,cU] at D;have r:m=.mk (.slice A O P) (fC M):=(mH r).symm;subst D;subst r;refine⟨bJ.own w _ ag λl x hv=> ?_,λb _ i h=>by simp[aK,cw] at h⟩;simp only[RV.nC,Value.slice.injEq] at hv;rw[<-hv.2.2];exact hR.nil hv.1
  cases q with
  |succ q=>simp at D
  |zero=>
   simp only[A4,cU] at D;have r:m=.mk (.slice A O P) (fC M):=(mH r).symm;injection D with D;subst D;subst r;have k:=bb b h3;refine⟨.inr (by show b∈(lx A P).toList;rw[k];simp), ?_,λi h=>by simp[aK,cw] at h,λk' e' br hk h=> ?_, ?_⟩;rcases hR.mem with v|⟨b',da,rfl,hg,hm,bd⟩
   ·subst v;unfold lx at k;split at k<;>first|(cases k;done)|omega|skip
    all_goals simp_all
   have bf:b'=b:=by
    cases P with
    |zero=>cases k
    |succ x=>exact mH k
   subst bf;exact⟨O,P,da,rfl,hg,a9,hm,bd⟩;cases k' with
   |zero=>exact aZ rfl hk
   |succ k'=>simp at h
   rintro⟨i,j,bs,x,z,q,_,_,hq,_⟩;exact hp j z q hq
 have bg:O<=1099511627776:=by
  have:=(af _ _ _ al).2;omega
 have bk:=hh p (.slice A O P) (fC M) (fC B) y rfl a0 ⟨A,O,P,rfl,a4,bg⟩ (atQ hK (fQ.yb hH)) hN al (λex s O1 V a L k' bl RR hk hr=>by
  refine⟨bl,rfl, ?_⟩;obtain⟨g1,g2⟩:=aDD (cf:=pN Tryz.prog TT SG [] inl loops srts E chs) RR hk hr;exact⟨g1,⟨by have:=g2.le;rwa [AW] at this,g2.nil,by have:=g2.mem;rwa [atO,AW] at this⟩⟩)
 exact aDC ok hf d h0 rfl ht bk (λQ hx=>by simp[pN] at hx) bc (λex a L h=>h)
def aDL{f:FuncId}{V:Nat}{G:bp}{F:bz->au->Do}{R:ma}{H:aq}{D:A9}{y:C4}
  (s:Tryz.prog.funcs[f]?=U u)(r:u.body=U x)(q:u.results.toList=[])(p:wB Tryz.prog f=J)(m:vV D)(l:bD (look TT) (.sl w)=R.map EQ)(k:JR Tryz.prog R X z)
  (j:fY (pN Tryz.prog TT SG [] [] A D E y) V f x ⟨H++eN (u.ntmps-Y H) (.bM []),[],n,0,[.own w],0,0,[]⟩ iY Y1=t)(i:Y2 R w X z F n t)
  (h:∀(P:bz)(B:RV),Y P=n->C.aE ⟨P,[],[B],[]⟩ [] H=B.val::(P.map (Value.int I)++[.func (.func X) #[] #[]]))
  (d:∀(P:List K)(L:bp)(O:ai)(M aA:au),G.fill P=U L->kO O L v M=U aA->F (P.map (K.ab O)) M=U aA)(b:∀(P:bz)(M aA:au),F P M=U aA->F P (fC M)=U (fC aA))
  (a:∀(P:bz)(M aA:au),F P M=U aA->Y P=n/\Y M<=1099511627776):qB Tryz.prog (look TT) f X w G v:=
 ⟨wC p,λW Q n' ag M aA O P L af hH hR hT=>aig (inl:=[]) s r q rfl m l k j i h b a hH hR (d P L O M aA af hT)⟩
def JS(W:X≠2)(h:nE X z y M=U B):Y y=3:=by
 unfold nE at h;split at h
 all_goals first|rfl|(exact aZ rfl W)|cases h
def atU(h:nE 2 z y M=U B):Y y=2:=by
 unfold nE at h;split at h
 all_goals first|rfl|cases h|(rename_i X;cases X)
def G1{k N n:Nat}{K:ma}{t:T}{args:aq}{loops:List (Nat×Nat×fH)}{srts:A9}{chs:C4}
  (P:Tryz.prog.funcs[F]?=U u)(M:u.body=U x)(L:u.results.toList=[])(H:wB Tryz.prog F=J)(G:vV srts)(D:bD (look TT) (.sl w)=K.map EQ)(B:JR Tryz.prog K X z)
  (A:fY (pN Tryz.prog TT SG [] [] loops srts E chs) n F x ⟨args++eN (u.ntmps-Y args) (.bM []),[],N,0,[.own w],0,0,[]⟩ iY Y1=t)(y:Sk K w X z k N t)
  (v:∀(W:bz)(R:RV),Y W=N->C.aE ⟨W,[],[R],[]⟩ [] args=R.val::(W.map (Value.int I)++[.func (.func X) #[] #[]]))
  (s:∀(W:bz)(V aA:au),nE k z W V=U aA->Y W=N):qB Tryz.prog (look TT) F X w (.dw k z []) false:=
 aDL (F:=pL k z) P M L H G D B A y v (λW q O V aA Q r=>by
  simp only[bp.fill,cU] at Q;subst Q;exact r) (λW V aA h=>aDK h) (λW V aA h=>⟨s W V aA (BC h).2,(BC h).1⟩)
abbrev dX(a b:K):K:=.bin .add I a b
abbrev ew(a b:K):K:=.bin .sub I a b
abbrev iO(a b:K):BE:=.cmp .lss a b
abbrev fG(a:K):C:=.int I a
abbrev ga(x:K)(k:Nat)(t:T):T:=.be (.and (.cmp .leq (.c 0) x) (.cmp .lss x (.len (.v k)))) t
section
variable(e g i h j f N:Nat)(o:bp)(d:RE->K->aq)
def Y3:T:=(.loop 0 [.ah (.own e),.int I] [(.ah (.v 0)),(fG (.c 0))]
 (.aT (iO (.v 3) (.v 2))
 (ga (dX (.v 1) (.v 3)) 1
 (ga (dX (.v 1) (.v 3)) 1
 (ga (dX (.v 0) (.v 3)) 1
 (ga (dX (.v 0) (.v 3)) 1
 (ga (dX (.v 0) (.v 3)) 1
 (ga (dX (.v 0) (.v 3)) 1
 (.new e (.set (.ah (.v 1)) (dX (.v 0) (.v 3)) 0 (d (.v 1) (dX (.v 1) (.v 3)))) [.am,(.own e)] [.am,.am,(.own e)]
 (ga (dX (.v 1) (.v 3)) 2
 (ga (dX (.v 1) (.v 3)) 2
 (.new e (.set (.ah (.v 2)) (dX (.v 1) (.v 3)) 0 (d (.v 1) (dX (.v 0) (.v 3)))) [.am,.am,(.own e)] [.am,.am,.am,(.own e)]
 (.back 0 [(.ah (.v 3)),(fG (dX (.v 3) (.c 1)))])))))))))))
 (.out .normal ⟨[],[],4,0,[.am,(.own e)],0,0,[]⟩)))
def Y4:T:=(.loop 0 [.ah (.own e),.int I,.int I] [(.ah (.v 0)),(fG (ew (.v 1) (.v 0))),(fG (ew (.v 2) (.v 1)))]
 (.aT (.cmp .neq (.v 3) (.v 4))
 (.aT (.cmp .gtr (.v 3) (.v 4))
  (.eE i g e (.dw 0 o [(ew (.v 1) (.v 3)),(.v 1),(.v 4)]) E (.v 1) [.am,(.own e)]
  (.back 0 [(.ah (.v 2)),(fG (ew (.v 3) (.v 4))),(fG (.v 4))]))
  (.eE i g e (.dw 0 o [(ew (.v 1) (.v 3)),(ew (dX (.v 1) (.v 4)) (.v 3)),(.v 3)]) E (.v 1) [.am,(.own e)]
  (.back 0 [(.ah (.v 2)),(fG (.v 3)),(fG (ew (.v 4) (.v 3)))])))
 (.eE i g e (.dw 0 o [(ew (.v 1) (.v 3)),(.v 1),(.v 3)]) E (.v 1) [.am,(.own e)]
 (.out .normal ⟨[],[],5,0,[.am,.am,(.own e)],0,0,[]⟩))))
def Y5:T:=(.loop 0 [.ah (.own e),.int I] [(.ah (.v 0)),(fG (dX (.v 0) (.c 1)))]
 (.aT (iO (.v 2) (.v 1))
 (.loop 1 [.ah (.own e),.int I] [(.ah (.v 1)),(fG (.v 2))]
  (.aT (.cmp .gtr (.v 3) (.v 0))
  (ga (.v 3) 2
  (ga (.v 3) 2
  (ga (ew (.v 3) (.c 1)) 2
  (ga (ew (.v 3) (.c 1)) 2
  (.call g [(.agg (d (.v 2) (.v 3))),(.agg (d (.v 2) (ew (.v 3) (.c 1))))] [] [.am,.am,.am] [.int I] (fG (.v 4))
  (.aT (iO (.v 4) (.c 0))
   (ga (ew (.v 3) (.c 1)) 2
   (ga (ew (.v 3) (.c 1)) 2
   (ga (.v 3) 2
   (ga (.v 3) 2
   (ga (.v 3) 2
   (ga (.v 3) 2
   (.new e (.set (.ah (.v 2)) (.v 3) 0 (d (.v 2) (ew (.v 3) (.c 1)))) [.am,.am,(.own e)] [.am,.am,.am,(.own e)]
   (ga (ew (.v 3) (.c 1)) 3
   (ga (ew (.v 3) (.c 1)) 3
   (.new e (.set (.ah (.v 3)) (ew (.v 3) (.c 1)) 0 (d (.v 2) (.v 3))) [.am,.am,.am,(.own e)] [.am,.am,.am,.am,(.own e)]
   (.back 1 [(.ah (.v 4)),(fG (ew (.v 3) (.c 1)))])))))))))))
   (.back 0 [(.ah (.v 2)),(fG (dX (.v 2) (.c 1)))])))))))
  (.back 0 [(.ah (.v 2)),(fG (dX (.v 2) (.c 1)))])))
 (.out .normal ⟨[],[],3,0,[.am,(.own e)],0,0,[]⟩)))
abbrev qV:K:=(.conv I (.bin .shr .u64 (.conv .u64 (dX (.v 3) (.v 4))) (.c 1)))
abbrev ef:K:=(.conv I (.bin .shr .u64 (.conv .u64 (dX (.v 0) (.v 2))) (.c 1)))
def Sm:T:=(.aT (iO (.v 3) (.v 1))
   (.aT (iO (.v 1) (ew (dX ef (.v 1)) (.v 3)))
    (.eE h g e (.dw 1 o [(.v 3),(.v 1),(ew (dX ef (.v 1)) (.v 3))]) E (.v 1) [.am,(.own e)]
    (.aT (iO (.v 0) (.v 3))
    (.aT (iO (.v 3) ef)
     (.eE f g e (.dw (N+3) o [(.v 0),(.v 3),ef]) E (.v 2) [.am,.am,(.own e)]
     (.aT (iO ef (ew (dX ef (.v 1)) (.v 3)))
     (.aT (iO (ew (dX ef (.v 1)) (.v 3)) (.v 2))
      (.eE f g e (.dw (N+3) o [ef,(ew (dX ef (.v 1)) (.v 3)),(.v 2)]) E (.v 3) [.am,.am,.am,(.own e)]
      (.out .normal ⟨[],[],5,0,[.am,.am,.am,.am,(.own e)],0,0,[]⟩))
      (.out .normal ⟨[],[],5,0,[.am,.am,.am,(.own e)],0,0,[]⟩))
     (.out .normal ⟨[],[],5,0,[.am,.am,.am,(.own e)],0,0,[]⟩)))
     (.aT (iO ef (ew (dX ef (.v 1)) (.v 3)))
     (.aT (iO (ew (dX ef (.v 1)) (.v 3)) (.v 2))
      (.eE f g e (.dw (N+3) o [ef,(ew (dX ef (.v 1)) (.v 3)),(.v 2)]) E (.v 2) [.am,.am,(.own e)]
      (.out .normal ⟨[],[],5,0,[.am,.am,.am,(.own e)],0,0,[]⟩))
      (.out .normal ⟨[],[],5,0,[.am,.am,(.own e)],0,0,[]⟩))
     (.out .normal ⟨[],[],5,0,[.am,.am,(.own e)],0,0,[]⟩)))
    (.aT (iO ef (ew (dX ef (.v 1)) (.v 3)))
     (.aT (iO (ew (dX ef (.v 1)) (.v 3)) (.v 2))
     (.eE f g e (.dw (N+3) o [ef,(ew (dX ef (.v 1)) (.v 3)),(.v 2)]) E (.v 2) [.am,.am,(.own e)]
     (.out .normal ⟨[],[],5,0,[.am,.am,.am,(.own e)],0,0,[]⟩))
     (.out .normal ⟨[],[],5,0,[.am,.am,(.own e)],0,0,[]⟩))
     (.out .normal ⟨[],[],5,0,[.am,.am,(.own e)],0,0,[]⟩))))
    (.aT (iO (.v 0) (.v 3))
    (.aT (iO (.v 3) ef)
     (.eE f g e (.dw (N+3) o [(.v 0),(.v 3),ef]) E (.v 1) [.am,(.own e)]
     (.aT (iO ef (ew (dX ef (.v 1)) (.v 3)))
     (.aT (iO (ew (dX ef (.v 1)) (.v 3)) (.v 2))
      (.eE f g e (.dw (N+3) o [ef,(ew (dX ef (.v 1)) (.v 3)),(.v 2)]) E (.v 2) [.am,.am,(.own e)]
      (.out .normal ⟨[],[],5,0,[.am,.am,.am,(.own e)],0,0,[]⟩))
      (.out .normal ⟨[],[],5,0,[.am,.am,(.own e)],0,0,[]⟩))
     (.out .normal ⟨[],[],5,0,[.am,.am,(.own e)],0,0,[]⟩)))
     (.aT (iO ef (ew (dX ef (.v 1)) (.v 3)))
     (.aT (iO (ew (dX ef (.v 1)) (.v 3)) (.v 2))
      (.eE f g e (.dw (N+3) o [ef,(ew (dX ef (.v 1)) (.v 3)),(.v 2)]) E (.v 1) [.am,(.own e)]
      (.out .normal ⟨[],[],5,0,[.am,.am,(.own e)],0,0,[]⟩))
      (.out .normal ⟨[],[],5,0,[.am,(.own e)],0,0,[]⟩))
     (.out .normal ⟨[],[],5,0,[.am,(.own e)],0,0,[]⟩)))
    (.aT (iO ef (ew (dX ef (.v 1)) (.v 3)))
     (.aT (iO (ew (dX ef (.v 1)) (.v 3)) (.v 2))
     (.eE f g e (.dw (N+3) o [ef,(ew (dX ef (.v 1)) (.v 3)),(.v 2)]) E (.v 1) [.am,(.own e)]
     (.out .normal ⟨[],[],5,0,[.am,.am,(.own e)],0,0,[]⟩))
     (.out .normal ⟨[],[],5,0,[.am,(.own e)],0,0,[]⟩))
     (.out .normal ⟨[],[],5,0,[.am,(.own e)],0,0,[]⟩))))
   (.aT (iO (.v 0) (.v 3))
    (.aT (iO (.v 3) ef)
    (.eE f g e (.dw (N+3) o [(.v 0),(.v 3),ef]) E (.v 1) [.am,(.own e)]
    (.aT (iO ef (ew (dX ef (.v 1)) (.v 3)))
     (.aT (iO (ew (dX ef (.v 1)) (.v 3)) (.v 2))
     (.eE f g e (.dw (N+3) o [ef,(ew (dX ef (.v 1)) (.v 3)),(.v 2)]) E (.v 2) [.am,.am,(.own e)]
     (.out .normal ⟨[],[],5,0,[.am,.am,.am,(.own e)],0,0,[]⟩))
     (.out .normal ⟨[],[],5,0,[.am,.am,(.own e)],0,0,[]⟩))
     (.out .normal ⟨[],[],5,0,[.am,.am,(.own e)],0,0,[]⟩)))
    (.aT (iO ef (ew (dX ef (.v 1)) (.v 3)))
     (.aT (iO (ew (dX ef (.v 1)) (.v 3)) (.v 2))
     (.eE f g e (.dw (N+3) o [ef,(ew (dX ef (.v 1)) (.v 3)),(.v 2)]) E (.v 1) [.am,(.own e)]
     (.out .normal ⟨[],[],5,0,[.am,.am,(.own e)],0,0,[]⟩))
     (.out .normal ⟨[],[],5,0,[.am,(.own e)],0,0,[]⟩))
     (.out .normal ⟨[],[],5,0,[.am,(.own e)],0,0,[]⟩)))
    (.aT (iO ef (ew (dX ef (.v 1)) (.v 3)))
    (.aT (iO (ew (dX ef (.v 1)) (.v 3)) (.v 2))
     (.eE f g e (.dw (N+3) o [ef,(ew (dX ef (.v 1)) (.v 3)),(.v 2)]) E (.v 1) [.am,(.own e)]
     (.out .normal ⟨[],[],5,0,[.am,.am,(.own e)],0,0,[]⟩))
     (.out .normal ⟨[],[],5,0,[.am,(.own e)],0,0,[]⟩))
    (.out .normal ⟨[],[],5,0,[.am,(.own e)],0,0,[]⟩))))
def aih:T:=(.loop 0 [.ah (.own e),.int I,.int I] [(.ah (.v 0)),(fG (.v 1)),(fG (.v 2))]
 (.aT (iO (.v 3) (.v 4))
  (ga qV 1
  (ga qV 1
  (ga (.v 0) 1
  (ga (.v 0) 1
  (.call g [(.agg (d (.v 1) qV)),(.agg (d (.v 1) (.v 0)))] [] [.am,.am] [.int I] (fG (.v 5))
  (.be (.c J)
  (.aT (iO (.v 5) (.c 0))
  (.back 0 [(.ah (.v 1)),(fG (dX qV (.c 1))),(fG (.v 4))])
  (.back 0 [(.ah (.v 1)),(fG (.v 3)),(fG qV)]))))))))
  (.loop 1 [.ah (.own e),.int I] [(.ah (.v 1)),(fG (.v 0))]
  (.aT (iO (.v 5) (ew (.v 3) (.c 1)))
   (ga (dX (.v 5) (.c 1)) 2
   (ga (dX (.v 5) (.c 1)) 2
   (ga (.v 5) 2
   (ga (.v 5) 2
   (ga (.v 5) 2
   (ga (.v 5) 2
   (.new e (.set (.ah (.v 2)) (.v 5) 0 (d (.v 2) (dX (.v 5) (.c 1)))) [.am,.am,(.own e)] [.am,.am,.am,(.own e)]
   (ga (dX (.v 5) (.c 1)) 3
   (ga (dX (.v 5) (.c 1)) 3
   (.new e (.set (.ah (.v 3)) (dX (.v 5) (.c 1)) 0 (d (.v 2) (.v 5))) [.am,.am,.am,(.own e)] [.am,.am,.am,.am,(.own e)]
   (.back 1 [(.ah (.v 4)),(fG (dX (.v 5) (.c 1)))])))))))))))
   (.out .ret ⟨[],[],6,0,[.am,.am,(.own e)],0,0,[]⟩)))))
def aii:T:=(.loop 0 [.ah (.own e),.int I,.int I] [(.ah (.v 0)),(fG (.v 0)),(fG (.v 1))]
  (.aT (iO (.v 3) (.v 4))
  (ga (.v 1) 1
  (ga (.v 1) 1
  (ga qV 1
  (ga qV 1
  (.call g [(.agg (d (.v 1) (.v 1))),(.agg (d (.v 1) qV))] [] [.am,.am] [.int I] (fG (.v 5))
  (.be (.c J)
  (.be (.c J)
  (.aT (.not (iO (.v 5) (.c 0)))
   (.back 0 [(.ah (.v 1)),(fG (dX qV (.c 1))),(fG (.v 4))])
   (.back 0 [(.ah (.v 1)),(fG (.v 3)),(fG qV)])))))))))
  (.loop 1 [.ah (.own e),.int I] [(.ah (.v 1)),(fG (.v 1))]
   (.aT (.cmp .gtr (.v 5) (.v 3))
   (ga (ew (.v 5) (.c 1)) 2
   (ga (ew (.v 5) (.c 1)) 2
   (ga (.v 5) 2
   (ga (.v 5) 2
   (ga (.v 5) 2
   (ga (.v 5) 2
   (.new e (.set (.ah (.v 2)) (.v 5) 0 (d (.v 2) (ew (.v 5) (.c 1)))) [.am,.am,(.own e)] [.am,.am,.am,(.own e)]
   (ga (ew (.v 5) (.c 1)) 3
   (ga (ew (.v 5) (.c 1)) 3
   (.new e (.set (.ah (.v 3)) (ew (.v 5) (.c 1)) 0 (d (.v 2) (.v 5))) [.am,.am,.am,(.own e)] [.am,.am,.am,.am,(.own e)]
   (.back 1 [(.ah (.v 4)),(fG (ew (.v 5) (.c 1)))])))))))))))
   (.out .ret ⟨[],[],6,0,[.am,.am,(.own e)],0,0,[]⟩)))))
def Y6:T:=(ga (ew (ew (dX ef (.v 1)) (.c 1)) qV) 1
   (ga (ew (ew (dX ef (.v 1)) (.c 1)) qV) 1
   (ga qV 1
   (ga qV 1
   (.call g [(.agg (d (.v 1) (ew (ew (dX ef (.v 1)) (.c 1)) qV))),(.agg (d (.v 1) qV))] [] [.am,.am] [.int I] (fG (.v 5))
   (.be (.c J)
   (.be (.c J)
   (.aT (.not (iO (.v 5) (.c 0)))
   (.back 0 [(.ah (.v 1)),(fG (dX qV (.c 1))),(fG (.v 4))])
   (.back 0 [(.ah (.v 1)),(fG (.v 3)),(fG qV)])))))))))
def aDM:T:=(.loop 0 [.ah (.own e),.int I,.int I] [(.ah (.v 0)),(fG (ew (dX ef (.v 1)) (.v 2))),(fG ef)]
 (.aT (iO (.v 3) (.v 4)) (Y6 g d) (Sm e g h f N o)))
def aDN:T:=(.loop 0 [.ah (.own e),.int I,.int I] [(.ah (.v 0)),(fG (.v 0)),(fG (.v 1))]
 (.aT (iO (.v 3) (.v 4)) (Y6 g d) (Sm e g h f N o)))
def Y7:T:=(.aT (.cmp .eql (ew (.v 1) (.v 0)) (.c 1)) (aih e g d) (.aT (.cmp .eql (ew (.v 2) (.v 1)) (.c 1)) (aii e g d) (.aT (.cmp .gtr (.v 1) ef) (aDM e g h f N o d) (aDN e g h f N o d))))
def Y8:T:=(.loop 0 [.ah (.own e),.int I,.int I] [(.ah (.v 0)),(fG (.c 20)),(fG (.c 0))]
 (.aT (.cmp .leq (.v 0) (.len (.v 0)))
 (.eE j g e (.dw 2 o [(.v 1),(.v 0)]) E (.v 1) [.am,(.own e)]
 (.back 0 [(.ah (.v 2)),(fG (dX (.v 0) (.c 20))),(fG (.v 0))]))
 (.eE j g e (.dw 2 o [(.v 1),(.len (.v 0))]) E (.v 1) [.am,(.own e)]
 (.loop 1 [.ah (.own e),.int I] [(.ah (.v 2)),(fG (.c 20))]
  (.aT (iO (.v 2) (.len (.v 0)))
  (.loop 2 [.ah (.own e),.int I,.int I] [(.ah (.v 3)),(fG (.bin .mul I (.c 2) (.v 2))),(fG (.c 0))]
   (.aT (.cmp .leq (.v 3) (.len (.v 0)))
   (.eE f g e (.dw (N+3) o [(.v 4),(dX (.v 4) (.v 2)),(.v 3)]) E (.v 4) [.am,.am,.am,.am,(.own e)]
   (.back 2 [(.ah (.v 5)),(fG (dX (.v 3) (.bin .mul I (.c 2) (.v 2)))),(fG (.v 3))]))
   (.aT (iO (dX (.v 4) (.v 2)) (.len (.v 0)))
    (.eE f g e (.dw (N+3) o [(.v 4),(dX (.v 4) (.v 2)),(.len (.v 0))]) E (.v 4) [.am,.am,.am,.am,(.own e)]
    (.back 1 [(.ah (.v 5)),(fG (.bin .mul I (.v 2) (.c 2)))]))
    (.back 1 [(.ah (.v 4)),(fG (.bin .mul I (.v 2) (.c 2)))]))))
  (.out .normal ⟨[],[],3,0,[.am,.am,.am,(.own e)],0,0,[]⟩))))))
end
structure HP where
 K:ma
 g:Nat
 o:bp
 e:TypeId
 v:Value
 aA:au
def aij(O:ai)(l:aq)(x:aC):Prop:=∀y V,C.aE (O.at y) V l=x.map RV.val
def JT(c:Option LC)(X:bq):Prop:=match c with
 |U c=>c.I X/\c.μ X<c.m
 |none=>False
def aDO(h:HP)(f:FuncId)(V:aq)(R:aS)(jz:C)(O:ai)(k:Int->Prop):Prop:=f=h.g/\R=[.int I]/\jz=.int I (.v (Y O.i))/\∃X W x y,V=[.agg X,.agg W]/\aij O X x/\aij O W y/\jH h.K x/\jH h.K y/\h.o.ok x=J/\h.o.ok y=J/\∀c:Int,(c<0<->h.o.lt x y=J)->k c
def T.hw(h:HP):T->ai->dC->Prop
 |.out V s,O,_=>(V=.normal\/V=.ret)/\∃k,s.rs[k]?=U (.own h.e)/\O.rv k=.mk h.v h.aA
 |.aT b t f,O,L=>if b.ab O=J then t.hw h O L else f.hw h O L
 |.be b t,O,L=>b.ab O=J/\t.hw h O L
 |.call f P _ _ N jz t,O,L=>aDO h f P N jz O λc=>t.hw h (O.add (.i c)) L
 |.loop ax _ M t,O,L=>∃X R,X (M.map (C.xv O))/\∀W,X W->t.hw h (O.ext W) (⟨ax,X,R,R W⟩::L)
 |.back ax x,O,L=>JT (oD ax L) (x.map (C.xv O))
 |.new _ (.set (.ah (.v k)) i H G) _ _ t,O,L=>t.hw h (O.add (.r (.mk (O.rv k).val (LE.ac O (.set (.ah (.v k)) i H G))))) L
 |.eE _ _ _ F D r _ t,O,L=>∃Q,kO O F D (r.rv O).ac=U Q/\t.hw h (O.add (.r (.mk (r.rv O).val Q))) L
 |_,_,_=>False
def ze(h:HP){p:Sp}(F:JR p.P h.K h.g h.o)(D:Tgt p h.e h.v h.aA):∀(t:T)(O:ai)(L:dC),t.hw h O L->t.aP p O L
 |.out ex s,O,L,Q=>by
  obtain⟨B,k,z,u⟩:=Q;intro y V a W R;refine D _ s (O.at y) V a W k ?_ R z u;rcases B with rfl|rfl;exact .inl rfl;exact .inr rfl
 |.aT b t f,O,L,Q=>by
  simp only[T.hw] at Q;refine⟨λq=>ze h F D t O L ?_,λq=>ze h F D f O L ?_⟩
  rwa [aJ q] at Q
  rwa [aQ (by simp[q])] at Q
 |.be b t,O,L,Q=>⟨Q.1,ze h F D t O L Q.2⟩
 |.call f al bx N d jz t,O,L,Q=>by
  obtain⟨rfl,rfl,rfl,l1,l2,x,y,rfl,B,z,u,h4,h5,h6,h7⟩:=Q;intro m V W R;have e:(C.aE (O.at m) V [.agg l1,.agg l2]).toArray= #[.agg (x.map RV.val).toArray,.agg (y.map RV.val).toArray]:=by
   simp only[C.aE,C.ab,B m V,z m V]
  rw[e];refine(F W x y u h4 h5 h6).mono ?_;rintro en W' ⟨hB,c,rfl,af⟩;refine⟨[.i c],⟨trivial,trivial⟩, ?_,hB,⟨trivial,trivial⟩, ?_⟩;simp[C.ab,K.ab,ai.ext,ai.add,ai.at];exact ze h F D t (O.add (.i c)) L (h7 c af)
 |.loop ax d x0 t,O,L,Q=>by
  obtain⟨X,μ,B,z⟩:=Q;exact⟨X,μ,B,λxs _ hx=>ze h F D t _ _ (z xs hx)⟩
 |.back ax x,O,L,Q=>by
  simp only[T.hw,JT] at Q;simp only[T.aP];cases j:oD ax L with
  |none=>rw[j] at Q;exact Q
  |some c=>rw[j] at Q;exact Q
 |.new e (.set (.ah (.v k)) i G H) N M t,O,L,Q=>by
  intro rv hn;obtain⟨⟨A,n,c,rfl,hl⟩,_,w⟩:=hn;have w:=w k i G H rfl;refine ze h F D t _ L ?_;simp only[RV.nC] at w;rw[w];exact Q
 |.new e (.ah r) N M t,O,L,Q=>by simp[T.hw] at Q
 |.new e (.lit l) N M t,O,L,Q=>by simp[T.hw] at Q
 |.new e (.kJ a b) N M t,O,L,Q=>by simp[T.hw] at Q
 |.new e (.wb n an) N M t,O,L,Q=>by simp[T.hw] at Q
 |.new e (.sub a lo hi) N M t,O,L,Q=>by simp[T.hw] at Q
 |.new e (.ins a n H) N M t,O,L,Q=>by simp[T.hw] at Q
 |.new e (.set (.ah (.k _)) i G H) N M t,O,L,Q=>by simp[T.hw] at Q
 |.new e (.set (.lit _) i G H) N M t,O,L,Q=>by simp[T.hw] at Q
 |.new e (.set (.kJ _ _) i G H) N M t,O,L,Q=>by simp[T.hw] at Q
 |.new e (.set (.wb _ _) i G H) N M t,O,L,Q=>by simp[T.hw] at Q
 |.new e (.set (.set _ _ _ _) i G H) N M t,O,L,Q=>by simp[T.hw] at Q
 |.new e (.set (.sub _ _ _) i G H) N M t,O,L,Q=>by simp[T.hw] at Q
 |.new e (.set (.ins _ _ _) i G H) N M t,O,L,Q=>by simp[T.hw] at Q
 |.new e (.set (.ah (.cell _ _ _ _)) i G H) N M t,O,L,Q=>by simp[T.hw] at Q
 |.eE f g e sp st r N t,O,L,Q=>by
  obtain⟨ag,B,z⟩:=Q;exact⟨ag,B,ze h F D t _ L z⟩
 |.ret ..,_,_,Q=>by simp[T.hw] at Q
 |.bI ..,_,_,Q=>by simp[T.hw] at Q
 |.ac ..,_,_,Q=>by simp[T.hw] at Q
 |.gF ..,_,_,Q=>by simp[T.hw] at Q
 |.pick ..,_,_,Q=>by simp[T.hw] at Q
 |.stuck _,_,_,Q=>by simp[T.hw] at Q
section
variable{h:HP}{O:ai}{L:dC}
def JU{X:ai}(e:O=X):T.hw h t O L=T.hw h t X L:=by rw[e]
def xA(b:BE)(t f:T):T.hw h (.aT b t f) O L=(if b.ab O=J then t.hw h O L else f.hw h O L):=rfl
def JV(b:BE)(t:T):T.hw h (.be b t) O L=(b.ab O=J/\t.hw h O L):=rfl
def JW(ax:Nat)(x:aq):T.hw h (.back ax x) O L=JT (oD ax L) (x.map (C.xv O)):=rfl
def JX(e:TypeId)(k:Nat)(i:K)(X:Nat)(W:aq)(V R:bv)(t:T):T.hw h (.new e (.set (.ah (.v k)) i X W) V R t) O L=t.hw h (O.add (.r (.mk (O.rv k).val (LE.ac O (.set (.ah (.v k)) i X W))))) L:=rfl
def CP(f g:FuncId)(e:TypeId)(X:bp)(W:Bool)(r:RE)(R:bv)(t:T):T.hw h (.eE f g e X W r R t) O L=(∃V,kO O X W (r.rv O).ac=U V/\t.hw h (O.add (.r (.mk (r.rv O).val V))) L):=rfl
def CQ(X:XE)(s:S):T.hw h (.out X s) O L=((X=.normal\/X=.ret)/\∃k,s.rs[k]?=U (.own h.e)/\O.rv k=.mk h.v h.aA):=rfl
def zf{P:aS}{Q:aq}(W:bq->Prop)(V:bq->Nat)(N:W (Q.map (C.xv O)))(M:∀R,W R->t.hw h (O.ext R) (⟨X,W,V,V R⟩::L)):T.hw h (.loop X P Q t) O L:=⟨W,V,N,M⟩
end
section
attribute[local simp] K.ab BE.ab RE.rv RE.ab fy ai.rv ai.ext ai.add C.xv xA JV JW JX CP CQ LE.ac oD
attribute[local congr] JU
structure ER(Q:ma)(d:RE->K->aq):Prop where
 cd:∀(O:ai)(r:RE)(i:K)(x:aC),(r.rv O).ac[(i.ab O).toNat]?=U x->jH Q x->(d r i).map (C.cd O)=x
 ab:∀(O:ai)(r:RE)(i:K)(x:aC),(r.rv O).ac[(i.ab O).toNat]?=U x->jH Q x->aij O (d r i) x
def aik:∀{Q:ma}{x:aC},jH Q x->Y x=Y Q
 |[],_,h=>by cases h;rfl
 |_::_,[],h=>h.elim
 |_::_,_::_,h=>by simp[aik h.2]
def atV:∀(x W X:aC),Y W=Y x->gZ (X++W) (Y X) x=X++x
 |[],W,X,h=>by
  have:W=[]:=tw h;subst this;rfl
 |v::r,[],X,h=>by simp at h
 |v::r,c::W,X,h=>by
  have V:=atV r W (X++[v]) (by simpa using h);simp only[gc,lH,E0,A6,ez,eW] at V;simp only[gZ];rw[Zk _ _ (b9 _),Zz,aIA];exact V
def G2{Q:ma}{x:aC}(P:∀y∈M,jH Q y)(O:jH Q x):(M.modify X λW=>gZ W 0 x)=M.set X x:=by
 apply kG;intro k;rw[aiO,v6];by_cases R:X=k;subst R;simp only[cN];cases V:M[X]? with
 |none=>
  have:=CV.1 V;rw[aQ aa];rfl
 |some W=>
  obtain⟨N,_⟩:=ck.1 V;rw[aJ N];have:=atV x W [] (by rw[aik (P W (jI V)),aik O]);simpa using this
 simp[R]
def Sn{n:Int}(X:-9223372036854775808<=n)(W:n<9223372036854775808):IntKind.i64.wrap n=n:=by
 rw[IntKind.wrap_i64];omega
def AX{a b:Nat}(h:a+b<=4398046511104):aF .add I (a:Int) (b:Int)=((a+b:Nat):Int):=by
 simp only[aF];rw[Sn aa aa];omega
def zg{a b:Nat}(h:b<=a)(X:a<=4398046511104):aF .sub I (a:Int) (b:Int)=((a-b:Nat):Int):=by
 simp only[aF];rw[Sn aa aa];omega
def ES{a:Nat}(h:a<=4398046511103):aF .add I (a:Int) 1=((a+1:Nat):Int):=AX (b:=1) aa
def Y9{a:Nat}(h:1<=a)(X:a<=4398046511104):aF .sub I (a:Int) 1=((a-1:Nat):Int):=zg (b:=1) h X
def aDP(W:au)(M:X+n<=w)(V:w+n<=Y W)(k:Nat):
  (W.take X++(bm W w (w+n)++(bm W (X+n) w++(bm W X (X+n)++W.drop (w+n)))))[k]?=if X<=k/\k<X+n then W[k-X+w]? else if w<=k/\k<w+n then W[k-w+X]? else W[k]?:=by
 have R:(W.take X).length=X:=dh;have Q:(bm W w (w+n)).length=n:=by rw[rz W V];omega
 have P:(bm W (X+n) w).length=w-(X+n):=rz W aa;have O:(bm W X (X+n)).length=n:=by rw[rz W aa];omega
 by_cases N:k<X;rw[dH aa,aQ aa,aQ aa,nj,aJ N];rw[iE aa,R];by_cases L:k<X+n;rw[dH aa,aJ aa,P5 W aa];congr 1;omega;rw[iE aa,Q,aQ aa];by_cases H:k<w;rw[dH aa,aQ aa,P5 W aa];congr 1;omega;rw[iE aa,P];by_cases G:k<w+n;rw[dH aa,aJ aa,P5 W aa];congr 1;omega;rw[iE aa,O,aQ aa,uC];congr 1;omega
def CR(h:Y y=3):∃a b c,y=[a,b,c]:=by
 match y,h with
 |[a,b,c],_=>exact⟨a,b,c,rfl⟩
def two(h:Y y=2):∃a b,y=[a,b]:=by
 match y,h with
 |[a,b],_=>exact⟨a,b,rfl⟩
def AY{a:Int}(h:0<=a):∃n:Nat,a=n:=⟨a.toNat,aa⟩
section
variable{Q:ma}{e g:Nat}{o:bp}{d:RE->K->aq}
def atW(w:ER Q d):Sk Q e g o 0 3 (Y3 e d):=by
 rintro p _ W aA ns hP af ⟨A,n,R,rfl,ag,hn⟩ hT hN V al;obtain⟨a,b,m,rfl⟩:=CR hN;obtain⟨_,V⟩:=BC V;simp only[nE] at V;split at V;rename_i N;simp only[aw,cm] at N;obtain⟨a,rfl⟩:=AY N.1.1.1;obtain⟨m,rfl⟩:=AY N.1.1.2;obtain⟨b,rfl⟩:=AY (a:=b) aa;have h1:a+m<=b:=aa;have h2:b+m<=Y W:=aa;simp only[cU] at V;have e1:((a:Int)).toNat=a:=rfl;have e2:((b:Int)).toNat=b:=rfl;have e3:((b:Int)+(m:Int)).toNat=b+m:=aa;have e4:((a:Int)+(m:Int)).toNat=a+m:=aa;rw[e1,e2,e3,e4] at V;have u:=aDP W h1 h2;rw[V] at u;clear V;refine ze ⟨Q,g,o,e,.slice A n R,aA⟩ (hP▸af) al _ _ _ ?_;unfold Y3;refine zf (λM=>∃(i:Nat)(X:au),M=[.r (.mk (.slice A n R) X),.i i]/\i<=m/\Y X=n/\(∀x∈X,jH Q x)/\∀k:Nat,X[k]?=if a<=k/\k<a+i then W[k-a+b]? else if b<=k/\k<b+i then W[k-b+a]? else W[k]?) (λM=>match M with|[_,.i j]=>m-j.toNat|_=>0) ⟨0,W,rfl,aa,ag,hT,λk=>by rw[aQ aa,aQ aa]⟩ ?_;rintro _ ⟨i,X,rfl,hi,hl,P,O⟩;by_cases an:i<m;obtain⟨x,L⟩:∃x,X[a+i]?=U x:=ck.2 ⟨aa,rfl⟩|>λh=>⟨_,h⟩
 obtain⟨y,H⟩:∃y,X[b+i]?=U y:=ck.2 ⟨aa,rfl⟩|>λh=>⟨_,h⟩
 have G:=P x (jI L);have F:=P y (jI H);have t:=AX (a:=a) (b:=i) aa;have s:=AX (a:=b) (b:=i) aa;have c1:A8 (C.cd ⟨[(a:Int),b,m,i],[],[.mk (.slice A n R) W,.mk (.slice A n R) X],[]⟩) (d (.v 1) (.bin .add I (.v 1) (.v 3)))=y:=w.cd _ _ _ y (by simp only[RE.rv,ai.rv,K.ab,N3,G7,RV.nD,s,v7];exact H) F;have c2:∀q,A8 (C.cd ⟨[(a:Int),b,m,i],[],[.mk (.slice A n R) W,.mk (.slice A n R) X,q],[]⟩) (d (.v 1) (.bin .add I (.v 0) (.v 3)))=x:=λq=>w.cd _ _ _ x (by simp only[RE.rv,ai.rv,K.ab,N3,G7,RV.nD,t,v7];exact L) G
 have m1:(X.modify (a+i) λD=>gZ D 0 y)=X.set (a+i) y:=G2 P F;have l:∀z∈X.set (a+i) y,jH Q z:=λz B=>by
  rcases EU B with h|rfl;exact P z h;exact F
 have m2:((X.set (a+i) y).modify (b+i) λD=>gZ D 0 x)=(X.set (a+i) y).set (b+i) x:=G2 l G;have t1:((a:Int)+(i:Int)).toNat=a+i:=aa;have t2:((b:Int)+(i:Int)).toNat=b+i:=aa;simp[t,s,ES (a:=i) aa,an,c1,c2,t1,t2,m1,m2,lenOf];refine⟨aa,aa,aa,⟨i+1,_,rfl,aa,by simp[hl],λz B=> ?_,λk=> ?_⟩,show m-((i:Int)+1).toNat<m-i from aa⟩;rcases EU B with h|rfl;exact l z h;exact G;have a0:W[a+i]?=U x:=by
  have:=O (a+i);rw[aQ aa,aQ aa] at this;rw[<-this];exact L
 have a1:W[b+i]?=U y:=by
  have:=O (b+i);rw[aQ aa,aQ aa] at this;rw[<-this];exact H
 rw[v6,v6];by_cases f:b+i=k;subst f;rw[aJ rfl,aJ dh,aQ aa,aJ aa,<-a0];congr 1;omega;rw[aQ f];by_cases c:a+i=k;subst c;rw[aJ rfl,aJ aa,aJ aa,<-a1];congr 1;omega;rw[aQ c,O k];by_cases k3:a<=k/\k<a+i;rw[aJ k3,aJ aa];rw[aQ k3];by_cases k4:b<=k/\k<b+i;rw[aJ k4,aQ aa,aJ aa];rw[aQ k4,aQ aa,aQ aa];have a3:i=m:=aa;subst a3;have a4:X=aA:=kG λk=>by rw[O k,u k]
 subst a4;simp;exact⟨1,rfl,rfl⟩;cases V
end
end
section
attribute[local simp] K.ab BE.ab RE.rv RE.ab fy ai.rv ai.ext ai.add C.xv xA JV JW JX CP CQ LE.ac oD kO
attribute[local congr] JU
def Sq(P S Q:au):bm (P++(S++Q)) (Y P) (Y P+Y S)=S:=by simp[bm]
def Sr{P Q:au}(h:M=P++(B++Q))(W:X=Y P)(V:w=X+Y B):bm M X w=B:=by
 subst h;subst W;subst V;exact Sq P B Q
def ail{o:bp}{P X M Y Q:au}{a b n:Int}(W:a=P.length)(V:b=P.length+X.length+M.length)(R:n=X.length)(y:Y.length=X.length)(O:(P++(X++(M++(Y++Q)))).length<=1099511627776):
  pL 0 o [a,b,n] (P++(X++(M++(Y++Q))))=U (P++(Y++(M++(X++Q)))):=by
 subst W;subst V;subst R;unfold pL;rw[aJ O];simp only[nE];rw[aJ (by simp only[aw,cm,gc];omega)];have N:((P.length:Int)).toNat=P.length:=rfl;have L:((P.length:Int)+X.length+M.length).toNat=P.length+X.length+M.length:=aa;have H:((P.length:Int)+X.length+M.length+X.length).toNat=P.length+X.length+M.length+X.length:=aa;have G:((P.length:Int)+X.length).toNat=P.length+X.length:=aa;rw[N,L,H,G];have F:(P++(X++(M++(Y++Q)))).take P.length=P:=av;have D:bm (P++(X++(M++(Y++Q)))) (P.length+X.length+M.length) (P.length+X.length+M.length+X.length)=Y:=Sr (P:=P++(X++M)) (Q:=Q) av dh aa;have B:bm (P++(X++(M++(Y++Q)))) (P.length+X.length) (P.length+X.length+M.length)=M:=Sr (P:=P++X) (Q:=Y++Q) av av rfl;have A:bm (P++(X++(M++(Y++Q)))) P.length (P.length+X.length)=X:=Sq P X _;have z:(P++(X++(M++(Y++Q)))).drop (P.length+X.length+M.length+X.length)=Q:=by
  have:P++(X++(M++(Y++Q)))=(P++(X++(M++Y)))++Q:=av;rw[this,Zu dh]
 rw[F,D,B,A,z]
def atX(W:au)(V:X<=w)(R:w<=n):W.take X++(bm W X w++(bm W w n++W.drop n))=W:=by
 rw[<-A6 (bm W X w),<-pS W V R,LR W aa]
def uA{c:Prop}[Decidable c]{A B:Prop}(X:c->A)(W:¬c->B):if c then A else B:=by
 by_cases h:c;rw[aJ h];exact X h;rw[aQ h];exact W h
section
variable{d:ma}{e g f:Nat}{o:bp}{k:RE->K->aq}
def atY:Sk d e g o 1 3 (Y4 e g f o):=by
 rintro p _ W aA ns s q ⟨y,n,x,rfl,l,hn⟩ hT k L h;obtain⟨a,m,b,rfl⟩:=CR k;obtain⟨_,L⟩:=BC L;simp only[nE] at L;split at L;rename_i w;simp only[aw,cm] at w;obtain⟨a,rfl⟩:=AY w.1.1.1;obtain⟨m,rfl⟩:=AY (a:=m) aa;obtain⟨b,rfl⟩:=AY (a:=b) aa;simp only[cU,v7] at L;have v:b<=W.length:=aa;refine ze ⟨d,g,o,e,.slice y n x,aA⟩ (s▸q) h _ _ _ ?_;unfold Y4;refine zf (λF=>∃(P A B Q:au),F=[.r (.mk (.slice y n x) (P++(A++(B++Q)))),.i A.length,.i B.length]/\1<=A.length/\1<=B.length/\P.length+A.length=m/\m+B.length<=b/\(P++(A++(B++Q))).length=n/\P++(B++(A++Q))=aA) (λF=>match F with|[_,.i i,.i j]=>i.toNat+j.toNat|_=>0) ⟨W.take a,bm W a m,bm W m b,W.drop b, ?_, ?_⟩ ?_;have c:W.take a++(bm W a m++(bm W m b++W.drop b))=W:=by
  exact atX W aa aa
 have u:(bm W a m).length=m-a:=rz W aa;have t:(bm W m b).length=b-m:=rz W v;simp only[dU,qn,C.xv,RE.rv,ai.rv,G7,N3,K.ab,c,u,t];rw[zg (a:=m) (b:=a) aa aa,zg (a:=b) (b:=m) aa aa];have u:(bm W a m).length=m-a:=rz W aa;have t:(bm W m b).length=b-m:=rz W v;refine⟨aa,aa,dh,aa, ?_,L⟩;rw[atX W aa aa];exact l;rintro _ ⟨P,A,B,Q,rfl,hA,hB,a4,a9,af,D⟩;have ag:=zg (a:=m) (b:=A.length) aa aa;have al:((m-A.length:Nat):Int)=P.length:=aa;simp only[gc] at af;simp[ag,al];refine uA (λan=> ?_) (λan=>uA (λa0=> ?_) (λa0=> ?_));have H:=ail (o:=o) (P:=P) (X:=A) (M:=[]) (Y:=B) (Q:=Q) (a:=P.length) (b:=m) (n:=A.length) rfl dh rfl aa dh;refine⟨P++(B++(A++Q)),by simpa using H,2,rfl, ?_⟩;simp[D];obtain⟨O,N,rfl,z⟩:∃O N,A=O++N/\O.length=B.length:=⟨A.take B.length,A.drop B.length,(J0 _ _).symm,dh⟩;simp only[gc] at*;have G:=zg (a:=O.length+N.length) (b:=B.length) aa aa;have H:=ail (o:=o) (P:=P) (X:=O) (M:=N) (Y:=B) (Q:=Q) (a:=P.length) (b:=m) (n:=B.length) rfl aa aa aa dh;refine⟨P++(B++(N++(O++Q))),by simpa using H,⟨P++B,N,O,Q, ?_,aa,aa,dh,aa,dh, ?_⟩, ?_⟩;rw[G,z];simp;rw[<-D];simp;rw[G];show((O.length+N.length-B.length:Nat):Int).toNat+((B.length:Int)).toNat<O.length+N.length+B.length;omega;obtain⟨R,V,rfl,z⟩:∃R V,B=R++V/\V.length=A.length:=⟨B.take (B.length-A.length),B.drop (B.length-A.length),(J0 _ _).symm,dh⟩;simp only[gc] at*;have a1:=AX (a:=m) (b:=R.length+V.length) aa;have G:=zg (a:=m+(R.length+V.length)) (b:=A.length) aa aa;have a3:=zg (a:=R.length+V.length) (b:=A.length) aa aa;have H:=ail (o:=o) (P:=P) (X:=A) (M:=R) (Y:=V) (Q:=Q) (a:=P.length) (b:=((m+(R.length+V.length)-A.length:Nat):Int)) (n:=A.length) rfl aa rfl aa dh;rw[a1,G,a3];refine⟨P++(V++(R++(A++Q))),by simpa using H,⟨P,V,R,A++Q, ?_,aa,aa,aa,aa,dh, ?_⟩, ?_⟩;rw[z];simp;rw[<-D];simp;show((A.length:Int)).toNat+((R.length+V.length-A.length:Nat):Int).toNat<A.length+(R.length+V.length);omega;cases L
end
end
section
attribute[local simp] K.ab BE.ab RE.rv RE.ab fy ai.rv ai.ext ai.add C.xv xA JV JW JX CP CQ LE.ac oD kO
attribute[local congr] JU
def aDQ{lt:aC->aC->Bool}(l:au)(x:aC):bX lt (l++[x])=eC lt x (bX lt l):=by simp[bX]
def atZ{lt:aC->aC->Bool}{x:aC}:∀{L G:au},(∀l∈L,lt x l=E)->(∀g∈G,lt x g=J)->eC lt x (L++G)=L++x::G
 |[],[],_,_=>rfl
 |[],g::G,_,h=>by simp[eC,h g av]
 |l::L,G,X,W=>by
  have V:=atZ (L:=L) (G:=G) (λy R=>X y (by simp[R])) W;simp only[ez,eC,X l av];rw[V];simp
def at0(A R:au)(l x:aC)(W:X=Y A):((A++(l::x::R)).set (X+1) l).set X x=A++(x::l::R):=by
 subst W;rw[Zk _ _ aa,aiK,Zk _ _ aa,Zz];rfl
def Za{h:HP}{O:ai}{L:dC}{d:RE->K->aq}(N:ER h.K d){W V:RE}{R P:K}{G:bG}{F:bv}(D:X=Y O.i)(x y:aC)(B:(W.rv O).ac[(R.ab O).toNat]?=U x)(A:(V.rv O).ac[(P.ab O).toNat]?=U y)(M:jH h.K x)(H:jH h.K y)(z:h.o.ok x=J)(w:h.o.ok y=J)
  (u:∀c:Int,(c<0<->h.o.lt x y=J)->t.hw h (O.add (.i c)) L):T.hw h (.call h.g [.agg (d W R),.agg (d V P)] G F [.int I] (.int I (.v X)) t) O L:=by
 subst D;exact⟨rfl,rfl,rfl,_,_,x,y,rfl,N.ab O W R x B M,N.ab O V P y A H,M,H,z,w,u⟩
section
variable{Q:ma}{e g:Nat}{o:bp}{d:RE->K->aq}
def at1(al:ER Q d)(a3:lM o.lt (λx=>o.ok x=J)):Sk Q e g o 2 2 (Y5 e g d):=by
 rintro p _ X aA ns hP bg ⟨R,n,N,rfl,cf,hn⟩ hT hN M bk;obtain⟨a,b,rfl⟩:=two hN;obtain⟨_,M⟩:=BC M;simp only[nE] at M;split at M;rename_i s;simp only[aw,cm,fO] at s;obtain⟨⟨⟨bl,br⟩,ch⟩,a4⟩:=s;obtain⟨a,rfl⟩:=AY bl;obtain⟨b,rfl⟩:=AY (a:=b) aa;simp only[cU,v7] at M;have hb:b<=Y X:=aa;have br:a<=b:=aa;refine ze ⟨Q,g,o,e,.slice R n N,aA⟩ (hP▸bg) bk _ _ _ ?_;unfold Y5;refine zf (λH=>∃(i:Nat)(q:au),H=[.r (.mk (.slice R n N) q),.i i]/\a<i/\i<=b+1/\q=X.take a++(bX o.lt (bm X a (min i b))++X.drop (min i b))) (λH=>match H with|[_,.i i]=>b+1-i.toNat|_=>0) ⟨a+1,X, ?_,aa,aa, ?_⟩ ?_;simp only[dU,qn,C.xv,RE.rv,ai.rv,G7,K.ab];rw[ES aa];by_cases h:a+1<=b;rw[Hd h];have:bm X a (a+1)=[X[a]' aa]:=by
  simp only[bm,show a+1-a=1 from aa];rw[CU aa];rfl
 rw[this];show X=_++([X[a]' aa]++_);rw[<-this,LR X aa];have:b=a:=aa;subst this;rw[Zt aa];have:bm X b b=[]:=by simp[bm]
 rw[this];show X=X.take b++([]++X.drop b);simp;rintro _ ⟨i,q,rfl,cl,cn,F⟩;by_cases a9:i<b;rw[Hd aa] at F;obtain⟨x,hx⟩:∃x,x=X[i]' aa:=⟨_,rfl⟩;have hd:X.drop i=x::X.drop (i+1):=by rw[hx,CU aa]
 have hS:(bX o.lt (bm X a i)).length=i-a:=by rw[mQ,rz X aa]
 have bs:bm X a (i+1)=bm X a i++[x]:=by
  rw[pS X (show a<=i from aa) (show i<=i+1 from aa)];congr 1;simp only[bm,aiK,hd];rfl
 have B:∀y,y∈X.take a\/y∈bX o.lt (bm X a i)\/y=x\/y∈X.drop (i+1)->jH Q y/\o.ok y=true:=by
  intro y V;have:y∈X:=by
   rcases V with h|h|rfl|h;exact EW h;exact uU (Is h);rw[hx];exact ql _;exact CY h
  exact⟨hT y this,a4 y this⟩
 have an:gK o.lt (bX o.lt (bm X a i)):=DR a3 λz hz=>a4 z (uU hz)
 have bt:(X.take a).length=a:=dh;have bx:(X.drop (i+1)).length=n-(i+1):=dh;generalize b0:bX o.lt (bm X a i)=S at F hS B an;generalize co:X.take a=P at F B bt M;generalize b1:X.drop (i+1)=D at hd B bx;rw[hd] at F;have ba:∀L G,S=L++G->(∀l∈L,o.lt x l=E)->(∀g∈G,o.lt x g=J)->P++(L++x::(G++D))=P++(bX o.lt (bm X a (min (i+1) b))++X.drop (min (i+1) b)):=by
  intro L G m k h3;rw[Hd aa,bs,aDQ,b0,m,atZ k h3,b1];simp
 simp[a9];refine zf (λH=>∃(L G:au),H=[.r (.mk (.slice R n N) (P++(L++x::(G++D)))),.i ((a+Y L:Nat):Int)]/\S=L++G/\∀g∈G,o.lt x g=J) (λH=>match H with|[_,.i j]=>j.toNat|_=>0) ⟨S,[], ?_,av,av⟩ ?_;simp[F,hS];omega;rintro _ ⟨L,G,rfl,W,hG⟩;rcases List.eq_nil_or_concat L with rfl|⟨L,l,rfl⟩;simp;rw[ES aa];refine⟨⟨i+1,_,rfl,aa,aa, ?_⟩, ?_⟩;exact ba [] G W av hG;show b+1-((i+1:Nat):Int).toNat<b+1-i;omega;simp only[List.concat_eq_append] at W⊢;have cp:a+Y L+1<=i:=by
  have:=kh Y W;simp only[gc,lH,E0] at this;omega
 have A:aF .sub I (((a+(Y L+1):Nat)):Int) 1=((a+Y L:Nat):Int):=by rw[Y9 aa aa];omega
 have f:=B x av;have u:=B l (.inr (.inl (by rw[W];simp)));have e0:P++(L++[l]++x::(G++D))=(P++L)++(l::x::(G++D)):=av;have gx:((P++L)++(l::x::(G++D)))[a+(Y L+1)]?=U x:=by
  rw[iE dh];simp[show a+(Y L+1)-(Y P+Y L)=1 from aa]
 have gl:((P++L)++(l::x::(G++D)))[a+Y L]?=U l:=by
  rw[iE dh];simp[show a+Y L-(Y P+Y L)=0 from aa]
 have a0:∀y∈(P++L)++(l::x::(G++D)),jH Q y/\o.ok y=true:=by
  intro y V;refine B y ?_;simp only[eV,dP] at V;rcases V with(h|h)|h|h|h|h;exact .inl h;exact .inr (.inl (by rw[W];simp[h]));subst h;exact .inr (.inl (by rw[W];simp));exact .inr (.inr (.inl h));exact .inr (.inl (by rw[W];simp[h]));exact .inr (.inr (.inr h))
 have bb:((P++L)++(l::x::(G++D))).length=n:=by
  have:=kh Y W;simp only[gc,lH,E0] at this;simp only[gc,lH];omega
 rw[e0];have b2:(((a+(L++[l]).length:Nat):Int))=((a+(Y L+1):Nat):Int):=av;rw[b2];have af:((a+(Y L+1):Nat):Int).toNat=a+(Y L+1):=rfl;have ag:((a+Y L:Nat):Int).toNat=a+Y L:=rfl;have bc:((a+(Y L+1):Nat):Int)=((a+Y L:Nat):Int)+1:=aa;have b3:((a+(Y L+1):Nat):Int)<n:=by
  have:=bb;simp only[gc,lH] at this;omega
 have bd:(a:Int)<((a+(Y L+1):Nat):Int):=aa;have b4:(0:Int)<=((a+Y L:Nat):Int):=aa;generalize hz:((a+(Y L+1):Nat):Int)=z at A af bc b3 bd⊢;generalize hw:((a+Y L:Nat):Int)=w at A ag bc b4⊢;generalize hR:(P++L)++(l::x::(G++D))=t at gx gl a0 bb⊢;simp[A,bd];refine⟨⟨aa,by simp[lenOf];omega⟩,⟨aa,by simp[lenOf];omega⟩, ?_⟩;refine Za al rfl x l ?_ ?_ f.1 u.1 f.2 u.2 (λc s=> ?_);simp[af];exact gx;simp[A,ag];exact gl;have c1:∀O:ai,O.r=[.mk (.slice R n N) X,.mk (.slice R n N) q,.mk (.slice R n N) t]->O.i=[(a:Int),b,i,z,c]->A8 (C.cd O) (d (.v 2) (.bin .sub I (.v 3) (.c 1)))=l:=λO m k=>al.cd O _ _ l (by simp[m,k,A,ag];exact gl) u.1
 have c2:∀(O:ai) rv,O.r=[.mk (.slice R n N) X,.mk (.slice R n N) q,.mk (.slice R n N) t,rv]->O.i=[(a:Int),b,i,z,c]->A8 (C.cd O) (d (.v 2) (.v 3))=x:=λO rv m k=>al.cd O _ _ x (by simp[m,k,af];exact gx) f.1
 simp[A];refine uA (λb5=> ?_) (λb6=> ?_);rw[c1 _ rfl rfl,c2 _ _ rfl rfl];have m1:(t.modify z.toNat λa1=>gZ a1 0 l)=t.set (a+Y L+1) l:=by rw[af];exact G2 (λy V=>(a0 y V).1) u.1
 have m2:((t.set (a+Y L+1) l).modify w.toNat λa1=>gZ a1 0 x)=(t.set (a+Y L+1) l).set (a+Y L) x:=by
  rw[ag];refine G2 (λy V=> ?_) f.1;rcases EU V with h|rfl;exact(a0 y h).1;exact u.1
 rw[m1,m2,<-hR,at0 (P++L) (G++D) l x dh];refine⟨⟨aa,by simp[lenOf];omega⟩,⟨aa,by simp[lenOf];omega⟩,⟨aa,by simp[lenOf];omega⟩,⟨L,l::G, ?_,by rw[W];simp,λg' b7=> ?_⟩, ?_⟩;simp;omega;rcases dP.1 b7 with rfl|h;exact s.1 b5;exact hG g' h;show w.toNat<z.toNat;omega;have bf:o.lt x l=false:=by
  cases h:o.lt x l;rfl;exact aZ (s.2 h) b6
 have b8:∀y∈L++[l],o.lt x y=false:=by
  intro y V;rcases eV.1 V with h|h;have:o.lt l y=false:=by
   rw[W] at an;exact(nU.1 (nU.1 an).1).2.2 y h l av
  have ca:=B y (.inr (.inl (by rw[W];simp[h])));exact a3.nt x l y f.2 u.2 ca.2 bf this;simp at h;subst h;exact bf
 rw[ES aa];refine⟨⟨i+1,_,rfl,aa,aa, ?_⟩, ?_⟩;rw[<-ba (L++[l]) G W b8 hG,<-hR];simp;show b+1-((i+1:Nat):Int).toNat<b+1-i;omega;have cc:min i b=b:=Zt aa;rw[cc,M] at F;simp[a9];exact⟨1,rfl,by rw[F];rfl⟩;cases M
end
end
section
attribute[local simp] K.ab BE.ab RE.rv RE.ab fy ai.rv ai.ext ai.add C.xv xA JV JW JX CP CQ LE.ac oD kO
attribute[local congr] JU
def aDR(h:X<=4398046511104):IntKind.i64.wrap (aF .shr .u64 (IntKind.u64.wrap (X:Int)) 1)=((X/2:Nat):Int):=by
 have e1:IntKind.u64.wrap (X:Int)=(X:Int):=by
  rw[IntKind.wrap_u64];omega
 rw[e1];simp only[aF];have W:(2:Int)^min (Int.toNat 1) IntKind.u64.bits=2:=rfl;rw[W,aIc _ aa,Sn aa aa];omega
def Zb{o:bp}{N:Nat}{P X Y Q:au}{a m b:Int}(W:a=P.length)(V:m=P.length+X.length)(R:b=P.length+X.length+Y.length)(u:1<=X.length)(t:1<=Y.length)(q:X.length+Y.length<N)(M:(P++(X++(Y++Q))).length<=1099511627776)(H:∀z∈P++(X++(Y++Q)),o.ok z=J)(G:gK o.lt X)(F:gK o.lt Y):
  pL (N+3) o [a,m,b] (P++(X++(Y++Q)))=U (P++(bX o.lt (X++Y)++Q)):=by
 subst W;subst V;subst R;unfold pL;rw[aJ M];simp only[nE];have e1:((P.length:Int)).toNat=P.length:=rfl;have D:((P.length:Int)+X.length).toNat=P.length+X.length:=aa;have B:((P.length:Int)+X.length+Y.length).toNat=P.length+X.length+Y.length:=aa;rw[e1,D,B];have A:(P++(X++(Y++Q))).take P.length=P:=av;have y:bm (P++(X++(Y++Q))) P.length (P.length+X.length)=X:=Sq P X _;have x:bm (P++(X++(Y++Q))) (P.length+X.length) (P.length+X.length+Y.length)=Y:=Sr (P:=P++X) (Q:=Q) av av rfl;have w:bm (P++(X++(Y++Q))) P.length (P.length+X.length+Y.length)=X++Y:=Sr (P:=P) (Q:=Q) av rfl dh;have v:(P++(X++(Y++Q))).drop (P.length+X.length+Y.length)=Q:=by
  have:P++(X++(Y++Q))=(P++(X++Y))++Q:=av;rw[this,Zu dh]
 rw[A,y,x,w,v,aJ];simp only[aw,cm,fO,anK];refine⟨⟨⟨⟨⟨⟨⟨aa,aa⟩,aa⟩, ?_⟩,aa⟩,H⟩,G⟩,F⟩;simp only[gc];omega
def Zc{lt:aC->aC->Bool}(h:M=[]\/B=[])(W:gK lt M)(V:gK lt B):bX lt (M++B)=M++B:=by
 rcases h with rfl|rfl;simpa using Vc V;simpa using Vc W
def aDS{X Q:au}{a m b:Int}(W:a=Y M)(V:m=Y M+Y B)(R:b=Y M+Y B+Y X)(v:1<=Y B)(u:1<=Y X)(H:(M++(B++(X++Q))).length<=1099511627776):
  pL 1 z [a,m,b] (M++(B++(X++Q)))=U (M++(X++(B++Q))):=by
 subst W;subst V;subst R;unfold pL;rw[aJ H];simp only[nE];have e1:((Y M:Int)).toNat=Y M:=rfl;have G:((Y M:Int)+Y B).toNat=Y M+Y B:=aa;have F:((Y M:Int)+Y B+Y X).toNat=Y M+Y B+Y X:=aa;rw[e1,G,F];have D:(M++(B++(X++Q))).take (Y M)=M:=av;have y:bm (M++(B++(X++Q))) (Y M) (Y M+Y B)=B:=Sq M B _;have x:bm (M++(B++(X++Q))) (Y M+Y B) (Y M+Y B+Y X)=X:=Sr (P:=M++B) (Q:=Q) av av rfl;have w:(M++(B++(X++Q))).drop (Y M+Y B+Y X)=Q:=by
  have:M++(B++(X++Q))=(M++(B++X))++Q:=av;rw[this,Zu dh]
 rw[D,y,x,w,aJ];simp only[aw,cm,gc];omega
abbrev NU:K:=.bin .sub I (.bin .add I ef (.v 1)) (.v 3)
section
variable{f d g e N:Nat}{o:bp}{h:HP}{O:ai}{L:dC}{a m b s r mid e1:Nat}
structure JY(O:ai)(a m b s:Nat)(mid e1:Nat):Prop where
 va:O.i.getD 0 0=a
 vm:O.i.getD 1 0=m
 vb:O.i.getD 2 0=b
 vs:O.i.getD 3 0=s
 Ss:ef.ab O=mid
 ve:NU.ab O=e1
def JY.add{rv:RV}(H:JY O a m b s mid e1):JY (O.add (.r rv)) a m b s mid e1:=by
 have X:∀(x:Nat),K.ab (O.add (.r rv)) (.v x)=K.ab O (.v x):=λx=>rfl
 exact⟨H.va,H.vm,H.vb,H.vs,by rw[<-H.Ss];rfl,by rw[<-H.ve];rfl⟩
def ET(H:JY O a m b s mid e1)(R:h.e=e){t:bv}{y x w:S}{v:Value}{W Q:au}(V:O.rv X=.mk v (M++(B++(W++Q))))(q:X+1=Y O.r)(G:h.v=v)(F:h.aA=M++(bX o.lt (B++W)++Q))
  (hP:Y M=mid)(hX:Y B=e1-mid)(hY:Y W=b-e1)(h1:mid<=e1)(h2:e1<=b)(hN:b-mid<N)(p:(M++(B++(W++Q))).length<=1099511627776)(n:∀z∈M++(B++(W++Q)),o.ok z=J)(D:gK o.lt B)(A:gK o.lt W)
  (k:y.rs[X+1]?=U (.own e))(j:x.rs[X]?=U (.own e))(i:w.rs[X]?=U (.own e)):
  T.hw h (.aT (.cmp .lss ef NU) (.aT (.cmp .lss NU (.v 2)) (.eE f g e (.dw (N+3) o [ef,NU,.v 2]) E (.v X) t (.out .normal y)) (.out .normal x)) (.out .normal w)) O L:=by
 have u:K.ab O (.v 2)=b:=H.vb;rw[xA];simp only[BE.ab,fy,H.Ss,H.ve,cm];refine uA (λd=> ?_) (λd=> ?_);rw[xA];simp only[BE.ab,fy,H.ve,u,cm];refine uA (λq2=> ?_) (λq2=> ?_);rw[CP];refine⟨M++(bX o.lt (B++W)++Q), ?_, ?_⟩;simp only[kO,dU,qn,H.Ss,H.ve,u,RE.rv,V,RV.nD];exact Zb aa aa aa aa aa aa p n D A;rw[CQ];refine⟨.inl rfl,X+1,by rw[R];exact k, ?_⟩;have af:(O.rv X).val=v:=by rw[V];rfl
 rw[show(RE.v X).rv O=O.rv X from rfl,af,G,F];simp[ai.add,ai.rv,q];rw[CQ];refine⟨.inl rfl,X,by rw[R];exact j, ?_⟩;rw[V,G,F,Zc (.inr (tw aa)) D A];simp;rw[CQ];refine⟨.inl rfl,X,by rw[R];exact i, ?_⟩;rw[V,G,F,Zc (.inl (tw aa)) D A];simp
def aim(H:JY O a m b s mid e1){x:bv}{D A:T}{v:Value}{W R:au}(V:O.rv X=.mk v (M++(B++(W++R))))
  (i:Y M=a)(d:Y B=s-a)(hY:Y W=mid-s)(h1:a<=s)(h2:s<=mid)(hN:mid-a<N)(w:(M++(B++(W++R))).length<=1099511627776)(u:∀z∈M++(B++(W++R)),o.ok z=J)(Q:gK o.lt B)(G:gK o.lt W)
  (q:T.hw h t (O.add (.r (.mk v (M++(bX o.lt (B++W)++R))))) L)(p:O.rv X=.mk v (M++(bX o.lt (B++W)++R))->T.hw h D O L)(n:O.rv X=.mk v (M++(bX o.lt (B++W)++R))->T.hw h A O L):
  T.hw h (.aT (.cmp .lss (.v 0) (.v 3)) (.aT (.cmp .lss (.v 3) ef) (.eE f g e (.dw (N+3) o [.v 0,.v 3,ef]) E (.v X) x t) D) A) O L:=by
 have y:K.ab O (.v 0)=a:=H.va;have F:K.ab O (.v 3)=s:=H.vs;rw[xA];simp only[BE.ab,fy,y,F,cm];refine uA (λk=> ?_) (λk=> ?_);rw[xA];simp only[BE.ab,fy,H.Ss,F,cm];refine uA (λj=> ?_) (λj=> ?_);rw[CP];refine⟨M++(bX o.lt (B++W)++R), ?_, ?_⟩;simp only[kO,dU,qn,H.Ss,y,F,RE.rv,V,RV.nD];exact Zb aa aa aa aa aa aa w u Q G;simp only[RE.rv,V,RV.nC];exact q;refine p ?_;rw[V,Zc (.inr (tw aa)) Q G];simp;refine n ?_;rw[V,Zc (.inl (tw aa)) Q G];simp
def aDT(H:JY O a m b s mid e1){z:bv}{G F:T}{v:Value}{W R:au}(V:O.rv X=.mk v (M++(B++(W++R))))
  (n:Y M=s)(k:Y B=m-s)(j:Y W=e1-m)(i:s<=m)(f:m<=e1)(y:(M++(B++(W++R))).length<=1099511627776)
  (x:T.hw h t (O.add (.r (.mk v (M++(W++(B++R)))))) L)(w:O.rv X=.mk v (M++(W++(B++R)))->T.hw h G O L)(u:O.rv X=.mk v (M++(W++(B++R)))->T.hw h F O L):
  T.hw h (.aT (.cmp .lss (.v 3) (.v 1)) (.aT (.cmp .lss (.v 1) NU) (.eE d g e (.dw 1 o [.v 3,.v 1,NU]) E (.v X) z t) G) F) O L:=by
 have Q:K.ab O (.v 1)=m:=H.vm;have D:K.ab O (.v 3)=s:=H.vs;rw[xA];simp only[BE.ab,fy,Q,D,cm];refine uA (λq=> ?_) (λq=> ?_);rw[xA];simp only[BE.ab,fy,H.ve,Q,cm];refine uA (λp=> ?_) (λp=> ?_);rw[CP];refine⟨M++(W++(B++R)), ?_, ?_⟩;simp only[kO,dU,qn,H.ve,Q,D,RE.rv,V,RV.nD];exact aDS aa aa aa aa aa y;simp only[RE.rv,V,RV.nC];exact x;refine w ?_;have:W=[]:=tw aa;rw[V,this];simp;refine u ?_;have:B=[]:=tw aa;rw[V,this];simp
end
section
variable{f d e g N:Nat}{o:bp}{O:ai}{L:dC}{a m b s mid e1:Nat}{l:ma}
def vP{O:ai}{v:RV}(h:X=Y O.r):(O.add (.r v)).rv X=v:=by subst h;simp[ai.rv,ai.add]
def aDU(bf:lM o.lt (λx=>o.ok x=J))(H:JY O a m b s mid e1){v:Value}(an:Y O.r=2)(hc:O.rv 1=.mk v M)
  (h1:a<=s)(h2:s<=m)(h3:m<=e1)(F:e1<=b)(hb:b<=Y M)(a1:s<=mid)(bs:mid+m=e1+s)(a3:mid-a<N)(w:b-mid<N)(hl:Y M<=1099511627776)(bb:∀z∈M,o.ok z=J)(sA:gK o.lt (bm M a m))(sB:gK o.lt (bm M m b))
  (q1:∀i j,a<=i->i<s->e1<=j->j<b->o.lt (M.getD j []) (M.getD i [])=E)(q2:∀i j,s<=i->i<m->m<=j->j<e1->o.lt (M.getD j []) (M.getD i [])=J)
  (bc:B=M.take a++(bX o.lt (bm M a b)++M.drop b)):T.hw ⟨l,g,o,e,v,B⟩ (Sm e g d f N o) O L:=by
 have bg:=azA bf bb h1 h2 h3 F hb sA sB q1 q2;have e0:M=M.take a++(bm M a s++(bm M s m++(bm M m e1++(bm M e1 b++M.drop b)))):=by
  have:=LR M (show a<=b from aa);rw[pS M (show a<=s from aa) (show s<=b from aa),pS M h2 (show m<=b from aa),pS M h3 F] at this;simpa using this.symm
 have l1:(bm M a s).length=s-a:=rz M aa;have l2:(bm M s m).length=m-s:=rz M aa;have l3:(bm M m e1).length=e1-m:=rz M aa;have u:(bm M e1 b).length=b-e1:=rz M aa;have lP:(M.take a).length=a:=dh;rw[pS M h1 h2] at sA;rw[pS M h3 F] at sB;have a4:gK o.lt (bm M a s):=(nU.1 sA).1;have t:gK o.lt (bm M s m):=(nU.1 sA).2.1;have a9:gK o.lt (bm M m e1):=(nU.1 sB).1;have q:gK o.lt (bm M e1 b):=(nU.1 sB).2.1;rw[bg] at bc;have bk:∀x,(x∈M.take a\/x∈bm M a s\/x∈bm M s m\/x∈bm M m e1\/x∈bm M e1 b\/x∈M.drop b)->o.ok x=true:=λx hx=>bb x (by
  rcases hx with h|h|h|h|h|h;exact EW h;exact uU h;exact uU h;exact uU h;exact uU h;exact CY h)
 rw[e0] at hc hl;generalize M.take a=P at*;generalize bm M a s=X at*;generalize bm M s m=D at*;generalize bm M m e1=W at*;generalize bm M e1 b=y at*;generalize M.drop b=Q at*;have p:B=(P++bX o.lt (X++W))++(bX o.lt (D++y)++Q):=by rw[bc];simp
 have bl:∀x∈bX o.lt (X++W),x∈X\/x∈W:=λx hx=>by simpa using Is hx
 have bd:(bX o.lt (X++W)).length=mid-a:=by rw[mQ];simp;omega
 have bt:Y P+(Y X+(Y D+(Y W+(Y y+Y Q))))<=1099511627776:=by simpa using hl
 have a0:∀z∈P++(X++(W++(D++(y++Q)))),o.ok z=true:=λz hz=>bk z (by
  simp only[eV] at hz;rcases hz with h|h|h|h|h|h;exact .inl h;exact .inr (.inl h);exact .inr (.inr (.inr (.inl h)));exact .inr (.inr (.inl h));exact .inr (.inr (.inr (.inr (.inl h))));exact .inr (.inr (.inr (.inr (.inr h)))))
 have n:∀z∈(P++bX o.lt (X++W))++(D++(y++Q)),o.ok z=true:=λz hz=>a0 z (by
  simp only[eV] at hz⊢;rcases hz with(h|h)|h|h|h;exact .inl h;rcases bl z h with h|h;exact .inr (.inl h);exact .inr (.inr (.inl h));exact .inr (.inr (.inr (.inl h)));exact .inr (.inr (.inr (.inr (.inl h))));exact .inr (.inr (.inr (.inr (.inr h)))))
 have lU:(P++(X++(W++(D++(y++Q))))).length<=1099511627776:=dh;have k:((P++bX o.lt (X++W))++(D++(y++Q))).length<=1099511627776:=by simp only[gc,bd];omega
 have c:(P++bX o.lt (X++W)).length=mid:=by simp only[gc,bd];omega
 have af:Y D=e1-mid:=aa;have br:O.rv 1=.mk v ((P++X)++(D++(W++(y++Q)))):=by rw[hc];simp
 have ba:∀R:au,(P++X)++(W++R)=P++(X++(W++R)):=λR=>av
 have ag:∀R:au,P++(bX o.lt (X++W)++R)=(P++bX o.lt (X++W))++R:=λR=>av
 unfold Sm;refine aDT H br dh l2 l3 h2 h3 dh ?_ (λal=> ?_) (λal=> ?_);have al:=vP (v:=.mk v ((P++X)++(W++(D++(y++Q))))) (show 2=Y O.r from aa);rw[ba] at al⊢;have V:=H.add (rv:=.mk v (P++(X++(W++(D++(y++Q))))));have G:(O.add (.r (.mk v (P++(X++(W++(D++(y++Q)))))))).r.length=3:=by simp[ai.add,an]
 refine aim V al lP l1 aa h1 a1 a3 lU a0 a4 a9 ?_ (λA=> ?_) (λA=> ?_);refine ET V.add rfl ((vP (show 3=_ from G.symm)).trans (by rw[ag])) (by simp[ai.add,an]) rfl p c af u aa F w k n t q rfl rfl rfl;refine ET V rfl (A.trans (by rw[ag])) (show 2+1=_ from G.symm) rfl p c af u aa F w k n t q rfl rfl rfl;refine ET V rfl (A.trans (by rw[ag])) (show 2+1=_ from G.symm) rfl p c af u aa F w k n t q rfl rfl rfl;rw[ba] at al;have V:=H;have G:=an;refine aim V al lP l1 aa h1 a1 a3 lU a0 a4 a9 ?_ (λA=> ?_) (λA=> ?_);refine ET V.add rfl ((vP (show 2=_ from G.symm)).trans (by rw[ag])) (by simp[ai.add,G]) rfl p c af u aa F w k n t q rfl rfl rfl;refine ET V rfl (A.trans (by rw[ag])) (show 1+1=_ from G.symm) rfl p c af u aa F w k n t q rfl rfl rfl;refine ET V rfl (A.trans (by rw[ag])) (show 1+1=_ from G.symm) rfl p c af u aa F w k n t q rfl rfl rfl;rw[ba] at al;have V:=H;have G:=an;refine aim V al lP l1 aa h1 a1 a3 lU a0 a4 a9 ?_ (λA=> ?_) (λA=> ?_);refine ET V.add rfl ((vP (show 2=_ from G.symm)).trans (by rw[ag])) (by simp[ai.add,G]) rfl p c af u aa F w k n t q rfl rfl rfl;refine ET V rfl (A.trans (by rw[ag])) (show 1+1=_ from G.symm) rfl p c af u aa F w k n t q rfl rfl rfl;refine ET V rfl (A.trans (by rw[ag])) (show 1+1=_ from G.symm) rfl p c af u aa F w k n t q rfl rfl rfl
end
end
section
attribute[local simp] K.ab BE.ab RE.rv RE.ab fy ai.rv ai.ext ai.add C.xv xA JV JW JX CP CQ LE.ac oD kO
attribute[local congr] JU
def getD_some(h:X<Y M):M[X]?=U (M.getD X []):=by
 rw[cz,cS h];rfl
def St{i j:Nat}(h:i+j<=4398046511104):IntKind.i64.wrap (aF .shr .u64 (IntKind.u64.wrap (aF .add I (i:Int) (j:Int))) 1)=(((i+j)/2:Nat):Int):=by
 rw[AX h];exact aDR h
def Su(h:X<Y M):bm M X (X+1)=[M.getD X []]:=by
 have e:M.getD X []=M[X]:=by rw[cz,cS h];rfl
 simp only[bm,aiK];rw[CU h,e];rfl
def aDV(A R:au)(y x:aC)(W:X=Y A):((A++(x::y::R)).set X y).set (X+1) x=A++(y::x::R):=by
 subst W;rw[Zk _ _ aa,Zz,Zk _ _ aa,aiK];rfl
def cY(X:au)(k:Nat):aC:=X.getD k []
def at2(h:X<Y M):M.drop X=cY M X::M.drop (X+1):=by
 rw[CU h,cY,cz,cS h];rfl
section
variable{Q:ma}{e g:Nat}{o:bp}{d:RE->K->aq}
def aDW(al:ER Q d)(an:lM o.lt (λx=>o.ok x=J)){R:oz}{m b:Nat}(b8:Y M=X)(hn:X<=1099511627776)(t:∀x∈M,jH Q x)(a3:∀x∈M,o.ok x=J)
  (hm:m=n+1)(ca:m<b)(hb:b<=Y M)(sB:gK o.lt (bm M m b))(br:B=M.take n++(bX o.lt (bm M n b)++M.drop b)):
  T.hw ⟨Q,g,o,e,.slice R X w,B⟩ (aih e g d) ⟨[(n:Int),m,b],[],[.mk (.slice R X w) M],[]⟩ []:=by
 subst hm;have L:n<Y M:=aa;have a4:∀k,k<Y M->cY M k∈M:=λk P=>jI (getD_some P)
 have s:∀k,k<Y M->jH Q (cY M k):=λk P=>t _ (a4 k P)
 have H:∀k,k<Y M->o.ok (cY M k)=true:=λk P=>a3 _ (a4 k P)
 unfold aih;refine zf (λF=>∃(i j:Nat),F=[.r (.mk (.slice R X w) M),.i i,.i j]/\n+1<=i/\i<=j/\j<=b/\(∀k,n+1<=k->k<i->o.lt (cY M k) (cY M n)=J)/\∀k,j<=k->k<b->o.lt (cY M k) (cY M n)=E) (λF=>match F with|[_,.i i,.i j]=>j.toNat-i.toNat|_=>0) ⟨n+1,b,rfl,aa,aa,aa,aa,aa⟩ ?_;rintro _ ⟨i,j,rfl,a9,cc,p,ba,bb⟩;by_cases bs:i<j;have l:=St (i:=i) (j:=j) aa;have bt:i<=(i+j)/2:=aa;have bx:(i+j)/2<j:=aa;generalize hq:(i+j)/2=q at l bt bx;simp[bs,l,lenOf];refine⟨aa,aa, ?_⟩;refine Za al rfl (cY M q) (cY M n) ?_ ?_ (s q aa) (s n L) (H q aa) (H n L) (λc hc=> ?_);simp[l];exact getD_some aa;simp;exact getD_some L;simp[l];refine uA (λb0=> ?_) (λb1=> ?_);rw[ES aa];refine⟨⟨q+1,j,rfl,aa,aa,p,λk D A=> ?_,bb⟩, ?_⟩;have u:=hc.1 b0;by_cases P:k=q;subst P;exact u;have hs:=LS hb sB (i:=k) (j:=q) aa aa aa;cases h:o.lt (cY M k) (cY M n);have:=an.nt _ _ _ (H q aa) (H k aa) (H n L) hs h;rw[u] at this;cases this;rfl;show(j:Int).toNat-((q+1:Nat):Int).toNat<j-i;omega;have u:o.lt (cY M q) (cY M n)=false:=by
  cases h:o.lt (cY M q) (cY M n);rfl;exact aZ (hc.2 h) b1
 refine⟨⟨i,q,rfl,aa,aa,aa,ba,λk D A=> ?_⟩, ?_⟩;by_cases P:k=q;subst P;exact u;have hs:=LS hb sB (i:=q) (j:=k) aa aa aa;exact an.nt _ _ _ (H k aa) (H q aa) (H n L) hs u;show((q:Nat):Int).toNat-(i:Int).toNat<j-i;omega;have b2:i=j:=aa;subst b2;simp;have bc:bX o.lt (bm M n b)=bm M (n+1) i++cY M n::bm M i b:=by
  have e0:bm M n b=cY M n::(bm M (n+1) i++bm M i b):=by
   rw[<-pS M a9 p,pS M (show n<=n+1 from aa) (show n+1<=b from aa)];have:bm M n (n+1)=[cY M n]:=Su L;rw[this];rfl
  rw[e0];refine azx an (λz G=> ?_) (by rw[<-pS M a9 p];exact sB) (λy hy=> ?_) (λy hy=> ?_);rw[<-e0] at G;exact a3 z (uU G);obtain⟨k,k1,k2,_,rfl⟩:=FL hy;exact ba k k1 k2;obtain⟨k,k1,k2,_,rfl⟩:=FL hy;exact bb k k1 k2
 have b3:(M.take n).length=n:=dh;refine zf (λF=>∃(k:Nat)(V:au),F=[.r (.mk (.slice R X w) V),.i k]/\n<=k/\k+1<=i/\V=(M.take n++bm M (n+1) (k+1))++cY M n::M.drop (k+1)) (λF=>match F with|[_,.i k]=>i-k.toNat|_=>0) ⟨n,M,av,aa,aa, ?_⟩ ?_;have e1:bm M (n+1) (n+1)=[]:=by simp[bm]
 have:=LR M (show n<=n+1 from aa);rw[Su L] at this;rw[e1,J3];exact this.symm;rintro _ ⟨k,V,rfl,cf,ch,N⟩;have bd:aF .sub I (i:Int) 1=((i-1:Nat):Int):=Y9 aa aa;have f:(M.take n++bm M (n+1) (k+1)).length=k:=by rw[gc,b3,rz M aa];omega
 by_cases P:k<i-1;have hd:M.drop (k+1)=cY M (k+1)::M.drop (k+1+1):=by
  exact at2 aa
 have bf:bm M (n+1) (k+1+1)=bm M (n+1) (k+1)++[cY M (k+1)]:=by
  rw[pS M (show n+1<=k+1 from aa) (show k+1<=k+1+1 from aa),Su aa];rfl
 have af:=s n L;have ag:=s (k+1) aa;have bg:∀z∈V,jH Q z:=λz G=>by
  rw[N] at G;simp only[eV,dP] at G;rcases G with(h|h)|h|h;exact t z (EW h);exact t z (uU h);subst h;exact af;exact t z (CY h)
 rw[hd] at N;generalize cY M n=x at af N bc;generalize cY M (k+1)=y at ag N bf;have cl:Y V=X:=by
  rw[N,gc,f];simp;omega
 have gx:V[k]?=U x:=by rw[N,iE aa,f];simp
 have gy:V[k+1]?=U y:=by rw[N,iE aa,f];simp
 have c1:∀O:ai,O.r=[.mk (.slice R X w) M,.mk (.slice R X w) M,.mk (.slice R X w) V]->O.i=[(n:Int),((n+1:Nat):Int),b,i,i,k]->A8 (C.cd O) (d (.v 2) (.bin .add I (.v 5) (.c 1)))=y:=λO D A=>al.cd O _ _ y (by simp only[RE.rv,ai.rv,K.ab,D,A,N3,G7,RV.nD,ES (a:=k) aa];exact gy) ag
 have c2:∀(O:ai) rv,O.r=[.mk (.slice R X w) M,.mk (.slice R X w) M,.mk (.slice R X w) V,rv]->O.i=[(n:Int),((n+1:Nat):Int),b,i,i,k]->A8 (C.cd O) (d (.v 2) (.v 5))=x:=λO rv D A=>al.cd O _ _ x (by simp only[RE.rv,ai.rv,K.ab,D,A,N3,G7,RV.nD];exact gx) af
 have m1:(V.modify k λa0=>gZ a0 0 y)=V.set k y:=G2 bg ag;have m2:((V.set k y).modify (k+1) λa0=>gZ a0 0 x)=(V.set k y).set (k+1) x:=G2 (λz G=>by
  rcases EU G with h|rfl;exact bg z h;exact ag) af
 have a1:(k:Int)<((i-1:Nat):Int):=aa;have bk:=ES (a:=k) aa;generalize hw:((k+1:Nat):Int)=W at bk;have b4:W.toNat=k+1:=aa;have bl:=aDV (M.take n++bm M (n+1) (k+1)) (M.drop (k+1+1)) y x f.symm;rw[<-N] at bl;simp[bd,a1,bk,lenOf];rw[c1 _ rfl rfl,c2 _ _ rfl rfl,b4,m1,m2,bl];refine⟨aa,aa,aa,⟨k+1,_,by rw[hw],aa,aa, ?_⟩, ?_⟩;rw[bf];simp;show i-W.toNat<i-k;omega;have a1:¬(k:Int)<((i-1:Nat):Int):=aa;have b5:k+1=i:=aa;rw[b5] at N;have hd:=LR (M.drop 0) (show i<=i from aa);have b6:M.drop i=bm M i b++M.drop b:=by
  have:=pS M p (show b<=b from aa);simp only[bm];have e:M.drop b=(M.drop i).drop (b-i):=by rw[N6];congr 1;omega
  rw[e,J0]
 have b7:V=B:=by
  rw[N,br,bc,b6];simp
 simp[bd,a1];exact⟨2,rfl,by rw[b7];rfl⟩
def aDX(ag:ER Q d)(al:lM o.lt (λx=>o.ok x=J)){R:oz}{m b:Nat}(ca:Y M=X)(hn:X<=1099511627776)(t:∀x∈M,jH Q x)(ba:∀x∈M,o.ok x=J)
  (hm:b=m+1)(cc:n<m)(hb:b<=Y M)(sA:gK o.lt (bm M n m))(br:B=M.take n++(bX o.lt (bm M n b)++M.drop b)):
  T.hw ⟨Q,g,o,e,.slice R X w,B⟩ (aii e g d) ⟨[(n:Int),m,b],[],[.mk (.slice R X w) M],[]⟩ []:=by
 subst hm;have L:m<Y M:=aa;have bb:∀k,k<Y M->cY M k∈M:=λk N=>jI (getD_some N)
 have s:∀k,k<Y M->jH Q (cY M k):=λk N=>t _ (bb k N)
 have H:∀k,k<Y M->o.ok (cY M k)=true:=λk N=>ba _ (bb k N)
 unfold aii;refine zf (λP=>∃(i j:Nat),P=[.r (.mk (.slice R X w) M),.i i,.i j]/\n<=i/\i<=j/\j<=m/\(∀k,n<=k->k<i->o.lt (cY M m) (cY M k)=E)/\∀k,j<=k->k<m->o.lt (cY M m) (cY M k)=J) (λP=>match P with|[_,.i i,.i j]=>j.toNat-i.toNat|_=>0) ⟨n,m,rfl,aa,aa,aa,aa,aa⟩ ?_;rintro _ ⟨i,j,rfl,an,cf,a0,bc,bd⟩;by_cases bs:i<j;have p:=St (i:=i) (j:=j) aa;have bt:i<=(i+j)/2:=aa;have bx:(i+j)/2<j:=aa;generalize hq:(i+j)/2=q at p bt bx;simp[bs,p,lenOf];refine⟨aa,aa, ?_⟩;refine Za ag rfl (cY M m) (cY M q) ?_ ?_ (s m L) (s q aa) (H m L) (H q aa) (λc hc=> ?_);simp;exact getD_some L;simp[p];exact getD_some aa;simp[p];refine uA (λch=> ?_) (λcl=> ?_);rw[ES aa];have D:o.lt (cY M m) (cY M q)=false:=by
  cases h:o.lt (cY M m) (cY M q);rfl;have:=hc.2 h;omega
 refine⟨⟨q+1,j,rfl,aa,aa,a0,λk A F=> ?_,bd⟩, ?_⟩;by_cases N:k=q;subst N;exact D;have hs:=LS (show m<=Y M from aa) sA (i:=k) (j:=q) aa aa aa;exact al.nt _ _ _ (H m L) (H q aa) (H k aa) D hs;show(j:Int).toNat-((q+1:Nat):Int).toNat<j-i;omega;have D:o.lt (cY M m) (cY M q)=true:=hc.1 aa;refine⟨⟨i,q,rfl,aa,aa,aa,bc,λk A F=> ?_⟩, ?_⟩;by_cases N:k=q;subst N;exact D;have hs:=LS (show m<=Y M from aa) sA (i:=q) (j:=k) aa aa aa;cases h:o.lt (cY M m) (cY M k);have:=al.nt _ _ _ (H m L) (H k aa) (H q aa) h hs;rw[D] at this;cases this;rfl;show((q:Nat):Int).toNat-(i:Int).toNat<j-i;omega;have b0:i=j:=aa;subst b0;simp;have b1:bX o.lt (bm M n (m+1))=bm M n i++cY M m::bm M i m:=by
  have e0:bm M n (m+1)=bm M n i++bm M i m++[cY M m]:=by
   rw[<-pS M an a0,pS M (show n<=m from aa) (show m<=m+1 from aa),Su L];rfl
  rw[e0];refine azy al (λz G=> ?_) (by rw[<-pS M an a0];exact sA) (λy hy=> ?_) (λy hy=> ?_);rw[<-e0] at G;exact ba z (uU G);obtain⟨k,k1,k2,_,rfl⟩:=FL hy;exact bc k k1 k2;obtain⟨k,k1,k2,_,rfl⟩:=FL hy;exact bd k k1 k2
 refine zf (λP=>∃(k:Nat)(V:au),P=[.r (.mk (.slice R X w) V),.i k]/\i<=k/\k<=m/\V=M.take k++cY M m::(bm M k m++M.drop (m+1))) (λP=>match P with|[_,.i k]=>k.toNat|_=>0) ⟨m,M,av,aa,aa, ?_⟩ ?_;have e1:bm M m m=[]:=by simp[bm]
 rw[e1,eW,<-at2 L,J0];rintro _ ⟨k,V,rfl,cn,co,bf⟩;by_cases N:i<k;obtain⟨q,rfl⟩:∃q,k=q+1:=⟨k-1,aa⟩;have a1:aF .sub I (((q+1:Nat)):Int) 1=(q:Int):=by rw[Y9 aa aa];omega
 have l:(M.take q).length=q:=dh;have b2:M.take (q+1)=M.take q++[cY M q]:=by
  rw[au8,getD_some (show q<Y M from aa)];rfl
 have b3:bm M q m=cY M q::bm M (q+1) m:=by
  rw[pS M (show q<=q+1 from aa) (show q+1<=m from aa),Su aa];rfl
 have a3:=s m L;have f:=s q aa;have u:V=M.take q++(cY M q::cY M m::(bm M (q+1) m++M.drop (m+1))):=by rw[bf,b2];simp
 have bg:∀z∈V,jH Q z:=λz G=>by
  rw[u] at G;simp only[eV,dP] at G;rcases G with h|h|h|h|h;exact t z (EW h);subst h;exact f;subst h;exact a3;exact t z (uU h);exact t z (CY h)
 have bk:=at0 (M.take q) (bm M (q+1) m++M.drop (m+1)) (cY M q) (cY M m) l.symm;rw[<-u] at bk;have cp:Y V=X:=by
  rw[u,gc,l];simp only[lH,gc,rz M (show m<=Y M from aa),C1];omega
 have gx:V[q+1]?=U (cY M m):=by rw[u,iE aa,l];simp
 have gy:V[q]?=U (cY M q):=by rw[u,iE aa,l];simp
 have bl:(i:Int)<((q+1:Nat):Int):=aa;have b4:((q+1:Nat):Int)<X:=aa;have a4:((q+1:Nat):Int).toNat=q+1:=rfl;have b5:(0:Int)<=((q+1:Nat):Int):=aa;have b6:∀af,af=M.take q++cY M m::(bm M q m++M.drop (m+1))->JT (U ⟨1,λP=>∃(k:Nat)(V:au),P=[.r (.mk (.slice R X w) V),.i k]/\i<=k/\k<=m/\V=M.take k++cY M m::(bm M k m++M.drop (m+1)),λP=>match P with|[_,.i k]=>k.toNat|_=>0,q+1⟩) [.r (.mk (.slice R X w) af),.i q]:=λaf F=>⟨⟨q,af,rfl,aa,aa,F⟩,show(q:Int).toNat<q+1 from aa⟩
 generalize hw:((q+1:Nat):Int)=W at a1 bl b4 a4 b5⊢;have c1:∀O:ai,O.r=[.mk (.slice R X w) M,.mk (.slice R X w) M,.mk (.slice R X w) V]->O.i=[(n:Int),m,((m+1:Nat):Int),i,i,W]->A8 (C.cd O) (d (.v 2) (.bin .sub I (.v 5) (.c 1)))=cY M q:=λO A F=>ag.cd O _ _ _ (by simp only[RE.rv,ai.rv,K.ab,A,F,N3,G7,RV.nD,a1];exact gy) f
 have c2:∀(O:ai) rv,O.r=[.mk (.slice R X w) M,.mk (.slice R X w) M,.mk (.slice R X w) V,rv]->O.i=[(n:Int),m,((m+1:Nat):Int),i,i,W]->A8 (C.cd O) (d (.v 2) (.v 5))=cY M m:=λO rv A F=>ag.cd O _ _ _ (by simp only[RE.rv,ai.rv,K.ab,A,F,N3,G7,RV.nD,a4];exact gx) a3
 have m1:(V.modify (q+1) λa9=>gZ a9 0 (cY M q))=V.set (q+1) (cY M q):=G2 bg f;have m2:((V.set (q+1) (cY M q)).modify q λa9=>gZ a9 0 (cY M m))=(V.set (q+1) (cY M q)).set q (cY M m):=G2 (λz G=>by
  rcases EU G with h|rfl;exact bg z h;exact f) a3
 simp[a1,bl,lenOf];rw[c1 _ rfl rfl,c2 _ _ rfl rfl,a4,m1,m2,bk];refine⟨aa,aa,aa, ?_⟩;exact b6 _ (by rw[b3];simp);have b7:k=i:=aa;subst b7;have b8:V=B:=by
  have ht:M.take k=M.take n++bm M n k:=by
   have e1:=LR M an;have e2:(M.take n++bm M n k).length=k:=by rw[gc,rz M aa];simp;omega
   calc M.take k=(M.take n++bm M n k++M.drop k).take k:=by rw[A6,e1]
    _=_:=by rw[auS aa,G5 aa]
  rw[bf,br,b1,ht];simp
 simp;exact⟨2,rfl,by rw[b8];rfl⟩
end
end
section
attribute[local simp] K.ab BE.ab RE.rv RE.ab fy ai.rv ai.ext ai.add C.xv xA JV JW JX CP CQ LE.ac oD kO
attribute[local congr] JU
section
variable{Q:ma}{e g f l N:Nat}{o:bp}{d:RE->K->aq}
def at3(ba:ER Q d)(R:lM o.lt (λx=>o.ok x=J)){H:oz}{m b lo hi:Nat}(bs:Y M=X)(hn:X<=1099511627776)(hT:∀x∈M,jH Q x)(ag:∀x∈M,o.ok x=J)
  (bt:n<m)(bx:m<b)(hb:b<=Y M)(hN:b-n<N+1)(b0:2<=b-n)(sA:gK o.lt (bm M n m))(sB:gK o.lt (bm M m b))(bb:B=M.take n++(bX o.lt (bm M n b)++M.drop b))
  (l1:n<=lo)(l2:lo<=hi)(l3:hi<=m)(l4:hi<=(n+b)/2)(l5:(n+b)/2+m<=lo+b)(l6:lo=n\/lo+b=(n+b)/2+m)(l7:hi=m\/hi=(n+b)/2)
  {ks:aS}{x0:aq}(bc:x0.map (C.xv ⟨[(n:Int),m,b],[],[.mk (.slice H X w) M],[]⟩)=[.r (.mk (.slice H X w) M),.i lo,.i hi]):
  T.hw ⟨Q,g,o,e,.slice H X w,B⟩ (.loop 0 ks x0 (.aT (.cmp .lss (.v 3) (.v 4)) (Y6 g d) (Sm e g f l N o))) ⟨[(n:Int),m,b],[],[.mk (.slice H X w) M],[]⟩ []:=by
 have al:∀k,k<Y M->cY M k∈M:=λk G=>jI (getD_some G)
 have an:∀k,k<Y M->jH Q (cY M k):=λk G=>hT _ (al k G)
 have W:∀k,k<Y M->o.ok (cY M k)=true:=λk G=>ag _ (al k G)
 have y:=St (i:=n) (j:=b) aa;have b1:n<(n+b)/2/\(n+b)/2<b:=aa;generalize b2:(n+b)/2=V at*;have u:∀i j,n<=i->i<=j->j<m->o.lt (cY M j) (cY M i)=false:=λi j P F D=>by
  by_cases h:i=j;subst h;exact R.Vb _ (W i aa);exact LS (show m<=Y M from aa) sA P aa D
 have t:∀i j,m<=i->i<=j->j<b->o.lt (cY M j) (cY M i)=false:=λi j P F D=>by
  by_cases h:i=j;subst h;exact R.Vb _ (W i aa);exact LS hb sB P aa D
 refine zf (λxs=>∃(s r:Nat),xs=[.r (.mk (.slice H X w) M),.i s,.i r]/\lo<=s/\s<=r/\r<=hi/\(∀c,lo<=c->c<s->o.lt (cY M (V+m-1-c)) (cY M c)=E)/\∀c,r<=c->c<hi->o.lt (cY M (V+m-1-c)) (cY M c)=J) (λxs=>match xs with|[_,.i i,.i j]=>j.toNat-i.toNat|_=>0) ⟨lo,hi,bc,aa,l2,aa,aa,aa⟩ ?_;rintro _ ⟨s,r,rfl,b3,b4,bd,a0,a1⟩;by_cases bf:s<r;have A:=St (i:=s) (j:=r) aa;have bg:s<=(s+r)/2:=aa;have bk:(s+r)/2<r:=aa;generalize hq:(s+r)/2=q at A bg bk;have a3:=AX (a:=V) (b:=m) aa;have a4:=Y9 (a:=V+m) aa aa;have a9:=zg (a:=V+m-1) (b:=q) aa aa;unfold Y6;simp[bf,A,lenOf,y];rw[a3,a4,a9];refine⟨aa,aa, ?_⟩;refine Za ba rfl (cY M (V+m-1-q)) (cY M q) ?_ ?_ (an _ aa) (an q aa) (W _ aa) (W q aa) (λc hc=> ?_);simp[A,y];rw[a3,a4,a9];exact getD_some aa;simp[A];exact getD_some aa;simp[A];refine uA (λb5=> ?_) (λb6=> ?_);rw[ES aa];have af:o.lt (cY M (V+m-1-q)) (cY M q)=false:=by
  cases h:o.lt (cY M (V+m-1-q)) (cY M q);rfl;have:=hc.2 h;omega
 refine⟨⟨q+1,r,rfl,aa,aa,bd,λk P F=> ?_,a1⟩, ?_⟩;have O:=u k q aa aa aa;have L:=t (V+m-1-q) (V+m-1-k) aa aa aa;have t3:=R.nt _ _ _ (W _ aa) (W _ aa) (W q aa) L af;exact R.nt _ _ _ (W _ aa) (W q aa) (W k aa) t3 O;show(r:Int).toNat-((q+1:Nat):Int).toNat<r-s;omega;have af:o.lt (cY M (V+m-1-q)) (cY M q)=true:=hc.1 aa;refine⟨⟨s,q,rfl,aa,aa,aa,a0,λk P F=> ?_⟩, ?_⟩;cases h:o.lt (cY M (V+m-1-k)) (cY M k);have O:=u q k aa aa aa;have L:=t (V+m-1-k) (V+m-1-q) aa aa aa;have t3:=R.nt _ _ _ (W _ aa) (W _ aa) (W k aa) L h;have z:=R.nt _ _ _ (W _ aa) (W k aa) (W q aa) t3 O;rw[af] at z;cases z;rfl;show((q:Nat):Int).toNat-(s:Int).toNat<r-s;omega;have bl:s=r:=aa;subst bl;simp;refine aDU R (a:=n) (m:=m) (b:=b) (s:=s) (mid:=V) (e1:=V+m-s) ⟨rfl,rfl,rfl,rfl, ?_, ?_⟩ rfl rfl aa aa aa aa hb aa aa aa aa aa ag sA sB (λi j P F D h4=> ?_) (λi j P F D h4=> ?_) bb;simp[y];simp[y];rw[AX aa,zg aa aa];have br:lo<s:=by
  rcases l6 with h|h<;>omega
 have p:=a0 (s-1) aa aa;rw[show V+m-1-(s-1)=V+m-s from aa] at p;have O:=u i (s-1) aa aa aa;have L:=t (V+m-s) j aa aa aa;have t3:=R.nt _ _ _ (W j aa) (W _ aa) (W (s-1) aa) L p;exact R.nt _ _ _ (W j aa) (W (s-1) aa) (W i aa) t3 O;have br:s<hi:=by
  rcases l7 with h|h<;>omega
 have p:=a1 s aa aa;cases h:o.lt (cY M j) (cY M i);have O:=u s i aa aa aa;have L:=t j (V+m-1-s) aa aa aa;have t3:=R.nt _ _ _ (W _ aa) (W j aa) (W i aa) L h;have z:=R.nt _ _ _ (W _ aa) (W i aa) (W s aa) t3 O;rw[p] at z;cases z;exact h
def aDY{a m b:Int}:nE (X+4) z [a,m,b] M=if decide (0<=a)&&decide (a<m)&&decide (m<b)&&decide (b<=Y M)&&decide (b-a<((X+1:Nat):Int))&&M.all z.ok&&xY z.lt (bm M a.toNat m.toNat)&&xY z.lt (bm M m.toNat b.toNat) then U (M.take a.toNat++(bX z.lt (bm M a.toNat b.toNat)++M.drop b.toNat)) else none:=rfl
def at4(W:ER Q d)(V:lM o.lt (λx=>o.ok x=J)):Sk Q e g o (N+4) 3 (Y7 e g f l N o d):=by
 rintro p _ z aA ns y w ⟨v,n,u,rfl,R,P⟩ O t B s;obtain⟨a,m,b,rfl⟩:=CR t;obtain⟨_,X⟩:=BC B;clear B;rw[aDY] at X;split at X;rename_i A;simp only[aw,cm,fO,anK] at A;obtain⟨⟨⟨⟨⟨⟨⟨r,af⟩,ag⟩,al⟩,an⟩,M⟩,L⟩,H⟩:=A;obtain⟨a,rfl⟩:=AY r;obtain⟨m,rfl⟩:=AY (a:=m) aa;obtain⟨b,rfl⟩:=AY (a:=b) aa;simp only[cU,v7] at X L H;have G:b<=Y z:=aa;refine ze ⟨Q,g,o,e,.slice v n u,aA⟩ (y▸w) s _ _ _ ?_;unfold Y7;have D:=St (i:=a) (j:=b) aa;obtain⟨F,q⟩:∃F,F=(a+b)/2:=⟨_,rfl⟩;rw[<-q] at D;simp[zg (a:=m) (b:=a) aa aa,zg (a:=b) (b:=m) aa aa,D];refine uA (λk=> ?_) (λk=>uA (λh=> ?_) (λh=>uA (λc=> ?_) (λc=> ?_)));exact aDW W V R P O M aa aa G H X.symm;exact aDX W V R P O M aa aa G L X.symm;refine at3 W V R P O M (lo:=F+m-b) (hi:=F) aa aa G aa aa L H X.symm aa aa aa aa aa aa aa ?_;simp[D];rw[AX aa,zg aa aa];refine at3 W V R P O M (lo:=a) (hi:=m) aa aa G aa aa L H X.symm aa aa aa aa aa aa aa ?_;simp;cases X
end
end
section
attribute[local simp] K.ab BE.ab RE.rv RE.ab fy ai.rv ai.ext ai.add C.xv xA JV JW JX CP CQ LE.ac oD kO
attribute[local congr] JU
section
variable{lt:aC->aC->Bool}
inductive ll(lt:List RV->List RV->Bool)(s:Nat):List (List RV)->List (List RV)->Prop
 |nil:ll lt s [] []
 |last (X:List (List RV)):1<=Y X->Y X<=s->ll lt s X (bX lt X)
 |cons (X R R':List (List RV)):Y X=s->ll lt s R R'->ll lt s (X++R) (bX lt X++R')
inductive xB(lt:List RV->List RV->Bool)(s:Nat):List (List RV)->List (List RV)->Prop
 |nil:xB lt s [] []
 |snoc (A A' X:List (List RV)):Y X=s->xB lt s A A'->xB lt s (A++X) (A'++bX lt X)
def xB.kJ(h:xB lt X M B):∀{R V:au},ll lt X R V->ll lt X (M++R) (B++V):=by
 induction h with
 |nil=>intro R V Q;exact Q
 |snoc M B W P _ O=>
  intro R V Q;have:=O (.cons W R V P Q);simpa using this
def xB.len(h:xB lt X M B):Y B=Y M:=by
 induction h with
 |nil=>rfl
 |snoc M B W R _ V=>simp[V,mQ]
def ll.len(h:ll lt X M B):Y B=Y M:=by
 induction h with
 |nil=>rfl
 |last W _ _=>simp[mQ]
 |cons W R Q P _ V=>simp[V,mQ]
def xB.mem(h:xB lt X M B):∀x∈B,x∈M:=by
 induction h with
 |nil=>simp
 |snoc M B W V _ R=>
  intro x V;rcases eV.1 V with h|h;simp[R x h];simp[Is h]
def ll.mem(h:ll lt X M B):∀x∈B,x∈M:=by
 induction h with
 |nil=>simp
 |last W _ _=>intro x V;exact Is V
 |cons W R P V _ Q=>
  intro x V;rcases eV.1 V with h|h;simp[Is h];simp[Q x h]
def ll.two(F:1<=X)(h:ll lt X M B)(O:2*X<=Y M):∃W V Q P,M=W++(V++Q)/\B=bX lt W++(bX lt V++P)/\Y W=X/\Y V=X/\ll lt X Q P:=by
 cases h with
 |nil=>simp at O;omega
 |last _ L H=>omega
 |cons W M B N h=>
  simp only[gc] at O;cases h with
  |nil=>simp at O;omega
  |last _ L H=>exact⟨W,M,[],[],av,av,N,aa,.nil⟩
  |cons V Q P G h=>exact⟨W,V,Q,P,rfl,rfl,N,G,h⟩
def ll.one(h:ll lt X M B)(P:X<Y M)(O:Y M<2*X):∃W V,M=W++V/\B=bX lt W++bX lt V/\Y W=X:=by
 cases h with
 |nil=>simp at P
 |last _ P O=>omega
 |cons W M B N h=>
  simp only[gc] at P O;cases h with
  |nil=>simp at P;omega
  |last _ P O=>exact⟨W,M,rfl,rfl,N⟩
  |cons V Q L H h=>simp only[gc] at O;omega
def ll.short(h:ll lt X M B)(P:Y M<=X):B=bX lt M:=by
 cases h with
 |nil=>rfl
 |last _ N L=>rfl
 |cons W M B H h=>
  simp only[gc] at P;have V:M=[]:=tw aa;have Q:=h.len;rw[V] at Q;have O:B=[]:=tw (by simpa using Q);rw[V,O];simp
def ll.ain(W:Y M<=X):ll lt X M (bX lt M):=by
 cases M with
 |nil=>exact .nil
 |cons x r=>exact .last _ av W
end
def at5{o:bp}{P X Q:au}{a b:Int}(W:a=Y P)(V:b=Y P+Y X)(R:(P++(X++Q)).length<=1099511627776)(O:∀z∈P++(X++Q),o.ok z=J):
  pL 2 o [a,b] (P++(X++Q))=U (P++(bX o.lt X++Q)):=by
 subst W;subst V;unfold pL;rw[aJ R];simp only[nE];have N:((Y P:Int)).toNat=Y P:=rfl;have M:((Y P:Int)+Y X).toNat=Y P+Y X:=aa;rw[N,M];have L:(P++(X++Q)).take (Y P)=P:=av;have H:bm (P++(X++Q)) (Y P) (Y P+Y X)=X:=Sq P X _;have G:(P++(X++Q)).drop (Y P+Y X)=Q:=by
  have:P++(X++Q)=(P++X)++Q:=av;rw[this,Zu av]
 rw[L,H,G,aJ];simp only[aw,cm,fO,gc];exact⟨⟨⟨aa,aa⟩,aa⟩,O⟩
section
variable{c:ma}{e g j f:Nat}{o:bp}
def at6(d:lM o.lt (λx=>o.ok x=J)):Y2 c e g o (λns H=>if ns=[]/\H.length<X then iZ o J H else Z) 0 (Y8 e g j f X o):=by
 rintro p _ H aA ns hP b0 ⟨D,n,B,rfl,bl,hn⟩ hT hN y b1;simp only at y;split at y;rename_i G;obtain⟨rfl,cc⟩:=G;have cf:=aaW y;have b2:(∀x∈H,o.ok x=J)/\aA=bX o.lt H:=by
  cases o with
  |dw k o zs=>simp[iZ] at y
  |_=>
   simp only[iZ] at y;split at y;rename_i hq;simp only[aw,fO] at hq;exact⟨hq.2.1,(mH y).symm⟩;cases y
 obtain⟨a3,b3⟩:=b2;clear y;refine ze ⟨c,g,o,e,.slice D n B,aA⟩ (hP▸b0) b1 _ _ _ ?_;unfold Y8;refine zf (λM=>∃(A O R:au),M=[.r (.mk (.slice D n B) (O++R)),.i ((A.length+20:Nat):Int),.i A.length]/\H=A++R/\xB o.lt 20 A O) (λM=>match M with|[_,_,.i a]=>n-a.toNat|_=>0) ⟨[],[],H,av,rfl,.nil⟩ ?_;rintro _ ⟨A,O,R,rfl,F,v⟩;have b4:=v.len;have a4:A.length+R.length=n:=by rw[<-bl,F];simp
 have ag:∀z∈O++R,o.ok z=true:=λz L=>a3 z (by
  rw[F];rcases eV.1 L with h|h;simp[v.mem z h];simp[h])
 by_cases b5:A.length+20<=n;obtain⟨W,R2,rfl,l⟩:∃W R2,R=W++R2/\W.length=20:=⟨R.take 20,R.drop 20,(J0 _ _).symm,dh⟩;have af:=at5 (o:=o) (P:=O) (X:=W) (Q:=R2) (a:=A.length) (b:=((A.length+20:Nat):Int)) aa aa (by simp at a4⊢;omega) ag;have G:((A.length+20:Nat):Int)<=n:=aa;have a9:=AX (a:=A.length+20) (b:=20) aa;have al:JT (U ⟨0,λM=>∃(A O R:au),M=[.r (.mk (.slice D n B) (O++R)),.i ((A.length+20:Nat):Int),.i A.length]/\H=A++R/\xB o.lt 20 A O,λM=>match M with|[_,_,.i a]=>n-a.toNat|_=>0,n-A.length⟩) [.r (.mk (.slice D n B) (O++(bX o.lt W++R2))),.i (aF .add I ((A.length+20:Nat):Int) 20),.i ((A.length+20:Nat):Int)]:=by
  refine⟨⟨A++W,O++bX o.lt W,R2, ?_,by rw[F];simp,.snoc A O W l v⟩, ?_⟩;rw[show((20:Int))=((20:Nat):Int) from rfl,a9];simp[l];show n-((A.length+20:Nat):Int).toNat<n-A.length;omega
 generalize L:((A.length+20:Nat):Int)=z at af G al⊢;simp[lenOf,G];exact⟨_,af,al⟩;have G:¬((A.length+20:Nat):Int)<=n:=aa;have af:=at5 (o:=o) (P:=O) (X:=R) (Q:=[]) (a:=A.length) (b:=n) aa aa dh (by simpa using ag);simp only[J3] at af;generalize L:((A.length+20:Nat):Int)=z at G⊢;have hB:ll o.lt 20 H (O++bX o.lt R):=by rw[F];exact v.kJ (.ain aa)
 simp[lenOf,G];refine⟨_,af, ?_⟩;clear af;generalize ch:O++bX o.lt R=b6 at hB⊢;have cl:∀{u:au}{s:Nat},ll o.lt s H u->∀z∈u,o.ok z=true:=λh z L=>a3 z (h.mem z L)
 refine zf (λM=>∃(s:Nat)(u:au),M=[.r (.mk (.slice D n B) u),.i s]/\20<=s/\s<=2*1099511627776/\ll o.lt s H u) (λM=>match M with|[_,.i s]=>4398046511104-s.toNat|_=>0) ⟨20,b6,rfl,aa,aa,hB⟩ ?_;rintro _ ⟨s,u,rfl,cn,co,br⟩;by_cases bs:s<n;have bc:aF .mul I 2 (s:Int)=((2*s:Nat):Int):=by simp only[aF];rw[Sn aa aa];omega
 have bd:aF .mul I (s:Int) 2=((2*s:Nat):Int):=by simp only[aF];rw[Sn aa aa];omega
 have bf:∀ba,ll o.lt (2*s) H ba->JT (U ⟨1,λM=>∃(s:Nat)(u:au),M=[.r (.mk (.slice D n B) u),.i s]/\20<=s/\s<=2*1099511627776/\ll o.lt s H u,λM=>match M with|[_,.i s]=>4398046511104-s.toNat|_=>0,4398046511104-s⟩) [.r (.mk (.slice D n B) ba),.i ((2*s:Nat):Int)]:=λba h'=>⟨⟨2*s,ba,rfl,aa,aa,h'⟩,show 4398046511104-((2*s:Nat):Int).toNat<4398046511104-s from aa⟩
 generalize bt:((2*s:Nat):Int)=w at bc bd bf;simp[bs,lenOf];refine zf (λM=>∃(A O R t:au),M=[.r (.mk (.slice D n B) (O++t)),.i ((A.length+2*s:Nat):Int),.i A.length]/\H=A++R/\xB o.lt (2*s) A O/\ll o.lt s R t) (λM=>match M with|[_,_,.i a]=>n-a.toNat|_=>0) ⟨[],[],H,u,by simp[bc,<-bt],rfl,.nil,br⟩ ?_;rintro _ ⟨A,O,R,t,rfl,F,v,hR⟩;have b4:=v.len;have bx:=hR.len;have a4:A.length+R.length=n:=by rw[<-bl,F];simp
 have ag:∀z∈O++t,o.ok z=true:=λz L=>a3 z (by
  rw[F];rcases eV.1 L with h|h;simp[v.mem z h];simp[hR.mem z h])
 have bb:∀z∈R,o.ok z=true:=λz L=>a3 z (by rw[F];simp[L])
 have has:=AX (a:=A.length) (b:=s) aa;by_cases b5:A.length+2*s<=n;obtain⟨W,V,Q,Q',rfl,rfl,l,hy,hq⟩:=hR.two aa aa;have b7:(bX o.lt W).length=s:=by rw[mQ,l]
 have b8:(bX o.lt V).length=s:=by rw[mQ,hy]
 have an:∀z∈W,o.ok z=true:=λz L=>bb z (by simp[L])
 have a0:∀z∈V,o.ok z=true:=λz L=>bb z (by simp[L])
 have q:=Zb (o:=o) (N:=X) (P:=O) (X:=bX o.lt W) (Y:=bX o.lt V) (Q:=Q') (a:=A.length) (m:=((A.length+s:Nat):Int)) (b:=((A.length+2*s:Nat):Int)) aa aa aa aa aa aa (by simp only[gc] at bx a4⊢;omega) ag (DR d an) (DR d a0);rw[anG d an a0] at q;have G:((A.length+2*s:Nat):Int)<=n:=aa;have a9:=AX (a:=A.length+2*s) (b:=2*s) aa;rw[bt] at a9;have al:JT (U ⟨2,λM=>∃(A O R t:au),M=[.r (.mk (.slice D n B) (O++t)),.i ((A.length+2*s:Nat):Int),.i A.length]/\H=A++R/\xB o.lt (2*s) A O/\ll o.lt s R t,λM=>match M with|[_,_,.i a]=>n-a.toNat|_=>0,n-A.length⟩) [.r (.mk (.slice D n B) (O++(bX o.lt (W++V)++Q'))),.i (aF .add I ((A.length+2*s:Nat):Int) w),.i ((A.length+2*s:Nat):Int)]:=by
  refine⟨⟨A++(W++V),O++bX o.lt (W++V),Q,Q', ?_,by rw[F];simp,.snoc A O (W++V) dh v,hq⟩, ?_⟩;rw[a9];simp[l,hy];omega;show n-((A.length+2*s:Nat):Int).toNat<n-A.length;omega
 generalize L:((A.length+2*s:Nat):Int)=z at q G al⊢;simp[lenOf,G,bc,has];exact⟨_,by simpa using q,al⟩;have G:¬((A.length+2*s:Nat):Int)<=n:=aa;generalize L:((A.length+2*s:Nat):Int)=z at G⊢;by_cases cp:A.length+s<n;obtain⟨W,V,rfl,rfl,l⟩:=hR.one aa aa;simp only[gc] at a4 bx;have b7:(bX o.lt W).length=s:=by rw[mQ,l]
 have b8:(bX o.lt V).length=V.length:=mQ;have an:∀z∈W,o.ok z=true:=λz L=>bb z (by simp[L])
 have a0:∀z∈V,o.ok z=true:=λz L=>bb z (by simp[L])
 have q:=Zb (o:=o) (N:=X) (P:=O) (X:=bX o.lt W) (Y:=bX o.lt V) (Q:=[]) (a:=A.length) (m:=((A.length+s:Nat):Int)) (b:=n) aa aa aa aa aa aa (by simp only[gc,E0];omega) (by simpa using ag) (DR d an) (DR d a0);rw[anG d an a0] at q;simp only[J3] at q;have a1:((A.length+s:Nat):Int)<n:=aa;have bg:ll o.lt (2*s) H (O++bX o.lt (W++V)):=by rw[F];exact v.kJ (.ain dh)
 generalize ca:((A.length+s:Nat):Int)=z3 at has q a1;simp[lenOf,G,has,a1,bd];exact⟨_,q,bf _ bg⟩;have a1:¬((A.length+s:Nat):Int)<n:=aa;have bk:=hR.short aa;have bg:ll o.lt (2*s) H (O++t):=by rw[F,bk];exact v.kJ (.ain aa)
 generalize ca:((A.length+s:Nat):Int)=z3 at has a1;simp[lenOf,G,has,a1,bd];exact bf _ bg;have bk:=br.short aa;simp[bs,lenOf];exact⟨3,rfl,by rw[bk,b3];rfl⟩;cases y
end
end
