/- Part 6 of the proof. -/
import Derived.Test.YtieaiocljdpebaaGreatDoorQ3
import Derived.Test.YtieaiocljdpebaaGreatDoorProg
import Derived.ChangeKeysEq
import Derived.Laws.StructEq
import Derived.KernelRfl
import Derived.LoopTactic
import Derived.Lib.Hide
import Derived.Outline
import Derived.OwnWalk
import Derived.RegionTactic
import Derived.BigQuiet
import Derived.Deep.QuietTactic
import Derived.WalkSpells
import Derived.WalkLawsBesides
import Derived.WalkSmall
import Derived.Deep.RegionWith
set_option linter.all false
set_option maxRecDepth 100000
set_option maxHeartbeats 100000000
open Bool renaming and_eq_true->aA,not_eq_true'->iK,or_eq_true->jy,false_eq_true->jR,and_assoc->axg,true->J,false->E
open Nat renaming le_refl->cg,le_trans->qL,add_zero->zU,zero_le->FJ,min_eq_left->OF,lt_of_lt_of_le->aa0,min_eq_right->aa6,sub_self->abd,add_sub_cancel_left->ajH,mul_one->axs
open List renaming getElem?_eq_some_iff->cj,getElem?_eq_getElem->cL,cons_append->da,nil_append->di,getD_eq_getElem?_getD->dL,mem_cons->dS,getElem?_map->dX,getElem?_append_left->dZ,replicate->eH,map_cons->eW,mem_append->fh,all_eq_true->f9,length_append->gU,mem_map->iL,getElem?_append_right->jd,pairwise_cons->jS,mem_of_getElem?->ki,ext_getElem?->kK,getElem?_take->nA,pairwise_append->nW,length_eq_one_iff->pj,getElem_mem->pl,map_map->pn,length_cons->qI,length_map->qJ,eq_nil_of_length_eq_zero->uc,getElem?_of_mem->ue,getElem?_drop->vw,length_eq_zero_iff->wS,getElem?_set->wU,range'->yt,nodup_append->zS,map->BK,getElem?_eq_none_iff->Dr,getElem?_cons_zero->Ds,mem_of_mem_drop->Dt,map_nil->Dv,mem_or_eq_of_mem_set->Fv,mem_of_mem_take->Fz,length_take->FD,length_drop->FE,foldl_cons->FF,drop_eq_getElem_cons->HZ,getD_cons_zero->H4,take_of_length_le->KM,take_append_drop->KN,append_assoc->KO,append_nil->KQ,pairwise_iff_getElem->Oz,getElem?_modify->OC,getD_cons_succ->OD,drop_drop->OH,all_map->OL,length_nil->Ua,set_append_right->aaX,range_eq_range'->aaY,range'_succ->aa4,drop_left'->aa8,take_append_of_le_length->awV,take_add_one->axa,pairwise_singleton->aKs,set_cons_zero->aKK,length->Y
open Go.Result renaming andThen_ok->dq
open Go.Sem renaming run_bind->dt,run_pure->fF
open Option renaming isSome_iff_exists->lB,map_eq_some_iff->TX,some->U,none->Z
open Go.Op renaming equalIn->Dw,equal->FL,eqFields->axr
open Go.World renaming cell?->oC,setCell->abb,size_alloc->ajR
open Array renaming ext'->oD,getElem?_modify->TY,getElem?_eq_none->aKu
open List.Pairwise renaming nil->yq
open Int renaming toNat_natCast->zR,mul_le_mul_of_nonneg_right->ajF,mul_lt_mul_of_pos_right->aKk,fdiv_eq_ediv_of_nonneg->aKm
open List.cons renaming injEq->zT
open List.Perm renaming refl->axk,swap->aKS
open Go.IntKind renaming i64->I
namespace Go.Proofs.YtieaiocljdpebaaGreatDoor.Y
open Go.RowKit
noncomputable section
variable{M:TypeId}{X z n:Nat}{v:Bool}{w:bw}{A:FuncId}{u:Func}{t:Code}{y:List (Nat×Nat×fU)}{k:T}{H:World}
def wI:Option TypeDesc->Bool
 |U (.struct _)|U (.array _ _)=>J
 |_=>E
def yi(P:Program)(t:TypeId)(X:gE):Value:=if wI (P.underlying t) then .agg X.toArray else X.getD 0 undef
def S9(P:Program)(jw:TypeId->fp->Bool):Nat->List Field->fp->Bool
 |_,[],ak=>ak.isEmpty
 |X,f::W,ak=>f.name != "_"&&f.offset==X&&(P.info? f.type).isSome&&decide (P.cellsOf f.type<=Y ak)&&jw f.type (ak.take (P.cellsOf f.type))&&S9 P jw (X+P.cellsOf f.type) W (ak.drop (P.cellsOf f.type))
def Ta(jw:fp->Bool)(c:Nat):Nat->fp->Bool
 |0,ak=>ak.isEmpty
 |n+1,ak=>decide (c<=Y ak)&&jw (ak.take c)&&Ta jw c n (ak.drop c)
def wJ(P:Program):Nat->TypeId->fp->Bool
 |0,_,_=>E
 |d+1,t,ak=>match P.underlying t with
  |U .bool=>(match ak with
   |[.bool]=>J
   |_=>E)
  |U (.int k)=>(match ak with
   |[.int X]=>decide (k=X)
   |_=>E)
  |U .string=>(match ak with
   |[.aS _ .str]=>J
   |_=>E)
  |U (.struct W)=> !P.stoodInHeld t&&S9 P (wJ P d) 0 W.toList ak
  |U (.array n e)=>(P.info? e).isSome&&Ta (wJ P d e) (P.cellsOf e) n ak
  |_=>E
def yj:∀{X:fp}{W:gE},lF X W->Y W=Y X
 |[],[],_=>rfl
 |[],_::_,h=>h.elim
 |_::_,[],h=>h.elim
 |_::_,_::_,h=>by simp[yj h.2]
def ah6:∀{X:fp}{W:gE}(n:Nat),lF X W->lF (X.take n) (W.take n)/\lF (X.drop n) (W.drop n)
 |[],[],n,_=>by simp[lF]
 |[],_::_,n,h=>h.elim
 |_::_,[],n,h=>h.elim
 |_::_,_::_,0,h=>⟨trivial,h⟩
 |_::_,_::_,n+1,h=>by
  obtain⟨a,b⟩:=ah6 n h.2;exact⟨⟨h.1,a⟩,b⟩
def atV:∀{X W:gE}{r:Bool}(n:Nat),kB X W=U r->∃a b,kB (X.take n) (W.take n)=U a/\kB (X.drop n) (W.drop n)=U b/\r=(a&&b)
 |[],[],r,n,h=>by simp[kB] at h;subst h;exact⟨J,J,by simp[kB],by simp[kB],rfl⟩
 |[],_::_,r,n,h=>by simp[kB] at h
 |_::_,[],r,n,h=>by simp[kB] at h
 |x::X,y::W,r,0,h=>⟨J,r,rfl,h,aw⟩
 |x::X,y::W,r,n+1,h=>by
  simp only[kB] at h;split at h;rename_i a b V R;cases h;obtain⟨c,d,Q,O,rfl⟩:=atV n R;exact⟨a&&c,d,by simp[kB,V,Q],by simpa using O,by simp[axg]⟩;cases h
section
variable{P:Program}
def atW(w:World){i:TypeInfo}(N:P.info? M=U i){W:gE}(h:wI (P.underlying M)=J\/X<Y W/\P.cellsOf M=1)(L:(P.underlying M).isSome=J):(part M W.toArray X).run P w=.ok (yi P M ((W.drop X).take (P.cellsOf M))) w:=by
 obtain⟨d,R⟩:=lB.1 L;unfold yi;by_cases V:wI (P.underlying M)=J;rw[aL V];have:(W.toArray.extract X (X+P.cellsOf M))=((W.drop X).take (P.cellsOf M)).toArray:=by
  apply oD;simp[List.extract]
 rw[R] at V;unfold wI at V;split at V;rename_i Q;cases Q;simp[part,isAgg,run_underlying R,run_sizeOf w N];rename_i Q;cases Q;simp[part,isAgg,run_underlying R,run_sizeOf w N];cases V;rw[aP V];obtain⟨O,H⟩:=h.resolve_left V;have F:W.toArray[X]?=U W[X]:=by simp[O]
 have G:((W.drop X).take (P.cellsOf M)).getD 0 undef=W[X]:=by rw[H];simp[dL,O]
 rw[G];rw[R] at V;cases d<;>first|(exact aG rfl V)|simp[part,isAgg,run_underlying R,O]
def aCT{ak:fp}(h:wJ P X M ak=J):(P.underlying M).isSome=J/\(wI (P.underlying M)=J\/Y ak=1):=by
 cases X with
 |zero=>simp[wJ] at h
 |succ X=>
  simp only[wJ] at h;split at h;rename_i W;rw[W];split at h;exact⟨rfl,.inr rfl⟩;cases h;rename_i W;rw[W];split at h;exact⟨rfl,.inr rfl⟩;cases h;rename_i W;rw[W];split at h;exact⟨rfl,.inr rfl⟩;cases h;rename_i W;rw[W];exact⟨rfl,.inl rfl⟩;rename_i W;rw[W];exact⟨rfl,.inl rfl⟩;cases h
def ZZ(P:Program)(V m:Nat):Prop:=∀(t:TypeId)(ak:fp)(X W:gE)(r:Bool)(w:World),wJ P m t ak=J->lF ak X->lF ak W->kB X W=U r->(Dw V t (yi P t X) (yi P t W)).run P w=.ok r w
def atX(y:ZZ P X z)(w:World){ak:fp}{W V:gE}(O:(P.info? M).isSome=J)(j:P.cellsOf M<=Y ak)(H:wJ P z M (ak.take (P.cellsOf M))=J)
  (G:lF ak (W.drop n))(F:lF ak (V.drop n))(x:kB (W.drop n) (V.drop n)=U v):
  ∃a b q N,(part M W.toArray n).run P w=.ok a w/\(part M V.toArray n).run P w=.ok b w/\(Dw X M a b).run P w=.ok q w/\kB (W.drop (n+P.cellsOf M)) (V.drop (n+P.cellsOf M))=U N/\v=(q&&N)/\
   lF (ak.drop (P.cellsOf M)) (W.drop (n+P.cellsOf M))/\lF (ak.drop (P.cellsOf M)) (V.drop (n+P.cellsOf M)):=by
 obtain⟨i,O⟩:=lB.1 O;obtain⟨D,Q⟩:=aCT H;obtain⟨u,a2⟩:=ah6 (P.cellsOf M) G;obtain⟨t,B⟩:=ah6 (P.cellsOf M) F;obtain⟨q,N,s,L,p⟩:=atV (P.cellsOf M) x;have o:=yj G;have l:=yj F;have A:∀R:gE,(R.drop n).length=Y ak->wI (P.underlying M)=J\/n<Y R/\P.cellsOf M=1:=by
  intro R k;rcases Q with Q|Q;exact .inl Q;right;simp only[FD,FE] at Q k;omega
 rw[OH] at a2 B L;exact⟨_,_,q,N,atW w O (A W o) D,atW w O (A V l) D,y M _ _ _ q w H u t s,by rw[<-OH] at L⊢;simpa using L,p,a2,B⟩
def atY{L m:Nat}(H:ZZ P L m)(X W:gE):∀(O:List Field)(V:Nat)(ak:fp)(r:Bool)(w:World),S9 P (wJ P m) V O ak=J->lF ak (X.drop V)->lF ak (W.drop V)->kB (X.drop V) (W.drop V)=U r->
  (axr L X.toArray W.toArray O).run P w=.ok r w
 |[],V,ak,r,w,R,N,M,Q=>by
  simp only[S9,List.isEmpty_iff] at R;subst R;have:=yj N;have:=yj M;rw[wS.1 ‹(X.drop V).length=_›,wS.1 ‹(W.drop V).length=_›] at Q;simp[kB] at Q;subst Q;simp[axr]
 |f::O,V,ak,r,w,R,N,M,Q=>by
  simp only[S9,aA,bne_iff_ne,du,cz] at R;obtain⟨⟨⟨⟨⟨G,F⟩,D⟩,B⟩,A⟩,z⟩:=R;obtain⟨a,b,q,y,x,v,u,t,rfl,s,p⟩:=atX H w D B A N M Q;have o:=atY H X W O _ _ y w z s p t;simp only[axr,G,ne_eq,not_false_eq_true,cN,dt,F,x,v,u,dq];cases q;simp;simpa using o
def atZ{N m:Nat}(M:ZZ P N m){e:TypeId}(L:(P.info? e).isSome=J)(X W:gE):∀(n j:Nat)(ak:fp)(r:Bool)(w:World),Ta (wJ P m e) (P.cellsOf e) n ak=J->lF ak (X.drop (j*P.cellsOf e))->lF ak (W.drop (j*P.cellsOf e))->kB (X.drop (j*P.cellsOf e)) (W.drop (j*P.cellsOf e))=U r->
  (Op.eqItems N e (P.cellsOf e) X.toArray W.toArray (yt j n)).run P w=.ok r w
 |0,j,ak,r,w,V,Q,O,R=>by
  simp only[Ta,List.isEmpty_iff] at V;subst V;have:=yj Q;have:=yj O;rw[wS.1 ‹(X.drop _).length=_›,wS.1 ‹(W.drop _).length=_›] at R;simp[kB] at R;subst R;simp[Op.eqItems]
 |n+1,j,ak,r,w,V,Q,O,R=>by
  simp only[Ta,aA,cz] at V;obtain⟨⟨D,B⟩,A⟩:=V;obtain⟨a,b,q,z,y,x,v,H,rfl,G,F⟩:=atX M w L D B Q O R;have u:j*P.cellsOf e+P.cellsOf e=(j+1)*P.cellsOf e:=by rw[Nat.succ_mul]
  rw[u] at H G F;have t:=atZ M L X W n (j+1) _ z w A G F H;rw[aa4];simp only[Op.eqItems,dt,y,x,v,dq];cases q;simp;simpa using t
def ah7(d:Nat):∀m,ZZ P (d+m) m
 |0=>λt ak H G r w h=>by simp[wJ] at h
 |m+1=>by
  intro t ak H G r w X V R Q;have F:=ah7 d m;simp only[wJ] at X;split at X;rename_i W;split at X;obtain⟨x,rfl⟩:=pj.1 (yj V);obtain⟨y,rfl⟩:=pj.1 (yj R);have N:=V.1;have M:=R.1;cases x<;>simp only[DT] at N;cases y<;>simp only[DT] at M;simp[kB,DS] at Q;subst Q;simp[yi,W,wI,Dw,run_underlying W];cases X;rename_i k W;split at X;obtain⟨x,rfl⟩:=pj.1 (yj V);obtain⟨y,rfl⟩:=pj.1 (yj R);have N:=V.1;have M:=R.1;cases x<;>simp only[DT] at N;cases y<;>simp only[DT] at M;subst N M;simp[kB,DS] at Q;subst Q;simp[yi,W,wI,Dw,run_underlying W];cases X;rename_i W;split at X;obtain⟨x,rfl⟩:=pj.1 (yj V);obtain⟨y,rfl⟩:=pj.1 (yj R);have N:=V.1;have M:=R.1;cases x<;>simp only[DT] at N;cases y<;>simp only[DT] at M;simp[kB,DS] at Q;subst Q;simp[yi,W,wI,Dw,run_underlying W,beq_toListBytes];cases X;rename_i D W;simp only[aA,iK] at X;have B:P.fieldsOf t=D:=by simp[Program.fieldsOf,W]
  have L:∀O:gE,yi P t O=.agg O.toArray:=λO=>by simp[yi,W,wI]
  rw[L,L,show d+(m+1)=(d+m)+1 from rfl,run_equalIn_struct w (d+m) t _ _ (by rw[B];exact W) X.1,B];exact atY F H G D.toList 0 ak r w X.2 V R Q;rename_i n e W;simp only[aA] at X;obtain⟨i,A⟩:=lB.1 X.1;have L:∀O:gE,yi P t O=.agg O.toArray:=λO=>by simp[yi,W,wI]
  rw[L,L,show d+(m+1)=(d+m)+1 from rfl,run_equalIn_array w (d+m) _ _ W A,aaY];exact atZ F X.1 H G n 0 ak r w X.2 (by simpa using V) (by simpa using R) (by simpa using Q);cases X
def ah8(P:Program)(t:TypeId)(X:TI):Bool:=wI (P.underlying t)&&wJ P 20 t X.ak&& !P.eqGuardType P.depth t
def aCU{V:TI}(h:ah8 P M V=J):∀(X W:gE)(r:Bool)(x y:Operand)(w:World),lF V.ak X->lF V.ak W->kB X W=U r->
  (do eqGuard .eql M x y (.agg X.toArray) (.agg W.toArray);binOp .eql M (.agg X.toArray) (.agg W.toArray)).run P w=.ok (.bool r) w/\
  (do eqGuard .neq M x y (.agg X.toArray) (.agg W.toArray);binOp .neq M (.agg X.toArray) (.agg W.toArray)).run P w=.ok (.bool !r) w:=by
 intro X W r x y w Q O N;simp only[ah8,aA,iK] at h;have:=ah7 (P:=P) 9980 20 M V.ak X W r w h.1.2 Q O N;simp only[yi,h.1.1,cN] at this;have R:(FL M (.agg X.toArray) (.agg W.toArray)).run P w=.ok r w:=this;constructor;rw[dt];simp[eqGuard,h.2,binOp,R];rw[dt];simp[eqGuard,h.2,binOp,R]

def aCV{ag:Bool}(W:Y w=X)(V:ag=E->X=1):yL (iw ag w)=w:=by
 cases ag with
 |false=>
  have:=V rfl;subst this;obtain⟨x,rfl⟩:=pj.1 W;rfl
 |true=>simp[iw,yL,Function.comp_def,bp]
def aCW(Q:P.underlying M=U (.int I)):vL P M 1 false:=by
 refine⟨λ_=>rfl,λl X W N L=>⟨λb=>MapKept.run_checkKey Q (by trivial) b 9999,MapKept.run_findKey Q ?_⟩⟩;obtain⟨x,rfl⟩:=pj.1 N;have:∀(X:List MapEntry)(i:Nat),(∀e∈X,∃V:bw,Y V=1/\e.key=iw E V)->Instr.findNow (.int I) (iw E [x]) X i=U (oK [x] X i):=by
  intro X;induction X with
  |nil=>intro i _;rfl
  |cons e X H=>
   intro i O;obtain⟨V,G,F⟩:=O e aw;obtain⟨y,rfl⟩:=pj.1 G;simp only[Instr.findNow,F,oK];simp only[iw,jR,gD,List.headD_cons,Instr.sameNow,cN,yL,zT,and_true];by_cases R:x=y;subst R;simp;have:¬y=x:=λe=>R e.symm
   simp only[this,gD,show(x==y)=E by simpa using R];exact H (i+1) (λe D=>O e (by simp[D]))
 exact this X 0 L
def aCX(d:TypeDesc)(X:mG)(v:Value):Instr.sameNow d (.agg X) v=none:=by
 cases d<;>rfl
def at0:∀(l X:bw),Y l=Y X->kB (l.map (Value.int I)) (X.map (Value.int I))=U (l==X)
 |[],[],_=>rfl
 |[],_::_,h=>by simp at h
 |_::_,[],h=>by simp at h
 |x::W,y::V,h=>by
  have R:=at0 W V (by simpa using h);simp only[eW,kB,DS,R];rfl
def ah9:∀(l:bw),lF (eH (Y l) (.int I)) (l.map (Value.int I))
 |[]=>trivial
 |x::X=>⟨rfl,ah9 X⟩
def at1(X:P.underlying M=U (.int I)){l:bw}{off:Nat}(V:off<Y l)(W:World):∃a,(part M (l.map (Value.int I)).toArray off).run P W=.ok (.int I a) W:=by
 refine⟨l[off],run_part_plain W (by simp[Program.plainKey,X]) ?_⟩;simp[V]
def aCY{e:TypeId}{i:TypeInfo}(O:P.underlying M=U (.array X e))(R:P.underlying e=U (.int I))(N:P.info? e=U i)(L:P.cellsOf e=1)(H:Y w=X)(b:Bool)(m:Nat)(W:World):(Instr.checkKey b (m+2) M (iw J w)).run P W=.ok () W:=by
 rw[show m+2=(m+1)+1 from rfl,Instr.checkKey];simp only[dt,fu.iS O,dq,iw,cN];simp only[Std.Legacy.Range.forIn_eq_forIn_range',Std.Legacy.Range.size,Nat.sub_zero,Nat.add_one_sub_one,Nat.div_one];have V:∀j∈yt 0 X,j<X:=λj G=>by simpa[List.mem_range'] using G
 generalize yt 0 X=Q at V;induction Q with
 |nil=>simp
 |cons j Q F=>
  obtain⟨a,D⟩:=at1 R (l:=w) (off:=j*P.cellsOf e) (by rw[L,H,axs];exact V j aw) W;have B:=MapKept.run_checkKey (w:=W) (k:=.int I a) R (by trivial) b m;simp only[List.forIn_cons,dt,run_sizeOf W N,dq,D,B,fF];exact F (λy A=>V y (by simp[A]))
def aCZ{V:Array Field}(O:P.underlying M=U (.struct V))(R:∀f∈V.toList,f.name≠ "_"/\P.underlying f.type=U (.int I)/\f.offset<X)(N:Y w=X)(b:Bool)(m:Nat)(W:World):(Instr.checkKey b (m+2) M (iw J w)).run P W=.ok () W:=by
 rw[show m+2=(m+1)+1 from rfl,Instr.checkKey];simp only[dt,fu.iS O,dq,iw,cN];rw[<-Array.forIn_toList];generalize V.toList=L at R;induction L with
 |nil=>simp
 |cons f L H=>
  obtain⟨G,Q,F⟩:=R f aw;obtain⟨a,D⟩:=at1 Q (l:=w) (off:=f.offset) (by rw[N];exact F) W;have B:=MapKept.run_checkKey (w:=W) (k:=.int I a) Q (by trivial) b m;simp only[List.forIn_cons,dt,G,ne_eq,not_false_eq_true,cN,dq,D,B,fF];exact H (λy A=>R y (by simp[A]))
def at2{d:TypeDesc}(L:P.underlying M=U d)(D:wI (P.underlying M)=J)(B:wJ P 20 M (eH X (.int I))=J)
  (A:∀(l:bw)(b:Bool)(W:World),Y l=X->(Instr.checkKey b 10000 M (iw J l)).run P W=.ok () W):vL P M X true:=by
 refine⟨λh=>(by cases h),λl V W Q z=>⟨λb=> ?_, ?_⟩⟩;exact A l b W Q;have y:∀l:bw,iw J l=.agg (l.map (Value.int I)).toArray:=λl=>rfl
 have x:∀(V:List MapEntry)(i:Nat),(∀e∈V,∃R:bw,Y R=X/\e.key=iw J R)->(Instr.findAsking M (iw J l) V i).run P W=.ok (oK l V i) W:=by
  intro V;induction V with
  |nil=>intro i _;rfl
  |cons e V w=>
   intro i H;obtain⟨R,O,G⟩:=H e aw;have F:=ah7 (P:=P) 9980 20 M (eH X (.int I)) (l.map (Value.int I)) (R.map (Value.int I)) (l==R) W B (by rw[<-Q];exact ah9 l) (by rw[<-O];exact ah9 R) (at0 l R (by rw[Q,O]));simp only[yi,D,cN] at F;have v:(FL M (iw J l) e.key).run P W=.ok (l==R) W:=by rw[G];exact F
   simp only[Instr.findAsking,dt,v,dq];simp only[oK,G,aCV (ag:=J) O aw];by_cases N:R=l;rw[N];simp;have u:(l==R)=false:=by
    cases t:l==R;rfl;exact aG (eq_of_beq t).symm N
   simp only[N,u,jR,gD];exact w (i+1) (λe s=>H e (by simp[s]))
 have r:=x V 0 z;cases V with
 |nil=>simp[Instr.findKey,fu.iS L,Instr.findNow,oK,Result.andThen]
 |cons e V=>
  have:Instr.findNow d (iw J l) (e::V) 0=none:=by simp only[Instr.findNow,y,aCX]
  simp only[Instr.findKey,dt,fu.iS L,dq,this];exact r
end
def bh{p:Prop}(h:p:=by kernel_rfl):p:=h
abbrev ri(n:Nat):fp:=eH n (.int I)
abbrev aF:gV:=U ⟨.one,[.aS .nilFunc .aS],E⟩
abbrev Br:gV:=U ⟨(.struct [(0,3),(1,3),(2,3)]),[.int I,.int I,.int I],J⟩
abbrev Fi:gV:=U ⟨.one,[.aS (.pointer Z) .aS],E⟩
abbrev HH:gV:=U ⟨(.struct [(0,3),(1,3)]),[.int I,.int I],J⟩
abbrev Z0:gV:=U ⟨.one,[.int I],E⟩
abbrev Z1:gV:=U ⟨.one,[.int .u8],E⟩
abbrev Z2:gV:=U ⟨.one,[.int .u64],E⟩
abbrev Z3:gV:=U ⟨(.struct [(0,3),(1,3),(2,3),(3,3)]),ri 4,J⟩
abbrev ti8:gV:=U ⟨.str,[.aS (.string ⟨#[]⟩) .str],E⟩
abbrev ti9:gV:=U ⟨.one,[.int .i32],E⟩
abbrev aic:gV:=U ⟨(.struct [(0,63),(2,63)]),ri 4,J⟩
abbrev at3:gV:=U ⟨(.struct [(0,2),(1,3),(2,4),(3,6)]),[.int I,.int I,.bool,.int .u8],J⟩
abbrev at4:gV:=U ⟨(.struct [(0,9),(1,12)]),[.aS (.string ⟨#[]⟩) .str,.int .u64],E⟩
abbrev at5:gV:=U ⟨(.struct [(0,17)]),[.aS (.pointer Z) .aS],E⟩
abbrev at6:gV:=U ⟨(.struct [(0,3),(1,25),(2,26),(3,27)]),[.int I,.aS (.slice Z 0 0) (.sl 175),.aS (.slice Z 0 0) (.sl 312),.aS (.slice Z 0 0) (.sl 314)],E⟩
abbrev at7:gV:=U ⟨(.struct [(0,3),(1,3),(2,23),(5,24),(6,29),(10,30)]),ri 5++[.aS (.slice Z 0 0) (.sl 173),.int I,.aS (.slice Z 0 0) (.sl 175),.aS (.slice Z 0 0) (.sl 312),.aS (.slice Z 0 0) (.sl 314),.aS (.slice Z 0 0) (.sl 90)],E⟩
abbrev at8:gV:=U ⟨(.struct [(0,33)]),[.aS (.slice Z 0 0) (.sl 73)],E⟩
abbrev at9:gV:=U ⟨(.struct [(0,3),(1,37),(2,38),(3,38),(4,39),(5,42)]),[.int I,.aS (.slice Z 0 0) (.sl 4),.aS (.slice Z 0 0) (.sl 71),.aS (.slice Z 0 0) (.sl 71),.aS (.slice Z 0 0) (.sl 82),.aS (.slice Z 0 0) (.sl 65)],E⟩
abbrev aua:gV:=U ⟨(.struct [(0,3),(1,3),(2,3),(3,69)]),ri 13,J⟩
abbrev aub:gV:=U ⟨(.struct [(0,65),(4,3),(5,3),(6,3),(7,3)]),ri 8,J⟩
abbrev auc:gV:=U ⟨(.struct [(0,9),(1,3),(2,3),(3,3),(4,3),(5,3),(6,77),(9,77),(12,77),(15,3),(16,3)]),[.aS (.string ⟨#[]⟩) .str]++ri 16,J⟩
abbrev aud:gV:=U ⟨(.struct [(0,3),(1,3),(2,3),(3,3),(4,3),(5,3),(6,3),(7,3),(8,3),(9,3),(10,88),(12,88)]),ri 14,J⟩
abbrev aue:gV:=U ⟨(.struct [(0,3),(1,3),(2,3),(3,4)]),[.int I,.int I,.int I,.bool],J⟩
abbrev auf:gV:=U ⟨(.struct [(0,3),(1,4),(2,79),(19,71),(32,82)]),[.int I,.bool,.aS (.string ⟨#[]⟩) .str]++ri 29++[.aS (.slice Z 0 0) (.sl 96)],E⟩
abbrev aug:gV:=U ⟨(.struct [(0,79)]),[.aS (.string ⟨#[]⟩) .str]++ri 16,J⟩
abbrev auh:gV:=U ⟨(.struct [(0,163),(1,3),(2,3),(3,3)]),[.aS .nilFunc .aS,.int I,.int I,.int I],E⟩
abbrev aui:gV:=U ⟨(.struct [(0,9),(1,3),(2,3),(3,3)]),[.aS (.string ⟨#[]⟩) .str,.int I,.int I,.int I],J⟩
abbrev auj:gV:=U ⟨(.struct [(0,4),(1,4),(2,4),(3,3),(4,3),(5,3)]),[.bool,.bool,.bool,.int I,.int I,.int I],J⟩
abbrev auk:gV:=U ⟨(.struct [(0,90),(14,96)]),ri 17++[.bool],J⟩
abbrev aul:gV:=U ⟨(.struct [(0,328),(1,4),(2,307),(3,4),(4,329)]),[.aS .nilFunc .aS,.bool,.aS .nilFunc .aS,.bool,.aS .nilFunc .aS],E⟩
abbrev aum:gV:=U ⟨(.struct [(0,356),(8,357),(12,358)]),ri 12++[.aS .nilFunc .aS],E⟩
abbrev aun:gV:=U ⟨(.struct [(0,71),(13,90),(27,96)]),ri 30++[.bool],J⟩
abbrev auo:gV:=U ⟨(.struct [(0,96),(4,3)]),[.int I,.int I,.int I,.bool,.int I],J⟩
abbrev aup:gV:=U ⟨(.struct [(0,17),(1,17),(2,17),(3,9)]),[.aS (.pointer Z) .aS,.aS (.pointer Z) .aS,.aS (.pointer Z) .aS,.aS (.string ⟨#[]⟩) .str],E⟩
abbrev auq:gV:=U ⟨(.struct [(0,426)]),[],E⟩
abbrev aur:gV:=U ⟨(.struct [(0,12),(1,12),(2,287),(3,430),(4,5),(5,5),(6,431),(7,432),(8,433),(9,434),(10,435)]),[.int .u64,.int .u64,.int .u32,.int .u8,.int .u8,.int .u8,.int .u8,.aS .nilFunc .aS,.aS (.pointer Z) .aS,.int .i32,.int .i32],E⟩
abbrev iE:j5:=U [4]
abbrev Bs:j5:=U []
abbrev pU:j5:=U [3]
abbrev tZ:j5:=U [45]
abbrev HI:j5:=U [3,3,3]
abbrev HJ:j5:=U [3,3]
abbrev Bt:j5:=U [65,45]
abbrev Z4:j5:=U [65]
abbrev sg9:j5:=U [82]
abbrev Tb:j5:=U [65,65]
abbrev aid:j5:=U [4,45]
abbrev N2:j5:=U [3,45]
abbrev aC0:j5:=U [30]
abbrev aie:j5:=U [32,35,36,44]
abbrev aut:j5:=U [79]
abbrev auu:j5:=U [90,96]
abbrev auv:j5:=U [29]
abbrev auw:j5:=U [90]
def TT:List (List gV):=[
[Z,aF,Z0,Z0,U ⟨.one,[.bool],E⟩,Z1,Z1,at3,at3,ti8,ti8,ti8,Z2,at4,at4,Fi],
 [Fi,Fi,at5,at5,U ⟨.gF,[.aS .nilIface .aS],E⟩,ti9,Br,Br,U ⟨(.slice 173),[.aS (.slice Z 0 0) (.sl 173)],E⟩,U ⟨(.slice 175),[.aS (.slice Z 0 0) (.sl 175)],E⟩,U ⟨(.slice 312),[.aS (.slice Z 0 0) (.sl 312)],E⟩,U ⟨(.slice 314),[.aS (.slice Z 0 0) (.sl 314)],E⟩,at6,at6,U ⟨(.slice 90),[.aS (.slice Z 0 0) (.sl 90)],E⟩,at7],
 [at7,U ⟨(.slice 73),[.aS (.slice Z 0 0) (.sl 73)],E⟩,at8,at8,U ⟨(.slice 79),[.aS (.slice Z 0 0) (.sl 79)],E⟩,U ⟨(.slice 4),[.aS (.slice Z 0 0) (.sl 4)],E⟩,U ⟨(.slice 71),[.aS (.slice Z 0 0) (.sl 71)],E⟩,U ⟨(.slice 82),[.aS (.slice Z 0 0) (.sl 82)],E⟩,aF,aF,U ⟨(.slice 65),[.aS (.slice Z 0 0) (.sl 65)],E⟩,at9,at9,Z0,Z,aF],
 [aF,aF,U ⟨(.slice 98),[.aS (.slice Z 0 0) (.sl 98)],E⟩,Z,aF,Z,aF,aF,aF,aF,aF,U ⟨(.slice 142),[.aS (.slice Z 0 0) (.sl 142)],E⟩,Z,aF,HH,HH],
 [aic,aic,aF,HH,HH,U ⟨(.arr 5 68),ri 10,J⟩,aua,aua,aub,aub,Z,aF,aF,U ⟨(.arr 3 3),[.int I,.int I,.int I],J⟩,auc,auc],
 [aF,aF,U ⟨(.slice 96),[.aS (.slice Z 0 0) (.sl 96)],E⟩,aF,aF,aF,aF,HH,HH,aud,aud,aF,aF,Z,aF,aue],
 [aue,Br,Br,aF,aF,Fi,aF,aF,aF,aF,aF,aF,aF,aF,aF,aF],
 [U ⟨(.map 118 4 3 J),[.aS (.map Z) .aS],E⟩,aF,aF,aF,auf,auf,Br,aF,aF,U ⟨(.slice 118),[.aS (.slice Z 0 0) (.sl 118)],E⟩,aF,aF,aF,aF,aF,aF],
 [aF,U ⟨(.slice 202),[.aS (.slice Z 0 0) (.sl 202)],E⟩,Z,aF,aF,aF,aF,U ⟨(.slice 3),[.aS (.slice Z 0 0) (.sl 3)],E⟩,Z,aF,U ⟨(.map 3 4 1 E),[.aS (.map Z) .aS],E⟩,aF,aF,U ⟨(.map 142 4 2 J),[.aS (.map Z) .aS],E⟩,U ⟨(.arr 2 3),[.int I,.int I],J⟩,aic],
 [aF,aF,aF,aF,aF,aF,aF,aF,aF,aF,aF,aF,aF,Z,aF,Z],
 [aF,aug,aug,aF,auh,auh,Fi,Fi,aF,U ⟨(.arr 7 165),(eH 7 [.aS .nilFunc .aS,.int I,.int I,.int I]).flatten,E⟩,aF,U ⟨(.slice 165),[.aS (.slice Z 0 0) (.sl 165)],E⟩,aui,aui,Br,Br],
 [Z,aF,aF,aF,aF,aF,aF,aF,Z,aF,aF,aF,aF,aF,aF,aF],
 [aF,aF,aF,aF,U ⟨(.slice 200),[.aS (.slice Z 0 0) (.sl 200)],E⟩,Z,aF,HH,HH,Br,Br,aF,aF,Z2,aF,aF],
 [aF,aF,aF,aF,aF,aF,aF,aF,aF,aF,aF,aF,aF,aF,aF,aF],
 [aF,aF,Z,aF,Br,Br,Z,aF,aF,aF,aF,Z,aF,aF,Z,U ⟨(.map 3 237 1 E),[.aS (.map Z) .aS],E⟩],
 [aF,aF,aF,aF,auj,auj,U ⟨(.arr 10 245),(eH 10 [.bool,.bool,.bool,.int I,.int I,.int I]).flatten,J⟩,aF,U ⟨(.arr 2 88),ri 4,J⟩,U ⟨(.slice 248),[.aS (.slice Z 0 0) (.sl 248)],E⟩,U ⟨(.slice 258),[.aS (.slice Z 0 0) (.sl 258)],E⟩,Z,aF,aF,aF,aF],
 [U ⟨(.arr 5 4),[.bool,.bool,.bool,.bool,.bool],J⟩,auk,auk,U ⟨(.arr 2 135),[.aS (.slice Z 0 0) (.sl 3),.aS (.slice Z 0 0) (.sl 3)],E⟩,U ⟨(.arr 10 259),.replicate 20 (.aS (.slice Z 0 0) (.sl 3)),E⟩,aF,aF,aF,aF,aF,aF,aF,aF,aF,aF,aF],
 [U ⟨(.map 3 96 1 E),[.aS (.map Z) .aS],E⟩,aF,aF,aF,U ⟨(.arr 2 42),[.aS (.slice Z 0 0) (.sl 65),.aS (.slice Z 0 0) (.sl 65)],E⟩,U ⟨(.arr 5 276),.replicate 10 (.aS (.slice Z 0 0) (.sl 65)),E⟩,aF,Z0,Z,aF,aF,aF,Z,aF,aF,U ⟨.one,[.int .u32],E⟩],
 [aF,Z2,aF,aF,aF,aF,aF,aF,aF,aF,Z,aF,aF,U ⟨(.arr 8 142),ri 16,J⟩,aF,aF],
 [aF,aF,aF,aF,aF,aF,aF,Z3,Z3,Z3,Z3,aF,aF,aF,Z,aF],
 [aF,aF,aF,aF,aF,aF,U ⟨(.map 3 331 1 E),[.aS (.map Z) .aS],E⟩,aF,aF,aF,aul,aul,aF,aF,U ⟨(.map 3 40 1 E),[.aS (.map Z) .aS],E⟩,aF],
 [Z2,aF,aF,aF,aF,aF,aF,aF,aF,aF,aF,aF,aF,aF,aF,aF],
 [aF,aF,aF,aF,U ⟨(.arr 4 142),ri 8,J⟩,U ⟨(.arr 2 142),ri 4,J⟩,aF,aum,aum,Z,U ⟨(.map 3 360 1 E),[.aS (.map Z) .aS],E⟩,aF,aF,U ⟨(.arr 4 3),ri 4,J⟩,aun,aun],
 [Fi,aF,aF,aF,aF,aF,aF,Z,aF,aF,aF,aF,Z,aF,Fi,aF],
 [aF,aF,aF,aF,aF,aF,aF,U ⟨(.slice 393),[.aS (.slice Z 0 0) (.sl 393)],E⟩,auo,auo,aF,aF,aF,aF,aF,aF],
 [aF,aF,aF,aF,aF,aF,aF,aF,aF,aF,aF,aF,aF,aF,aF,aF],
 [aF,aF,aF,aF,aF,aF,aF,aF,aup,aup,U ⟨(.arr 0 16),[],J⟩,auq,auq,aF,Z1,Z1],
 [aF,Fi,ti9,ti9,aur,aur,Z]]
def SG:List (List j5):=[
[Z,Z,Z,Z,Z,iE,Z,Z,Z,Z,Z,iE,iE,U [44,45],Z,iE],
 [U [50,45],Z,aid,Z,iE,U [44,45],U [44,45],U [59,45],aid,Bt,aid,Bt,Z,Z,Z,Z],
 [U [32,36,38,39],iE,Bs,Z,Z,tZ,Z,U [44],tZ,iE,U [44,45],iE,iE,iE,Bs,Z],
 [Z,Z,Z,Bs,pU,tZ,Z,Z,U [59],Z,Z,Z,Z,Bs,Z,U [135,45]],
 [U [135],tZ,iE,Z,Z,iE,iE,Z,Bt,Z,tZ,tZ,Z,U [30,45],U [82,45],Z],
 [Z,tZ,iE,tZ,iE,tZ,U [37],U [38],sg9,U [71,45],Bt,tZ,iE,iE,tZ,tZ],
 [U [71,45],Z,iE,Z,Z,Z,iE,iE,U [196,45],Z,U [129,45],Z,Z,Z,pU,iE],
 [Bt,Z,Z,U [96],Z,Z,Z,iE,Z,iE,Bt,iE,Z,Z,Z,Z],
 [Z,Z,Z,Z,Z,Bt,iE,iE,Z,Z,N2,U [229,45],Bs,pU,N2,U [90,45]],
 [Z,Z,Z,Z,Z,Z,Z,Bs,Z,U [23],iE,U [250,4],Z,Z,Z,iE],
 [Z,Z,Z,iE,tZ,iE,iE,tZ,Z,U [30,45],iE,U [71,45],Bt,pU,Z,Z],
 [Z,Z,pU,Z,Z,iE,Z,Z,Z,Z,Z,Z,Z,Z,Z,Z],
 [iE,iE,Bt,Bt,Z,aC0,Z,Z,U [71,45],Z,iE,Z,Z,Z,Z,pU],
 [Z,Z,tZ,Z,Z,Z,Z,Z,Z,Z,Z,iE,pU,Z,Z,Bs],
 [pU,iE,Z,U [71,45],pU,pU,Z,tZ,N2,iE,Z,Z,Z,U [38,4],Z4,Bt],
 [Z,Z,Z,Bs,Z,Z,Z,Z,U [229],pU,Z,Z,Z,Z,Z,Z],
 [Z,Z,Z,Z,Z,U [229,45],Z,Z,Z,iE,iE,U [71],Z,N2,Z,Z],
 [pU,Z,Z,U [205],U [205],Z,Z,Z,Z,Z,Z,Z,iE,Z,Z,Z],
 [Z,Z,Z,Z,Z,Z,U [256],Z,Z4,Z,Z,Z,Z,Z,Z,Z],
 [Z,Z,Z,Z,Z,Z,U [3,3,45],Z,iE,Z,Z,Z,Z,Z,Z,Z],
 [Z,Z,Bs,pU,Z,Z,Z,Z,Z,Z,Z,Z,Z,Z,Z,Z],
 [Z,Z,Z,Z,Z,Z,pU,pU,Z,Z,Z,Z,Z,Z,Z,Z],
 [Z,N2,U [3,3,45],Z,Z,Z,Z,Z,Z,N2,Z,Z,Z,Z,Z,Z],
 [Z,Z,Z,pU,Z,Z,Z,Z,U [3,3,45],Z,Z,Z,Z,Z,Z,Z]]
def PT:List (List j5):=[
[Z,Z,Z,Z,Z,U [32,35,36,44,37],Z,Z,Z,Z,Z,Bs,U [32,35,36,38,39],U [32,35,36,3,37,38,39],Z,U [44,44]],
 [aie,Z,aie,Z,U [50,50],U [32,35,36,44,37],U [32,35,36,44,37],U [32,3],Tb,U [73,3],Tb,U [71,79],Z,Z,Z,Z],
 [Bs,U [32],Z,Z,Z,U [32],Z,U [32,36,3,37,38,39],U [32],U [32,36,3,37,38,39],U [32,36,3,37,38,39],U [37,37],U [38,38],U [39,39],Z,Z],
 [Z,Z,Z,U [121,123],U [118,118],aie,Z,Z,U [32,3],Z,Z,Z,Z,Z,Z,U [32,3]],
 [U [3,59],U [32,3],U [143],Z,Z,Z4,HI,Z,Tb,Z,U [71],aut,Z,U [32,3,3],U [32,3,79],Z],
 [Z,auv,HI,U [23],U [90,3,3],U [32,3,3,82],U [37],U [38],sg9,U [32,3,3,71,82],U [32,3,3,71,79,82],auv,U [32],U [32,36],U [71],U [32,3,3,82]],
 [U [32,3,3,4,71,82],Z,U [82,82],Z,Z,Z,U [82,96],U [32,44,90],U [32,3,3,71,36,82],Z,U [32,35,3,42,42,59],Z,Z,Z,HJ,U [32,36,44]],
 [U [73,3],Z,Z,U [82,3],Z,Z,Z,Z4,Z,U [32,3,3,3],U [71,79],HI,Z,Z,Z,Z],
 [Z,Z,Z,Z,Z,U [65,3,3],HI,U [9],Z,Z,HJ,HJ,U [30,234],U [90,90],U [88,88],U [32,3]],
 [Z,Z,Z,Z,Z,Z,Z,Z,Z,U [23],U [3,4,3,3],U [30,82],Z,Z,Z,HI],
 [Z,Z,Z,HI,U [23],U [90,3],auw,aut,Z,U [32,3,3],U [30,82],U [32,3,3,71,82],U [32,3,3,71,79,82],U [82,96],Z,Z],
 [Z,Z,U [200,200],Z,Z,Tb,Z,Z,Z,Z,Z,Z,Z,Z,Z,Z],
 [pU,U [73],U [73,3],Tb,Z,U [32,3,3],Z,Z,U [71,90,96],Z,U [63],Z,Z,Z,Z,U [5]],
 [Z,Z,U [88],Z,Z,Z,Z,Z,Z,Z,Z,HI,U [29,3],Z,Z,U [30,234]],
 [U [90,90],auu,Z,U [71,90,96],U [29,3],HJ,Z,U [88],U [88,88],U [9],Z,Z,Z,U [30,71,82],U [30,71,79,82],U [65,3,3]],
 [Z,Z,Z,U [196,274],Z,Z,Z,Z,U [68,3],U [29,90],Z,Z,Z,Z,Z,Z],
 [Z,Z,Z,Z,Z,HJ,Z,Z,Z,U [3,3,3,3,3,3],auu,U [71,3,3],Z,HJ,Z,Z],
 [U [9,5],Z,Z,U [205,205],pU,Z,Z,Z,Z,Z,Z,Z,HI,Z,Z,Z],
 [Z,Z,Z,Z,Z,Z,auw,Z,U [71,79,3],Z,Z,Z,Z,Z,Z,Z],
 [Z,Z,Z,Z,Z,Z,U [29,3,88],Z,U [90,90],Z,Z,Z,Z,Z,Z,Z],
 [Z,Z,U [391,395],U [393,393],Z,Z,Z,Z,Z,Z,Z,Z,Z,Z,Z,Z],
 [Z,Z,Z,Z,Z,Z,HJ,pU,Z,Z,Z,Z,Z,Z,Z,Z],
 [Z,U [29,3],U [88,3],Z,Z,Z,Z,Z,Z,U [229,229],Z,Z,Z,Z,Z,Z],
 [Z,Z,Z,HJ,Z,Z,Z,Z,pU,Z,Z,Z,Z,Z,Z,Z]]
def aux:TD->Bool
 |.map k _ n X=>(k==3&&n==1&& !X)||(k==142&&n==2&&X)||(k==118&&n==3&&X)
 |_=>J
def aC1:vL Tryz.prog 3 1 false:=aCW bh
def aC2:vL Tryz.prog 142 2 true:=by
 have X:Tryz.prog.underlying 142=U (.array 2 3):=bh;obtain⟨i,V⟩:∃i,Tryz.prog.info? 3=U i:=lB.1 bh;exact at2 X bh bh (λl b W R=>aCY X bh V bh R b 9998 W)
def auy(P:Program)(k n:Nat):Bool:=match P.underlying k with
 |U (.struct X)=>X.toList.all λf=>f.name != "_"&&(match P.underlying f.type with
  |U (.int I)=>J
  |_=>E)&&decide (f.offset<n)
 |_=>E
def aC3{P:Program}(h:auy P X z=J)(Q:wI (P.underlying X)=J)(O:wJ P 20 X (eH z (.int I))=J):vL P X z true:=by
 unfold auy at h;split at h;rename_i L V;refine at2 V Q O (λl b W N=>aCZ V (λf M=> ?_) N b 9998 W);have:=f9.1 h f M;simp only[aA,bne_iff_ne,ne_eq,cz] at this;refine⟨this.1.1, ?_,this.2⟩;have R:=this.1.2;split at R;assumption;cases R;cases h
def aC4:vL Tryz.prog 118 3 true:=aC3 bh bh bh
def aC5:Gg (λt X=>adz Tryz.prog t X&&(!X.eq||ah8 Tryz.prog t X)&&aux X.d) 0 TT=true:=bh
def Z5:Gg (λg _=>xu Tryz.prog g) 0 SG=true:=bh
def N3:jW Tryz.prog (look TT):=by
 intro t R h;have:=ant aC5 h;simp only[aA,jy,iK] at this;refine aAv this.1.1 (λW=>aCU (this.1.2.resolve_left (by rw[W];simp))) (λk e n Q V=> ?_);have X:=this.2;rw[V] at X;simp only[aux,jy,aA,du,iK] at X;rcases X with(⟨⟨rfl,rfl⟩,rfl⟩|⟨⟨rfl,rfl⟩,rfl⟩)|⟨⟨rfl,rfl⟩,rfl⟩;exact aC1;exact aC2;exact aC4
def Z6:Tryz.prog.follows .mixedOrders=true:=bh
def GL:nD:=[(0,0,6),(1,1,2),(2,2,2)]
def GLK:bz:=[.sl 245,.sl 259,.sl 142]
def GW(W:World):Prop:=∃X,Qp (look TT) GL GLK j7 W X
def GW.grow{W X:World}(V:Below W.heap.size W X)(h:GW W):GW X:=by
 obtain⟨R,Q,P,O,N⟩:=h;exact⟨R,Q,P,λk e M L H=>(O k e M L H).grow V,N⟩
def wK(X:BL):Prop:=∀x∈X,mM Tryz.prog (look TT) x.1 x.2.1 x.2.2.1 x.2.2.2.1 x.2.2.2.2
def GZ(z:Bool)(W:World):Prop:=z=J->GW W
def GZ.grow{z:Bool}{W X:World}(V:Below W.heap.size W X)(h:GZ z W):GZ z X:=λe=>(h e).grow V
abbrev t6(z:Bool)(f:FuncId)(F:bn->ll):Prop:=Jc Tryz.prog (look TT) (look PT) (look SG) (GZ z) f F
def auz:∀{X:aY},qQ X=J->∀(k:Nat)(t:TypeId),(kj X)[k]?≠U (.own t)
 |[],_,k,t=>by simp[kj]
 |x::X,h,k,t=>by
  simp only[qQ,aA] at h;have W:=auz h.2;cases x with
  |int _=>exact W k t
  |bool=>exact W k t
  |aj e=>
   cases k with
   |zero=>
    intro V;simp[kj] at V;subst V;simp[IB] at h
   |succ k=>simpa[kj] using W k t
def Kj(g:Bool):nD:=if g then GL else[]
def vd(g:Bool):bz:=if g then GLK else[]
def auA(g:Bool)(V:g=J->v=J)(W:World)(h:GZ v W):∃R,Qp (look TT) (Kj g) (vd g) (mR g) W R:=by
 cases g with
 |true=>exact h (V rfl)
 |false=>exact⟨[],rfl,λk X P h=>by simp[mR] at h,λk e O h=>by simp[vd] at h,λN x Q=>by simp[Kj] at Q⟩
def aC6{bC:og}(af:∀A,t6 v A (bC A))(hf:Tryz.prog.funcs[A]?=U u)(hb:u.body=U t){D:aq}(hi:D.all (xu Tryz.prog)=J){B:BL}(ag:wK B){nZ:Bool}{j:Dx}{g:Bool}{e:Option TypeId}
  {a x:kw}{L qk:aY}{al l:ap}{H:bz}{F:bn->ll}
  (an:look PT A=U a)(a0:look SG A=U x)(a1:jp (look TT) a=U L)(a3:jp (look TT) x=U qk)
  (bf:qQ L=J)(hl:kN (look TT) a al=U l)(a4:uC 0 0 (vd g).length L l=J)(cG:H=vd g++kj L)(hq:g=E\/xz qk=J)
  (bg:((⟨[],[],0,0,[],0,0,[]⟩:S).cK L).2.ni=z)(bk:((⟨[],[],0,0,[],0,0,[]⟩:S).cK L).2.nb=n)
  (a9:∀(p:Sp)(O:ai),k.ba p O []->(evX (qX Tryz.prog TT SG (Kj g) D y B nZ j) e X A t u.ntmps u.results.toList al ⟨[],[],z,n,H,0,0,[]⟩).ba p O [])
  (bl:∀s,e=U s->(∃d,xg t=U d/\s4 Tryz.prog d.g s)/\∀P V,F P≠U (.bD V))
  (hc:k.jw (look TT) (look PT) (look SG) x z n H []=J)(hF:∀P o,fq L P->F P=U o->xA bC k (gI (mR g) P) [] o)(hz:g=J->v=J):t6 v A F:=by
 have e1:∀G P,fq L P->(gI G P).i.length=z:=λG P M=>by
  have h1:=(An L P ⟨[],[],0,0,[],0,0,[]⟩ ⟨[],[],[],[]⟩ M rfl rfl rfl).1;have h2:=(Gj (O:=⟨[],[],[],[]⟩) M).1;have h3:=(Gj (O:=⟨[],[],G,[]⟩) M).1;rw[<-bg,<-h1,gI,h3,h2]
 have e2:∀G P,fq L P->(gI G P).b.length=n:=λG P M=>by
  have h1:=(An L P ⟨[],[],0,0,[],0,0,[]⟩ ⟨[],[],[],[]⟩ M rfl rfl rfl).2.1;have h2:=(Gj (O:=⟨[],[],[],[]⟩) M).2.1;have h3:=(Gj (O:=⟨[],[],G,[]⟩) M).2.1;rw[<-bk,<-h1,gI,h3,h2]
 have e3:∀P,fq L P->(gI (mR g) P).r.length=Y H:=λP M=>by rw[cG];exact Qi M (by cases g<;>rfl)
 have e4:∀(Q:Nat)(k:TypeId),H[Q]?≠U (.own k):=by
  rw[cG];intro Q k m;by_cases bb:Q<(vd g).length;rw[dZ bb] at m;cases g with
  |false=>simp[vd] at bb
  |true=>rcases Q with _|_|_|Q<;>simp[vd,GLK] at m
  rw[jd aa] at m;exact auz bf _ k m
 have e5:mR g=[]\/xz qk=true:=hq.imp (λh=>by subst h;rfl) id;have bd:∀P o,fq L P->F P=U o->∃N,run (look TT) (look PT) (look SG) bC x N k (gI (mR g) P) H []=U o:=λP o M ho=>by
  obtain⟨N,hN⟩:=hF P o M ho;exact⟨N,vS N k _ H [] [] [] o hN (by rw[e1 _ P M,e2 _ P M];exact hc) (e3 P M) Cm.nil⟩
 cases e with
 |none=>exact aAV (cf:=qX Tryz.prog TT SG (Kj g) D y B nZ j) (glk:=vd g) (glv:=mR g) (λw R ac=>VU N3 Z5 hi Z6 ac ag) rfl af (λ_ _ hB h=>h.grow hB) hf hb an a0 a1 a3 hl (by cases g<;>exact a4) cG e4 (by cases g<;>rfl) e5 e1 e2 (λW h=>auA g hz W h) (λp O h=>(aBe _ _ _ _ _ _ _ _).subst (motive:=λq=>T.ba p q O []) (a9 p O h)) bd
 |some s=>
  obtain⟨⟨d,hd,dH⟩,br⟩:=bl s rfl;exact aAW (cf:=qX Tryz.prog TT SG (Kj g) D y B nZ j) (glk:=vd g) (glv:=mR g) (λw R ac=>VU N3 Z5 hi Z6 ac ag) rfl af (λ_ _ hB h=>h.grow hB) hf hb hd dH an a0 a1 a3 hl (by cases g<;>exact a4) cG e4 (by cases g<;>rfl) e5 e1 e2 (λW h=>auA g hz W h) (λp O h=>(aBf _ _ _ _ _ _ _ _ _).subst (motive:=λq=>T.ba p q O []) (a9 p O h)) br bd
def aig(f:FuncId):t6 v f (λ_=>Z):=λ_ _ _ _ _ _ _ _ _ _ _ h=>by cases h
def bB(f:FuncId)(g d:Bool)(t:T):Prop:=∀(z:Bool),(g=J->z=J)->∀(bC:og),(∀g,t6 z g (bC g))->∀n,t6 z f (λX=>Co d (exec bC n t (gI (mR g) X) []))
def aC7(i:Tryz.prog.funcs[A]?=U u)(e:u.body=U t){D:aq}(b:D.all (xu Tryz.prog)=J){B:BL}(a:wK B){ac:Dx}{g:Bool}{N:Option TypeId}
  {L H:kw}{R x:aY}{w l:ap}{G:bz}
  (af:look PT A=U L)(ag:look SG A=U H)(al:jp (look TT) L=U R)(an:jp (look TT) H=U x)
  (a0:qQ R=J)(hl:kN (look TT) L w=U l)(a1:uC 0 0 (vd g).length R l=J)(cG:G=vd g++kj R)(hq:g=E\/xz x=J)
  (a3:((⟨[],[],0,0,[],0,0,[]⟩:S).cK R).2.ni=z)(a4:((⟨[],[],0,0,[],0,0,[]⟩:S).cK R).2.nb=n)
  (a9:∀M,N=U M->∃d,xg t=U d/\s4 Tryz.prog d.g M)
  {s:Bool}(ht:ctE s k (evX (qX Tryz.prog TT SG (Kj g) D y B v ac) N X A t u.ntmps u.results.toList w ⟨[],[],z,n,G,0,0,[]⟩)=k)
  (hc:k.jw (look TT) (look PT) (look SG) H z n G []=J):bB A g N.isSome k:=
 λW hz bC bb m=>aC6 (F:=λP=>Co N.isSome (exec bC m k (gI (mR g) P) [])) bb i e b a af ag al an a0 hl a1 cG hq a3 a4 (λp O h=>aAU (g:=k) (c:=s) (Eq.mpr (ku (λq=>T.ba p q O []) ht) h))
  (λM r=>⟨a9 M r,λP V h=>by
   subst r;simp only[Option.isSome_some] at h;cases Q:exec bC m k (gI (mR g) P) [] with
   |none=>rw[Q] at h;cases h
   |some o=>rw[Q] at h;cases o<;>simp[Co] at h⟩) hc (λP o _ h=>by
   cases Q:exec bC m k (gI (mR g) P) [] with
   |none=>simp only[Q,Co] at h;cases h
   |some j=>
    simp only[Q] at h;have:o=j:=by
     cases j with
     |ret ys=>simp only[Co,cS] at h;exact h.symm
     |bD V=>
      simp only[Co] at h;split at h;cases h;cases h;rfl
    subst this;exact⟨m,Q⟩) hz
def Z7:fp->Nat->Nat->Nat->ap×Nat×Nat×Nat
 |[],a,b,c=>([],a,b,c)
 |.int k::l,a,b,c=>let r:=Z7 l (a+1) b c;(.int k (.v a)::r.1,r.2)
 |.bool::l,a,b,c=>let r:=Z7 l a (b+1) c;(.bool (.v b)::r.1,r.2)
 |.aS _ _::l,a,b,c=>let r:=Z7 l a b (c+1);(.aj (.v c)::r.1,r.2)
def mkA:kw->Nat->Nat->Nat->ap
 |[],_,_,_=>[]
 |t::W,a,b,c=>match look TT t with
  |U X=>let r:=Z7 X.ak a b c;(if X.d.isAgg then .agg r.1 else r.1.headD .any)::mkA W r.2.1 r.2.2.1 r.2.2.2
  |none=>[]
def pkF(f:FuncId):aY:=(jp (look TT) ((look PT f).getD [])).getD []
abbrev Z8:S:=⟨[],[],0,0,[],0,0,[]⟩
def tk{W V:kw}{X O:aY}{l:ap}(L:Tryz.prog.funcs[A]?=U u)(loops:List (Nat×Nat×fU):=[])(inl:aq:=[])(srts:BL:=[])(nZ:Bool:=E)(chs:Dx:=[])(g:Bool:=E)(dT:Option TypeId:=Z)(n:Nat:=300)
  (N:ap:=mkA ((look PT A).getD []) 0 0 (vd g).length)(R:Nat:=(Z8.cK (pkF A)).2.ni)(Q:Nat:=(Z8.cK (pkF A)).2.nb)(P:bz:=vd g++kj (pkF A))
  (hsr:wK srts:=by exact λx H=>by cases H)(hdc:∀M,dT=U M->∃d,xg (u.body.getD .skip)=U d/\s4 Tryz.prog d.g M:=by exact λ_ h=>by cases h)
  (G:u.body=U (u.body.getD .skip):=by rfl)(F:inl.all (xu Tryz.prog)=true:=by kernel_rfl)
  (D:look PT A=U W:=by exact rfl)(B:look SG A=U V:=by exact rfl)(z:jp (look TT) W=U X:=by exact rfl)(y:jp (look TT) V=U O:=by exact rfl)
  (w:qQ X=true:=by exact rfl)(v:kN (look TT) W N=U l:=by exact rfl)(s:uC 0 0 (vd g).length X l=true:=by exact rfl)(cG:P=vd g++kj X:=by exact rfl)(r:g=E\/xz O=true:=by first|exact .inl rfl|exact .inr rfl)
  (q:(Z8.cK X).2.ni=R:=by exact rfl)(p:(Z8.cK X).2.nb=Q:=by exact rfl)
  (ct:Bool:=E)(o:ctE ct k (evX (qX Tryz.prog TT SG (Kj g) inl loops srts nZ chs) dT n A (u.body.getD .skip) u.ntmps u.results.toList N ⟨[],[],R,Q,P,0,0,[]⟩)=k:=by kernel_rfl)
  (m:k.jw (look TT) (look PT) (look SG) V R Q P []=true:=by kernel_rfl):bB A g dT.isSome k:=
 aC7 L G F hsr D B z y w v s cG r q p hdc o m
structure aii(tb:lJ)(z:Bool):Prop where
 tree:∀f fn,tb.tree f=U fn->bB f fn.g fn.d fn.t
 laid:∀f fn,tb.tree f=U fn->fn.g=J->z=J
 uD:∀f,t6 z f (tb.uD f)
def t6.or{F G:bn->ll}(h:t6 v A F)(k:t6 v A G):t6 v A (λW=>match F W with|U o=>U o|none=>G W):=by
 intro Q P O N M L H D V W o X;simp only at X;cases R:F V with
 |some B=>rw[R] at X;simp only[cS] at X;subst X;exact h Q P O N M L H D V W B R
 |none=>rw[R] at X;exact k Q P O N M L H D V W o X
def Z9{V:lJ}{z:Bool}(X:aii V z):∀n f,t6 z f (V.bC n f)
 |0,f=>X.uD f
 |n+1,f=>by
  cases R:V.tree f with
  |none=>
   have:=t6.or (X.uD f) (aig f);intro Q P O N M L H G F D o W;simp only[lJ.bC,R] at W;exact this Q P O N M L H G F D o W
  |some t=>
   have:=t6.or (X.uD f) (X.tree f t R z (X.laid f t R) (V.bC n) (Z9 X n) n);intro Q P O N M L H G F D o W;simp only[lJ.bC,R] at W;exact this Q P O N M L H G F D o W
def aaa(h:(xg t).map DI.g=U A)(k:s4 Tryz.prog A M):∃d,xg t=U d/\s4 Tryz.prog d.g M:=by
 cases X:xg t with
 |none=>rw[X] at h;cases h
 |some d=>rw[X] at h;cases h;exact⟨d,rfl,k⟩
def aab:∀X:bn,Cj X X
 |[]=>trivial
 |x::X=>⟨by cases x with
  |i n=>rfl
  |b n=>rfl
  |r v=>exact dD.refl v,aab X⟩
def aac{V:Ty}{X:aY}{R:bn}(h:∀e,LK.aj e∉X):Av V H X R:=λq e P Q _=>(h e (ki Q)).elim
def auC{V:Ty}{W:aY}{R:bn}(h:∀e,LK.aj e∉W):¬Au V W R X:=λ⟨q,e,P,Q,_,_⟩=>h e (ki Q)
def t7:BL:=[(51,52,118,.lex [0,1,2] E,E),(140,141,90,.ratio 10 11,J),(223,224,90,.lex [0] E,E),(243,178,200,.lex [1,0] E,E),(322,323,393,.lex [4] J,J),(130,130,3,.dp 0 (.lex [] E) [],J)]
end
end Go.Proofs.YtieaiocljdpebaaGreatDoor.Y
namespace Go.Proofs.YtieaiocljdpebaaGreatDoor
open Go.RowKit
variable{H:World}{X z:Nat}{v:Bool}{M:TypeId}{B:Array Value}
section
def aC8{P:Program}(X:Array TypeId)(t:TypeId)(x y:Int):(Builtin.min_ X t #[.int I x,.int I y]).run P H=.ok (.int I (min x y)) H:=by
 simp[Builtin.min_,Builtin.min2];omega
def aC9{P:Program}(X:Array TypeId)(t:TypeId)(x y:Int):(Builtin.max_ X t #[.int I x,.int I y]).run P H=.ok (.int I (max x y)) H:=by
 simp[Builtin.max_,Builtin.max2];omega
attribute[go_sem high] aC8 aC9
def Sl{R:Type}(P:R->List Value)(k:Nat)(w:World)(v:Value)(X:List R):Prop:=
 ∃(a:Option Addr)(W V:Nat),v=.slice a W V/\Y X=W/\W<=V/\V<=4611686018427387904/\
  ∀i(h:i<Y X),∃b Q,a=U ⟨b,Q,Z⟩/\b<w.heap.size/\∀j,j<k->w.cell? ⟨b,Q+i*k+j,Z⟩=(P X[i])[j]?
def Sl.below{W:Type}{V:W->List Value}{R:World}{v:Value}{Q:List W}(h:Sl V X H v Q)(P:Below H.heap.size H R):Sl V X R v Q:=by
 obtain⟨a,N,M,L,G,F,D,B⟩:=h;refine⟨a,N,M,L,G,F,D,λi A=> ?_⟩;obtain⟨b,z,e,O,y⟩:=B i A;exact⟨b,z,e,aa0 O P.size,λj x=>(P.cell (p:=⟨b,_,Z⟩) O).trans (y j x)⟩
def aad(n:Int):List Value:=[.int I n]
def N4{b:Bool}(h:v=b):Ending.returned (.bool v)=.returned (.bool b):=by rw[h]
def auD{X:World}(V:Below H.heap.size H X):(∀b o,b<H.heap.size->X.cell? ⟨b,o,Z⟩=H.cell? ⟨b,o,Z⟩)/\(∀b o,b<H.heap.size->X.frozen? ⟨b,o,Z⟩=H.frozen? ⟨b,o,Z⟩):=
 ⟨λb o h=>V.cell (p:=⟨b,o,Z⟩) h,λb o h=>V.frozen (p:=⟨b,o,Z⟩) h⟩
def aDa:List Value:=[.int I 0,.int I 29,.int I 20,.int I 21,.int I 29,.int I 0,.int I 20,.int I (-21),.int I 0,.int I (-29),.int I (-20),.int I (-21),.int I (-29),.int I 0,.int I (-20),.int I 21]
def aij(w:World):Prop:=4<=w.heap.size/\∀i,i<16->w.cell? ⟨2,i,Z⟩=aDa[i]?
def aij.below{X:World}(h:aij H)(W:Below H.heap.size H X):aij X:=
 ⟨qL h.1 W.size,λi V=>(W.cell (p:=⟨2,i,Z⟩) (by have:=h.1;show 2<_;omega)).trans (h.2 i V)⟩
def Bu{X:World}(h:Below H.heap.size H X)(o:Obj):Below H.heap.size H (X.alloc o):=h.alloc h.size o
def aik{X:World}(h:Below H.heap.size H X){p:Addr}(W:H.heap.size<=p.block)(u:Value):Below H.heap.size H (X.setCell p u):=h.setCell W u
def Fj{X W:World}(h:Below H.heap.size H X)(k:Below X.heap.size X W):Below H.heap.size H W:=h.trans (k.mono h.size)
def ail{X:World}(h:Below H.heap.size H X):Below H.heap.size H X.drew:=h.drew
def Bx(W:World)(b:Nat)(t:TypeId)(X:Array Value):Prop:=W.heap[b]?=U (.cells X t (0,0))
def Bx.lt(h:Bx H X M B):X<H.heap.size:=by
 unfold Bx at h;by_cases V:X<H.heap.size;exact V;rw[aKu (by omega)] at h;cases h
def Bx.cell(h:Bx H X M B):∀i,H.cell? ⟨X,i,Z⟩=B[i]?:=by
 intro i;unfold Bx at h;simp[oC,h]
def Bx.new(w:World)(X:Array Value)(t:TypeId):Bx (w.alloc (.cells X t)) w.heap.size t X:=by
 show(w.heap.push _)[w.heap.size]?=_;simp
def Bx.alloc(h:Bx H X M B)(o:Obj):Bx (H.alloc o) X M B:=
 (Below.heap_alloc H o X h.lt).trans h
def Bx.drew(h:Bx H X M B):Bx H.drew X M B:=h
def Bx.drewN(h:Bx H X M B)(n:Nat):Bx (H.drewN n) X M B:=h
def Bx.below{V:World}(h:Bx H X M B)(R:Below H.heap.size H V):Bx V X M B:=
 (R.block X h.lt).trans h
def Bx.set(h:Bx H X M B)(u:Value):Bx (H.setCell ⟨X,z,Z⟩ u) X M (B.setIfInBounds z u):=by
 unfold Bx at*;simp[abb,TY,h]
end
end Go.Proofs.YtieaiocljdpebaaGreatDoor
namespace Go.Proofs.YtieaiocljdpebaaGreatDoor.K
structure Range where
 Lo:Int
 Hi:Int
 deriving DecidableEq
structure kS where
 X:Range
 Y:Range
 deriving DecidableEq
structure Vec where
 X:Int
 Y:Int
 Z:Int
 deriving DecidableEq
def kS.zero:kS:=⟨⟨0,0⟩,⟨0,0⟩⟩
def Bv(m:Int)(X:List Int):Bool:=X.all λn=> !(n< -m||n>m)
def kS.valid(b:kS):Bool:=Bv 1099511627776 [b.X.Lo,b.X.Hi,b.Y.Lo,b.Y.Hi]&&decide (b.X.Lo<=b.X.Hi)&&decide (b.Y.Lo<=b.Y.Hi)
def Range.vf(x y:Range):Bool:=decide (x.Lo<=y.Hi)&&decide (y.Lo<=x.Hi)
def kS.vf(a b:kS):Bool:=a.X.vf b.X&&a.Y.vf b.Y
def aDb(m:Int)(X:List Int)(k:Nat)(h:k<Y X):Bv m (X.take (k+1))=(Bv m (X.take k)&& !(X[k]< -m||X[k]>m)):=by
 unfold Bv;rw[List.take_succ_eq_append_getElem h,List.all_append];simp
def aDc{m:Int}{X:List Int}{k:Nat}(h:Bv m (X.take k)=E):Bv m X=false:=by
 unfold Bv at*;rw[List.all_eq_false] at*;obtain⟨x,W,h⟩:=h;exact⟨x,Fz W,h⟩
end Go.Proofs.YtieaiocljdpebaaGreatDoor.K
namespace Go.Proofs.YtieaiocljdpebaaGreatDoor
open Go.RowKit
abbrev K.Range.v(x:K.Range):Value:=.agg #[.int I x.Lo,.int I x.Hi]
abbrev K.kS.v(x:K.kS):Value:=.agg #[.int I x.X.Lo,.int I x.X.Hi,.int I x.Y.Lo,.int I x.Y.Hi]
def K.kS.vs(x:K.kS):List Value:=[.int I x.X.Lo,.int I x.X.Hi,.int I x.Y.Lo,.int I x.Y.Hi]
def aDd(m:Int)(v:Value)(X:List Int)(w:World)(z:0<=m)(x:m<=4611686018427387904)(G:Sl aad 1 w v X):
  Calls Tryz.prog 131 #[.int I m,v] w λe F=>e=.returned (.bool (K.Bv m X))/\w=F:=by
 obtain⟨a,W,u,rfl,R,t,s,Q⟩:=G;have D:=Lib.hid Q;clear Q;have P:=Lib.hid R;clear R;go_enter Tryz.func131,Tryz.ntmps131;go_wp2
 go_loop [9] (λi=>∃k:Nat,k<=W/\i=.int I k/\K.Bv m (X.take k)=J) (λi=>W-(intOf i).toNat)
 case atStart=>exact⟨0,FJ _,rfl,rfl⟩
 case round=>
  obtain⟨k,r,rfl,O⟩:=hrel;have V:=Lib.hid O;clear O;by_cases B:k<W
  ·have N:k<Y X:=by rw[P.out];exact B
   have M:=K.aDb m X k N;have L:=Lib.hid M;clear M;obtain⟨b,q,rfl,p,H⟩:=D.out k N;have A:=H 0 (by omega);clear H;simp only[aad,Ds,zU,axs] at A;generalize X[k]=y at*;go_wp2
   all_goals first
    |(go_ret;exact⟨N4 (K.aDc (k:=k+1) (by rw[L.out,V.out];simp<;>omega)).symm,rfl⟩)
    |(go_round
      case rel=>exact⟨k+1,by omega,by go_num,by rw[L.out,V.out];simp<;>omega⟩
      case measure=>simp[intOf];omega)
  ·go_wp2;go_ret;exact⟨N4 (by rw[<-V.out,KM (by rw[P.out];omega)]),rfl⟩
def Td(x:K.kS)(r:Bool)(R:x.valid=r)(w:World):
  Calls Tryz.prog 66 #[x.v] w λe W=>e=.returned (.bool r)/\Below w.heap.size w W:=by
 subst R;have Q:Sl aad 1 ((w.alloc (.cells #[.int I x.X.Lo,.int I x.X.Hi,.int I x.Y.Lo,.int I x.Y.Hi] 143)).alloc (.cells #[.int I x.X.Lo,.int I x.X.Hi,.int I x.Y.Lo,.int I x.Y.Hi] 3)) (.slice (U ⟨w.heap.size+1,0,Z⟩) 4 4) [x.X.Lo,x.X.Hi,x.Y.Lo,x.Y.Hi]:=by
  refine⟨_,_,_,rfl,rfl,by omega,by omega,λi P=>⟨w.heap.size+1,0,rfl,by simp,λj O=> ?_⟩⟩;obtain rfl:j=0:=by omega
  simp at P;rcases i with _|_|_|_|i<;>first|omega|simp[aad,go_sem]
 cases V:K.Bv 1099511627776 [x.X.Lo,x.X.Hi,x.Y.Lo,x.Y.Hi]
 all_goals
  go_enter Tryz.func66,Tryz.ntmps66
  go_wp2_with (go_at_call 131;refine(aDd _ _ _ _ (by omega) (by omega) Q).mono ?_;rw[V];rintro e W ⟨rfl,rfl⟩)
  all_goals(go_ret;exact⟨N4 (by simp[K.kS.valid,V]<;>omega),Bu (Bu (Below.refl _ _) _) _⟩)
def aim(x y:K.Range)(r:Bool)(X:x.vf y=r)(w:World):
  Calls Tryz.prog 73 #[x.v,y.v] w λe W=>e=.returned (.bool r)/\Below w.heap.size w W:=by
 subst X;by_cases V:x.Lo<=y.Hi
 all_goals
  go_enter Tryz.func73,Tryz.ntmps73;go_wp2
  all_goals(go_ret;exact⟨N4 (by simp[K.Range.vf]<;>omega),Bu (Bu (Below.refl _ _) _) _⟩)
def aDe(a b:K.kS)(w:World):
  Calls Tryz.prog 67 #[a.v,b.v,.func (.func 73) #[] #[]] w λe O=>e=.returned (.bool (a.vf b))/\Below w.heap.size w O:=by
 cases R:a.X.vf b.X
 ·have W:=Lib.hid R;clear R;go_enter Tryz.func67,Tryz.ntmps67
  go_wp2_with (go_at_call 73;refine(aim ⟨_,_⟩ ⟨_,_⟩ E W.out _).mono ?_;rintro e N ⟨rfl,V⟩;obtain⟨M,L⟩:=auD V)
  go_ret;exact⟨N4 (by simp[K.kS.vf,W.out]),Fj (Bu (Bu (Below.refl _ _) _) _) V⟩
 ·have W:=Lib.hid R;clear R;cases Q:a.Y.vf b.Y
  all_goals
   have P:=Lib.hid Q;clear Q;go_enter Tryz.func67,Tryz.ntmps67
   go_wp2_with fail
   refine(aim ⟨_,_⟩ ⟨_,_⟩ J W.out _).mono ?_;rintro e N ⟨rfl,V⟩;obtain⟨M,L⟩:=auD V
   go_wp2_with fail
   refine(aim ⟨_,_⟩ ⟨_,_⟩ _ P.out _).mono ?_;rintro e G ⟨rfl,H⟩;go_wp2;go_ret;exact⟨N4 (by simp[K.kS.vf,W.out,P.out]),Fj (Fj (Bu (Bu (Below.refl _ _) _) _) V) H⟩
abbrev K.Vec.v(x:K.Vec):Value:=.agg #[.int I x.X,.int I x.Y,.int I x.Z]
def aDf(a b:K.kS)(Q:a.valid=J)(P:b.valid=J)(r:Bool)(O:a.vf b= !r)(w:World):
  Calls Tryz.prog 26 #[a.v,b.v] w λe N=>e=.returned (.tuple #[.bool r,.int I 0])/\Below w.heap.size w N:=by
 have M:=Lib.hid Q;clear Q;have L:=Lib.hid P;clear P;have H:=Lib.hid O;clear O;go_enter Tryz.func26,Tryz.ntmps26
 go_wp2_with fail
 refine(Td ⟨⟨_,_⟩,⟨_,_⟩⟩ J M.out _).mono ?_;rintro e D ⟨rfl,W⟩;have V:=((Bx.new w _ _).alloc _).below W;have X:=(Bx.new (w.alloc _) _ _).below W;simp only[ajR] at X;have G:=X.cell
 go_wp2_with fail
 refine(Td ⟨⟨_,_⟩,⟨_,_⟩⟩ J L.out _).mono ?_;rintro e B ⟨rfl,R⟩;replace V:=V.below R;replace X:=X.below R;have A:=V.cell;have G:=X.cell
 go_wp2_with fail
 refine(aDe ⟨⟨_,_⟩,⟨_,_⟩⟩ ⟨⟨_,_⟩,⟨_,_⟩⟩ _).mono ?_;rw[show K.kS.vf ⟨⟨_,_⟩,⟨_,_⟩⟩ ⟨⟨_,_⟩,⟨_,_⟩⟩= !r from H.out];rintro e z ⟨rfl,F⟩;go_wp2
 go_ret2
 refine⟨by simp, ?_⟩
 repeat' first|with_reducible apply Bu|with_reducible apply ail|(with_reducible refine aik ?_ (by dsimp only;omega) _)|with_reducible exact Below.refl _ _|(refine Fj ?_ F)|(refine Fj ?_ R)|(refine Fj ?_ W)
end Go.Proofs.YtieaiocljdpebaaGreatDoor
namespace Go.Proofs.YtieaiocljdpebaaGreatDoor.Y
open Go.RowKit
noncomputable section
variable{A:FuncId}{u:Func}{t:Code}{X z n:Nat}{k:T}{M:TypeId}{Q F:ar}{x:bq}{w:bw}{H:World}{v:Bool}{y:List (Nat×Nat×fU)}
def aDg(a b:K.kS)(X:a.valid=E)(w:World):Calls Tryz.prog 26 #[a.v,b.v] w λe R=>e=.returned (.tuple #[.bool E,.int I 150])/\Below w.heap.size w R:=by
 have Q:=Lib.hid X;clear X;go_enter Tryz.func26,Tryz.ntmps26
 go_wp2_with fail
 refine(Td ⟨⟨_,_⟩,⟨_,_⟩⟩ E Q.out _).mono ?_;rintro e P ⟨rfl,W⟩;have V:=(Bx.new (w.alloc _) _ _).below W;simp only[ajR] at V;have O:=V.cell;go_wp2
 go_ret2
 refine⟨aw, ?_⟩
 repeat' first|with_reducible apply Bu|with_reducible apply ail|(with_reducible refine aik ?_ (by dsimp only;omega) _)|with_reducible exact Below.refl _ _|(refine Fj ?_ W)
def aDh(a b:K.kS)(Q:a.valid=J)(P:b.valid=E)(w:World):Calls Tryz.prog 26 #[a.v,b.v] w λe O=>e=.returned (.tuple #[.bool E,.int I 150])/\Below w.heap.size w O:=by
 have N:=Lib.hid Q;clear Q;have M:=Lib.hid P;clear P;go_enter Tryz.func26,Tryz.ntmps26
 go_wp2_with fail
 refine(Td ⟨⟨_,_⟩,⟨_,_⟩⟩ J N.out _).mono ?_;rintro e H ⟨rfl,W⟩;have V:=((Bx.new w _ _).alloc _).below W;have X:=(Bx.new (w.alloc _) _ _).below W;simp only[ajR] at X;have L:=X.cell
 go_wp2_with fail
 refine(Td ⟨⟨_,_⟩,⟨_,_⟩⟩ E M.out _).mono ?_;rintro e G ⟨rfl,R⟩;replace V:=V.below R;replace X:=X.below R;have F:=V.cell;have L:=X.cell;go_wp2
 go_ret2
 refine⟨aw, ?_⟩
 repeat' first|with_reducible apply Bu|with_reducible apply ail|(with_reducible refine aik ?_ (by dsimp only;omega) _)|with_reducible exact Below.refl _ _|(refine Fj ?_ R)|(refine Fj ?_ W)
def S.bare(s:S):S:=⟨[],[],s.ni,s.nb,s.rs,0,0,s.pd⟩
def aae:XE->S->T:=λe s=>.out e s.bare
section
variable{g:aq}{q:World}{D:cF}{V:aq}{O:ai}{s:S}{a:Act}{W:World}{o:Ty}{cf:bL}{p:Sp}
def aE.bare(R:aE g q D o V O s a W):aE g q D o [] O s.bare ⟨#[],a.defers⟩ W where
 mem:=⟨R.mem.base,λi h=>by simp[S.bare,aW,cJ] at h,λi j h=>by simp[S.bare,aW,cJ] at h,λi t M h=>by simp[S.bare,cJ] at h,λk e X Q P=>⟨(R.mem.aj k e X Q P).1,λb L i h=>by simp[S.bare,aW,cJ] at h⟩⟩
 gX:=rfl
 ei:=R.ei
 eb:=R.eb
 er:=R.er
 dO:=R.dO
 size:=rfl
 tmps:=λt H h=>by simp[S.bare] at h
 gH:=λk e X b Q P N=>⟨(R.gH k e X b Q P N).own,(R.gH k e X b Q P N).mem,λi h=>by simp[S.bare,aW,cJ] at h,(R.gH k e X b Q P N).alone,(R.gH k e X b Q P N).inner⟩
def aDi(H:mq p cf)(r:p.P.funcs[A]?=U u)(b:u.body=U t)(h0:u.results.toList=[])(hD:p.D=cF.none){N:ap}{s:S}{O:ai}{V:aq}
  (ht:gq cf X A t {s with tmps:=N++eH (u.ntmps-Y N) (.b9 [])} j6 aae=k)(B:k.ba p O [])(hg:fO cf.gl O)(R:aE p.S0 p.w0 cF.none cf.ty V O {s with tmps:=[]} ⟨#[],[]⟩ p.w0)
  (hQ:∀e a W,p.Q e a W->(e=.normal\/e=.ret)/\p.R (.returned (.tuple #[])) W):
  Calls p.P A (C.aK O V N).toArray p.w0 p.R:=by
 subst ht;refine P2 r b ?_;have RE:=R.enter N u.ntmps R.dO;refine(VT H X).1 cF.none ⟨{s with tmps:=N++eH (u.ntmps-Y N) (.b9 [])},O,V,[]⟩ j6 Z A t _ _ [] O V _ p.w0 _ (I6 _ _) (ml.here _ _ _ _) rfl (λhh=>by cases hh) ⟨u,r⟩ B RE hg ?_ ?_;intro m M z pd y hA hR;obtain⟨ac,G,q0,x,F⟩:=hA.oa;show LeavesInM Fence.wide 0 p.P u M.tmps p.R M.defers (.panicking m) z;rw[G];exact vP aw (zS.1 x).1 (λd L=>(F d (by simp[L])).1) (P5 (H.Vv m) (λd L=>(F d (by simp[L])).2) hR);intro e s' O' V' M z L' hl hL j B;obtain⟨ac,G,q0,x,F⟩:=j.dO.oa;have i:=j.sW G;have w:=hQ _ _ _ (B O'.y [] _ _ (by rw[H.pt,hD];exact i.bare));have h:LeavesInM Fence.wide 0 p.P u M.tmps p.R M.defers .returning (z):=by
  rw[G];refine vP aw (zS.1 x).1 (λd L=>(F d (by simp[L])).1) ⟨_,PN (l:=[]) i H.mN (by rw[h0];rfl), ?_⟩;exact w.2
 cases e with
 |normal=>exact h
 |ret=>exact h
 |bD v=>have:=w.1;simp[XE.to] at this
 |exit id=>have:=w.1;simp[XE.to] at this
def aDj{A:oE}(R:aE (lG A n).toList q D cf.ty V O s a W)(y:s.rs[X]?=U (.own M))(x:O.rv X=.mk (.slice A z n) Q):
  q.grownBy W (lG A n)/\F6 q W M (bH cf.ty (.sl M)).length (lG A n) Q A n:=by
 obtain⟨l,j,g,P,L,G⟩:=PE R y;rw[x] at P L;simp only[RV.nK] at P L;injection P with P _;injection P with w F v;subst w;subst F;subst v;obtain⟨F,f⟩:=uy L;have N:=R.mem.base;refine⟨⟨N.os,N.tape,N.output,N.size,λi u t=>N.block i u (λH=>t ?_)⟩,⟨aa,G.nil, ?_⟩⟩;exact((by simpa[Option.mem_toList] using H:lG A n=U i)).symm;rcases G.mem with h|⟨b,r,rfl,B,H,m⟩;exact .inl h;cases n with
 |zero=>exact .inl rfl
 |succ c=>exact .inr ⟨b,r,rfl,B,H,m,acg L B,.inr rfl⟩
end
section
variable{lt:aM->aM->Bool}{p:aM->Prop}
structure mc(lt:aM->aM->Bool)(p:aM->Prop):Prop where
 irr:∀x,p x->lt x x=E
 tr:∀x y z,p x->p y->p z->lt x y=J->lt y z=J->lt x z=J
 nt:∀x y z,p x->p y->p z->lt x y=E->lt y z=E->lt x z=E
def mc.asym(h:mc lt p){x y:aM}(X:p x)(W:p y)(V:lt x y=J):lt y x=false:=by
 cases R:lt y x;rfl;have:=h.tr x y x X W X V R;rw[h.irr x X] at this;cases this
def auF(h:mc lt p){x y:aM}(W:p x)(V:p y)(X:lt y x=J):∀{l:ar},(∀z∈l,p z)->eB lt y (eB lt x l)=eB lt x (eB lt y l)
 |[],_=>by
  have R:=h.asym V W X;simp[eB,X,R]
 |z::r,O=>by
  have N:=O z aw;have M:=auF h W V X (l:=r) (λw L=>O w (by simp[L]));have R:=h.asym V W X;cases Q:lt x z;cases P:lt y z;simp[eB,Q,P,M];simp[eB,Q,P,R];have P:lt y z=true:=h.tr y x z V W N X Q;simp[eB,Q,P,X,R]
inductive gM(lt:List RV->List RV->Bool)(l:List (List RV)):List (List RV)->Prop
 |refl:gM lt l l
 |step {P Q:List (List RV)} {x y:List RV}:lt y x=J->gM lt l (P++x::y::Q)->gM lt l (P++y::x::Q)
def gM.trans{b:ar}(X:gM lt Q b)(W:gM lt b F):gM lt Q F:=by
 induction W with
 |refl=>exact X
 |step h _ V=>exact .step h V
def gM.N5(A B:ar)(h:gM lt Q F):gM lt (A++Q++B) (A++F++B):=by
 induction h with
 |refl=>exact .refl
 | @step P X x y h _ W=>
  have V:A++(P++x::y::X)++B=(A++P)++x::y::(X++B):=aw;have R:A++(P++y::x::X)++B=(A++P)++y::x::(X++B):=aw;rw[V] at W;rw[R];exact .step h W
def gM.perm(h:gM lt Q F):F.Perm Q:=by
 induction h with
 |refl=>exact axk _
 |step _ _ X=>exact((aKS _ _ _).append_left _).trans X
def gM.auG(P:ar)(b:aM):∀(A Q:ar),(∀a∈A,lt b a=J)->gM lt (P++A.reverse++b::Q) (P++b::(A.reverse++Q))
 |[],Q,_=>by simpa using gM.refl
 |a::A,Q,h=>by
  have X:gM lt (P++(a::A).reverse++b::Q) ((P++A.reverse)++b::a::Q):=by
   have:P++(a::A).reverse++b::Q=(P++A.reverse)++a::b::Q:=aw;rw[this];exact .step (h a aw) .refl
  have W:=gM.auG P b A (a::Q) (λx V=>h x (by simp[V]));have e:P++b::((a::A).reverse++Q)=P++b::(A.reverse++a::Q):=aw;rw[e];exact X.trans W
def gM.one(P Q:ar)(b:aM)(A:ar)(h:∀a∈A,lt b a=J):gM lt (P++A++b::Q) (P++b::(A++Q)):=by
 have:=gM.auG (lt:=lt) P b A.reverse Q (λa X=>h a (by simpa using X));simpa using this
def gM.block(Q:ar)(A:ar):∀(B P:ar),(∀a∈A,∀b∈B,lt b a=J)->gM lt (P++A++(B++Q)) (P++B++(A++Q))
 |[],P,_=>by simpa using gM.refl
 |b::B,P,h=>by
  have W:=gM.one P (B++Q) b A (λa X=>h a X b aw);have V:=gM.block Q A B (P++[b]) (λa X R O=>h a X R (by simp[O]));have N:P++b::(A++(B++Q))=P++[b]++A++(B++Q):=aw;have M:P++b::B++(A++Q)=P++[b]++B++(A++Q):=aw;rw[N] at W;rw[M];exact W.trans V
def zF(lt:aM->aM->Bool)(acc l:ar):ar:=l.foldl (λacc x=>eB lt x acc) acc
def aDk{acc:ar}(V:∀z∈acc,p z)(R:∀z∈Q,p z):∀z∈zF lt acc Q,p z:=by
 induction Q generalizing acc with
 |nil=>exact V
 |cons x Q X=>
  refine X (acc:=eB lt x acc) (λz W=> ?_) (λz W=>R z (by simp[W]));have Fk:∀{Q:ar},z∈eB lt x Q->z=x\/z∈Q:=by
   intro Q;induction Q with
   |nil=>intro h;simpa[eB] using h
   |cons y r X=>
    intro h;simp only[eB] at h;split at h;simpa using h;rcases dS.1 h with h|h;exact .inr (by simp[h]);rcases X h with h|h;exact .inl h;exact .inr (by simp[h])
  rcases Fk W with rfl|h;exact R _ aw;exact V z h
def gM.fold(h:mc lt p)(W:gM lt Q F){acc:ar}(N:∀z∈Q,p z)(M:∀z∈acc,p z):zF lt acc F=zF lt acc Q:=by
 induction W with
 |refl=>rfl
 | @step P X x y L W H=>
  rw[<-H];have V:=λz(R:z∈P++x::y::X)=>N z (W.perm.mem_iff.1 R)
  have O:∀z∈zF lt acc P,p z:=aDk M λz R=>V z (by simp[R])
  simp only[zF,List.foldl_append,FF] at O⊢;rw[auF h (V x aw) (V y aw) L O]
def gT(lt:aM->aM->Bool)(l:ar):Prop:=l.Pairwise λa b=>lt b a=E
def auH{x:aM}:∀{l:ar},(∀y∈l,lt x y=E)->eB lt x l=l++[x]
 |[],_=>rfl
 |y::r,h=>by
  have X:=h y aw;simp[eB,X,auH (l:=r) λz W=>h z (by simp[W])]
def aDl:∀{acc:ar},gT lt (acc++Q)->zF lt acc Q=acc++Q:=by
 induction Q with
 |nil=>intro acc _;simp[zF]
 |cons x Q X=>
  intro acc h;have W:∀y∈acc,lt x y=false:=λy V=>(nW.1 h).2.2 y V x aw
  have e:acc++x::Q=(acc++[x])++Q:=aw;rw[e] at h⊢;rw[<-X h];simp only[zF,FF];rw[auH W]
def aag(h:gT lt Q):bX lt Q=Q:=aDl (acc:=[]) h
def Te{x z:aM}:∀{l:ar},z∈eB lt x l->z=x\/z∈l
 |[],h=>by simpa[eB] using h
 |y::r,h=>by
  simp only[eB] at h;split at h;simpa using h;rcases dS.1 h with h|h;exact .inr (by simp[h]);rcases Te h with h|h;exact .inl h;exact .inr (by simp[h])
def gT.ins(h:mc lt p){x:aM}(W:p x):∀{l:ar},(∀z∈l,p z)->gT lt l->gT lt (eB lt x l)
 |[],_,_=>aKs _ _
 |y::r,V,Q=>by
  have P:=V y aw;have R:=jS.1 Q;simp only[eB];cases O:lt x y;refine jS.2 ⟨λz X=> ?_,gT.ins h W (λz X=>V z (by simp[X])) R.2⟩;rcases Te X with rfl|X;exact O;exact R.1 z X;refine jS.2 ⟨λz X=> ?_,Q⟩;have N:=h.asym W P O;rcases dS.1 X with rfl|X;exact N;exact h.nt z y x (V z (by simp[X])) P W (R.1 z X) N
def gT.fold(h:mc lt p):∀{acc:ar},(∀z∈acc,p z)->(∀z∈Q,p z)->gT lt acc->gT lt (zF lt acc Q):=by
 induction Q with
 |nil=>intro acc _ _ h;exact h
 |cons x Q R=>
  intro acc V W P;refine R (acc:=eB lt x acc) (λz X=> ?_) (λz X=>W z (by simp[X])) (P.ins h (W x aw) V);rcases Te X with rfl|X;exact W _ aw;exact V z X
def Fl(h:mc lt p){l:ar}(X:∀z∈l,p z):gT lt (bX lt l):=gT.fold h (acc:=[]) aw X yq
def gM.ins(h:mc lt p){x:aM}(V:p x):∀{l:ar},(∀z∈l,p z)->gT lt l->gM lt (l++[x]) (eB lt x l)
 |[],_,_=>.refl
 |y::r,W,P=>by
  have O:=W y aw;have R:=jS.1 P;simp only[eB];cases Q:lt x y;have:=(gM.ins h V (l:=r) (λz X=>W z (by simp[X])) R.2).N5 [y] [];simpa using this;have:=gM.one (lt:=lt) [] [] x (y::r) (λz X=>by
   rcases dS.1 X with rfl|X;exact Q;cases N:lt x z;have:=h.nt x z y V (W z (by simp[X])) O N (R.1 z X);rw[Q] at this;cases this;rfl)
  simpa using this
def gM.aDm(h:mc lt p):∀{acc:ar},(∀z∈acc,p z)->(∀z∈Q,p z)->gT lt acc->gM lt (acc++Q) (zF lt acc Q):=by
 induction Q with
 |nil=>intro acc _ _ _;simpa[zF] using gM.refl
 |cons x Q P=>
  intro acc V W R;have O:=(gM.ins h (W x aw) V R).N5 [] Q;have N:=P (acc:=eB lt x acc) (λz X=>by
   rcases Te X with rfl|X;exact W _ aw;exact V z X) (λz X=>W z (by simp[X])) (R.ins h (W x aw) V)
  have e:acc++x::Q=[]++(acc++[x])++Q:=aw;rw[e];refine O.trans ?_;rw[di];exact N
def gM.aah(h:mc lt p)(X:∀z∈Q,p z):gM lt Q (bX lt Q):=by
 exact gM.aDm h (acc:=[]) aw X yq
def ain(h:mc lt p)(X:∀z∈Q,p z)(W:gM lt Q F)(V:gT lt F):bX lt Q=F:=by
 rw[<-aag V];exact(W.fold h (acc:=[]) X aw).symm
def Kk{z:aM}(h:z∈bX lt Q):z∈Q:=by
 have:∀(Q acc:ar),z∈zF lt acc Q->z∈acc\/z∈Q:=by
  intro Q;induction Q with
  |nil=>intro acc h;exact .inl h
  |cons x Q X=>
   intro acc h;rcases X (eB lt x acc) h with h|h;rcases Te h with rfl|h;exact .inr aw;exact .inl h;exact .inr (by simp[h])
 rcases this Q [] h with h|h;cases h;exact h
def aDn(h:mc lt p){x:aM}(V:∀z∈x::(Q++F),p z)(O:gT lt (Q++F))(P:∀y∈Q,lt y x=J)(N:∀y∈F,lt y x=E):bX lt (x::(Q++F))=Q++x::F:=by
 refine ain h V ?_ ?_;have:=gM.block (lt:=lt) F [x] Q [] (λa X b W=>by simp at X;subst X;exact P b W);simpa using this;have R:=nW.1 O;refine nW.2 ⟨R.1,jS.2 ⟨N,R.2.1⟩,λa X b W=> ?_⟩;rcases dS.1 W with rfl|W;exact h.asym (V a (by simp[X])) (V b aw) (P a X);exact R.2.2 a X b W
def aDo(h:mc lt p){y:aM}(W:∀z∈Q++F++[y],p z)(O:gT lt (Q++F))(N:∀x∈Q,lt y x=E)(R:∀x∈F,lt y x=J):bX lt (Q++F++[y])=Q++y::F:=by
 refine ain h W ?_ ?_;have:=gM.one (lt:=lt) Q [] y F R;simpa using this;have V:=nW.1 O;refine nW.2 ⟨V.1,jS.2 ⟨λb X=>h.asym (W y aw) (W b (by simp[X])) (R b X),V.2.1⟩,λa P b X=> ?_⟩;rcases dS.1 X with rfl|X;exact N a P;exact V.2.2 a P b X
def aDp(h:mc lt p){V R:ar}(P:∀z∈Q++F++(V++R),p z)(D:gT lt (Q++F))(B:gT lt (V++R))(A:∀x∈Q,∀y∈R,lt y x=E)(L:∀x∈F,∀y∈V,lt y x=J):
  bX lt (Q++F++(V++R))=bX lt (Q++V)++bX lt (F++R):=by
 have w:=nW.1 D;have v:=nW.1 B;have O:∀z∈Q++V,p z:=λz N=>P z (by rcases fh.1 N with h|h<;>simp[h])
 have M:∀z∈F++R,p z:=λz N=>P z (by rcases fh.1 N with h|h<;>simp[h])
 refine ain h P ?_ ?_;have u:=gM.block (lt:=lt) R F V Q L;have H:=(gM.aah h O).N5 [] (F++R);have G:=(gM.aah h M).N5 (bX lt (Q++V)) [];simp only[di,KQ] at H G;exact(u.trans H).trans G;refine nW.2 ⟨Fl h O,Fl h M,λa W b X=> ?_⟩;have W:=Kk W;have X:=Kk X;have t:=O a W;have s:=M b X;rcases fh.1 W with W|W;rcases fh.1 X with X|X;exact w.2.2 a W b X;exact A a W b X;rcases fh.1 X with X|X;exact h.asym t s (L b X a W);exact v.2.2 a W b X
def auI(h:mc lt p)(X:∀z∈Q,p z)(W:∀z∈F,p z):bX lt (bX lt Q++bX lt F)=bX lt (Q++F):=by
 have V:=(gM.aah h X).N5 [] F;have R:=(gM.aah h W).N5 (bX lt Q) [];simp only[di,KQ] at V R;exact(V.trans R).fold h (acc:=[]) (λz P=>by exact(fh.1 P).elim (X z) (W z)) aw
end
section
def auJ(d:Bool):∀(Q:aq)(x y z:aM),kg d Q x y=E->kg d Q y z=E->kg d Q x z=E
 |[],_,_,_,_,_=>rfl
 |c::Q,x,y,z,V,X=>by
  simp only[kg] at V X⊢;by_cases R:aN c x=aN c y;rw[aL R] at V;by_cases W:aN c y=aN c z;rw[aL W] at X;rw[aL (R.trans W)];exact auJ d Q x y z V X;rw[aP W] at X;rw[aP (by rw[R];exact W),R];exact X;rw[aP R] at V;by_cases W:aN c y=aN c z;rw[aP (by rw[<-W];exact R),<-W];exact V;rw[aP W] at X;cases d;simp only[jR,gD,decide_eq_false_iff_not] at V X⊢;rw[aP aa];simp only[decide_eq_false_iff_not];omega;simp only[cN,decide_eq_false_iff_not] at V X⊢;rw[aP aa];simp only[decide_eq_false_iff_not];omega
def auK(d:Bool):∀(X:aq)(x:aM),kg d X x x=E
 |[],_=>rfl
 |c::X,x=>by simp[kg,auK d X x]
def auL(d:Bool):∀(Q:aq)(x y z:aM),kg d Q x y=J->kg d Q y z=J->kg d Q x z=J
 |[],_,_,_,h,_=>by simp[kg] at h
 |c::Q,x,y,z,V,X=>by
  simp only[kg] at V X⊢;by_cases R:aN c x=aN c y;rw[aL R] at V;by_cases W:aN c y=aN c z;rw[aL W] at X;rw[aL (R.trans W)];exact auL d Q x y z V X;rw[aP W] at X;rw[aP (by rw[R];exact W),R];exact X;rw[aP R] at V;by_cases W:aN c y=aN c z;rw[aP (by rw[<-W];exact R),<-W];exact V;rw[aP W] at X;cases d;simp only[jR,gD,cz] at V X⊢;rw[aP aa];simp only[cz];omega;simp only[cN,cz] at V X⊢;rw[aP aa];simp only[cz];omega
def N6(X:aq)(d:Bool):mc (bq.lex X d).lt (λx=>(bq.lex X d).ok x=J):=
 ⟨λx _=>auK d X x,λx y z _ _ _=>auL d X x y z,λx y z _ _ _=>auJ d X x y z⟩
def N7{n d:Int}(h:ga n d=J):0<d:=by
 simp only[ga,aA,cz] at h;omega
def Tf(n d:Nat):mc (bq.ratio n d).lt (λx=>(bq.ratio n d).ok x=J):=by
 refine⟨λx _=> ?_,λx y z V R Q X W=> ?_,λx y z V R Q X W=> ?_⟩;simp[bq.lt];have P:=N7 V;have N:=N7 R;have O:=N7 Q;simp only[bq.lt,cz] at X W⊢;have M:=aKk X O;have L:=aKk W P;refine Int.lt_of_mul_lt_mul_left (a:=aN d y) ?_ aa;have H:aN n x*aN d y*aN d z=aN d y*(aN n x*aN d z):=by ac_rfl
 have G:aN n y*aN d x*aN d z=aN n y*aN d z*aN d x:=by ac_rfl
 have F:aN n z*aN d y*aN d x=aN d y*(aN n z*aN d x):=by ac_rfl
 omega;have P:=N7 V;have N:=N7 R;have O:=N7 Q;simp only[bq.lt,decide_eq_false_iff_not,Int.not_lt] at X W⊢;have M:=ajF X (show 0<=aN d z from aa);have L:=ajF W (show 0<=aN d x from aa);refine Int.le_of_mul_le_mul_left (a:=aN d y) ?_ aa;have H:aN n x*aN d y*aN d z=aN d y*(aN n x*aN d z):=by ac_rfl
 have G:aN n y*aN d x*aN d z=aN n y*aN d z*aN d x:=by ac_rfl
 have F:aN n z*aN d y*aN d x=aN d y*(aN n z*aN d x):=by ac_rfl
 omega
end
section
variable{lt:aM->aM->Bool}{p:aM->Prop}
def qE(W:ar)(V:X<=z)(R:z<=n):bo W X n=bo W X z++bo W z n:=by
 simp only[bo];have e:n-X=(z-X)+(n-z):=aa;rw[e,List.take_add,OH,show X+(z-X)=z from aa]
def N8(W:ar)(V:X<=z):W.take X++(bo W X z++W.drop z)=W:=by
 simp only[bo];have e:W.drop z=(W.drop X).drop (z-X):=by rw[OH];congr 1;omega
 rw[e,KN,KN]
def Tg(X:ar){a b i:Nat}(h:i<b-a):(bo X a b)[i]?=X[a+i]?:=by
 simp only[bo,nA,h,cN,vw]
def sC(W:ar)(h:z<=Y W):(bo W X z).length=z-X:=by simp[bo];omega
def HL{x:aM}(h:x∈bo Q X z):∃i,X<=i/\i<z/\i<Y Q/\Q.getD i []=x:=by
 obtain⟨i,W⟩:=ue h;have V:=(cj.1 W).1;simp only[bo,FD,FE] at V;rw[Tg Q aa] at W;exact⟨X+i,aa,aa,aa,by simp[dL,W]⟩
def N9(W:z<=Y Q)(h:gT lt (bo Q X z)){i j:Nat}(R:X<=i)(O:i<j)(P:j<z):lt (Q.getD j []) (Q.getD i [])=false:=by
 have:=Oz.1 h (i-X) (j-X) (by rw[sC Q W];omega) (by rw[sC Q W];omega) aa;have e:∀k(V:k-X<(bo Q X z).length),X<=k->k<z->(bo Q X z)[k-X]=Q.getD k []:=λk V N M=>by
  have q:=Tg Q (a:=X) (b:=z) (i:=k-X) aa;rw[cL V,show X+(k-X)=k from aa] at q;simp[dL,<-q]
 rw[e i _ R aa,e j _ aa P] at this;exact this
def auM:yK lt Q=J<->gT lt Q:=by
 induction Q with
 |nil=>exact⟨λ_=>yq,λ_=>rfl⟩
 |cons x r X=>
  simp only[yK,aA,X,f9,iK,gT,jS]
def aDq(h:mc lt p)(H:∀W∈Q,p W){e b:Nat}(G:X<=z)(F:z<=n)(D:n<=e)(B:e<=b)(t:b<=Y Q)(A:gT lt (bo Q X n))(w:gT lt (bo Q n b))
  (v:∀i j,X<=i->i<z->e<=j->j<b->lt (Q.getD j []) (Q.getD i [])=E)(u:∀i j,z<=i->i<n->n<=j->j<e->lt (Q.getD j []) (Q.getD i [])=J):
  bX lt (bo Q X b)=bX lt (bo Q X z++bo Q n e)++bX lt (bo Q z n++bo Q e b):=by
 rw[qE Q (show X<=n from aa) (show n<=b from aa),qE Q G F,qE Q D B] at*;refine aDp h (λW V=>H W ?_) A w (λx R y P=> ?_) (λx R y P=> ?_);simp only[fh] at V;rcases V with(V|V)|(V|V)<;>exact vO V;obtain⟨i,O,N,_,rfl⟩:=HL R;obtain⟨j,M,L,_,rfl⟩:=HL P;exact v i j O N M L;obtain⟨i,O,N,_,rfl⟩:=HL R;obtain⟨j,M,L,_,rfl⟩:=HL P;exact u i j O N M L
end
def kb:mf->aM->Prop
 |[],x=>x=[]
 |b::X,c::r=>(if b then∃n,c=.mk (.int I n) [] else∃q,c=.mk (.bool q) [])/\kb X r
 |_::_,[]=>False
def Fm(b:Bool):CT:=if b then .int I else .bool
def wL(c:RV):RV:=.mk c.val []
def fK(X:ar):ar:=X.map λW=>W.map wL
def aio(c:Nat)(x:aM):aN c (x.map wL)=aN c x:=by
 simp only[aN,dL,dX];cases x[c]?<;>rfl
def auN(d:Bool)(x y:aM):∀X,kg d X (x.map wL) (y.map wL)=kg d X x y
 |[]=>rfl
 |c::X=>by simp only[kg,aio,auN d x y X]
def aip(o:bq)(x y:aM):o.lt (x.map wL) (y.map wL)=o.lt x y:=by
 cases o with
 |lex X d=>exact auN d x y X
 |ratio n d=>simp only[bq.lt,aio]
 |dp k o W=>rfl
def aDr(o:bq)(x:aM):o.ok (x.map wL)=o.ok x:=by
 cases o with
 |lex X d=>rfl
 |ratio n d=>simp only[bq.ok,aio]
 |dp k o W=>rfl
def auO(o:bq)(x:aM):∀l,eB o.lt (x.map wL) (fK l)=fK (eB o.lt x l)
 |[]=>rfl
 |y::r=>by
  have X:=auO o x r;simp only[fK,eW,eB,aip] at X⊢;split;rfl;rw[X];rfl
def auP(o:bq)(l:ar):bX o.lt (fK l)=fK (bX o.lt l):=by
 have:∀l acc,(fK l).foldl (λacc x=>eB o.lt x acc) (fK acc)=fK (l.foldl (λacc x=>eB o.lt x acc) acc):=by
  intro l;induction l with
  |nil=>intro acc;rfl
  |cons x l X=>
   intro acc;have:=X (eB o.lt x acc);rw[<-auO] at this;exact this
 exact this l []
def auQ(o:bq)(l:ar):(fK l).all o.ok=l.all o.ok:=by
 simp only[fK,OL];congr 1;funext x;exact aDr o x
def aDs(l:ar)(a b:Nat):bo (fK l) a b=fK (bo l a b):=by simp[bo,fK]
def auR(o:bq):∀l,yK o.lt (fK l)=yK o.lt l
 |[]=>rfl
 |x::r=>by
  have X:=auR o r;simp only[fK,eW,yK,OL] at X⊢;rw[X];congr 2;funext y;simp only[Function.comp,aip]
def aDt(l:ar)(a:Nat):(fK l).take a=fK (l.take a):=by simp[fK]
def aDu(l:ar)(a:Nat):(fK l).drop a=fK (l.drop a):=by simp[fK]
def aDv(l m:ar):fK (l++m)=fK l++fK m:=by simp[fK]
def Bw(l:ar):(fK l).length=Y l:=by simp[fK]
def aDw(h:nL X x w Q=U F):nL X x w (fK Q)=U (fK F):=by
 unfold nL at h⊢;split at h
 all_goals first|(split at h<;>first|(cases h;done)|skip)|skip
 all_goals first|(cases h;done)|skip
 all_goals
  rename_i W;cases h;simp only[Bw,auQ,aDs,auR,aDt,aDu,auP,<-aDv];rw[aL W]
def aDx(h:qg X x w Q=U F):qg X x w (fK Q)=U (fK F):=by
 obtain⟨W,V⟩:=Cf h;unfold qg;rw[Bw,aL W];exact aDw V
def auS(l:ar):eI (fK l)=eI l:=by
 simp only[eI,fK,List.flatMap_map];congr 1;funext x;simp only[pn];rfl
def auT:∀(X:mf)(W:aM),Y W=Y X->(∀(j:Nat)(c:RV)(k:IntKind),W[j]?=U c->(X.map Fm)[j]?=U (.int k)->∃n,c.val=.int k n)->(∀(j:Nat)(c:RV),W[j]?=U c->(X.map Fm)[j]?=U .bool->∃x,c.val=.bool x)->kb X (W.map wL)
 |[],[],_,_,_=>rfl
 |[],_::_,h,_,_=>by simp at h
 |_::_,[],h,_,_=>by simp at h
 |b::N,c::r,M,P,O=>by
  refine⟨?_,auT N r (by simpa using M) (λj c k V R=>P (j+1) c k (by simpa using V) (by simpa using R)) (λj c V R=>O (j+1) c (by simpa using V) (by simpa using R))⟩;cases b with
  |true=>
   obtain⟨n,Q⟩:=P 0 c I rfl rfl;exact⟨n,by simp[wL,Q]⟩
  |false=>
   obtain⟨n,Q⟩:=O 0 c rfl rfl;exact⟨n,by simp[wL,Q]⟩
def auU{L:Ty}{X:mf}(R:bH L (.sl M)=X.map Fm)(h:gg H L M Q):∀x∈fK Q,kb X x:=by
 intro x G;obtain⟨V,F,rfl⟩:=iL.1 G;obtain⟨i,P⟩:=ue F;refine auT X V ?_ (λj c k O N=>h.int i j V c k P O (by rw[R];exact N)) (λj c O N=>h.bool i j V c P O (by rw[R];exact N));have:=h.len i V P;rw[R,qJ] at this;exact this
def auV{w:Ty}{A:oE}(s:∀(j:Nat)(V:Value)(k:RK),(bH w (.sl M))[j]?≠U (.aS V k))(h:bI H w (.sl M) (.mk (.slice A X z) Q)):bI H w (.sl M) (.mk (.slice A X z) (fK Q)):=by
 have v:∀{i:Nat}{O:aM},(fK Q)[i]?=U O->∃R,Q[i]?=U R/\O=R.map wL:=by
  intro i O x;simp only[fK,dX,TX] at x;obtain⟨R,G,F⟩:=x;exact⟨R,G,F.symm⟩
 have u:∀{R:aM}{j:Nat}{c:RV},(R.map wL)[j]?=U c->∃P,R[j]?=U P/\c=wL P:=by
  intro R j c t;simp only[dX,TX] at t;obtain⟨P,G,F⟩:=t;exact⟨P,G,F.symm⟩
 cases h with
 |sl M A f z Q G F r x q d=>
  refine bI.sl M A X z (fK Q) (by rw[Bw];exact G) F (λi O N=> ?_) (λi j O c k N L D=> ?_) (λi j O c N L D=> ?_) (λi j O c V k N L D=>(s j V k D).elim);obtain⟨R,B,rfl⟩:=v N;obtain⟨p,b,o,m,l,g⟩:=r i R B;refine⟨by simpa using p,b,o,m,l,λj c L=> ?_⟩;obtain⟨P,y,rfl⟩:=u L;exact g j P y;obtain⟨R,B,rfl⟩:=v N;obtain⟨P,y,rfl⟩:=u L;exact x i j R P k B y D;obtain⟨R,B,rfl⟩:=v N;obtain⟨P,y,rfl⟩:=u L;exact q i j R P B y D
def Tgt(p:Sp)(e:TypeId)(v:Value)(aJ:ar):Prop:=∀(X:Exit)(s:S)(O:ai)(V:aq)(a:Act)(W:World)(k:Nat),(X=.normal\/X=.ret)->aE p.S0 p.w0 p.D p.ty V O s a W->s.rs[k]?=U (.own e)->O.rv k=.mk v aJ->p.Q X a W
def Kl(P:Program)(X:mf)(g:FuncId)(o:bq):Prop:=∀(W:World)(x y:aM),kb X x->kb X y->o.ok x=J->o.ok y=J->
 Calls P g #[.agg (x.map RV.val).toArray,.agg (y.map RV.val).toArray] W λV R=>Below W.heap.size W R/\∃c:Int,V=.returned (.int I c)/\(c<0<->o.lt x y=J)
def aai(X:mf)(e g:Nat)(o:bq)(F:bw->ar->DQ)(N:Nat)(t:T):Prop:=∀(p:Sp)(v:Value)(W aJ:ar)(V:bw),p.P=Tryz.prog->Kl Tryz.prog X g o->(∃A n R,v=.slice A n R/\Y W=n/\n<=1099511627776)->(∀x∈W,kb X x)->Y V=N->F V W=U aJ->Tgt p e v aJ->t.ba p ⟨V,[],[.mk v W],[]⟩ []
abbrev Th(X:mf)(e g:Nat)(o:bq)(k N:Nat)(t:T):Prop:=aai X e g o (qg k o) N t
def aiq{c:Code}{N n:Nat}{o:bq}{F:bw->ar->DQ}{K:mf}{t:T}{args:ap}{inl:aq}{loops:List (Nat×Nat×fU)}{srts:BL}{chs:Dx}
  (hf:Tryz.prog.funcs[A]?=U u)(k:u.body=U c)(h0:u.results.toList=[])(hi:inl.all (xu Tryz.prog)=J)(al:wK srts)(hK:bH (look TT) (.sl z)=K.map Fm)(an:Kl Tryz.prog K X o)
  (ht:gq (qX Tryz.prog TT SG [] inl loops srts E chs) n A c ⟨args++eH (u.ntmps-Y args) (.b9 []),[],N,0,[.own z],0,0,[]⟩ j6 aae=t)(hh:aai K z X o F N t)
  (a0:∀(D:bw)(r:RV),Y D=N->C.aK ⟨D,[],[r],[]⟩ [] args=r.val::(D.map (Value.int I)++[.func (.func X) #[] #[]]))
  (a1:∀(D:bw)(Q aJ:ar),F D Q=U aJ->F D (fK Q)=U (fK aJ))
  (ac:∀(D:bw)(Q aJ:ar),F D Q=U aJ->Y D=N/\Y Q<=1099511627776){P:oE}{L M:Nat}{aJ:ar}(hH:bI H (look TT) (.sl z) (.mk (.slice P L M) Q))(hR:LP H z (bH (look TT) (.sl z)).length P M)(hT:F w Q=U aJ):
  Calls Tryz.prog A (PK (.slice P L M) w X) H λen G=>en=.returned (.tuple #[])/\H.grownBy G (lG P M)/\F6 H G z (bH (look TT) (.sl z)).length (lG P M) aJ P M:=by
 have hN:=(ac _ _ _ hT).1;have hp:∀(j:Nat)(O:Value)(q:RK),(bH (look TT) (.sl z))[j]?≠U (.aS O q):=by
  intro j O q y;rw[hK,dX] at y;cases k:K[j]? with
  |none=>rw[k] at y;cases y
  |some b=>rw[k] at y;cases b<;>simp[Fm] at y
 have af:=auV hp hH;have ag:=a1 _ _ _ hT;obtain⟨a3,a4⟩:=uy af;let O0:ai:=⟨w,[],[.mk (.slice P L M) (fK Q)],[]⟩;let R:Ending->World->Prop:=λen G=>en=.returned (.tuple #[])/\H.grownBy G (lG P M)/\F6 H G z (bH (look TT) (.sl z)).length (lG P M) aJ P M
 let p:Sp:=⟨Tryz.prog,look TT,(lG P M).toList,H,cF.none,R,λd a G=>(d=.normal\/d=.ret)/\R (.returned (.tuple #[])) G⟩;have ok:mq p (qX Tryz.prog TT SG [] inl loops srts E chs):=VU N3 Z5 hi Z6 (λch G b ob _ h=>by have:=h.1;cases this) al;have a9:(C.aK O0 [] args).toArray=PK (.slice P L M) w X:=by rw[a0 w _ hN];rfl
 rw[<-a9];have bb:∀b,(RV.mk (.slice P L M) (fK Q)).lE=U b->lG P M=U b:=λb h=>by rw[LO] at h;exact h
 have bd:aE p.S0 p.w0 cF.none (look TT) [] O0 {(⟨[],[],N,0,[.own z],0,0,[]⟩:S) with tmps:=[]} ⟨#[],[]⟩ p.w0:=by
  refine⟨⟨iu.refl _ _,λi h=>by simp[aW,cJ] at h,λi j h=>by simp[aW,cJ] at h,λi t cs h=>by simp[cJ] at h,λq e' r B v=> ?_⟩,rfl,hN,rfl,rfl,Wa _ _,rfl,λt sv h=>by simp at h,λq e' r b B v h3=> ?_⟩;cases q with
  |succ q=>simp at B
  |zero=>
   simp only[Ds,cS] at B;have v:r=.mk (.slice P L M) (fK Q):=(me v).symm;subst B;subst v;refine⟨bI.own z _ af λl c hv=> ?_,λb _ i h=>by simp[aW,cJ] at h⟩;simp only[RV.nJ,Value.slice.injEq] at hv;rw[<-hv.2.2];exact hR.nil hv.1
  cases q with
  |succ q=>simp at B
  |zero=>
   simp only[Ds,cS] at B;have v:r=.mk (.slice P L M) (fK Q):=(me v).symm;injection B with B;subst B;subst v;have m:=bb b h3;refine⟨.inr (by show b∈(lG P M).toList;rw[m];simp), ?_,λi h=>by simp[aW,cJ] at h,λk' e' bt hk h=> ?_, ?_⟩;rcases hR.mem with y|⟨b',bf,rfl,hg,hm,bg⟩
   ·subst y;unfold lG at m;split at m<;>first|(cases m;done)|omega|skip
    all_goals simp_all
   have bk:b'=b:=by
    cases M with
    |zero=>cases m
    |succ c=>exact me m
   subst bk;exact⟨L,M,bf,rfl,hg,a4,hm,bg⟩;cases k' with
   |zero=>exact aG rfl hk
   |succ k'=>simp at h
   rintro⟨i,j,bx,c,O,q,_,_,hq,_⟩;exact hp j O q hq
 have bl:L<=1099511627776:=by
  have:=(ac _ _ _ ag).2;omega
 have br:=hh p (.slice P L M) (fK Q) (fK aJ) w rfl an ⟨P,L,M,rfl,a3,bl⟩ (auU hK (gg.yN hH)) hN ag (λd s O1 V a G k' bs RR hk hr=>by
  refine⟨bs,rfl, ?_⟩;obtain⟨g1,g2⟩:=aDj (cf:=qX Tryz.prog TT SG [] inl loops srts E chs) RR hk hr;exact⟨g1,⟨by have:=g2.le;rwa [Bw] at this,g2.nil,by have:=g2.mem;rwa [auS,Bw] at this⟩⟩)
 exact aDi ok hf k h0 rfl ht br (λx hx=>by simp[qX] at hx) bd (λd a G h=>h)
def aDy{V:Nat}{G:bq}{F:bw->ar->DQ}{R:mf}{H:ap}{D:BL}{w:Dx}
  (s:Tryz.prog.funcs[A]?=U u)(r:u.body=U t)(q:u.results.toList=[])(p:xu Tryz.prog A=J)(m:wK D)(l:bH (look TT) (.sl z)=R.map Fm)(j:Kl Tryz.prog R X x)
  (i:gq (qX Tryz.prog TT SG [] [] y D E w) V A t ⟨H++eH (u.ntmps-Y H) (.b9 []),[],n,0,[.own z],0,0,[]⟩ j6 aae=k)(h:aai R z X x F n k)
  (d:∀(P:bw)(B:RV),Y P=n->C.aK ⟨P,[],[B],[]⟩ [] H=B.val::(P.map (Value.int I)++[.func (.func X) #[] #[]]))
  (b:∀(P:List K)(L:bq)(O:ai)(M aJ:ar),G.fill P=U L->lf O L v M=U aJ->F (P.map (K.ab O)) M=U aJ)(a:∀(P:bw)(M aJ:ar),F P M=U aJ->F P (fK M)=U (fK aJ))
  (ac:∀(P:bw)(M aJ:ar),F P M=U aJ->Y P=n/\Y M<=1099511627776):qV Tryz.prog (look TT) A X z G v:=
 ⟨yR p,λW Q n' ag M aJ O P L af hH hR hT=>aiq (inl:=[]) s r q rfl m l j i h d a ac hH hR (b P L O M aJ af hT)⟩
def Km(W:X≠2)(h:nL X x w Q=U F):Y w=3:=by
 unfold nL at h;split at h
 all_goals first|rfl|(exact aG rfl W)|cases h
def auX(h:nL 2 x w Q=U F):Y w=2:=by
 unfold nL at h;split at h
 all_goals first|rfl|cases h|(rename_i X;cases X)
def HM{c:Code}{k N n:Nat}{K:mf}{t:T}{args:ap}{loops:List (Nat×Nat×fU)}{srts:BL}{chs:Dx}
  (P:Tryz.prog.funcs[A]?=U u)(M:u.body=U c)(L:u.results.toList=[])(H:xu Tryz.prog A=J)(G:wK srts)(D:bH (look TT) (.sl z)=K.map Fm)(B:Kl Tryz.prog K X x)
  (y:gq (qX Tryz.prog TT SG [] [] loops srts E chs) n A c ⟨args++eH (u.ntmps-Y args) (.b9 []),[],N,0,[.own z],0,0,[]⟩ j6 aae=t)(w:Th K z X x k N t)
  (v:∀(W:bw)(R:RV),Y W=N->C.aK ⟨W,[],[R],[]⟩ [] args=R.val::(W.map (Value.int I)++[.func (.func X) #[] #[]]))
  (s:∀(W:bw)(V aJ:ar),nL k x W V=U aJ->Y W=N):qV Tryz.prog (look TT) A X z (.dp k x []) false:=
 aDy (F:=qg k x) P M L H G D B y w v (λW q O V aJ Q r=>by
  simp only[bq.fill,cS] at Q;subst Q;exact r) (λW V aJ h=>aDx h) (λW V aJ h=>⟨s W V aJ (Cf h).2,(Cf h).1⟩)
abbrev dW(a b:K):K:=.bin .add I a b
abbrev ew(a b:K):K:=.bin .sub I a b
abbrev jb(a b:K):BE:=.cmp .lss a b
abbrev fT(a:K):C:=.int I a
abbrev gw(x:K)(k:Nat)(t:T):T:=.bA (.and (.cmp .leq (.c 0) x) (.cmp .lss x (.len (.v k)))) t
section
variable(e g i h j f N:Nat)(o:bq)(d:RE->K->ap)
def aak:T:=(.loop 0 [.aj (.own e),.int I] [(.aj (.v 0)),(fT (.c 0))]
 (.bi (jb (.v 3) (.v 2))
 (gw (dW (.v 1) (.v 3)) 1
 (gw (dW (.v 1) (.v 3)) 1
 (gw (dW (.v 0) (.v 3)) 1
 (gw (dW (.v 0) (.v 3)) 1
 (gw (dW (.v 0) (.v 3)) 1
 (gw (dW (.v 0) (.v 3)) 1
 (.new e (.set (.aj (.v 1)) (dW (.v 0) (.v 3)) 0 (d (.v 1) (dW (.v 1) (.v 3)))) [.am,(.own e)] [.am,.am,(.own e)]
 (gw (dW (.v 1) (.v 3)) 2
 (gw (dW (.v 1) (.v 3)) 2
 (.new e (.set (.aj (.v 2)) (dW (.v 1) (.v 3)) 0 (d (.v 1) (dW (.v 0) (.v 3)))) [.am,.am,(.own e)] [.am,.am,.am,(.own e)]
 (.back 0 [(.aj (.v 3)),(fT (dW (.v 3) (.c 1)))])))))))))))
 (.out .normal ⟨[],[],4,0,[.am,(.own e)],0,0,[]⟩)))
def aal:T:=(.loop 0 [.aj (.own e),.int I,.int I] [(.aj (.v 0)),(fT (ew (.v 1) (.v 0))),(fT (ew (.v 2) (.v 1)))]
 (.bi (.cmp .neq (.v 3) (.v 4))
 (.bi (.cmp .gtr (.v 3) (.v 4))
  (.ez i g e (.dp 0 o [(ew (.v 1) (.v 3)),(.v 1),(.v 4)]) E (.v 1) [.am,(.own e)]
  (.back 0 [(.aj (.v 2)),(fT (ew (.v 3) (.v 4))),(fT (.v 4))]))
  (.ez i g e (.dp 0 o [(ew (.v 1) (.v 3)),(ew (dW (.v 1) (.v 4)) (.v 3)),(.v 3)]) E (.v 1) [.am,(.own e)]
  (.back 0 [(.aj (.v 2)),(fT (.v 3)),(fT (ew (.v 4) (.v 3)))])))
 (.ez i g e (.dp 0 o [(ew (.v 1) (.v 3)),(.v 1),(.v 3)]) E (.v 1) [.am,(.own e)]
 (.out .normal ⟨[],[],5,0,[.am,.am,(.own e)],0,0,[]⟩))))
def aam:T:=(.loop 0 [.aj (.own e),.int I] [(.aj (.v 0)),(fT (dW (.v 0) (.c 1)))]
 (.bi (jb (.v 2) (.v 1))
 (.loop 1 [.aj (.own e),.int I] [(.aj (.v 1)),(fT (.v 2))]
  (.bi (.cmp .gtr (.v 3) (.v 0))
  (gw (.v 3) 2
  (gw (.v 3) 2
  (gw (ew (.v 3) (.c 1)) 2
  (gw (ew (.v 3) (.c 1)) 2
  (.call g [(.agg (d (.v 2) (.v 3))),(.agg (d (.v 2) (ew (.v 3) (.c 1))))] [] [.am,.am,.am] [.int I] (fT (.v 4))
  (.bi (jb (.v 4) (.c 0))
   (gw (ew (.v 3) (.c 1)) 2
   (gw (ew (.v 3) (.c 1)) 2
   (gw (.v 3) 2
   (gw (.v 3) 2
   (gw (.v 3) 2
   (gw (.v 3) 2
   (.new e (.set (.aj (.v 2)) (.v 3) 0 (d (.v 2) (ew (.v 3) (.c 1)))) [.am,.am,(.own e)] [.am,.am,.am,(.own e)]
   (gw (ew (.v 3) (.c 1)) 3
   (gw (ew (.v 3) (.c 1)) 3
   (.new e (.set (.aj (.v 3)) (ew (.v 3) (.c 1)) 0 (d (.v 2) (.v 3))) [.am,.am,.am,(.own e)] [.am,.am,.am,.am,(.own e)]
   (.back 1 [(.aj (.v 4)),(fT (ew (.v 3) (.c 1)))])))))))))))
   (.back 0 [(.aj (.v 2)),(fT (dW (.v 2) (.c 1)))])))))))
  (.back 0 [(.aj (.v 2)),(fT (dW (.v 2) (.c 1)))])))
 (.out .normal ⟨[],[],3,0,[.am,(.own e)],0,0,[]⟩)))
abbrev rC:K:=(.conv I (.bin .shr .u64 (.conv .u64 (dW (.v 3) (.v 4))) (.c 1)))
abbrev eh:K:=(.conv I (.bin .shr .u64 (.conv .u64 (dW (.v 0) (.v 2))) (.c 1)))
def Ti:T:=(.bi (jb (.v 3) (.v 1))
   (.bi (jb (.v 1) (ew (dW eh (.v 1)) (.v 3)))
    (.ez h g e (.dp 1 o [(.v 3),(.v 1),(ew (dW eh (.v 1)) (.v 3))]) E (.v 1) [.am,(.own e)]
    (.bi (jb (.v 0) (.v 3))
    (.bi (jb (.v 3) eh)
     (.ez f g e (.dp (N+3) o [(.v 0),(.v 3),eh]) E (.v 2) [.am,.am,(.own e)]
     (.bi (jb eh (ew (dW eh (.v 1)) (.v 3)))
     (.bi (jb (ew (dW eh (.v 1)) (.v 3)) (.v 2))
      (.ez f g e (.dp (N+3) o [eh,(ew (dW eh (.v 1)) (.v 3)),(.v 2)]) E (.v 3) [.am,.am,.am,(.own e)]
      (.out .normal ⟨[],[],5,0,[.am,.am,.am,.am,(.own e)],0,0,[]⟩))
      (.out .normal ⟨[],[],5,0,[.am,.am,.am,(.own e)],0,0,[]⟩))
     (.out .normal ⟨[],[],5,0,[.am,.am,.am,(.own e)],0,0,[]⟩)))
     (.bi (jb eh (ew (dW eh (.v 1)) (.v 3)))
     (.bi (jb (ew (dW eh (.v 1)) (.v 3)) (.v 2))
      (.ez f g e (.dp (N+3) o [eh,(ew (dW eh (.v 1)) (.v 3)),(.v 2)]) E (.v 2) [.am,.am,(.own e)]
      (.out .normal ⟨[],[],5,0,[.am,.am,.am,(.own e)],0,0,[]⟩))
      (.out .normal ⟨[],[],5,0,[.am,.am,(.own e)],0,0,[]⟩))
     (.out .normal ⟨[],[],5,0,[.am,.am,(.own e)],0,0,[]⟩)))
    (.bi (jb eh (ew (dW eh (.v 1)) (.v 3)))
     (.bi (jb (ew (dW eh (.v 1)) (.v 3)) (.v 2))
     (.ez f g e (.dp (N+3) o [eh,(ew (dW eh (.v 1)) (.v 3)),(.v 2)]) E (.v 2) [.am,.am,(.own e)]
     (.out .normal ⟨[],[],5,0,[.am,.am,.am,(.own e)],0,0,[]⟩))
     (.out .normal ⟨[],[],5,0,[.am,.am,(.own e)],0,0,[]⟩))
     (.out .normal ⟨[],[],5,0,[.am,.am,(.own e)],0,0,[]⟩))))
    (.bi (jb (.v 0) (.v 3))
    (.bi (jb (.v 3) eh)
     (.ez f g e (.dp (N+3) o [(.v 0),(.v 3),eh]) E (.v 1) [.am,(.own e)]
     (.bi (jb eh (ew (dW eh (.v 1)) (.v 3)))
     (.bi (jb (ew (dW eh (.v 1)) (.v 3)) (.v 2))
      (.ez f g e (.dp (N+3) o [eh,(ew (dW eh (.v 1)) (.v 3)),(.v 2)]) E (.v 2) [.am,.am,(.own e)]
      (.out .normal ⟨[],[],5,0,[.am,.am,.am,(.own e)],0,0,[]⟩))
      (.out .normal ⟨[],[],5,0,[.am,.am,(.own e)],0,0,[]⟩))
     (.out .normal ⟨[],[],5,0,[.am,.am,(.own e)],0,0,[]⟩)))
     (.bi (jb eh (ew (dW eh (.v 1)) (.v 3)))
     (.bi (jb (ew (dW eh (.v 1)) (.v 3)) (.v 2))
      (.ez f g e (.dp (N+3) o [eh,(ew (dW eh (.v 1)) (.v 3)),(.v 2)]) E (.v 1) [.am,(.own e)]
      (.out .normal ⟨[],[],5,0,[.am,.am,(.own e)],0,0,[]⟩))
      (.out .normal ⟨[],[],5,0,[.am,(.own e)],0,0,[]⟩))
     (.out .normal ⟨[],[],5,0,[.am,(.own e)],0,0,[]⟩)))
    (.bi (jb eh (ew (dW eh (.v 1)) (.v 3)))
     (.bi (jb (ew (dW eh (.v 1)) (.v 3)) (.v 2))
     (.ez f g e (.dp (N+3) o [eh,(ew (dW eh (.v 1)) (.v 3)),(.v 2)]) E (.v 1) [.am,(.own e)]
     (.out .normal ⟨[],[],5,0,[.am,.am,(.own e)],0,0,[]⟩))
     (.out .normal ⟨[],[],5,0,[.am,(.own e)],0,0,[]⟩))
     (.out .normal ⟨[],[],5,0,[.am,(.own e)],0,0,[]⟩))))
   (.bi (jb (.v 0) (.v 3))
    (.bi (jb (.v 3) eh)
    (.ez f g e (.dp (N+3) o [(.v 0),(.v 3),eh]) E (.v 1) [.am,(.own e)]
    (.bi (jb eh (ew (dW eh (.v 1)) (.v 3)))
     (.bi (jb (ew (dW eh (.v 1)) (.v 3)) (.v 2))
     (.ez f g e (.dp (N+3) o [eh,(ew (dW eh (.v 1)) (.v 3)),(.v 2)]) E (.v 2) [.am,.am,(.own e)]
     (.out .normal ⟨[],[],5,0,[.am,.am,.am,(.own e)],0,0,[]⟩))
     (.out .normal ⟨[],[],5,0,[.am,.am,(.own e)],0,0,[]⟩))
     (.out .normal ⟨[],[],5,0,[.am,.am,(.own e)],0,0,[]⟩)))
    (.bi (jb eh (ew (dW eh (.v 1)) (.v 3)))
     (.bi (jb (ew (dW eh (.v 1)) (.v 3)) (.v 2))
     (.ez f g e (.dp (N+3) o [eh,(ew (dW eh (.v 1)) (.v 3)),(.v 2)]) E (.v 1) [.am,(.own e)]
     (.out .normal ⟨[],[],5,0,[.am,.am,(.own e)],0,0,[]⟩))
     (.out .normal ⟨[],[],5,0,[.am,(.own e)],0,0,[]⟩))
     (.out .normal ⟨[],[],5,0,[.am,(.own e)],0,0,[]⟩)))
    (.bi (jb eh (ew (dW eh (.v 1)) (.v 3)))
    (.bi (jb (ew (dW eh (.v 1)) (.v 3)) (.v 2))
     (.ez f g e (.dp (N+3) o [eh,(ew (dW eh (.v 1)) (.v 3)),(.v 2)]) E (.v 1) [.am,(.own e)]
     (.out .normal ⟨[],[],5,0,[.am,.am,(.own e)],0,0,[]⟩))
     (.out .normal ⟨[],[],5,0,[.am,(.own e)],0,0,[]⟩))
    (.out .normal ⟨[],[],5,0,[.am,(.own e)],0,0,[]⟩))))
def air:T:=(.loop 0 [.aj (.own e),.int I,.int I] [(.aj (.v 0)),(fT (.v 1)),(fT (.v 2))]
 (.bi (jb (.v 3) (.v 4))
  (gw rC 1
  (gw rC 1
  (gw (.v 0) 1
  (gw (.v 0) 1
  (.call g [(.agg (d (.v 1) rC)),(.agg (d (.v 1) (.v 0)))] [] [.am,.am] [.int I] (fT (.v 5))
  (.bA (.c J)
  (.bi (jb (.v 5) (.c 0))
  (.back 0 [(.aj (.v 1)),(fT (dW rC (.c 1))),(fT (.v 4))])
  (.back 0 [(.aj (.v 1)),(fT (.v 3)),(fT rC)]))))))))
  (.loop 1 [.aj (.own e),.int I] [(.aj (.v 1)),(fT (.v 0))]
  (.bi (jb (.v 5) (ew (.v 3) (.c 1)))
   (gw (dW (.v 5) (.c 1)) 2
   (gw (dW (.v 5) (.c 1)) 2
   (gw (.v 5) 2
   (gw (.v 5) 2
   (gw (.v 5) 2
   (gw (.v 5) 2
   (.new e (.set (.aj (.v 2)) (.v 5) 0 (d (.v 2) (dW (.v 5) (.c 1)))) [.am,.am,(.own e)] [.am,.am,.am,(.own e)]
   (gw (dW (.v 5) (.c 1)) 3
   (gw (dW (.v 5) (.c 1)) 3
   (.new e (.set (.aj (.v 3)) (dW (.v 5) (.c 1)) 0 (d (.v 2) (.v 5))) [.am,.am,.am,(.own e)] [.am,.am,.am,.am,(.own e)]
   (.back 1 [(.aj (.v 4)),(fT (dW (.v 5) (.c 1)))])))))))))))
   (.out .ret ⟨[],[],6,0,[.am,.am,(.own e)],0,0,[]⟩)))))
def ais:T:=(.loop 0 [.aj (.own e),.int I,.int I] [(.aj (.v 0)),(fT (.v 0)),(fT (.v 1))]
  (.bi (jb (.v 3) (.v 4))
  (gw (.v 1) 1
  (gw (.v 1) 1
  (gw rC 1
  (gw rC 1
  (.call g [(.agg (d (.v 1) (.v 1))),(.agg (d (.v 1) rC))] [] [.am,.am] [.int I] (fT (.v 5))
  (.bA (.c J)
  (.bA (.c J)
  (.bi (.not (jb (.v 5) (.c 0)))
   (.back 0 [(.aj (.v 1)),(fT (dW rC (.c 1))),(fT (.v 4))])
   (.back 0 [(.aj (.v 1)),(fT (.v 3)),(fT rC)])))))))))
  (.loop 1 [.aj (.own e),.int I] [(.aj (.v 1)),(fT (.v 1))]
   (.bi (.cmp .gtr (.v 5) (.v 3))
   (gw (ew (.v 5) (.c 1)) 2
   (gw (ew (.v 5) (.c 1)) 2
   (gw (.v 5) 2
   (gw (.v 5) 2
   (gw (.v 5) 2
   (gw (.v 5) 2
   (.new e (.set (.aj (.v 2)) (.v 5) 0 (d (.v 2) (ew (.v 5) (.c 1)))) [.am,.am,(.own e)] [.am,.am,.am,(.own e)]
   (gw (ew (.v 5) (.c 1)) 3
   (gw (ew (.v 5) (.c 1)) 3
   (.new e (.set (.aj (.v 3)) (ew (.v 5) (.c 1)) 0 (d (.v 2) (.v 5))) [.am,.am,.am,(.own e)] [.am,.am,.am,.am,(.own e)]
   (.back 1 [(.aj (.v 4)),(fT (ew (.v 5) (.c 1)))])))))))))))
   (.out .ret ⟨[],[],6,0,[.am,.am,(.own e)],0,0,[]⟩)))))
def aan:T:=(gw (ew (ew (dW eh (.v 1)) (.c 1)) rC) 1
   (gw (ew (ew (dW eh (.v 1)) (.c 1)) rC) 1
   (gw rC 1
   (gw rC 1
   (.call g [(.agg (d (.v 1) (ew (ew (dW eh (.v 1)) (.c 1)) rC))),(.agg (d (.v 1) rC))] [] [.am,.am] [.int I] (fT (.v 5))
   (.bA (.c J)
   (.bA (.c J)
   (.bi (.not (jb (.v 5) (.c 0)))
   (.back 0 [(.aj (.v 1)),(fT (dW rC (.c 1))),(fT (.v 4))])
   (.back 0 [(.aj (.v 1)),(fT (.v 3)),(fT rC)])))))))))
def aDz:T:=(.loop 0 [.aj (.own e),.int I,.int I] [(.aj (.v 0)),(fT (ew (dW eh (.v 1)) (.v 2))),(fT eh)]
 (.bi (jb (.v 3) (.v 4)) (aan g d) (Ti e g h f N o)))
def aDA:T:=(.loop 0 [.aj (.own e),.int I,.int I] [(.aj (.v 0)),(fT (.v 0)),(fT (.v 1))]
 (.bi (jb (.v 3) (.v 4)) (aan g d) (Ti e g h f N o)))
def aao:T:=(.bi (.cmp .eql (ew (.v 1) (.v 0)) (.c 1)) (air e g d) (.bi (.cmp .eql (ew (.v 2) (.v 1)) (.c 1)) (ais e g d) (.bi (.cmp .gtr (.v 1) eh) (aDz e g h f N o d) (aDA e g h f N o d))))
def aap:T:=(.loop 0 [.aj (.own e),.int I,.int I] [(.aj (.v 0)),(fT (.c 20)),(fT (.c 0))]
 (.bi (.cmp .leq (.v 0) (.len (.v 0)))
 (.ez j g e (.dp 2 o [(.v 1),(.v 0)]) E (.v 1) [.am,(.own e)]
 (.back 0 [(.aj (.v 2)),(fT (dW (.v 0) (.c 20))),(fT (.v 0))]))
 (.ez j g e (.dp 2 o [(.v 1),(.len (.v 0))]) E (.v 1) [.am,(.own e)]
 (.loop 1 [.aj (.own e),.int I] [(.aj (.v 2)),(fT (.c 20))]
  (.bi (jb (.v 2) (.len (.v 0)))
  (.loop 2 [.aj (.own e),.int I,.int I] [(.aj (.v 3)),(fT (.bin .mul I (.c 2) (.v 2))),(fT (.c 0))]
   (.bi (.cmp .leq (.v 3) (.len (.v 0)))
   (.ez f g e (.dp (N+3) o [(.v 4),(dW (.v 4) (.v 2)),(.v 3)]) E (.v 4) [.am,.am,.am,.am,(.own e)]
   (.back 2 [(.aj (.v 5)),(fT (dW (.v 3) (.bin .mul I (.c 2) (.v 2)))),(fT (.v 3))]))
   (.bi (jb (dW (.v 4) (.v 2)) (.len (.v 0)))
    (.ez f g e (.dp (N+3) o [(.v 4),(dW (.v 4) (.v 2)),(.len (.v 0))]) E (.v 4) [.am,.am,.am,.am,(.own e)]
    (.back 1 [(.aj (.v 5)),(fT (.bin .mul I (.v 2) (.c 2)))]))
    (.back 1 [(.aj (.v 4)),(fT (.bin .mul I (.v 2) (.c 2)))]))))
  (.out .normal ⟨[],[],3,0,[.am,.am,.am,(.own e)],0,0,[]⟩))))))
end
structure HP where
 K:mf
 g:Nat
 o:bq
 e:TypeId
 v:Value
 aJ:ar
def ait(O:ai)(l:ap)(x:aM):Prop:=∀y V,C.aK (O.at y) V l=x.map RV.val
def Ko(c:Option LC)(X:bn):Prop:=match c with
 |U c=>c.I X/\c.μ X<c.m
 |none=>False
def aDB(h:HP)(f:FuncId)(V:ap)(R:aY)(jf:C)(O:ai)(k:Int->Prop):Prop:=f=h.g/\R=[.int I]/\jf=.int I (.v (Y O.i))/\∃X W x y,V=[.agg X,.agg W]/\ait O X x/\ait O W y/\kb h.K x/\kb h.K y/\h.o.ok x=J/\h.o.ok y=J/\∀c:Int,(c<0<->h.o.lt x y=J)->k c
def T.hw(h:HP):T->ai->dP->Prop
 |.out V s,O,_=>(V=.normal\/V=.ret)/\∃k,s.rs[k]?=U (.own h.e)/\O.rv k=.mk h.v h.aJ
 |.bi b t f,O,L=>if b.ab O=J then t.hw h O L else f.hw h O L
 |.bA b t,O,L=>b.ab O=J/\t.hw h O L
 |.call f P _ _ N jf t,O,L=>aDB h f P N jf O λc=>t.hw h (O.add (.i c)) L
 |.loop aC _ M t,O,L=>∃X R,X (M.map (C.xv O))/\∀W,X W->t.hw h (O.ext W) (⟨aC,X,R,R W⟩::L)
 |.back aC x,O,L=>Ko (oJ aC L) (x.map (C.xv O))
 |.new _ (.set (.aj (.v k)) i H G) _ _ t,O,L=>t.hw h (O.add (.r (.mk (O.rv k).val (LE.ae O (.set (.aj (.v k)) i H G))))) L
 |.ez _ _ _ F D r _ t,O,L=>∃Q,lf O F D (r.rv O).ae=U Q/\t.hw h (O.add (.r (.mk (r.rv O).val Q))) L
 |_,_,_=>False
def zG(h:HP){p:Sp}(F:Kl p.P h.K h.g h.o)(D:Tgt p h.e h.v h.aJ):∀(t:T)(O:ai)(L:dP),t.hw h O L->t.ba p O L
 |.out ex s,O,L,Q=>by
  obtain⟨B,k,z,u⟩:=Q;intro y V a W R;refine D _ s (O.at y) V a W k ?_ R z u;rcases B with rfl|rfl;exact .inl rfl;exact .inr rfl
 |.bi b t f,O,L,Q=>by
  simp only[T.hw] at Q;refine⟨λq=>zG h F D t O L ?_,λq=>zG h F D f O L ?_⟩
  rwa [aL q] at Q
  rwa [aP (by simp[q])] at Q
 |.bA b t,O,L,Q=>⟨Q.1,zG h F D t O L Q.2⟩
 |.call f ag bx N d jf t,O,L,Q=>by
  obtain⟨rfl,rfl,rfl,l1,l2,x,y,rfl,B,z,u,h4,h5,h6,h7⟩:=Q;intro m V W R;have e:(C.aK (O.at m) V [.agg l1,.agg l2]).toArray= #[.agg (x.map RV.val).toArray,.agg (y.map RV.val).toArray]:=by
   simp only[C.aK,C.ab,B m V,z m V]
  rw[e];refine(F W x y u h4 h5 h6).mono ?_;rintro en W' ⟨hB,c,rfl,ac⟩;refine⟨[.i c],⟨trivial,trivial⟩, ?_,hB,⟨trivial,trivial⟩, ?_⟩;simp[C.ab,K.ab,ai.ext,ai.add,ai.at];exact zG h F D t (O.add (.i c)) L (h7 c ac)
 |.loop aC d x0 t,O,L,Q=>by
  obtain⟨X,μ,B,z⟩:=Q;exact⟨X,μ,B,λxs _ hx=>zG h F D t _ _ (z xs hx)⟩
 |.back aC x,O,L,Q=>by
  simp only[T.hw,Ko] at Q;simp only[T.ba];cases j:oJ aC L with
  |none=>rw[j] at Q;exact Q
  |some c=>rw[j] at Q;exact Q
 |.new e (.set (.aj (.v k)) i G H) N M t,O,L,Q=>by
  intro rv hn;obtain⟨⟨A,n,c,rfl,hl⟩,_,w⟩:=hn;have w:=w k i G H rfl;refine zG h F D t _ L ?_;simp only[RV.nJ] at w;rw[w];exact Q
 |.new e (.aj r) N M t,O,L,Q=>by simp[T.hw] at Q
 |.new e (.lit l) N M t,O,L,Q=>by simp[T.hw] at Q
 |.new e (.nY a b) N M t,O,L,Q=>by simp[T.hw] at Q
 |.new e (.sK n al) N M t,O,L,Q=>by simp[T.hw] at Q
 |.new e (.sub a lo hi) N M t,O,L,Q=>by simp[T.hw] at Q
 |.new e (.ins a n H) N M t,O,L,Q=>by simp[T.hw] at Q
 |.new e (.set (.aj (.k _)) i G H) N M t,O,L,Q=>by simp[T.hw] at Q
 |.new e (.set (.lit _) i G H) N M t,O,L,Q=>by simp[T.hw] at Q
 |.new e (.set (.nY _ _) i G H) N M t,O,L,Q=>by simp[T.hw] at Q
 |.new e (.set (.sK _ _) i G H) N M t,O,L,Q=>by simp[T.hw] at Q
 |.new e (.set (.set _ _ _ _) i G H) N M t,O,L,Q=>by simp[T.hw] at Q
 |.new e (.set (.sub _ _ _) i G H) N M t,O,L,Q=>by simp[T.hw] at Q
 |.new e (.set (.ins _ _ _) i G H) N M t,O,L,Q=>by simp[T.hw] at Q
 |.new e (.set (.aj (.cell _ _ _ _)) i G H) N M t,O,L,Q=>by simp[T.hw] at Q
 |.ez f g e sp st r N t,O,L,Q=>by
  obtain⟨af,B,z⟩:=Q;exact⟨af,B,zG h F D t _ L z⟩
 |.ret ..,_,_,Q=>by simp[T.hw] at Q
 |.bD ..,_,_,Q=>by simp[T.hw] at Q
 |.ae ..,_,_,Q=>by simp[T.hw] at Q
 |.gA ..,_,_,Q=>by simp[T.hw] at Q
 |.pick ..,_,_,Q=>by simp[T.hw] at Q
 |.stuck _,_,_,Q=>by simp[T.hw] at Q
section
variable{h:HP}{O:ai}{L:dP}
def Kq{X:ai}(e:O=X):T.hw h k O L=T.hw h k X L:=by rw[e]
def yk(b:BE)(t f:T):T.hw h (.bi b t f) O L=(if b.ab O=J then t.hw h O L else f.hw h O L):=rfl
def Kr(b:BE)(t:T):T.hw h (.bA b t) O L=(b.ab O=J/\t.hw h O L):=rfl
def Ks(aC:Nat)(x:ap):T.hw h (.back aC x) O L=Ko (oJ aC L) (x.map (C.xv O)):=rfl
def Kt(e:TypeId)(k:Nat)(i:K)(X:Nat)(W:ap)(V R:bz)(t:T):T.hw h (.new e (.set (.aj (.v k)) i X W) V R t) O L=t.hw h (O.add (.r (.mk (O.rv k).val (LE.ae O (.set (.aj (.v k)) i X W))))) L:=rfl
def Dj(f g:FuncId)(e:TypeId)(X:bq)(W:Bool)(r:RE)(R:bz)(t:T):T.hw h (.ez f g e X W r R t) O L=(∃V,lf O X W (r.rv O).ae=U V/\t.hw h (O.add (.r (.mk (r.rv O).val V))) L):=rfl
def Dk(X:XE)(s:S):T.hw h (.out X s) O L=((X=.normal\/X=.ret)/\∃k,s.rs[k]?=U (.own h.e)/\O.rv k=.mk h.v h.aJ):=rfl
def zH{P:aY}{Q:ap}(W:bn->Prop)(V:bn->Nat)(N:W (Q.map (C.xv O)))(M:∀R,W R->k.hw h (O.ext R) (⟨X,W,V,V R⟩::L)):T.hw h (.loop X P Q k) O L:=⟨W,V,N,M⟩
end
section
attribute[local simp] K.ab BE.ab RE.rv RE.ab iM ai.rv ai.ext ai.add C.xv yk Kr Ks Kt Dj Dk LE.ae oJ
attribute[local congr] Kq
structure Fo(R:mf)(d:RE->K->ap):Prop where
 cq:∀(O:ai)(r:RE)(i:K)(x:aM),(r.rv O).ae[(i.ab O).toNat]?=U x->kb R x->(d r i).map (C.cq O)=x
 ab:∀(O:ai)(r:RE)(i:K)(x:aM),(r.rv O).ae[(i.ab O).toNat]?=U x->kb R x->ait O (d r i) x
def aiu:∀{R:mf}{x:aM},kb R x->Y x=Y R
 |[],_,h=>by cases h;rfl
 |_::_,[],h=>h.elim
 |_::_,_::_,h=>by simp[aiu h.2]
def auY:∀(x W X:aM),Y W=Y x->fA (X++W) (Y X) x=X++x
 |[],W,X,h=>by
  have:W=[]:=uc h;subst this;rfl
 |v::r,[],X,h=>by simp at h
 |v::r,c::W,X,h=>by
  have V:=auY r W (X++[v]) (by simpa using h);simp only[gU,qI,Ua,KO,da,di] at V;simp only[fA];rw[aaX _ _ (cg _),abd,aKK];exact V
def HN{R:mf}{x:aM}(O:∀y∈Q,kb R y)(N:kb R x):(Q.modify X λW=>fA W 0 x)=Q.set X x:=by
 apply kK;intro k;rw[OC,wU];by_cases P:X=k;subst P;simp only[cN];cases V:Q[X]? with
 |none=>
  have:=Dr.1 V;rw[aP aa];rfl
 |some W=>
  obtain⟨M,_⟩:=cj.1 V;rw[aL M];have:=auY x W [] (by rw[aiu (O W (ki V)),aiu N]);simpa using this
 simp[P]
def Tj{n:Int}(X:-9223372036854775808<=n)(W:n<9223372036854775808):IntKind.i64.wrap n=n:=by
 rw[IntKind.wrap_i64];omega
def By{a b:Nat}(h:a+b<=4398046511104):ay .add I (a:Int) (b:Int)=((a+b:Nat):Int):=by
 simp only[ay];rw[Tj aa aa];omega
def zI{a b:Nat}(h:b<=a)(X:a<=4398046511104):ay .sub I (a:Int) (b:Int)=((a-b:Nat):Int):=by
 simp only[ay];rw[Tj aa aa];omega
def Fp{a:Nat}(h:a<=4398046511103):ay .add I (a:Int) 1=((a+1:Nat):Int):=By (b:=1) aa
def aaq{a:Nat}(h:1<=a)(X:a<=4398046511104):ay .sub I (a:Int) 1=((a-1:Nat):Int):=zI (b:=1) h X
def aDC(W:ar)(M:X+n<=z)(V:z+n<=Y W)(k:Nat):
  (W.take X++(bo W z (z+n)++(bo W (X+n) z++(bo W X (X+n)++W.drop (z+n)))))[k]?=if X<=k/\k<X+n then W[k-X+z]? else if z<=k/\k<z+n then W[k-z+X]? else W[k]?:=by
 have R:(W.take X).length=X:=dh;have Q:(bo W z (z+n)).length=n:=by rw[sC W V];omega
 have P:(bo W (X+n) z).length=z-(X+n):=sC W aa;have O:(bo W X (X+n)).length=n:=by rw[sC W aa];omega
 by_cases N:k<X;rw[dZ aa,aP aa,aP aa,nA,aL N];rw[jd aa,R];by_cases L:k<X+n;rw[dZ aa,aL aa,Tg W aa];congr 1;omega;rw[jd aa,Q,aP aa];by_cases H:k<z;rw[dZ aa,aP aa,Tg W aa];congr 1;omega;rw[jd aa,P];by_cases G:k<z+n;rw[dZ aa,aL aa,Tg W aa];congr 1;omega;rw[jd aa,O,aP aa,vw];congr 1;omega
def Dl(h:Y w=3):∃a b c,w=[a,b,c]:=by
 match w,h with
 |[a,b,c],_=>exact⟨a,b,c,rfl⟩
def two(h:Y w=2):∃a b,w=[a,b]:=by
 match w,h with
 |[a,b],_=>exact⟨a,b,rfl⟩
def Bz{a:Int}(h:0<=a):∃n:Nat,a=n:=⟨a.toNat,aa⟩
section
variable{R:mf}{e g:Nat}{o:bq}{d:RE->K->ap}
def auZ(w:Fo R d):Th R e g o 0 3 (aak e d):=by
 rintro p _ W aJ ns hP ac ⟨A,n,Q,rfl,af,hn⟩ hT hN V ag;obtain⟨a,b,m,rfl⟩:=Dl hN;obtain⟨_,V⟩:=Cf V;simp only[nL] at V;split at V;rename_i N;simp only[aA,cz] at N;obtain⟨a,rfl⟩:=Bz N.1.1.1;obtain⟨m,rfl⟩:=Bz N.1.1.2;obtain⟨b,rfl⟩:=Bz (a:=b) aa;have h1:a+m<=b:=aa;have h2:b+m<=Y W:=aa;simp only[cS] at V;have e1:((a:Int)).toNat=a:=rfl;have e2:((b:Int)).toNat=b:=rfl;have e3:((b:Int)+(m:Int)).toNat=b+m:=aa;have e4:((a:Int)+(m:Int)).toNat=a+m:=aa;rw[e1,e2,e3,e4] at V;have u:=aDC W h1 h2;rw[V] at u;clear V;refine zG ⟨R,g,o,e,.slice A n Q,aJ⟩ (hP▸ac) ag _ _ _ ?_;unfold aak;refine zH (λM=>∃(i:Nat)(X:ar),M=[.r (.mk (.slice A n Q) X),.i i]/\i<=m/\Y X=n/\(∀x∈X,kb R x)/\∀k:Nat,X[k]?=if a<=k/\k<a+i then W[k-a+b]? else if b<=k/\k<b+i then W[k-b+a]? else W[k]?) (λM=>match M with|[_,.i j]=>m-j.toNat|_=>0) ⟨0,W,rfl,aa,af,hT,λk=>by rw[aP aa,aP aa]⟩ ?_;rintro _ ⟨i,X,rfl,hi,hl,P,O⟩;by_cases al:i<m;obtain⟨x,L⟩:∃x,X[a+i]?=U x:=cj.2 ⟨aa,rfl⟩|>λh=>⟨_,h⟩
 obtain⟨y,H⟩:∃y,X[b+i]?=U y:=cj.2 ⟨aa,rfl⟩|>λh=>⟨_,h⟩
 have G:=P x (ki L);have F:=P y (ki H);have t:=By (a:=a) (b:=i) aa;have s:=By (a:=b) (b:=i) aa;have c1:BK (C.cq ⟨[(a:Int),b,m,i],[],[.mk (.slice A n Q) W,.mk (.slice A n Q) X],[]⟩) (d (.v 1) (.bin .add I (.v 1) (.v 3)))=y:=w.cq _ _ _ y (by simp only[RE.rv,ai.rv,K.ab,OD,H4,RV.nK,s,zR];exact H) F;have c2:∀q,BK (C.cq ⟨[(a:Int),b,m,i],[],[.mk (.slice A n Q) W,.mk (.slice A n Q) X,q],[]⟩) (d (.v 1) (.bin .add I (.v 0) (.v 3)))=x:=λq=>w.cq _ _ _ x (by simp only[RE.rv,ai.rv,K.ab,OD,H4,RV.nK,t,zR];exact L) G
 have m1:(X.modify (a+i) λD=>fA D 0 y)=X.set (a+i) y:=HN P F;have l:∀z∈X.set (a+i) y,kb R z:=λz B=>by
  rcases Fv B with h|rfl;exact P z h;exact F
 have m2:((X.set (a+i) y).modify (b+i) λD=>fA D 0 x)=(X.set (a+i) y).set (b+i) x:=HN l G;have t1:((a:Int)+(i:Int)).toNat=a+i:=aa;have t2:((b:Int)+(i:Int)).toNat=b+i:=aa;simp[t,s,Fp (a:=i) aa,al,c1,c2,t1,t2,m1,m2,lenOf];refine⟨aa,aa,aa,⟨i+1,_,rfl,aa,by simp[hl],λz B=> ?_,λk=> ?_⟩,show m-((i:Int)+1).toNat<m-i from aa⟩;rcases Fv B with h|rfl;exact l z h;exact G;have an:W[a+i]?=U x:=by
  have:=O (a+i);rw[aP aa,aP aa] at this;rw[<-this];exact L
 have a0:W[b+i]?=U y:=by
  have:=O (b+i);rw[aP aa,aP aa] at this;rw[<-this];exact H
 rw[wU,wU];by_cases f:b+i=k;subst f;rw[aL rfl,aL dh,aP aa,aL aa,<-an];congr 1;omega;rw[aP f];by_cases c:a+i=k;subst c;rw[aL rfl,aL aa,aL aa,<-a0];congr 1;omega;rw[aP c,O k];by_cases k3:a<=k/\k<a+i;rw[aL k3,aL aa];rw[aP k3];by_cases k4:b<=k/\k<b+i;rw[aL k4,aP aa,aL aa];rw[aP k4,aP aa,aP aa];have a1:i=m:=aa;subst a1;have a3:X=aJ:=kK λk=>by rw[O k,u k]
 subst a3;simp;exact⟨1,rfl,rfl⟩;cases V
end
end
section
attribute[local simp] K.ab BE.ab RE.rv RE.ab iM ai.rv ai.ext ai.add C.xv yk Kr Ks Kt Dj Dk LE.ae oJ lf
attribute[local congr] Kq
def Tk(P S Q:ar):bo (P++(S++Q)) (Y P) (Y P+Y S)=S:=by simp[bo]
def Tl{W P Q:ar}(h:W=P++(F++Q))(V:X=Y P)(R:z=X+Y F):bo W X z=F:=by
 subst h;subst V;subst R;exact Tk P F Q
def aiv{o:bq}{P X M Y Q:ar}{a b n:Int}(W:a=P.length)(V:b=P.length+X.length+M.length)(R:n=X.length)(y:Y.length=X.length)(O:(P++(X++(M++(Y++Q)))).length<=1099511627776):
  qg 0 o [a,b,n] (P++(X++(M++(Y++Q))))=U (P++(Y++(M++(X++Q)))):=by
 subst W;subst V;subst R;unfold qg;rw[aL O];simp only[nL];rw[aL (by simp only[aA,cz,gU];omega)];have N:((P.length:Int)).toNat=P.length:=rfl;have L:((P.length:Int)+X.length+M.length).toNat=P.length+X.length+M.length:=aa;have H:((P.length:Int)+X.length+M.length+X.length).toNat=P.length+X.length+M.length+X.length:=aa;have G:((P.length:Int)+X.length).toNat=P.length+X.length:=aa;rw[N,L,H,G];have F:(P++(X++(M++(Y++Q)))).take P.length=P:=aw;have D:bo (P++(X++(M++(Y++Q)))) (P.length+X.length+M.length) (P.length+X.length+M.length+X.length)=Y:=Tl (P:=P++(X++M)) (Q:=Q) aw dh aa;have B:bo (P++(X++(M++(Y++Q)))) (P.length+X.length) (P.length+X.length+M.length)=M:=Tl (P:=P++X) (Q:=Y++Q) aw aw rfl;have A:bo (P++(X++(M++(Y++Q)))) P.length (P.length+X.length)=X:=Tk P X _;have z:(P++(X++(M++(Y++Q)))).drop (P.length+X.length+M.length+X.length)=Q:=by
  have:P++(X++(M++(Y++Q)))=(P++(X++(M++Y)))++Q:=aw;rw[this,aa8 dh]
 rw[F,D,B,A,z]
def au0(W:ar)(V:X<=z)(R:z<=n):W.take X++(bo W X z++(bo W z n++W.drop n))=W:=by
 rw[<-KO (bo W X z),<-qE W V R,N8 W aa]
def vg{c:Prop}[Decidable c]{A B:Prop}(X:c->A)(W:¬c->B):if c then A else B:=by
 by_cases h:c;rw[aL h];exact X h;rw[aP h];exact W h
section
variable{R:mf}{e g d:Nat}{o:bq}{f:RE->K->ap}
def au1:Th R e g o 1 3 (aal e g d o):=by
 rintro p _ W aJ ns q l ⟨x,n,w,rfl,k,hn⟩ hT h H f;obtain⟨a,m,b,rfl⟩:=Dl h;obtain⟨_,H⟩:=Cf H;simp only[nL] at H;split at H;rename_i v;simp only[aA,cz] at v;obtain⟨a,rfl⟩:=Bz v.1.1.1;obtain⟨m,rfl⟩:=Bz (a:=m) aa;obtain⟨b,rfl⟩:=Bz (a:=b) aa;simp only[cS,zR] at H;have u:b<=W.length:=aa;refine zG ⟨R,g,o,e,.slice x n w,aJ⟩ (q▸l) f _ _ _ ?_;unfold aal;refine zH (λD=>∃(P A B Q:ar),D=[.r (.mk (.slice x n w) (P++(A++(B++Q)))),.i A.length,.i B.length]/\1<=A.length/\1<=B.length/\P.length+A.length=m/\m+B.length<=b/\(P++(A++(B++Q))).length=n/\P++(B++(A++Q))=aJ) (λD=>match D with|[_,.i i,.i j]=>i.toNat+j.toNat|_=>0) ⟨W.take a,bo W a m,bo W m b,W.drop b, ?_, ?_⟩ ?_;have c:W.take a++(bo W a m++(bo W m b++W.drop b))=W:=by
  exact au0 W aa aa
 have t:(bo W a m).length=m-a:=sC W aa;have s:(bo W m b).length=b-m:=sC W u;simp only[eW,Dv,C.xv,RE.rv,ai.rv,H4,OD,K.ab,c,t,s];rw[zI (a:=m) (b:=a) aa aa,zI (a:=b) (b:=m) aa aa];have t:(bo W a m).length=m-a:=sC W aa;have s:(bo W m b).length=b-m:=sC W u;refine⟨aa,aa,dh,aa, ?_,H⟩;rw[au0 W aa aa];exact k;rintro _ ⟨P,A,B,Q,rfl,hA,hB,a3,a4,ac,z⟩;have af:=zI (a:=m) (b:=A.length) aa aa;have ag:((m-A.length:Nat):Int)=P.length:=aa;simp only[gU] at ac;simp[af,ag];refine vg (λal=> ?_) (λal=>vg (λan=> ?_) (λan=> ?_));have G:=aiv (o:=o) (P:=P) (X:=A) (M:=[]) (Y:=B) (Q:=Q) (a:=P.length) (b:=m) (n:=A.length) rfl dh rfl aa dh;refine⟨P++(B++(A++Q)),by simpa using G,2,rfl, ?_⟩;simp[z];obtain⟨N,L,rfl,y⟩:∃N L,A=N++L/\N.length=B.length:=⟨A.take B.length,A.drop B.length,(KN _ _).symm,dh⟩;simp only[gU] at*;have F:=zI (a:=N.length+L.length) (b:=B.length) aa aa;have G:=aiv (o:=o) (P:=P) (X:=N) (M:=L) (Y:=B) (Q:=Q) (a:=P.length) (b:=m) (n:=B.length) rfl aa aa aa dh;refine⟨P++(B++(L++(N++Q))),by simpa using G,⟨P++B,L,N,Q, ?_,aa,aa,dh,aa,dh, ?_⟩, ?_⟩;rw[F,y];simp;rw[<-z];simp;rw[F];show((N.length+L.length-B.length:Nat):Int).toNat+((B.length:Int)).toNat<N.length+L.length+B.length;omega;obtain⟨O,V,rfl,y⟩:∃O V,B=O++V/\V.length=A.length:=⟨B.take (B.length-A.length),B.drop (B.length-A.length),(KN _ _).symm,dh⟩;simp only[gU] at*;have a0:=By (a:=m) (b:=O.length+V.length) aa;have F:=zI (a:=m+(O.length+V.length)) (b:=A.length) aa aa;have a1:=zI (a:=O.length+V.length) (b:=A.length) aa aa;have G:=aiv (o:=o) (P:=P) (X:=A) (M:=O) (Y:=V) (Q:=Q) (a:=P.length) (b:=((m+(O.length+V.length)-A.length:Nat):Int)) (n:=A.length) rfl aa rfl aa dh;rw[a0,F,a1];refine⟨P++(V++(O++(A++Q))),by simpa using G,⟨P,V,O,A++Q, ?_,aa,aa,aa,aa,dh, ?_⟩, ?_⟩;rw[y];simp;rw[<-z];simp;show((A.length:Int)).toNat+((O.length+V.length-A.length:Nat):Int).toNat<A.length+(O.length+V.length);omega;cases H
end
end
section
attribute[local simp] K.ab BE.ab RE.rv RE.ab iM ai.rv ai.ext ai.add C.xv yk Kr Ks Kt Dj Dk LE.ae oJ lf
attribute[local congr] Kq
def aDD{lt:aM->aM->Bool}(l:ar)(x:aM):bX lt (l++[x])=eB lt x (bX lt l):=by simp[bX]
def au2{lt:aM->aM->Bool}{x:aM}:∀{L G:ar},(∀l∈L,lt x l=E)->(∀g∈G,lt x g=J)->eB lt x (L++G)=L++x::G
 |[],[],_,_=>rfl
 |[],g::G,_,h=>by simp[eB,h g aw]
 |l::L,G,X,W=>by
  have V:=au2 (L:=L) (G:=G) (λy R=>X y (by simp[R])) W;simp only[da,eB,X l aw];rw[V];simp
def au3(A R:ar)(l x:aM)(W:X=Y A):((A++(l::x::R)).set (X+1) l).set X x=A++(x::l::R):=by
 subst W;rw[aaX _ _ aa,ajH,aaX _ _ aa,abd];rfl
def aar{h:HP}{O:ai}{L:dP}{d:RE->K->ap}(P:Fo h.K d){W V:RE}{R Q:K}{H:bK}{G:bz}(F:X=Y O.i)(x y:aM)(D:(W.rv O).ae[(R.ab O).toNat]?=U x)(B:(V.rv O).ae[(Q.ab O).toNat]?=U y)(N:kb h.K x)(M:kb h.K y)(A:h.o.ok x=J)(z:h.o.ok y=J)
  (w:∀c:Int,(c<0<->h.o.lt x y=J)->k.hw h (O.add (.i c)) L):T.hw h (.call h.g [.agg (d W R),.agg (d V Q)] H G [.int I] (.int I (.v X)) k) O L:=by
 subst F;exact⟨rfl,rfl,rfl,_,_,x,y,rfl,P.ab O W R x D N,P.ab O V Q y B M,N,M,A,z,w⟩
section
variable{f:mf}{e g:Nat}{o:bq}{d:RE->K->ap}
def au4(af:Fo f d)(a0:mc o.lt (λx=>o.ok x=J)):Th f e g o 2 2 (aam e g d):=by
 rintro p _ X aJ ns hP bg ⟨R,n,Q,rfl,cf,hn⟩ hT hN N bk;obtain⟨a,b,rfl⟩:=two hN;obtain⟨_,N⟩:=Cf N;simp only[nL] at N;split at N;rename_i u;simp only[aA,cz,f9] at u;obtain⟨⟨⟨bl,br⟩,yO⟩,a1⟩:=u;obtain⟨a,rfl⟩:=Bz bl;obtain⟨b,rfl⟩:=Bz (a:=b) aa;simp only[cS,zR] at N;have hb:b<=Y X:=aa;have br:a<=b:=aa;refine zG ⟨f,g,o,e,.slice R n Q,aJ⟩ (hP▸bg) bk _ _ _ ?_;unfold aam;refine zH (λM=>∃(i:Nat)(t:ar),M=[.r (.mk (.slice R n Q) t),.i i]/\a<i/\i<=b+1/\t=X.take a++(bX o.lt (bo X a (min i b))++X.drop (min i b))) (λM=>match M with|[_,.i i]=>b+1-i.toNat|_=>0) ⟨a+1,X, ?_,aa,aa, ?_⟩ ?_;simp only[eW,Dv,C.xv,RE.rv,ai.rv,H4,K.ab];rw[Fp aa];by_cases h:a+1<=b;rw[OF h];have:bo X a (a+1)=[X[a]' aa]:=by
  simp only[bo,show a+1-a=1 from aa];rw[HZ aa];rfl
 rw[this];show X=_++([X[a]' aa]++_);rw[<-this,N8 X aa];have:b=a:=aa;subst this;rw[aa6 aa];have:bo X b b=[]:=by simp[bo]
 rw[this];show X=X.take b++([]++X.drop b);simp;rintro _ ⟨i,t,rfl,ch,cl,cG⟩;by_cases a3:i<b;rw[OF aa] at cG;obtain⟨x,hx⟩:∃x,x=X[i]' aa:=⟨_,rfl⟩;have hd:X.drop i=x::X.drop (i+1):=by rw[hx,HZ aa]
 have hS:(bX o.lt (bo X a i)).length=i-a:=by rw[lZ,sC X aa]
 have bs:bo X a (i+1)=bo X a i++[x]:=by
  rw[qE X (show a<=i from aa) (show i<=i+1 from aa)];congr 1;simp only[bo,ajH,hd];rfl
 have H:∀y,y∈X.take a\/y∈bX o.lt (bo X a i)\/y=x\/y∈X.drop (i+1)->kb f y/\o.ok y=true:=by
  intro y V;have:y∈X:=by
   rcases V with h|h|rfl|h;exact Fz h;exact vO (Kk h);rw[hx];exact pl _;exact Dt h
  exact⟨hT y this,a1 y this⟩
 have ag:gT o.lt (bX o.lt (bo X a i)):=Fl a0 λz hz=>a1 z (vO hz)
 have bt:(X.take a).length=a:=dh;have bx:(X.drop (i+1)).length=n-(i+1):=dh;generalize b0:bX o.lt (bo X a i)=S at cG hS H ag;generalize cn:X.take a=P at cG H bt N;generalize b1:X.drop (i+1)=D at hd H bx;rw[hd] at cG;have a4:∀L G,S=L++G->(∀l∈L,o.lt x l=E)->(∀g∈G,o.lt x g=J)->P++(L++x::(G++D))=P++(bX o.lt (bo X a (min (i+1) b))++X.drop (min (i+1) b)):=by
  intro L G s q h3;rw[OF aa,bs,aDD,b0,s,au2 q h3,b1];simp
 simp[a3];refine zH (λM=>∃(L G:ar),M=[.r (.mk (.slice R n Q) (P++(L++x::(G++D)))),.i ((a+Y L:Nat):Int)]/\S=L++G/\∀g∈G,o.lt x g=J) (λM=>match M with|[_,.i j]=>j.toNat|_=>0) ⟨S,[], ?_,aw,aw⟩ ?_;simp[cG,hS];omega;rintro _ ⟨L,G,rfl,W,hG⟩;rcases List.eq_nil_or_concat L with rfl|⟨L,l,rfl⟩;simp;rw[Fp aa];refine⟨⟨i+1,_,rfl,aa,aa, ?_⟩, ?_⟩;exact a4 [] G W aw hG;show b+1-((i+1:Nat):Int).toNat<b+1-i;omega;simp only[List.concat_eq_append] at W⊢;have cp:a+Y L+1<=i:=by
  have:=ku Y W;simp only[gU,qI,Ua] at this;omega
 have F:ay .sub I (((a+(Y L+1):Nat)):Int) 1=((a+Y L:Nat):Int):=by rw[aaq aa aa];omega
 have m:=H x aw;have B:=H l (.inr (.inl (by rw[W];simp)));have e0:P++(L++[l]++x::(G++D))=(P++L)++(l::x::(G++D)):=aw;have gx:((P++L)++(l::x::(G++D)))[a+(Y L+1)]?=U x:=by
  rw[jd dh];simp[show a+(Y L+1)-(Y P+Y L)=1 from aa]
 have gl:((P++L)++(l::x::(G++D)))[a+Y L]?=U l:=by
  rw[jd dh];simp[show a+Y L-(Y P+Y L)=0 from aa]
 have al:∀y∈(P++L)++(l::x::(G++D)),kb f y/\o.ok y=true:=by
  intro y V;refine H y ?_;simp only[fh,dS] at V;rcases V with(h|h)|h|h|h|h;exact .inl h;exact .inr (.inl (by rw[W];simp[h]));subst h;exact .inr (.inl (by rw[W];simp));exact .inr (.inr (.inl h));exact .inr (.inl (by rw[W];simp[h]));exact .inr (.inr (.inr h))
 have a9:((P++L)++(l::x::(G++D))).length=n:=by
  have:=ku Y W;simp only[gU,qI,Ua] at this;simp only[gU,qI];omega
 rw[e0];have b2:(((a+(L++[l]).length:Nat):Int))=((a+(Y L+1):Nat):Int):=aw;rw[b2];have k:((a+(Y L+1):Nat):Int).toNat=a+(Y L+1):=rfl;have ac:((a+Y L:Nat):Int).toNat=a+Y L:=rfl;have bb:((a+(Y L+1):Nat):Int)=((a+Y L:Nat):Int)+1:=aa;have b3:((a+(Y L+1):Nat):Int)<n:=by
  have:=a9;simp only[gU,qI] at this;omega
 have bd:(a:Int)<((a+(Y L+1):Nat):Int):=aa;have b4:(0:Int)<=((a+Y L:Nat):Int):=aa;generalize hz:((a+(Y L+1):Nat):Int)=z at F k bb b3 bd⊢;generalize hw:((a+Y L:Nat):Int)=w at F ac bb b4⊢;generalize hR:(P++L)++(l::x::(G++D))=A at gx gl al a9⊢;simp[F,bd];refine⟨⟨aa,by simp[lenOf];omega⟩,⟨aa,by simp[lenOf];omega⟩, ?_⟩;refine aar af rfl x l ?_ ?_ m.1 B.1 m.2 B.2 (λc u=> ?_);simp[k];exact gx;simp[F,ac];exact gl;have c1:∀O:ai,O.r=[.mk (.slice R n Q) X,.mk (.slice R n Q) t,.mk (.slice R n Q) A]->O.i=[(a:Int),b,i,z,c]->BK (C.cq O) (d (.v 2) (.bin .sub I (.v 3) (.c 1)))=l:=λO s q=>af.cq O _ _ l (by simp[s,q,F,ac];exact gl) B.1
 have c2:∀(O:ai) rv,O.r=[.mk (.slice R n Q) X,.mk (.slice R n Q) t,.mk (.slice R n Q) A,rv]->O.i=[(a:Int),b,i,z,c]->BK (C.cq O) (d (.v 2) (.v 3))=x:=λO rv s q=>af.cq O _ _ x (by simp[s,q,k];exact gx) m.1
 simp[F];refine vg (λb5=> ?_) (λb6=> ?_);rw[c1 _ rfl rfl,c2 _ _ rfl rfl];have m1:(A.modify z.toNat λan=>fA an 0 l)=A.set (a+Y L+1) l:=by rw[k];exact HN (λy V=>(al y V).1) B.1
 have m2:((A.set (a+Y L+1) l).modify w.toNat λan=>fA an 0 x)=(A.set (a+Y L+1) l).set (a+Y L) x:=by
  rw[ac];refine HN (λy V=> ?_) m.1;rcases Fv V with h|rfl;exact(al y h).1;exact B.1
 rw[m1,m2,<-hR,au3 (P++L) (G++D) l x dh];refine⟨⟨aa,by simp[lenOf];omega⟩,⟨aa,by simp[lenOf];omega⟩,⟨aa,by simp[lenOf];omega⟩,⟨L,l::G, ?_,by rw[W];simp,λg' b7=> ?_⟩, ?_⟩;simp;omega;rcases dS.1 b7 with rfl|h;exact u.1 b5;exact hG g' h;show w.toNat<z.toNat;omega;have bf:o.lt x l=false:=by
  cases h:o.lt x l;rfl;exact aG (u.2 h) b6
 have b8:∀y∈L++[l],o.lt x y=false:=by
  intro y V;rcases fh.1 V with h|h;have:o.lt l y=false:=by
   rw[W] at ag;exact(nW.1 (nW.1 ag).1).2.2 y h l aw
  have ca:=H y (.inr (.inl (by rw[W];simp[h])));exact a0.nt x l y m.2 B.2 ca.2 bf this;simp at h;subst h;exact bf
 rw[Fp aa];refine⟨⟨i+1,_,rfl,aa,aa, ?_⟩, ?_⟩;rw[<-a4 (L++[l]) G W b8 hG,<-hR];simp;show b+1-((i+1:Nat):Int).toNat<b+1-i;omega;have cc:min i b=b:=aa6 aa;rw[cc,N] at cG;simp[a3];exact⟨1,rfl,by rw[cG];rfl⟩;cases N
end
end
section
attribute[local simp] K.ab BE.ab RE.rv RE.ab iM ai.rv ai.ext ai.add C.xv yk Kr Ks Kt Dj Dk LE.ae oJ lf
attribute[local congr] Kq
def aDE(h:X<=4398046511104):IntKind.i64.wrap (ay .shr .u64 (IntKind.u64.wrap (X:Int)) 1)=((X/2:Nat):Int):=by
 have e1:IntKind.u64.wrap (X:Int)=(X:Int):=by
  rw[IntKind.wrap_u64];omega
 rw[e1];simp only[ay];have W:(2:Int)^min (Int.toNat 1) IntKind.u64.bits=2:=rfl;rw[W,aKm _ aa,Tj aa aa];omega
def aas{o:bq}{N:Nat}{P X Y Q:ar}{a m b:Int}(W:a=P.length)(V:m=P.length+X.length)(R:b=P.length+X.length+Y.length)(u:1<=X.length)(t:1<=Y.length)(q:X.length+Y.length<N)(M:(P++(X++(Y++Q))).length<=1099511627776)(H:∀z∈P++(X++(Y++Q)),o.ok z=J)(G:gT o.lt X)(F:gT o.lt Y):
  qg (N+3) o [a,m,b] (P++(X++(Y++Q)))=U (P++(bX o.lt (X++Y)++Q)):=by
 subst W;subst V;subst R;unfold qg;rw[aL M];simp only[nL];have e1:((P.length:Int)).toNat=P.length:=rfl;have D:((P.length:Int)+X.length).toNat=P.length+X.length:=aa;have B:((P.length:Int)+X.length+Y.length).toNat=P.length+X.length+Y.length:=aa;rw[e1,D,B];have A:(P++(X++(Y++Q))).take P.length=P:=aw;have y:bo (P++(X++(Y++Q))) P.length (P.length+X.length)=X:=Tk P X _;have x:bo (P++(X++(Y++Q))) (P.length+X.length) (P.length+X.length+Y.length)=Y:=Tl (P:=P++X) (Q:=Q) aw aw rfl;have w:bo (P++(X++(Y++Q))) P.length (P.length+X.length+Y.length)=X++Y:=Tl (P:=P) (Q:=Q) aw rfl dh;have v:(P++(X++(Y++Q))).drop (P.length+X.length+Y.length)=Q:=by
  have:P++(X++(Y++Q))=(P++(X++Y))++Q:=aw;rw[this,aa8 dh]
 rw[A,y,x,w,v,aL];simp only[aA,cz,f9,auM];refine⟨⟨⟨⟨⟨⟨⟨aa,aa⟩,aa⟩, ?_⟩,aa⟩,H⟩,G⟩,F⟩;simp only[gU];omega
def aat{lt:aM->aM->Bool}(h:Q=[]\/F=[])(W:gT lt Q)(V:gT lt F):bX lt (Q++F)=Q++F:=by
 rcases h with rfl|rfl;simpa using aag V;simpa using aag W
def aDF{B X:ar}{a m b:Int}(W:a=Y Q)(V:m=Y Q+Y F)(R:b=Y Q+Y F+Y B)(v:1<=Y F)(u:1<=Y B)(M:(Q++(F++(B++X))).length<=1099511627776):
  qg 1 x [a,m,b] (Q++(F++(B++X)))=U (Q++(B++(F++X))):=by
 subst W;subst V;subst R;unfold qg;rw[aL M];simp only[nL];have e1:((Y Q:Int)).toNat=Y Q:=rfl;have H:((Y Q:Int)+Y F).toNat=Y Q+Y F:=aa;have G:((Y Q:Int)+Y F+Y B).toNat=Y Q+Y F+Y B:=aa;rw[e1,H,G];have D:(Q++(F++(B++X))).take (Y Q)=Q:=aw;have z:bo (Q++(F++(B++X))) (Y Q) (Y Q+Y F)=F:=Tk Q F _;have y:bo (Q++(F++(B++X))) (Y Q+Y F) (Y Q+Y F+Y B)=B:=Tl (P:=Q++F) (Q:=X) aw aw rfl;have w:(Q++(F++(B++X))).drop (Y Q+Y F+Y B)=X:=by
  have:Q++(F++(B++X))=(Q++(F++B))++X:=aw;rw[this,aa8 dh]
 rw[D,z,y,w,aL];simp only[aA,cz,gU];omega
abbrev Oa:K:=.bin .sub I (.bin .add I eh (.v 1)) (.v 3)
section
variable{f d g e N:Nat}{o:bq}{h:HP}{O:ai}{L:dP}{a m b s r mid e1:Nat}
structure Ku(O:ai)(a m b s:Nat)(mid e1:Nat):Prop where
 va:O.i.getD 0 0=a
 vm:O.i.getD 1 0=m
 vb:O.i.getD 2 0=b
 vs:O.i.getD 3 0=s
 Tm:eh.ab O=mid
 ve:Oa.ab O=e1
def Ku.add{rv:RV}(H:Ku O a m b s mid e1):Ku (O.add (.r rv)) a m b s mid e1:=by
 have X:∀(x:Nat),K.ab (O.add (.r rv)) (.v x)=K.ab O (.v x):=λx=>rfl
 exact⟨H.va,H.vm,H.vb,H.vs,by rw[<-H.Tm];rfl,by rw[<-H.ve];rfl⟩
def Fq(H:Ku O a m b s mid e1)(M:h.e=e){t:bz}{y x w:S}{v:Value}{W V:ar}(R:O.rv X=.mk v (Q++(F++(W++V))))(dH:X+1=Y O.r)(G:h.v=v)(D:h.aJ=Q++(bX o.lt (F++W)++V))
  (hP:Y Q=mid)(hX:Y F=e1-mid)(hY:Y W=b-e1)(h1:mid<=e1)(h2:e1<=b)(hN:b-mid<N)(q:(Q++(F++(W++V))).length<=1099511627776)(p:∀z∈Q++(F++(W++V)),o.ok z=J)(B:gT o.lt F)(A:gT o.lt W)
  (n:y.rs[X+1]?=U (.own e))(k:x.rs[X]?=U (.own e))(j:w.rs[X]?=U (.own e)):
  T.hw h (.bi (.cmp .lss eh Oa) (.bi (.cmp .lss Oa (.v 2)) (.ez f g e (.dp (N+3) o [eh,Oa,.v 2]) E (.v X) t (.out .normal y)) (.out .normal x)) (.out .normal w)) O L:=by
 have u:K.ab O (.v 2)=b:=H.vb;rw[yk];simp only[BE.ab,iM,H.Tm,H.ve,cz];refine vg (λi=> ?_) (λi=> ?_);rw[yk];simp only[BE.ab,iM,H.ve,u,cz];refine vg (λd=> ?_) (λd=> ?_);rw[Dj];refine⟨Q++(bX o.lt (F++W)++V), ?_, ?_⟩;simp only[lf,eW,Dv,H.Tm,H.ve,u,RE.rv,R,RV.nK];exact aas aa aa aa aa aa aa q p B A;rw[Dk];refine⟨.inl rfl,X+1,by rw[M];exact n, ?_⟩;have ac:(O.rv X).val=v:=by rw[R];rfl
 rw[show(RE.v X).rv O=O.rv X from rfl,ac,G,D];simp[ai.add,ai.rv,dH];rw[Dk];refine⟨.inl rfl,X,by rw[M];exact k, ?_⟩;rw[R,G,D,aat (.inr (uc aa)) B A];simp;rw[Dk];refine⟨.inl rfl,X,by rw[M];exact j, ?_⟩;rw[R,G,D,aat (.inl (uc aa)) B A];simp
def aiw(H:Ku O a m b s mid e1){x:bz}{B A:T}{v:Value}{W R:ar}(V:O.rv X=.mk v (Q++(F++(W++R))))
  (i:Y Q=a)(d:Y F=s-a)(hY:Y W=mid-s)(h1:a<=s)(h2:s<=mid)(hN:mid-a<N)(w:(Q++(F++(W++R))).length<=1099511627776)(u:∀z∈Q++(F++(W++R)),o.ok z=J)(M:gT o.lt F)(G:gT o.lt W)
  (t:T.hw h k (O.add (.r (.mk v (Q++(bX o.lt (F++W)++R))))) L)(q:O.rv X=.mk v (Q++(bX o.lt (F++W)++R))->T.hw h B O L)(p:O.rv X=.mk v (Q++(bX o.lt (F++W)++R))->T.hw h A O L):
  T.hw h (.bi (.cmp .lss (.v 0) (.v 3)) (.bi (.cmp .lss (.v 3) eh) (.ez f g e (.dp (N+3) o [.v 0,.v 3,eh]) E (.v X) x k) B) A) O L:=by
 have y:K.ab O (.v 0)=a:=H.va;have D:K.ab O (.v 3)=s:=H.vs;rw[yk];simp only[BE.ab,iM,y,D,cz];refine vg (λn=> ?_) (λn=> ?_);rw[yk];simp only[BE.ab,iM,H.Tm,D,cz];refine vg (λj=> ?_) (λj=> ?_);rw[Dj];refine⟨Q++(bX o.lt (F++W)++R), ?_, ?_⟩;simp only[lf,eW,Dv,H.Tm,y,D,RE.rv,V,RV.nK];exact aas aa aa aa aa aa aa w u M G;simp only[RE.rv,V,RV.nJ];exact t;refine q ?_;rw[V,aat (.inr (uc aa)) M G];simp;refine p ?_;rw[V,aat (.inl (uc aa)) M G];simp
def aDG(H:Ku O a m b s mid e1){z:bz}{M G:T}{v:Value}{B R:ar}(W:O.rv X=.mk v (Q++(F++(B++R))))
  (p:Y Q=s)(n:Y F=m-s)(j:Y B=e1-m)(i:s<=m)(f:m<=e1)(y:(Q++(F++(B++R))).length<=1099511627776)
  (x:T.hw h k (O.add (.r (.mk v (Q++(B++(F++R)))))) L)(w:O.rv X=.mk v (Q++(B++(F++R)))->T.hw h M O L)(u:O.rv X=.mk v (Q++(B++(F++R)))->T.hw h G O L):
  T.hw h (.bi (.cmp .lss (.v 3) (.v 1)) (.bi (.cmp .lss (.v 1) Oa) (.ez d g e (.dp 1 o [.v 3,.v 1,Oa]) E (.v X) z k) M) G) O L:=by
 have V:K.ab O (.v 1)=m:=H.vm;have D:K.ab O (.v 3)=s:=H.vs;rw[yk];simp only[BE.ab,iM,V,D,cz];refine vg (λt=> ?_) (λt=> ?_);rw[yk];simp only[BE.ab,iM,H.ve,V,cz];refine vg (λq=> ?_) (λq=> ?_);rw[Dj];refine⟨Q++(B++(F++R)), ?_, ?_⟩;simp only[lf,eW,Dv,H.ve,V,D,RE.rv,W,RV.nK];exact aDF aa aa aa aa aa y;simp only[RE.rv,W,RV.nJ];exact x;refine w ?_;have:B=[]:=uc aa;rw[W,this];simp;refine u ?_;have:F=[]:=uc aa;rw[W,this];simp
end
section
variable{f d e g N:Nat}{o:bq}{O:ai}{L:dP}{a m b s mid e1:Nat}{l:mf}
def aau{O:ai}{v:RV}(h:X=Y O.r):(O.add (.r v)).rv X=v:=by subst h;simp[ai.rv,ai.add]
def aDH(bg:mc o.lt (λx=>o.ok x=J))(H:Ku O a m b s mid e1){v:Value}(al:Y O.r=2)(hc:O.rv 1=.mk v Q)
  (h1:a<=s)(h2:s<=m)(h3:m<=e1)(D:e1<=b)(hb:b<=Y Q)(a0:s<=mid)(bt:mid+m=e1+s)(a1:mid-a<N)(w:b-mid<N)(hl:Y Q<=1099511627776)(bb:∀z∈Q,o.ok z=J)(sA:gT o.lt (bo Q a m))(sB:gT o.lt (bo Q m b))
  (q1:∀i j,a<=i->i<s->e1<=j->j<b->o.lt (Q.getD j []) (Q.getD i [])=E)(q2:∀i j,s<=i->i<m->m<=j->j<e1->o.lt (Q.getD j []) (Q.getD i [])=J)
  (bd:F=Q.take a++(bX o.lt (bo Q a b)++Q.drop b)):T.hw ⟨l,g,o,e,v,F⟩ (Ti e g d f N o) O L:=by
 have bk:=aDq bg bb h1 h2 h3 D hb sA sB q1 q2;have e0:Q=Q.take a++(bo Q a s++(bo Q s m++(bo Q m e1++(bo Q e1 b++Q.drop b)))):=by
  have:=N8 Q (show a<=b from aa);rw[qE Q (show a<=s from aa) (show s<=b from aa),qE Q h2 (show m<=b from aa),qE Q h3 D] at this;simpa using this.symm
 have l1:(bo Q a s).length=s-a:=sC Q aa;have l2:(bo Q s m).length=m-s:=sC Q aa;have l3:(bo Q m e1).length=e1-m:=sC Q aa;have u:(bo Q e1 b).length=b-e1:=sC Q aa;have lP:(Q.take a).length=a:=dh;rw[qE Q h1 h2] at sA;rw[qE Q h3 D] at sB;have a3:gT o.lt (bo Q a s):=(nW.1 sA).1;have t:gT o.lt (bo Q s m):=(nW.1 sA).2.1;have a4:gT o.lt (bo Q m e1):=(nW.1 sB).1;have q:gT o.lt (bo Q e1 b):=(nW.1 sB).2.1;rw[bk] at bd;have bl:∀x,(x∈Q.take a\/x∈bo Q a s\/x∈bo Q s m\/x∈bo Q m e1\/x∈bo Q e1 b\/x∈Q.drop b)->o.ok x=true:=λx hx=>bb x (by
  rcases hx with h|h|h|h|h|h;exact Fz h;exact vO h;exact vO h;exact vO h;exact vO h;exact Dt h)
 rw[e0] at hc hl;generalize Q.take a=P at*;generalize bo Q a s=W at*;generalize bo Q s m=B at*;generalize bo Q m e1=V at*;generalize bo Q e1 b=y at*;generalize Q.drop b=X at*;have p:F=(P++bX o.lt (W++V))++(bX o.lt (B++y)++X):=by rw[bd];simp
 have br:∀x∈bX o.lt (W++V),x∈W\/x∈V:=λx hx=>by simpa using Kk hx
 have bf:(bX o.lt (W++V)).length=mid-a:=by rw[lZ];simp;omega
 have bx:Y P+(Y W+(Y B+(Y V+(Y y+Y X))))<=1099511627776:=by simpa using hl
 have an:∀z∈P++(W++(V++(B++(y++X)))),o.ok z=true:=λz hz=>bl z (by
  simp only[fh] at hz;rcases hz with h|h|h|h|h|h;exact .inl h;exact .inr (.inl h);exact .inr (.inr (.inr (.inl h)));exact .inr (.inr (.inl h));exact .inr (.inr (.inr (.inr (.inl h))));exact .inr (.inr (.inr (.inr (.inr h)))))
 have n:∀z∈(P++bX o.lt (W++V))++(B++(y++X)),o.ok z=true:=λz hz=>an z (by
  simp only[fh] at hz⊢;rcases hz with(h|h)|h|h|h;exact .inl h;rcases br z h with h|h;exact .inr (.inl h);exact .inr (.inr (.inl h));exact .inr (.inr (.inr (.inl h)));exact .inr (.inr (.inr (.inr (.inl h))));exact .inr (.inr (.inr (.inr (.inr h)))))
 have lU:(P++(W++(V++(B++(y++X))))).length<=1099511627776:=dh;have k:((P++bX o.lt (W++V))++(B++(y++X))).length<=1099511627776:=by simp only[gU,bf];omega
 have c:(P++bX o.lt (W++V)).length=mid:=by simp only[gU,bf];omega
 have ac:Y B=e1-mid:=aa;have bs:O.rv 1=.mk v ((P++W)++(B++(V++(y++X)))):=by rw[hc];simp
 have a9:∀R:ar,(P++W)++(V++R)=P++(W++(V++R)):=λR=>aw
 have af:∀R:ar,P++(bX o.lt (W++V)++R)=(P++bX o.lt (W++V))++R:=λR=>aw
 unfold Ti;refine aDG H bs dh l2 l3 h2 h3 dh ?_ (λag=> ?_) (λag=> ?_);have ag:=aau (v:=.mk v ((P++W)++(V++(B++(y++X))))) (show 2=Y O.r from aa);rw[a9] at ag⊢;have M:=H.add (rv:=.mk v (P++(W++(V++(B++(y++X))))));have G:(O.add (.r (.mk v (P++(W++(V++(B++(y++X)))))))).r.length=3:=by simp[ai.add,al]
 refine aiw M ag lP l1 aa h1 a0 a1 lU an a3 a4 ?_ (λA=> ?_) (λA=> ?_);refine Fq M.add rfl ((aau (show 3=_ from G.symm)).trans (by rw[af])) (by simp[ai.add,al]) rfl p c ac u aa D w k n t q rfl rfl rfl;refine Fq M rfl (A.trans (by rw[af])) (show 2+1=_ from G.symm) rfl p c ac u aa D w k n t q rfl rfl rfl;refine Fq M rfl (A.trans (by rw[af])) (show 2+1=_ from G.symm) rfl p c ac u aa D w k n t q rfl rfl rfl;rw[a9] at ag;have M:=H;have G:=al;refine aiw M ag lP l1 aa h1 a0 a1 lU an a3 a4 ?_ (λA=> ?_) (λA=> ?_);refine Fq M.add rfl ((aau (show 2=_ from G.symm)).trans (by rw[af])) (by simp[ai.add,G]) rfl p c ac u aa D w k n t q rfl rfl rfl;refine Fq M rfl (A.trans (by rw[af])) (show 1+1=_ from G.symm) rfl p c ac u aa D w k n t q rfl rfl rfl;refine Fq M rfl (A.trans (by rw[af])) (show 1+1=_ from G.symm) rfl p c ac u aa D w k n t q rfl rfl rfl;rw[a9] at ag;have M:=H;have G:=al;refine aiw M ag lP l1 aa h1 a0 a1 lU an a3 a4 ?_ (λA=> ?_) (λA=> ?_);refine Fq M.add rfl ((aau (show 2=_ from G.symm)).trans (by rw[af])) (by simp[ai.add,G]) rfl p c ac u aa D w k n t q rfl rfl rfl;refine Fq M rfl (A.trans (by rw[af])) (show 1+1=_ from G.symm) rfl p c ac u aa D w k n t q rfl rfl rfl;refine Fq M rfl (A.trans (by rw[af])) (show 1+1=_ from G.symm) rfl p c ac u aa D w k n t q rfl rfl rfl
end
end
section
attribute[local simp] K.ab BE.ab RE.rv RE.ab iM ai.rv ai.ext ai.add C.xv yk Kr Ks Kt Dj Dk LE.ae oJ lf
attribute[local congr] Kq
def getD_some(h:X<Y Q):Q[X]?=U (Q.getD X []):=by
 rw[dL,cL h];rfl
def Tn{i j:Nat}(h:i+j<=4398046511104):IntKind.i64.wrap (ay .shr .u64 (IntKind.u64.wrap (ay .add I (i:Int) (j:Int))) 1)=(((i+j)/2:Nat):Int):=by
 rw[By h];exact aDE h
def To(h:X<Y Q):bo Q X (X+1)=[Q.getD X []]:=by
 have e:Q.getD X []=Q[X]:=by rw[dL,cL h];rfl
 simp only[bo,ajH];rw[HZ h,e];rfl
def aDI(A R:ar)(y x:aM)(W:X=Y A):((A++(x::y::R)).set X y).set (X+1) x=A++(y::x::R):=by
 subst W;rw[aaX _ _ aa,abd,aaX _ _ aa,ajH];rfl
def cV(X:ar)(k:Nat):aM:=X.getD k []
def au5(h:X<Y Q):Q.drop X=cV Q X::Q.drop (X+1):=by
 rw[HZ h,cV,dL,cL h];rfl
section
variable{d:mf}{e g:Nat}{o:bq}{f:RE->K->ap}
def aDJ(af:Fo d f)(ag:mc o.lt (λx=>o.ok x=J)){R:oE}{m b:Nat}(b7:Y Q=X)(hn:X<=1099511627776)(A:∀x∈Q,kb d x)(a0:∀x∈Q,o.ok x=J)
  (hm:m=n+1)(b8:m<b)(hb:b<=Y Q)(sB:gT o.lt (bo Q m b))(bl:F=Q.take n++(bX o.lt (bo Q n b)++Q.drop b)):
  T.hw ⟨d,g,o,e,.slice R X z,F⟩ (air e g f) ⟨[(n:Int),m,b],[],[.mk (.slice R X z) Q],[]⟩ []:=by
 subst hm;have N:n<Y Q:=aa;have a1:∀k,k<Y Q->cV Q k∈Q:=λk P=>ki (getD_some P)
 have u:∀k,k<Y Q->kb d (cV Q k):=λk P=>A _ (a1 k P)
 have M:∀k,k<Y Q->o.ok (cV Q k)=true:=λk P=>a0 _ (a1 k P)
 unfold air;refine zH (λH=>∃(i j:Nat),H=[.r (.mk (.slice R X z) Q),.i i,.i j]/\n+1<=i/\i<=j/\j<=b/\(∀k,n+1<=k->k<i->o.lt (cV Q k) (cV Q n)=J)/\∀k,j<=k->k<b->o.lt (cV Q k) (cV Q n)=E) (λH=>match H with|[_,.i i,.i j]=>j.toNat-i.toNat|_=>0) ⟨n+1,b,rfl,aa,aa,aa,aa,aa⟩ ?_;rintro _ ⟨i,j,rfl,a3,ca,t,a4,a9⟩;by_cases br:i<j;have s:=Tn (i:=i) (j:=j) aa;have bs:i<=(i+j)/2:=aa;have bt:(i+j)/2<j:=aa;generalize hq:(i+j)/2=q at s bs bt;simp[br,s,lenOf];refine⟨aa,aa, ?_⟩;refine aar af rfl (cV Q q) (cV Q n) ?_ ?_ (u q aa) (u n N) (M q aa) (M n N) (λc hc=> ?_);simp[s];exact getD_some aa;simp;exact getD_some N;simp[s];refine vg (λbx=> ?_) (λb0=> ?_);rw[Fp aa];refine⟨⟨q+1,j,rfl,aa,aa,t,λk G D=> ?_,a9⟩, ?_⟩;have B:=hc.1 bx;by_cases P:k=q;subst P;exact B;have hs:=N9 hb sB (i:=k) (j:=q) aa aa aa;cases h:o.lt (cV Q k) (cV Q n);have:=ag.nt _ _ _ (M q aa) (M k aa) (M n N) hs h;rw[B] at this;cases this;rfl;show(j:Int).toNat-((q+1:Nat):Int).toNat<j-i;omega;have B:o.lt (cV Q q) (cV Q n)=false:=by
  cases h:o.lt (cV Q q) (cV Q n);rfl;exact aG (hc.2 h) b0
 refine⟨⟨i,q,rfl,aa,aa,aa,a4,λk G D=> ?_⟩, ?_⟩;by_cases P:k=q;subst P;exact B;have hs:=N9 hb sB (i:=q) (j:=k) aa aa aa;exact ag.nt _ _ _ (M k aa) (M q aa) (M n N) hs B;show((q:Nat):Int).toNat-(i:Int).toNat<j-i;omega;have b1:i=j:=aa;subst b1;simp;have bb:bX o.lt (bo Q n b)=bo Q (n+1) i++cV Q n::bo Q i b:=by
  have e0:bo Q n b=cV Q n::(bo Q (n+1) i++bo Q i b):=by
   rw[<-qE Q a3 t,qE Q (show n<=n+1 from aa) (show n+1<=b from aa)];have:bo Q n (n+1)=[cV Q n]:=To N;rw[this];rfl
  rw[e0];refine aDn ag (λW L=> ?_) (by rw[<-qE Q a3 t];exact sB) (λy hy=> ?_) (λy hy=> ?_);rw[<-e0] at L;exact a0 W (vO L);obtain⟨k,k1,k2,_,rfl⟩:=HL hy;exact a4 k k1 k2;obtain⟨k,k1,k2,_,rfl⟩:=HL hy;exact a9 k k1 k2
 have b2:(Q.take n).length=n:=dh;refine zH (λH=>∃(k:Nat)(V:ar),H=[.r (.mk (.slice R X z) V),.i k]/\n<=k/\k+1<=i/\V=(Q.take n++bo Q (n+1) (k+1))++cV Q n::Q.drop (k+1)) (λH=>match H with|[_,.i k]=>i-k.toNat|_=>0) ⟨n,Q,aw,aa,aa, ?_⟩ ?_;have e1:bo Q (n+1) (n+1)=[]:=by simp[bo]
 have:=N8 Q (show n<=n+1 from aa);rw[To N] at this;rw[e1,KQ];exact this.symm;rintro _ ⟨k,V,rfl,cc,cf,cG⟩;have bd:ay .sub I (i:Int) 1=((i-1:Nat):Int):=aaq aa aa;have p:(Q.take n++bo Q (n+1) (k+1)).length=k:=by rw[gU,b2,sC Q aa];omega
 by_cases P:k<i-1;have hd:Q.drop (k+1)=cV Q (k+1)::Q.drop (k+1+1):=by
  exact au5 aa
 have HO:bo Q (n+1) (k+1+1)=bo Q (n+1) (k+1)++[cV Q (k+1)]:=by
  rw[qE Q (show n+1<=k+1 from aa) (show k+1<=k+1+1 from aa),To aa];rfl
 have l:=u n N;have ac:=u (k+1) aa;have bf:∀W∈V,kb d W:=λW L=>by
  rw[cG] at L;simp only[fh,dS] at L;rcases L with(h|h)|h|h;exact A W (Fz h);exact A W (vO h);subst h;exact l;exact A W (Dt h)
 rw[hd] at cG;generalize cV Q n=x at l cG bb;generalize cV Q (k+1)=y at ac cG HO;have ch:Y V=X:=by
  rw[cG,gU,p];simp;omega
 have gx:V[k]?=U x:=by rw[cG,jd aa,p];simp
 have gy:V[k+1]?=U y:=by rw[cG,jd aa,p];simp
 have c1:∀O:ai,O.r=[.mk (.slice R X z) Q,.mk (.slice R X z) Q,.mk (.slice R X z) V]->O.i=[(n:Int),((n+1:Nat):Int),b,i,i,k]->BK (C.cq O) (f (.v 2) (.bin .add I (.v 5) (.c 1)))=y:=λO G D=>af.cq O _ _ y (by simp only[RE.rv,ai.rv,K.ab,G,D,OD,H4,RV.nK,Fp (a:=k) aa];exact gy) ac
 have c2:∀(O:ai) rv,O.r=[.mk (.slice R X z) Q,.mk (.slice R X z) Q,.mk (.slice R X z) V,rv]->O.i=[(n:Int),((n+1:Nat):Int),b,i,i,k]->BK (C.cq O) (f (.v 2) (.v 5))=x:=λO rv G D=>af.cq O _ _ x (by simp only[RE.rv,ai.rv,K.ab,G,D,OD,H4,RV.nK];exact gx) l
 have m1:(V.modify k λal=>fA al 0 y)=V.set k y:=HN bf ac;have m2:((V.set k y).modify (k+1) λal=>fA al 0 x)=(V.set k y).set (k+1) x:=HN (λW L=>by
  rcases Fv L with h|rfl;exact bf W h;exact ac) l
 have an:(k:Int)<((i-1:Nat):Int):=aa;have bg:=Fp (a:=k) aa;generalize hw:((k+1:Nat):Int)=w at bg;have b3:w.toNat=k+1:=aa;have bk:=aDI (Q.take n++bo Q (n+1) (k+1)) (Q.drop (k+1+1)) y x p.symm;rw[<-cG] at bk;simp[bd,an,bg,lenOf];rw[c1 _ rfl rfl,c2 _ _ rfl rfl,b3,m1,m2,bk];refine⟨aa,aa,aa,⟨k+1,_,by rw[hw],aa,aa, ?_⟩, ?_⟩;rw[HO];simp;show i-w.toNat<i-k;omega;have an:¬(k:Int)<((i-1:Nat):Int):=aa;have b4:k+1=i:=aa;rw[b4] at cG;have hd:=N8 (Q.drop 0) (show i<=i from aa);have b5:Q.drop i=bo Q i b++Q.drop b:=by
  have:=qE Q t (show b<=b from aa);simp only[bo];have e:Q.drop b=(Q.drop i).drop (b-i):=by rw[OH];congr 1;omega
  rw[e,KN]
 have b6:V=F:=by
  rw[cG,bl,bb,b5];simp
 simp[bd,an];exact⟨2,rfl,by rw[b6];rfl⟩
def aDK(af:Fo d f)(ag:mc o.lt (λx=>o.ok x=J)){R:oE}{m b:Nat}(b8:Y Q=X)(hn:X<=1099511627776)(u:∀x∈Q,kb d x)(a9:∀x∈Q,o.ok x=J)
  (hm:b=m+1)(ca:n<m)(hb:b<=Y Q)(sA:gT o.lt (bo Q n m))(br:F=Q.take n++(bX o.lt (bo Q n b)++Q.drop b)):
  T.hw ⟨d,g,o,e,.slice R X z,F⟩ (ais e g f) ⟨[(n:Int),m,b],[],[.mk (.slice R X z) Q],[]⟩ []:=by
 subst hm;have M:m<Y Q:=aa;have bb:∀k,k<Y Q->cV Q k∈Q:=λk N=>ki (getD_some N)
 have t:∀k,k<Y Q->kb d (cV Q k):=λk N=>u _ (bb k N)
 have L:∀k,k<Y Q->o.ok (cV Q k)=true:=λk N=>a9 _ (bb k N)
 unfold ais;refine zH (λP=>∃(i j:Nat),P=[.r (.mk (.slice R X z) Q),.i i,.i j]/\n<=i/\i<=j/\j<=m/\(∀k,n<=k->k<i->o.lt (cV Q m) (cV Q k)=E)/\∀k,j<=k->k<m->o.lt (cV Q m) (cV Q k)=J) (λP=>match P with|[_,.i i,.i j]=>j.toNat-i.toNat|_=>0) ⟨n,m,rfl,aa,aa,aa,aa,aa⟩ ?_;rintro _ ⟨i,j,rfl,al,cc,an,bd,bf⟩;by_cases bs:i<j;have s:=Tn (i:=i) (j:=j) aa;have bt:i<=(i+j)/2:=aa;have bx:(i+j)/2<j:=aa;generalize hq:(i+j)/2=q at s bt bx;simp[bs,s,lenOf];refine⟨aa,aa, ?_⟩;refine aar af rfl (cV Q m) (cV Q q) ?_ ?_ (t m M) (t q aa) (L m M) (L q aa) (λc hc=> ?_);simp;exact getD_some M;simp[s];exact getD_some aa;simp[s];refine vg (λcf=> ?_) (λch=> ?_);rw[Fp aa];have D:o.lt (cV Q m) (cV Q q)=false:=by
  cases h:o.lt (cV Q m) (cV Q q);rfl;have:=hc.2 h;omega
 refine⟨⟨q+1,j,rfl,aa,aa,an,λk B G=> ?_,bf⟩, ?_⟩;by_cases N:k=q;subst N;exact D;have hs:=N9 (show m<=Y Q from aa) sA (i:=k) (j:=q) aa aa aa;exact ag.nt _ _ _ (L m M) (L q aa) (L k aa) D hs;show(j:Int).toNat-((q+1:Nat):Int).toNat<j-i;omega;have D:o.lt (cV Q m) (cV Q q)=true:=hc.1 aa;refine⟨⟨i,q,rfl,aa,aa,aa,bd,λk B G=> ?_⟩, ?_⟩;by_cases N:k=q;subst N;exact D;have hs:=N9 (show m<=Y Q from aa) sA (i:=q) (j:=k) aa aa aa;cases h:o.lt (cV Q m) (cV Q k);have:=ag.nt _ _ _ (L m M) (L k aa) (L q aa) h hs;rw[D] at this;cases this;rfl;show((q:Nat):Int).toNat-(i:Int).toNat<j-i;omega;have b0:i=j:=aa;subst b0;simp;have b1:bX o.lt (bo Q n (m+1))=bo Q n i++cV Q m::bo Q i m:=by
  have e0:bo Q n (m+1)=bo Q n i++bo Q i m++[cV Q m]:=by
   rw[<-qE Q al an,qE Q (show n<=m from aa) (show m<=m+1 from aa),To M];rfl
  rw[e0];refine aDo ag (λW H=> ?_) (by rw[<-qE Q al an];exact sA) (λy hy=> ?_) (λy hy=> ?_);rw[<-e0] at H;exact a9 W (vO H);obtain⟨k,k1,k2,_,rfl⟩:=HL hy;exact bd k k1 k2;obtain⟨k,k1,k2,_,rfl⟩:=HL hy;exact bf k k1 k2
 refine zH (λP=>∃(k:Nat)(V:ar),P=[.r (.mk (.slice R X z) V),.i k]/\i<=k/\k<=m/\V=Q.take k++cV Q m::(bo Q k m++Q.drop (m+1))) (λP=>match P with|[_,.i k]=>k.toNat|_=>0) ⟨m,Q,aw,aa,aa, ?_⟩ ?_;have e1:bo Q m m=[]:=by simp[bo]
 rw[e1,di,<-au5 M,KN];rintro _ ⟨k,V,rfl,cl,cn,cG⟩;by_cases N:i<k;obtain⟨q,rfl⟩:∃q,k=q+1:=⟨k-1,aa⟩;have a0:ay .sub I (((q+1:Nat)):Int) 1=(q:Int):=by rw[aaq aa aa];omega
 have p:(Q.take q).length=q:=dh;have b2:Q.take (q+1)=Q.take q++[cV Q q]:=by
  rw[axa,getD_some (show q<Y Q from aa)];rfl
 have HO:bo Q q m=cV Q q::bo Q (q+1) m:=by
  rw[qE Q (show q<=q+1 from aa) (show q+1<=m from aa),To aa];rfl
 have a1:=t m M;have l:=t q aa;have A:V=Q.take q++(cV Q q::cV Q m::(bo Q (q+1) m++Q.drop (m+1))):=by rw[cG,b2];simp
 have bg:∀W∈V,kb d W:=λW H=>by
  rw[A] at H;simp only[fh,dS] at H;rcases H with h|h|h|h|h;exact u W (Fz h);subst h;exact l;subst h;exact a1;exact u W (vO h);exact u W (Dt h)
 have bk:=au3 (Q.take q) (bo Q (q+1) m++Q.drop (m+1)) (cV Q q) (cV Q m) p.symm;rw[<-A] at bk;have cp:Y V=X:=by
  rw[A,gU,p];simp only[qI,gU,sC Q (show m<=Y Q from aa),FE];omega
 have gx:V[q+1]?=U (cV Q m):=by rw[A,jd aa,p];simp
 have gy:V[q]?=U (cV Q q):=by rw[A,jd aa,p];simp
 have bl:(i:Int)<((q+1:Nat):Int):=aa;have b3:((q+1:Nat):Int)<X:=aa;have a3:((q+1:Nat):Int).toNat=q+1:=rfl;have b4:(0:Int)<=((q+1:Nat):Int):=aa;have b5:∀ac,ac=Q.take q++cV Q m::(bo Q q m++Q.drop (m+1))->Ko (U ⟨1,λP=>∃(k:Nat)(V:ar),P=[.r (.mk (.slice R X z) V),.i k]/\i<=k/\k<=m/\V=Q.take k++cV Q m::(bo Q k m++Q.drop (m+1)),λP=>match P with|[_,.i k]=>k.toNat|_=>0,q+1⟩) [.r (.mk (.slice R X z) ac),.i q]:=λac G=>⟨⟨q,ac,rfl,aa,aa,G⟩,show(q:Int).toNat<q+1 from aa⟩
 generalize hw:((q+1:Nat):Int)=w at a0 bl b3 a3 b4⊢;have c1:∀O:ai,O.r=[.mk (.slice R X z) Q,.mk (.slice R X z) Q,.mk (.slice R X z) V]->O.i=[(n:Int),m,((m+1:Nat):Int),i,i,w]->BK (C.cq O) (f (.v 2) (.bin .sub I (.v 5) (.c 1)))=cV Q q:=λO B G=>af.cq O _ _ _ (by simp only[RE.rv,ai.rv,K.ab,B,G,OD,H4,RV.nK,a0];exact gy) l
 have c2:∀(O:ai) rv,O.r=[.mk (.slice R X z) Q,.mk (.slice R X z) Q,.mk (.slice R X z) V,rv]->O.i=[(n:Int),m,((m+1:Nat):Int),i,i,w]->BK (C.cq O) (f (.v 2) (.v 5))=cV Q m:=λO rv B G=>af.cq O _ _ _ (by simp only[RE.rv,ai.rv,K.ab,B,G,OD,H4,RV.nK,a3];exact gx) a1
 have m1:(V.modify (q+1) λa4=>fA a4 0 (cV Q q))=V.set (q+1) (cV Q q):=HN bg l;have m2:((V.set (q+1) (cV Q q)).modify q λa4=>fA a4 0 (cV Q m))=(V.set (q+1) (cV Q q)).set q (cV Q m):=HN (λW H=>by
  rcases Fv H with h|rfl;exact bg W h;exact l) a1
 simp[a0,bl,lenOf];rw[c1 _ rfl rfl,c2 _ _ rfl rfl,a3,m1,m2,bk];refine⟨aa,aa,aa, ?_⟩;exact b5 _ (by rw[HO];simp);have b6:k=i:=aa;subst b6;have b7:V=F:=by
  have ht:Q.take k=Q.take n++bo Q n k:=by
   have e1:=N8 Q al;have e2:(Q.take n++bo Q n k).length=k:=by rw[gU,sC Q aa];simp;omega
   calc Q.take k=(Q.take n++bo Q n k++Q.drop k).take k:=by rw[KO,e1]
    _=_:=by rw[awV aa,KM aa]
  rw[cG,br,b1,ht];simp
 simp;exact⟨2,rfl,by rw[b7];rfl⟩
end
end
section
attribute[local simp] K.ab BE.ab RE.rv RE.ab iM ai.rv ai.ext ai.add C.xv yk Kr Ks Kt Dj Dk LE.ae oJ lf
attribute[local congr] Kq
section
variable{R:mf}{e g f l N:Nat}{o:bq}{d:RE->K->ap}
def au6(a9:Fo R d)(P:mc o.lt (λx=>o.ok x=J)){H:oE}{m b lo hi:Nat}(bt:Y Q=X)(hn:X<=1099511627776)(hT:∀x∈Q,kb R x)(af:∀x∈Q,o.ok x=J)
  (bx:n<m)(b0:m<b)(hb:b<=Y Q)(hN:b-n<N+1)(b1:2<=b-n)(sA:gT o.lt (bo Q n m))(sB:gT o.lt (bo Q m b))(bb:F=Q.take n++(bX o.lt (bo Q n b)++Q.drop b))
  (l1:n<=lo)(l2:lo<=hi)(l3:hi<=m)(l4:hi<=(n+b)/2)(l5:(n+b)/2+m<=lo+b)(l6:lo=n\/lo+b=(n+b)/2+m)(l7:hi=m\/hi=(n+b)/2)
  {ks:aY}{x0:ap}(bd:x0.map (C.xv ⟨[(n:Int),m,b],[],[.mk (.slice H X z) Q],[]⟩)=[.r (.mk (.slice H X z) Q),.i lo,.i hi]):
  T.hw ⟨R,g,o,e,.slice H X z,F⟩ (.loop 0 ks x0 (.bi (.cmp .lss (.v 3) (.v 4)) (aan g d) (Ti e g f l N o))) ⟨[(n:Int),m,b],[],[.mk (.slice H X z) Q],[]⟩ []:=by
 have ag:∀k,k<Y Q->cV Q k∈Q:=λk G=>ki (getD_some G)
 have al:∀k,k<Y Q->kb R (cV Q k):=λk G=>hT _ (ag k G)
 have W:∀k,k<Y Q->o.ok (cV Q k)=true:=λk G=>af _ (ag k G)
 have w:=Tn (i:=n) (j:=b) aa;have b2:n<(n+b)/2/\(n+b)/2<b:=aa;generalize b3:(n+b)/2=V at*;have u:∀i j,n<=i->i<=j->j<m->o.lt (cV Q j) (cV Q i)=false:=λi j O D B=>by
  by_cases h:i=j;subst h;exact P.irr _ (W i aa);exact N9 (show m<=Y Q from aa) sA O aa B
 have t:∀i j,m<=i->i<=j->j<b->o.lt (cV Q j) (cV Q i)=false:=λi j O D B=>by
  by_cases h:i=j;subst h;exact P.irr _ (W i aa);exact N9 hb sB O aa B
 refine zH (λxs=>∃(s r:Nat),xs=[.r (.mk (.slice H X z) Q),.i s,.i r]/\lo<=s/\s<=r/\r<=hi/\(∀c,lo<=c->c<s->o.lt (cV Q (V+m-1-c)) (cV Q c)=E)/\∀c,r<=c->c<hi->o.lt (cV Q (V+m-1-c)) (cV Q c)=J) (λxs=>match xs with|[_,.i i,.i j]=>j.toNat-i.toNat|_=>0) ⟨lo,hi,bd,aa,l2,aa,aa,aa⟩ ?_;rintro _ ⟨s,r,rfl,b4,b5,bf,an,a0⟩;by_cases bg:s<r;have A:=Tn (i:=s) (j:=r) aa;have bk:s<=(s+r)/2:=aa;have bl:(s+r)/2<r:=aa;generalize hq:(s+r)/2=q at A bk bl;have a1:=By (a:=V) (b:=m) aa;have a3:=aaq (a:=V+m) aa aa;have a4:=zI (a:=V+m-1) (b:=q) aa aa;unfold aan;simp[bg,A,lenOf,w];rw[a1,a3,a4];refine⟨aa,aa, ?_⟩;refine aar a9 rfl (cV Q (V+m-1-q)) (cV Q q) ?_ ?_ (al _ aa) (al q aa) (W _ aa) (W q aa) (λc hc=> ?_);simp[A,w];rw[a1,a3,a4];exact getD_some aa;simp[A];exact getD_some aa;simp[A];refine vg (λb6=> ?_) (λb7=> ?_);rw[Fp aa];have ac:o.lt (cV Q (V+m-1-q)) (cV Q q)=false:=by
  cases h:o.lt (cV Q (V+m-1-q)) (cV Q q);rfl;have:=hc.2 h;omega
 refine⟨⟨q+1,r,rfl,aa,aa,bf,λk O D=> ?_,a0⟩, ?_⟩;have M:=u k q aa aa aa;have L:=t (V+m-1-q) (V+m-1-k) aa aa aa;have t3:=P.nt _ _ _ (W _ aa) (W _ aa) (W q aa) L ac;exact P.nt _ _ _ (W _ aa) (W q aa) (W k aa) t3 M;show(r:Int).toNat-((q+1:Nat):Int).toNat<r-s;omega;have ac:o.lt (cV Q (V+m-1-q)) (cV Q q)=true:=hc.1 aa;refine⟨⟨s,q,rfl,aa,aa,aa,an,λk O D=> ?_⟩, ?_⟩;cases h:o.lt (cV Q (V+m-1-k)) (cV Q k);have M:=u q k aa aa aa;have L:=t (V+m-1-k) (V+m-1-q) aa aa aa;have t3:=P.nt _ _ _ (W _ aa) (W _ aa) (W k aa) L h;have y:=P.nt _ _ _ (W _ aa) (W k aa) (W q aa) t3 M;rw[ac] at y;cases y;rfl;show((q:Nat):Int).toNat-(s:Int).toNat<r-s;omega;have br:s=r:=aa;subst br;simp;refine aDH P (a:=n) (m:=m) (b:=b) (s:=s) (mid:=V) (e1:=V+m-s) ⟨rfl,rfl,rfl,rfl, ?_, ?_⟩ rfl rfl aa aa aa aa hb aa aa aa aa aa af sA sB (λi j O D B h4=> ?_) (λi j O D B h4=> ?_) bb;simp[w];simp[w];rw[By aa,zI aa aa];have bs:lo<s:=by
  rcases l6 with h|h<;>omega
 have p:=an (s-1) aa aa;rw[show V+m-1-(s-1)=V+m-s from aa] at p;have M:=u i (s-1) aa aa aa;have L:=t (V+m-s) j aa aa aa;have t3:=P.nt _ _ _ (W j aa) (W _ aa) (W (s-1) aa) L p;exact P.nt _ _ _ (W j aa) (W (s-1) aa) (W i aa) t3 M;have bs:s<hi:=by
  rcases l7 with h|h<;>omega
 have p:=a0 s aa aa;cases h:o.lt (cV Q j) (cV Q i);have M:=u s i aa aa aa;have L:=t j (V+m-1-s) aa aa aa;have t3:=P.nt _ _ _ (W _ aa) (W j aa) (W i aa) L h;have y:=P.nt _ _ _ (W _ aa) (W i aa) (W s aa) t3 M;rw[p] at y;cases y;exact h
def aDL{a m b:Int}:nL (X+4) x [a,m,b] Q=if decide (0<=a)&&decide (a<m)&&decide (m<b)&&decide (b<=Y Q)&&decide (b-a<((X+1:Nat):Int))&&Q.all x.ok&&yK x.lt (bo Q a.toNat m.toNat)&&yK x.lt (bo Q m.toNat b.toNat) then U (Q.take a.toNat++(bX x.lt (bo Q a.toNat b.toNat)++Q.drop b.toNat)) else none:=rfl
def au7(W:Fo R d)(V:mc o.lt (λx=>o.ok x=J)):Th R e g o (N+4) 3 (aao e g f l N o d):=by
 rintro p _ z aJ ns y w ⟨v,n,u,rfl,Q,P⟩ O t B s;obtain⟨a,m,b,rfl⟩:=Dl t;obtain⟨_,X⟩:=Cf B;clear B;rw[aDL] at X;split at X;rename_i A;simp only[aA,cz,f9,auM] at A;obtain⟨⟨⟨⟨⟨⟨⟨r,ac⟩,af⟩,yO⟩,ag⟩,M⟩,L⟩,H⟩:=A;obtain⟨a,rfl⟩:=Bz r;obtain⟨m,rfl⟩:=Bz (a:=m) aa;obtain⟨b,rfl⟩:=Bz (a:=b) aa;simp only[cS,zR] at X L H;have G:b<=Y z:=aa;refine zG ⟨R,g,o,e,.slice v n u,aJ⟩ (y▸w) s _ _ _ ?_;unfold aao;have D:=Tn (i:=a) (j:=b) aa;obtain⟨F,q⟩:∃F,F=(a+b)/2:=⟨_,rfl⟩;rw[<-q] at D;simp[zI (a:=m) (b:=a) aa aa,zI (a:=b) (b:=m) aa aa,D];refine vg (λk=> ?_) (λk=>vg (λh=> ?_) (λh=>vg (λc=> ?_) (λc=> ?_)));exact aDJ W V Q P O M aa aa G H X.symm;exact aDK W V Q P O M aa aa G L X.symm;refine au6 W V Q P O M (lo:=F+m-b) (hi:=F) aa aa G aa aa L H X.symm aa aa aa aa aa aa aa ?_;simp[D];rw[By aa,zI aa aa];refine au6 W V Q P O M (lo:=a) (hi:=m) aa aa G aa aa L H X.symm aa aa aa aa aa aa aa ?_;simp;cases X
end
end
section
attribute[local simp] K.ab BE.ab RE.rv RE.ab iM ai.rv ai.ext ai.add C.xv yk Kr Ks Kt Dj Dk LE.ae oJ lf
attribute[local congr] Kq
section
variable{lt:aM->aM->Bool}
inductive lz(lt:List RV->List RV->Bool)(s:Nat):List (List RV)->List (List RV)->Prop
 |nil:lz lt s [] []
 |last (X:List (List RV)):1<=Y X->Y X<=s->lz lt s X (bX lt X)
 |cons (X R R':List (List RV)):Y X=s->lz lt s R R'->lz lt s (X++R) (bX lt X++R')
inductive ym(lt:List RV->List RV->Bool)(s:Nat):List (List RV)->List (List RV)->Prop
 |nil:ym lt s [] []
 |snoc (A A' X:List (List RV)):Y X=s->ym lt s A A'->ym lt s (A++X) (A'++bX lt X)
def ym.nY(h:ym lt X Q F):∀{R V:ar},lz lt X R V->lz lt X (Q++R) (F++V):=by
 induction h with
 |nil=>intro R V P;exact P
 |snoc Q F W O _ N=>
  intro R V P;have:=N (.cons W R V O P);simpa using this
def ym.len(h:ym lt X Q F):Y F=Y Q:=by
 induction h with
 |nil=>rfl
 |snoc Q F W R _ V=>simp[V,lZ]
def lz.len(h:lz lt X Q F):Y F=Y Q:=by
 induction h with
 |nil=>rfl
 |last W _ _=>simp[lZ]
 |cons W R P O _ V=>simp[V,lZ]
def ym.mem(h:ym lt X Q F):∀x∈F,x∈Q:=by
 induction h with
 |nil=>simp
 |snoc Q F W V _ R=>
  intro x V;rcases fh.1 V with h|h;simp[R x h];simp[Kk h]
def lz.mem(h:lz lt X Q F):∀x∈F,x∈Q:=by
 induction h with
 |nil=>simp
 |last W _ _=>intro x V;exact Kk V
 |cons W R O V _ P=>
  intro x V;rcases fh.1 V with h|h;simp[Kk h];simp[P x h]
def lz.two(D:1<=X)(h:lz lt X Q F)(N:2*X<=Y Q):∃W V P O,Q=W++(V++P)/\F=bX lt W++(bX lt V++O)/\Y W=X/\Y V=X/\lz lt X P O:=by
 cases h with
 |nil=>simp at N;omega
 |last _ L H=>omega
 |cons W Q F M h=>
  simp only[gU] at N;cases h with
  |nil=>simp at N;omega
  |last _ L H=>exact⟨W,Q,[],[],aw,aw,M,aa,.nil⟩
  |cons V P O G h=>exact⟨W,V,P,O,rfl,rfl,M,G,h⟩
def lz.one(h:lz lt X Q F)(O:X<Y Q)(N:Y Q<2*X):∃W V,Q=W++V/\F=bX lt W++bX lt V/\Y W=X:=by
 cases h with
 |nil=>simp at O
 |last _ O N=>omega
 |cons W Q F M h=>
  simp only[gU] at O N;cases h with
  |nil=>simp at O;omega
  |last _ O N=>exact⟨W,Q,rfl,rfl,M⟩
  |cons V P L H h=>simp only[gU] at N;omega
def lz.short(h:lz lt X Q F)(O:Y Q<=X):F=bX lt Q:=by
 cases h with
 |nil=>rfl
 |last _ M L=>rfl
 |cons W Q F H h=>
  simp only[gU] at O;have V:Q=[]:=uc aa;have P:=h.len;rw[V] at P;have N:F=[]:=uc (by simpa using P);rw[V,N];simp
def lz.aix(W:Y Q<=X):lz lt X Q (bX lt Q):=by
 cases Q with
 |nil=>exact .nil
 |cons x r=>exact .last _ aw W
end
def au8{o:bq}{P X Q:ar}{a b:Int}(W:a=Y P)(V:b=Y P+Y X)(R:(P++(X++Q)).length<=1099511627776)(O:∀z∈P++(X++Q),o.ok z=J):
  qg 2 o [a,b] (P++(X++Q))=U (P++(bX o.lt X++Q)):=by
 subst W;subst V;unfold qg;rw[aL R];simp only[nL];have N:((Y P:Int)).toNat=Y P:=rfl;have M:((Y P:Int)+Y X).toNat=Y P+Y X:=aa;rw[N,M];have L:(P++(X++Q)).take (Y P)=P:=aw;have H:bo (P++(X++Q)) (Y P) (Y P+Y X)=X:=Tk P X _;have G:(P++(X++Q)).drop (Y P+Y X)=Q:=by
  have:P++(X++Q)=(P++X)++Q:=aw;rw[this,aa8 aw]
 rw[L,H,G,aL];simp only[aA,cz,f9,gU];exact⟨⟨⟨aa,aa⟩,aa⟩,O⟩
section
variable{c:mf}{e g j f:Nat}{o:bq}
def au9(d:mc o.lt (λx=>o.ok x=J)):aai c e g o (λns H=>if ns=[]/\H.length<X then jA o J H else Z) 0 (aap e g j f X o):=by
 rintro p _ H aJ ns hP b0 ⟨D,n,B,rfl,bl,hn⟩ hT hN y b1;simp only at y;split at y;rename_i G;obtain⟨rfl,cc⟩:=G;have cf:=acB y;have b2:(∀x∈H,o.ok x=J)/\aJ=bX o.lt H:=by
  cases o with
  |dp k o zs=>simp[jA] at y
  |_=>
   simp only[jA] at y;split at y;rename_i hq;simp only[aA,f9] at hq;exact⟨hq.2.1,(me y).symm⟩;cases y
 obtain⟨a0,b3⟩:=b2;clear y;refine zG ⟨c,g,o,e,.slice D n B,aJ⟩ (hP▸b0) b1 _ _ _ ?_;unfold aap;refine zH (λM=>∃(A O R:ar),M=[.r (.mk (.slice D n B) (O++R)),.i ((A.length+20:Nat):Int),.i A.length]/\H=A++R/\ym o.lt 20 A O) (λM=>match M with|[_,_,.i a]=>n-a.toNat|_=>0) ⟨[],[],H,aw,rfl,.nil⟩ ?_;rintro _ ⟨A,O,R,rfl,F,v⟩;have b4:=v.len;have a1:A.length+R.length=n:=by rw[<-bl,F];simp
 have ac:∀z∈O++R,o.ok z=true:=λz L=>a0 z (by
  rw[F];rcases fh.1 L with h|h;simp[v.mem z h];simp[h])
 by_cases b5:A.length+20<=n;obtain⟨W,R2,rfl,l⟩:∃W R2,R=W++R2/\W.length=20:=⟨R.take 20,R.drop 20,(KN _ _).symm,dh⟩;have Fk:=au8 (o:=o) (P:=O) (X:=W) (Q:=R2) (a:=A.length) (b:=((A.length+20:Nat):Int)) aa aa (by simp at a1⊢;omega) ac;have G:((A.length+20:Nat):Int)<=n:=aa;have a3:=By (a:=A.length+20) (b:=20) aa;have af:Ko (U ⟨0,λM=>∃(A O R:ar),M=[.r (.mk (.slice D n B) (O++R)),.i ((A.length+20:Nat):Int),.i A.length]/\H=A++R/\ym o.lt 20 A O,λM=>match M with|[_,_,.i a]=>n-a.toNat|_=>0,n-A.length⟩) [.r (.mk (.slice D n B) (O++(bX o.lt W++R2))),.i (ay .add I ((A.length+20:Nat):Int) 20),.i ((A.length+20:Nat):Int)]:=by
  refine⟨⟨A++W,O++bX o.lt W,R2, ?_,by rw[F];simp,.snoc A O W l v⟩, ?_⟩;rw[show((20:Int))=((20:Nat):Int) from rfl,a3];simp[l];show n-((A.length+20:Nat):Int).toNat<n-A.length;omega
 generalize L:((A.length+20:Nat):Int)=z at Fk G af⊢;simp[lenOf,G];exact⟨_,Fk,af⟩;have G:¬((A.length+20:Nat):Int)<=n:=aa;have Fk:=au8 (o:=o) (P:=O) (X:=R) (Q:=[]) (a:=A.length) (b:=n) aa aa dh (by simpa using ac);simp only[KQ] at Fk;generalize L:((A.length+20:Nat):Int)=z at G⊢;have hB:lz o.lt 20 H (O++bX o.lt R):=by rw[F];exact v.nY (.aix aa)
 simp[lenOf,G];refine⟨_,Fk, ?_⟩;clear Fk;generalize ch:O++bX o.lt R=b6 at hB⊢;have cl:∀{u:ar}{s:Nat},lz o.lt s H u->∀z∈u,o.ok z=true:=λh z L=>a0 z (h.mem z L)
 refine zH (λM=>∃(s:Nat)(u:ar),M=[.r (.mk (.slice D n B) u),.i s]/\20<=s/\s<=2*1099511627776/\lz o.lt s H u) (λM=>match M with|[_,.i s]=>4398046511104-s.toNat|_=>0) ⟨20,b6,rfl,aa,aa,hB⟩ ?_;rintro _ ⟨s,u,rfl,cn,cp,br⟩;by_cases bs:s<n;have bb:ay .mul I 2 (s:Int)=((2*s:Nat):Int):=by simp only[ay];rw[Tj aa aa];omega
 have bd:ay .mul I (s:Int) 2=((2*s:Nat):Int):=by simp only[ay];rw[Tj aa aa];omega
 have bf:∀a4,lz o.lt (2*s) H a4->Ko (U ⟨1,λM=>∃(s:Nat)(u:ar),M=[.r (.mk (.slice D n B) u),.i s]/\20<=s/\s<=2*1099511627776/\lz o.lt s H u,λM=>match M with|[_,.i s]=>4398046511104-s.toNat|_=>0,4398046511104-s⟩) [.r (.mk (.slice D n B) a4),.i ((2*s:Nat):Int)]:=λa4 h'=>⟨⟨2*s,a4,rfl,aa,aa,h'⟩,show 4398046511104-((2*s:Nat):Int).toNat<4398046511104-s from aa⟩
 generalize bt:((2*s:Nat):Int)=w at bb bd bf;simp[bs,lenOf];refine zH (λM=>∃(A O R t:ar),M=[.r (.mk (.slice D n B) (O++t)),.i ((A.length+2*s:Nat):Int),.i A.length]/\H=A++R/\ym o.lt (2*s) A O/\lz o.lt s R t) (λM=>match M with|[_,_,.i a]=>n-a.toNat|_=>0) ⟨[],[],H,u,by simp[bb,<-bt],rfl,.nil,br⟩ ?_;rintro _ ⟨A,O,R,t,rfl,F,v,hR⟩;have b4:=v.len;have bx:=hR.len;have a1:A.length+R.length=n:=by rw[<-bl,F];simp
 have ac:∀z∈O++t,o.ok z=true:=λz L=>a0 z (by
  rw[F];rcases fh.1 L with h|h;simp[v.mem z h];simp[hR.mem z h])
 have a9:∀z∈R,o.ok z=true:=λz L=>a0 z (by rw[F];simp[L])
 have has:=By (a:=A.length) (b:=s) aa;by_cases b5:A.length+2*s<=n;obtain⟨W,V,Q,Q',rfl,rfl,l,hy,hq⟩:=hR.two aa aa;have b7:(bX o.lt W).length=s:=by rw[lZ,l]
 have b8:(bX o.lt V).length=s:=by rw[lZ,hy]
 have ag:∀z∈W,o.ok z=true:=λz L=>a9 z (by simp[L])
 have al:∀z∈V,o.ok z=true:=λz L=>a9 z (by simp[L])
 have q:=aas (o:=o) (N:=X) (P:=O) (X:=bX o.lt W) (Y:=bX o.lt V) (Q:=Q') (a:=A.length) (m:=((A.length+s:Nat):Int)) (b:=((A.length+2*s:Nat):Int)) aa aa aa aa aa aa (by simp only[gU] at bx a1⊢;omega) ac (Fl d ag) (Fl d al);rw[auI d ag al] at q;have G:((A.length+2*s:Nat):Int)<=n:=aa;have a3:=By (a:=A.length+2*s) (b:=2*s) aa;rw[bt] at a3;have af:Ko (U ⟨2,λM=>∃(A O R t:ar),M=[.r (.mk (.slice D n B) (O++t)),.i ((A.length+2*s:Nat):Int),.i A.length]/\H=A++R/\ym o.lt (2*s) A O/\lz o.lt s R t,λM=>match M with|[_,_,.i a]=>n-a.toNat|_=>0,n-A.length⟩) [.r (.mk (.slice D n B) (O++(bX o.lt (W++V)++Q'))),.i (ay .add I ((A.length+2*s:Nat):Int) w),.i ((A.length+2*s:Nat):Int)]:=by
  refine⟨⟨A++(W++V),O++bX o.lt (W++V),Q,Q', ?_,by rw[F];simp,.snoc A O (W++V) dh v,hq⟩, ?_⟩;rw[a3];simp[l,hy];omega;show n-((A.length+2*s:Nat):Int).toNat<n-A.length;omega
 generalize L:((A.length+2*s:Nat):Int)=z at q G af⊢;simp[lenOf,G,bb,has];exact⟨_,by simpa using q,af⟩;have G:¬((A.length+2*s:Nat):Int)<=n:=aa;generalize L:((A.length+2*s:Nat):Int)=z at G⊢;by_cases cs:A.length+s<n;obtain⟨W,V,rfl,rfl,l⟩:=hR.one aa aa;simp only[gU] at a1 bx;have b7:(bX o.lt W).length=s:=by rw[lZ,l]
 have b8:(bX o.lt V).length=V.length:=lZ;have ag:∀z∈W,o.ok z=true:=λz L=>a9 z (by simp[L])
 have al:∀z∈V,o.ok z=true:=λz L=>a9 z (by simp[L])
 have q:=aas (o:=o) (N:=X) (P:=O) (X:=bX o.lt W) (Y:=bX o.lt V) (Q:=[]) (a:=A.length) (m:=((A.length+s:Nat):Int)) (b:=n) aa aa aa aa aa aa (by simp only[gU,Ua];omega) (by simpa using ac) (Fl d ag) (Fl d al);rw[auI d ag al] at q;simp only[KQ] at q;have an:((A.length+s:Nat):Int)<n:=aa;have bg:lz o.lt (2*s) H (O++bX o.lt (W++V)):=by rw[F];exact v.nY (.aix dh)
 generalize ca:((A.length+s:Nat):Int)=z3 at has q an;simp[lenOf,G,has,an,bd];exact⟨_,q,bf _ bg⟩;have an:¬((A.length+s:Nat):Int)<n:=aa;have bk:=hR.short aa;have bg:lz o.lt (2*s) H (O++t):=by rw[F,bk];exact v.nY (.aix aa)
 generalize ca:((A.length+s:Nat):Int)=z3 at has an;simp[lenOf,G,has,an,bd];exact bf _ bg;have bk:=br.short aa;simp[bs,lenOf];exact⟨3,rfl,by rw[bk,b3];rfl⟩;cases y
end
end
