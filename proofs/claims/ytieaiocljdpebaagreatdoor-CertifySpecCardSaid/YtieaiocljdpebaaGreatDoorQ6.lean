/- Part 6 of the proof. -/
import Derived.Test.YtieaiocljdpebaaGreatDoorQ3
import Derived.Test.YtieaiocljdpebaaGreatDoorProg
import Derived.ChangeKeysEq
import Derived.Laws.StructEq
import Derived.KernelRfl
import Derived.LoopTactic
import Derived.Lib.Hide
import Derived.Outline
import Derived.OwnWalk
import Derived.RegionTactic
import Derived.BigQuiet
import Derived.Deep.QuietTactic
import Derived.WalkSpells
import Derived.WalkLawsBesides
import Derived.WalkSmall
import Derived.Deep.RegionWith
set_option linter.all false
open Bool renaming and_eq_true->aIy,not_eq_true'->aIR,false_eq_true->aIU,or_eq_true->aIZ,and_assoc->aLQ,true->J,false->E
open List renaming getElem?_eq_some_iff->aIz,getElem?_eq_getElem->aIA,getElem?_append_left->aIB,getD_eq_getElem?_getD->aIC,getElem?_map->aIE,cons_append->aIF,getElem?_append_right->aIH,nil_append->aIJ,mem_cons->aIK,replicate->aIL,mem_append->aIM,all_eq_true->aIN,length_append->aIO,map_cons->aIP,pairwise_cons->aIV,mem_of_getElem?->aIW,ext_getElem?->aI0,eq_nil_of_length_eq_zero->aI1,length_eq_one_iff->aI2,mem_map->aI3,pairwise_append->aI4,getElem?_take->aI6,length_eq_zero_iff->aJe,getElem?_of_mem->aJg,getElem?_drop->aJi,getElem?_eq_none_iff->aJk,getElem_mem->aJl,length_cons->aJm,length_map->aJn,map_map->aJo,getElem?_cons_zero->aJr,getElem?_set->aJs,drop_eq_getElem_cons->aJw,mem_or_eq_of_mem_set->aJx,nodup_append->aJz,mem_of_mem_drop->aJA,mem_of_mem_take->aJG,pairwise_iff_getElem->aJO,getD_cons_zero->aJP,take_append_drop->aJR,length_take->aJS,length_drop->aJT,range'->aJV,take_of_length_le->aJW,foldl_cons->aJ2,append_assoc->aJ5,getD_cons_succ->aJ6,map_nil->aJ7,append_nil->aKf,set_append_right->aKo,range_eq_range'->aKq,drop_drop->aKr,length_nil->aKF,take_append_of_le_length->aKI,all_map->aKN,range'_succ->aKP,map->aKR,drop_left'->aK0,pairwise_singleton->aLG,getElem?_modify->aL0,set_cons_zero->aL9,length->Y
open Option.some renaming injEq->aID,inj->aJb
open Nat renaming le_refl->aIG,le_trans->aJL,add_zero->aJU,add_sub_cancel_left->aKu,lt_of_lt_of_le->aKy,zero_le->aKG,sub_self->aLg,min_eq_left->aLh,mul_one->aMg
open Option renaming isSome_iff_exists->aIS,map_eq_some_iff->aJ8,some->U,none->Z
open Array renaming ext'->aJu,getElem?_modify->aJ9,getElem?_eq_none->aLK
open List.Pairwise renaming nil->aJt
open List.cons renaming injEq->aJH
open Int renaming toNat_natCast->aJ0,mul_le_mul_of_nonneg_right->aKh,mul_lt_mul_of_pos_right->aLt,fdiv_eq_ediv_of_nonneg->aLv
open List.Perm renaming refl->aLX,swap->aMi
open Go.IntKind renaming i64->I
namespace Go.Proofs.YtieaiocljdpebaaGreatDoor.Y
open Go.RowKit
noncomputable section
variable{Q:TypeId}{X C u:Nat}{x:Bool}{y:bi}{B:FuncId}{w:Func}{v:Code}{A:List (Nat×Nat×eF)}{n:ah}{t:T}{M:World}
def ue:Option TypeDesc->Bool
 |U (.struct _)|U (.array _ _)=>J
 |_=>E
def vD(P:Program)(t:TypeId)(X:fe):Value:=if ue (P.underlying t) then .agg X.toArray else X.getD 0 undef
def QS(P:Program)(gL:TypeId->dS->Bool):Nat->List Field->dS->Bool
 |_,[],ae=>ae.isEmpty
 |X,f::W,ae=>f.name != "_"&&f.offset==X&&(P.info? f.type).isSome&&decide (P.cellsOf f.type<=Y ae)&&gL f.type (ae.take (P.cellsOf f.type))&&QS P gL (X+P.cellsOf f.type) W (ae.drop (P.cellsOf f.type))
def QT(gL:dS->Bool)(c:Nat):Nat->dS->Bool
 |0,ae=>ae.isEmpty
 |n+1,ae=>decide (c<=Y ae)&&gL (ae.take c)&&QT gL c n (ae.drop c)
def uf(P:Program):Nat->TypeId->dS->Bool
 |0,_,_=>E
 |d+1,t,ae=>match P.underlying t with
  |U .bool=>(match ae with
   |[.bool]=>J
   |_=>E)
  |U (.int k)=>(match ae with
   |[.int X]=>decide (k=X)
   |_=>E)
  |U .string=>(match ae with
   |[.aI _ .str]=>J
   |_=>E)
  |U (.struct W)=> !P.stoodInHeld t&&QS P (uf P d) 0 W.toList ae
  |U (.array n e)=>(P.info? e).isSome&&QT (uf P d e) (P.cellsOf e) n ae
  |_=>E
def vE:∀{X:dS}{W:fe},jS X W->Y W=Y X
 |[],[],_=>rfl
 |[],_::_,h=>h.elim
 |_::_,[],h=>h.elim
 |_::_,_::_,h=>by simp[vE h.2]
def ahr:∀{X:dS}{W:fe}(n:Nat),jS X W->jS (X.take n) (W.take n)/\jS (X.drop n) (W.drop n)
 |[],[],n,_=>by simp[jS]
 |[],_::_,n,h=>h.elim
 |_::_,[],n,h=>h.elim
 |_::_,_::_,0,h=>⟨trivial,h⟩
 |_::_,_::_,n+1,h=>by
  obtain⟨a,b⟩:=ahr n h.2;exact⟨⟨h.1,a⟩,b⟩
def atc:∀{X W:fe}{r:Bool}(n:Nat),i9 X W=U r->∃a b,i9 (X.take n) (W.take n)=U a/\i9 (X.drop n) (W.drop n)=U b/\r=(a&&b)
 |[],[],r,n,h=>by simp[i9] at h;subst h;exact⟨J,J,by simp[i9],by simp[i9],rfl⟩
 |[],_::_,r,n,h=>by simp[i9] at h
 |_::_,[],r,n,h=>by simp[i9] at h
 |x::X,y::W,r,0,h=>⟨J,r,rfl,h,by simp⟩
 |x::X,y::W,r,n+1,h=>by
  simp only[i9] at h;split at h;rename_i a b V R;cases h;obtain⟨c,d,Q,O,rfl⟩:=atc n R;exact⟨a&&c,d,by simp[i9,V,Q],by simpa using O,by simp[aLQ]⟩;cases h
section
variable{P:Program}
def atd(w:World){i:TypeInfo}(M:P.info? Q=U i){W:fe}(h:ue (P.underlying Q)=J\/X<Y W/\P.cellsOf Q=1)(L:(P.underlying Q).isSome=J):(part Q W.toArray X).run P w=.ok (vD P Q ((W.drop X).take (P.cellsOf Q))) w:=by
 obtain⟨d,R⟩:=aIS.1 L;unfold vD;by_cases V:ue (P.underlying Q)=J;rw[if_pos V];have:(W.toArray.extract X (X+P.cellsOf Q))=((W.drop X).take (P.cellsOf Q)).toArray:=by
  apply aJu;simp[List.extract]
 rw[R] at V;unfold ue at V;split at V;rename_i O;cases O;simp[part,isAgg,run_underlying R,run_sizeOf w M];rename_i O;cases O;simp[part,isAgg,run_underlying R,run_sizeOf w M];cases V;rw[if_neg V];obtain⟨N,H⟩:=h.resolve_left V;have F:W.toArray[X]?=U W[X]:=by simp[N]
 have G:((W.drop X).take (P.cellsOf Q)).getD 0 undef=W[X]:=by rw[H];simp[aIC,N]
 rw[G];rw[R] at V;cases d<;>first|(exact absurd rfl V)|simp[part,isAgg,run_underlying R,N]
def aBk{ae:dS}(h:uf P X Q ae=J):(P.underlying Q).isSome=J/\(ue (P.underlying Q)=J\/Y ae=1):=by
 cases X with
 |zero=>simp[uf] at h
 |succ X=>
  simp only[uf] at h;split at h;rename_i W;rw[W];split at h;exact⟨rfl,.inr rfl⟩;cases h;rename_i W;rw[W];split at h;exact⟨rfl,.inr rfl⟩;cases h;rename_i W;rw[W];split at h;exact⟨rfl,.inr rfl⟩;cases h;rename_i W;rw[W];exact⟨rfl,.inl rfl⟩;rename_i W;rw[W];exact⟨rfl,.inl rfl⟩;cases h
def YI(P:Program)(V m:Nat):Prop:=∀(t:TypeId)(ae:dS)(X W:fe)(r:Bool)(w:World),uf P m t ae=J->jS ae X->jS ae W->i9 X W=U r->(Op.equalIn V t (vD P t X) (vD P t W)).run P w=.ok r w
def ate(z:YI P X C)(w:World){ae:dS}{W V:fe}(N:(P.info? Q).isSome=J)(k:P.cellsOf Q<=Y ae)(H:uf P C Q (ae.take (P.cellsOf Q))=J)
  (G:jS ae (W.drop u))(F:jS ae (V.drop u))(y:i9 (W.drop u) (V.drop u)=U x):
  ∃a b q M,(part Q W.toArray u).run P w=.ok a w/\(part Q V.toArray u).run P w=.ok b w/\(Op.equalIn X Q a b).run P w=.ok q w/\i9 (W.drop (u+P.cellsOf Q)) (V.drop (u+P.cellsOf Q))=U M/\x=(q&&M)/\
   jS (ae.drop (P.cellsOf Q)) (W.drop (u+P.cellsOf Q))/\jS (ae.drop (P.cellsOf Q)) (V.drop (u+P.cellsOf Q)):=by
 obtain⟨i,N⟩:=aIS.1 N;obtain⟨D,O⟩:=aBk H;obtain⟨v,a2⟩:=ahr (P.cellsOf Q) G;obtain⟨t,B⟩:=ahr (P.cellsOf Q) F;obtain⟨q,M,s,L,p⟩:=atc (P.cellsOf Q) y;have o:=vE G;have n:=vE F;have A:∀R:fe,(R.drop u).length=Y ae->ue (P.underlying Q)=J\/u<Y R/\P.cellsOf Q=1:=by
  intro R l;rcases O with O|O;exact .inl O;right;simp only[aJS,aJT] at O l;omega
 rw[aKr] at a2 B L;exact⟨_,_,q,M,atd w N (A W o) D,atd w N (A V n) D,z Q _ _ _ q w H v t s,by rw[<-aKr] at L⊢;simpa using L,p,a2,B⟩
def atf{L m:Nat}(H:YI P L m)(X W:fe):∀(O:List Field)(V:Nat)(ae:dS)(r:Bool)(w:World),QS P (uf P m) V O ae=J->jS ae (X.drop V)->jS ae (W.drop V)->i9 (X.drop V) (W.drop V)=U r->
  (Op.eqFields L X.toArray W.toArray O).run P w=.ok r w
 |[],V,ae,r,w,R,N,M,Q=>by
  simp only[QS,List.isEmpty_iff] at R;subst R;have:=vE N;have:=vE M;rw[aJe.1 ‹(X.drop V).length=_›,aJe.1 ‹(W.drop V).length=_›] at Q;simp[i9] at Q;subst Q;simp[Op.eqFields]
 |f::O,V,ae,r,w,R,N,M,Q=>by
  simp only[QS,aIy,bne_iff_ne,beq_iff_eq,decide_eq_true_eq] at R;obtain⟨⟨⟨⟨⟨G,F⟩,D⟩,C⟩,B⟩,A⟩:=R;obtain⟨a,b,q,z,y,x,v,u,rfl,t,s⟩:=ate H w D C B N M Q;have p:=atf H X W O _ _ z w A t s u;simp only[Op.eqFields,G,ne_eq,not_false_eq_true,if_true,Sem.run_bind,F,y,x,v,Result.andThen_ok];cases q;simp;simpa using p
def atg{N m:Nat}(M:YI P N m){e:TypeId}(L:(P.info? e).isSome=J)(X W:fe):∀(n j:Nat)(ae:dS)(r:Bool)(w:World),QT (uf P m e) (P.cellsOf e) n ae=J->jS ae (X.drop (j*P.cellsOf e))->jS ae (W.drop (j*P.cellsOf e))->i9 (X.drop (j*P.cellsOf e)) (W.drop (j*P.cellsOf e))=U r->
  (Op.eqItems N e (P.cellsOf e) X.toArray W.toArray (aJV j n)).run P w=.ok r w
 |0,j,ae,r,w,V,Q,O,R=>by
  simp only[QT,List.isEmpty_iff] at V;subst V;have:=vE Q;have:=vE O;rw[aJe.1 ‹(X.drop _).length=_›,aJe.1 ‹(W.drop _).length=_›] at R;simp[i9] at R;subst R;simp[Op.eqItems]
 |n+1,j,ae,r,w,V,Q,O,R=>by
  simp only[QT,aIy,decide_eq_true_eq] at V;obtain⟨⟨D,C⟩,B⟩:=V;obtain⟨a,b,q,A,z,y,x,H,rfl,G,F⟩:=ate M w L D C Q O R;have v:j*P.cellsOf e+P.cellsOf e=(j+1)*P.cellsOf e:=by rw[Nat.succ_mul]
  rw[v] at H G F;have u:=atg M L X W n (j+1) _ A w B G F H;rw[aKP];simp only[Op.eqItems,Sem.run_bind,z,y,x,Result.andThen_ok];cases q;simp;simpa using u
def ahs(d:Nat):∀m,YI P (d+m) m
 |0=>λt ae H G r w h=>by simp[uf] at h
 |m+1=>by
  intro t ae H G r w X V R Q;have F:=ahs d m;simp only[uf] at X;split at X;rename_i W;split at X;obtain⟨x,rfl⟩:=aI2.1 (vE V);obtain⟨y,rfl⟩:=aI2.1 (vE R);have N:=V.1;have M:=R.1;cases x<;>simp only[BG] at N;cases y<;>simp only[BG] at M;simp[i9,BF] at Q;subst Q;simp[vD,W,ue,Op.equalIn,run_underlying W];cases X;rename_i k W;split at X;obtain⟨x,rfl⟩:=aI2.1 (vE V);obtain⟨y,rfl⟩:=aI2.1 (vE R);have N:=V.1;have M:=R.1;cases x<;>simp only[BG] at N;cases y<;>simp only[BG] at M;subst N M;simp[i9,BF] at Q;subst Q;simp[vD,W,ue,Op.equalIn,run_underlying W];cases X;rename_i W;split at X;obtain⟨x,rfl⟩:=aI2.1 (vE V);obtain⟨y,rfl⟩:=aI2.1 (vE R);have N:=V.1;have M:=R.1;cases x<;>simp only[BG] at N;cases y<;>simp only[BG] at M;simp[i9,BF] at Q;subst Q;simp[vD,W,ue,Op.equalIn,run_underlying W,beq_toListBytes];cases X;rename_i D W;simp only[aIy,aIR] at X;have C:P.fieldsOf t=D:=by simp[Program.fieldsOf,W]
  have L:∀O:fe,vD P t O=.agg O.toArray:=λO=>by simp[vD,W,ue]
  rw[L,L,show d+(m+1)=(d+m)+1 from rfl,run_equalIn_struct w (d+m) t _ _ (by rw[C];exact W) X.1,C];exact atf F H G D.toList 0 ae r w X.2 V R Q;rename_i n e W;simp only[aIy] at X;obtain⟨i,B⟩:=aIS.1 X.1;have L:∀O:fe,vD P t O=.agg O.toArray:=λO=>by simp[vD,W,ue]
  rw[L,L,show d+(m+1)=(d+m)+1 from rfl,run_equalIn_array w (d+m) _ _ W B,aKq];exact atg F X.1 H G n 0 ae r w X.2 (by simpa using V) (by simpa using R) (by simpa using Q);cases X
def aht(P:Program)(t:TypeId)(X:TI):Bool:=ue (P.underlying t)&&uf P 20 t X.ae&& !P.eqGuardType P.depth t
def aBl{V:TI}(h:aht P Q V=J):∀(X W:fe)(r:Bool)(x y:Operand)(w:World),jS V.ae X->jS V.ae W->i9 X W=U r->
  (do eqGuard .eql Q x y (.agg X.toArray) (.agg W.toArray);binOp .eql Q (.agg X.toArray) (.agg W.toArray)).run P w=.ok (.bool r) w/\
  (do eqGuard .neq Q x y (.agg X.toArray) (.agg W.toArray);binOp .neq Q (.agg X.toArray) (.agg W.toArray)).run P w=.ok (.bool !r) w:=by
 intro X W r x y w O N M;simp only[aht,aIy,aIR] at h;have:=ahs (P:=P) 9980 20 Q V.ae X W r w h.1.2 O N M;simp only[vD,h.1.1,if_true] at this;have R:(Op.equal Q (.agg X.toArray) (.agg W.toArray)).run P w=.ok r w:=this;constructor;rw[Sem.run_bind];simp[eqGuard,h.2,binOp,R];rw[Sem.run_bind];simp[eqGuard,h.2,binOp,R]

def aBm{ag:Bool}(W:Y y=X)(V:ag=E->X=1):wa (fW ag y)=y:=by
 cases ag with
 |false=>
  have:=V rfl;subst this;obtain⟨x,rfl⟩:=aI2.1 W;rfl
 |true=>simp[fW,wa,Function.comp_def,bB]
def aBn(O:P.underlying Q=U (.int I)):s5 P Q 1 false:=by
 refine⟨λ_=>rfl,λl X W M L=>⟨λb=>MapKept.run_checkKey O (by trivial) b 9999,MapKept.run_findKey O ?_⟩⟩;obtain⟨x,rfl⟩:=aI2.1 M;have:∀(X:List MapEntry)(i:Nat),(∀e∈X,∃V:bi,Y V=1/\e.key=fW E V)->Instr.findNow (.int I) (fW E [x]) X i=U (mD [x] X i):=by
  intro X;induction X with
  |nil=>intro i _;rfl
  |cons e X H=>
   intro i N;obtain⟨V,G,F⟩:=N e (by simp);obtain⟨y,rfl⟩:=aI2.1 G;simp only[Instr.findNow,F,mD];simp only[fW,aIU,if_false,List.headD_cons,Instr.sameNow,if_true,wa,aJH,and_true];by_cases R:x=y;subst R;simp;have:¬y=x:=λe=>R e.symm
   simp only[this,if_false,show(x==y)=E by simpa using R];exact H (i+1) (λe D=>N e (by simp[D]))
 exact this X 0 L
def aBo(d:TypeDesc)(X:kN)(v:Value):Instr.sameNow d (.agg X) v=none:=by
 cases d<;>rfl
def ath:∀(l X:bi),Y l=Y X->i9 (l.map (Value.int I)) (X.map (Value.int I))=U (l==X)
 |[],[],_=>rfl
 |[],_::_,h=>by simp at h
 |_::_,[],h=>by simp at h
 |x::W,y::V,h=>by
  have R:=ath W V (by simpa using h);simp only[aIP,i9,BF,R];rfl
def ahu:∀(l:bi),jS (aIL (Y l) (.int I)) (l.map (Value.int I))
 |[]=>trivial
 |x::X=>⟨rfl,ahu X⟩
def ati(X:P.underlying Q=U (.int I)){l:bi}{off:Nat}(V:off<Y l)(W:World):∃a,(part Q (l.map (Value.int I)).toArray off).run P W=.ok (.int I a) W:=by
 refine⟨l[off],run_part_plain W (by simp[Program.plainKey,X]) ?_⟩;simp[V]
def aBp{e:TypeId}{i:TypeInfo}(M:P.underlying Q=U (.array X e))(O:P.underlying e=U (.int I))(L:P.info? e=U i)(H:P.cellsOf e=1)(G:Y y=X)(b:Bool)(m:Nat)(W:World):(Instr.checkKey b (m+2) Q (fW J y)).run P W=.ok () W:=by
 rw[show m+2=(m+1)+1 from rfl,Instr.checkKey];simp only[Sem.run_bind,dV.gt M,Result.andThen_ok,fW,if_true];simp only[Std.Legacy.Range.forIn_eq_forIn_range',Std.Legacy.Range.size,Nat.sub_zero,Nat.add_one_sub_one,Nat.div_one];have R:∀j∈aJV 0 X,j<X:=λj F=>by simpa[List.mem_range'] using F
 generalize aJV 0 X=N at R;induction N with
 |nil=>simp
 |cons j N D=>
  obtain⟨a,C⟩:=ati O (l:=y) (off:=j*P.cellsOf e) (by rw[H,G,aMg];exact R j (by simp)) W;have B:=MapKept.run_checkKey (w:=W) (k:=.int I a) O (by trivial) b m;simp only[List.forIn_cons,Sem.run_bind,run_sizeOf W L,Result.andThen_ok,C,B,Sem.run_pure];exact D (λV A=>R V (by simp[A]))
def aBq{R:Array Field}(M:P.underlying Q=U (.struct R))(O:∀f∈R.toList,f.name≠ "_"/\P.underlying f.type=U (.int I)/\f.offset<X)(H:Y y=X)(b:Bool)(m:Nat)(W:World):(Instr.checkKey b (m+2) Q (fW J y)).run P W=.ok () W:=by
 rw[show m+2=(m+1)+1 from rfl,Instr.checkKey];simp only[Sem.run_bind,dV.gt M,Result.andThen_ok,fW,if_true];rw[<-Array.forIn_toList];generalize R.toList=L at O;induction L with
 |nil=>simp
 |cons f L G=>
  obtain⟨F,N,D⟩:=O f (by simp);obtain⟨a,C⟩:=ati N (l:=y) (off:=f.offset) (by rw[H];exact D) W;have B:=MapKept.run_checkKey (w:=W) (k:=.int I a) N (by trivial) b m;simp only[List.forIn_cons,Sem.run_bind,F,ne_eq,not_false_eq_true,if_true,Result.andThen_ok,C,B,Sem.run_pure];exact G (λV A=>O V (by simp[A]))
def atj{d:TypeDesc}(L:P.underlying Q=U d)(D:ue (P.underlying Q)=J)(C:uf P 20 Q (aIL X (.int I))=J)
  (B:∀(l:bi)(b:Bool)(W:World),Y l=X->(Instr.checkKey b 10000 Q (fW J l)).run P W=.ok () W):s5 P Q X true:=by
 refine⟨λh=>(by cases h),λl V W O A=>⟨λb=> ?_, ?_⟩⟩;exact B l b W O;have z:∀l:bi,fW J l=.agg (l.map (Value.int I)).toArray:=λl=>rfl
 have y:∀(V:List MapEntry)(i:Nat),(∀e∈V,∃R:bi,Y R=X/\e.key=fW J R)->(Instr.findAsking Q (fW J l) V i).run P W=.ok (mD l V i) W:=by
  intro V;induction V with
  |nil=>intro i _;rfl
  |cons e V x=>
   intro i H;obtain⟨R,N,G⟩:=H e (by simp);have F:=ahs (P:=P) 9980 20 Q (aIL X (.int I)) (l.map (Value.int I)) (R.map (Value.int I)) (l==R) W C (by rw[<-O];exact ahu l) (by rw[<-N];exact ahu R) (ath l R (by rw[O,N]));simp only[vD,D,if_true] at F;have w:(Op.equal Q (fW J l) e.key).run P W=.ok (l==R) W:=by rw[G];exact F
   simp only[Instr.findAsking,Sem.run_bind,w,Result.andThen_ok];simp only[mD,G,aBm (ag:=J) N (by simp)];by_cases M:R=l;rw[M];simp;have v:(l==R)=false:=by
    cases u:l==R;rfl;exact absurd (eq_of_beq u).symm M
   simp only[M,v,aIU,if_false];exact x (i+1) (λe t=>H e (by simp[t]))
 have s:=y V 0 A;cases V with
 |nil=>simp[Instr.findKey,dV.gt L,Instr.findNow,mD,Result.andThen]
 |cons e V=>
  have:Instr.findNow d (fW J l) (e::V) 0=none:=by simp only[Instr.findNow,z,aBo]
  simp only[Instr.findKey,Sem.run_bind,dV.gt L,Result.andThen_ok,this];exact s
end
section
set_option maxRecDepth 100000
abbrev ri(n:Nat):dS:=aIL n (.int I)
abbrev aw:fD:=U ⟨.one,[.aI .nilFunc .aI],E⟩
abbrev za:fD:=U ⟨(.struct [(0,3),(1,3),(2,3)]),[.int I,.int I,.int I],J⟩
abbrev C4:fD:=U ⟨.one,[.aI (.pointer Z) .aI],E⟩
abbrev Fk:fD:=U ⟨(.struct [(0,3),(1,3)]),[.int I,.int I],J⟩
abbrev YJ:fD:=U ⟨.one,[.int I],E⟩
abbrev YK:fD:=U ⟨.one,[.int .u8],E⟩
abbrev YL:fD:=U ⟨.one,[.int .u64],E⟩
abbrev YM:fD:=U ⟨(.struct [(0,3),(1,3),(2,3),(3,3)]),ri 4,J⟩
abbrev ti8:fD:=U ⟨.str,[.aI (.string ⟨#[]⟩) .str],E⟩
abbrev ti9:fD:=U ⟨.one,[.int .i32],E⟩
abbrev ahx:fD:=U ⟨(.struct [(0,63),(2,63)]),ri 4,J⟩
abbrev atk:fD:=U ⟨(.struct [(0,2),(1,3),(2,4),(3,6)]),[.int I,.int I,.bool,.int .u8],J⟩
abbrev atl:fD:=U ⟨(.struct [(0,9),(1,12)]),[.aI (.string ⟨#[]⟩) .str,.int .u64],E⟩
abbrev atm:fD:=U ⟨(.struct [(0,17)]),[.aI (.pointer Z) .aI],E⟩
abbrev atn:fD:=U ⟨(.struct [(0,3),(1,25),(2,26),(3,27)]),[.int I,.aI (.slice Z 0 0) (.sl 175),.aI (.slice Z 0 0) (.sl 312),.aI (.slice Z 0 0) (.sl 314)],E⟩
abbrev ato:fD:=U ⟨(.struct [(0,3),(1,3),(2,23),(5,24),(6,29),(10,30)]),ri 5++[.aI (.slice Z 0 0) (.sl 173),.int I,.aI (.slice Z 0 0) (.sl 175),.aI (.slice Z 0 0) (.sl 312),.aI (.slice Z 0 0) (.sl 314),.aI (.slice Z 0 0) (.sl 90)],E⟩
abbrev atp:fD:=U ⟨(.struct [(0,33)]),[.aI (.slice Z 0 0) (.sl 73)],E⟩
abbrev atq:fD:=U ⟨(.struct [(0,3),(1,37),(2,38),(3,38),(4,39),(5,42)]),[.int I,.aI (.slice Z 0 0) (.sl 4),.aI (.slice Z 0 0) (.sl 71),.aI (.slice Z 0 0) (.sl 71),.aI (.slice Z 0 0) (.sl 82),.aI (.slice Z 0 0) (.sl 65)],E⟩
abbrev atr:fD:=U ⟨(.struct [(0,3),(1,3),(2,3),(3,69)]),ri 13,J⟩
abbrev ats:fD:=U ⟨(.struct [(0,65),(4,3),(5,3),(6,3),(7,3)]),ri 8,J⟩
abbrev att:fD:=U ⟨(.struct [(0,9),(1,3),(2,3),(3,3),(4,3),(5,3),(6,77),(9,77),(12,77),(15,3),(16,3)]),[.aI (.string ⟨#[]⟩) .str]++ri 16,J⟩
abbrev atu:fD:=U ⟨(.struct [(0,3),(1,3),(2,3),(3,3),(4,3),(5,3),(6,3),(7,3),(8,3),(9,3),(10,88),(12,88)]),ri 14,J⟩
abbrev atv:fD:=U ⟨(.struct [(0,3),(1,3),(2,3),(3,4)]),[.int I,.int I,.int I,.bool],J⟩
abbrev atw:fD:=U ⟨(.struct [(0,3),(1,4),(2,79),(19,71),(32,82)]),[.int I,.bool,.aI (.string ⟨#[]⟩) .str]++ri 29++[.aI (.slice Z 0 0) (.sl 96)],E⟩
abbrev atx:fD:=U ⟨(.struct [(0,79)]),[.aI (.string ⟨#[]⟩) .str]++ri 16,J⟩
abbrev aty:fD:=U ⟨(.struct [(0,163),(1,3),(2,3),(3,3)]),[.aI .nilFunc .aI,.int I,.int I,.int I],E⟩
abbrev atz:fD:=U ⟨(.struct [(0,9),(1,3),(2,3),(3,3)]),[.aI (.string ⟨#[]⟩) .str,.int I,.int I,.int I],J⟩
abbrev atA:fD:=U ⟨(.struct [(0,4),(1,4),(2,4),(3,3),(4,3),(5,3)]),[.bool,.bool,.bool,.int I,.int I,.int I],J⟩
abbrev atB:fD:=U ⟨(.struct [(0,90),(14,96)]),ri 17++[.bool],J⟩
abbrev atC:fD:=U ⟨(.struct [(0,328),(1,4),(2,307),(3,4),(4,329)]),[.aI .nilFunc .aI,.bool,.aI .nilFunc .aI,.bool,.aI .nilFunc .aI],E⟩
abbrev atD:fD:=U ⟨(.struct [(0,356),(8,357),(12,358)]),ri 12++[.aI .nilFunc .aI],E⟩
abbrev atE:fD:=U ⟨(.struct [(0,71),(13,90),(27,96)]),ri 30++[.bool],J⟩
abbrev atF:fD:=U ⟨(.struct [(0,96),(4,3)]),[.int I,.int I,.int I,.bool,.int I],J⟩
abbrev atG:fD:=U ⟨(.struct [(0,17),(1,17),(2,17),(3,9)]),[.aI (.pointer Z) .aI,.aI (.pointer Z) .aI,.aI (.pointer Z) .aI,.aI (.string ⟨#[]⟩) .str],E⟩
abbrev atH:fD:=U ⟨(.struct [(0,426)]),[],E⟩
abbrev atI:fD:=U ⟨(.struct [(0,12),(1,12),(2,287),(3,430),(4,5),(5,5),(6,431),(7,432),(8,433),(9,434),(10,435)]),[.int .u64,.int .u64,.int .u32,.int .u8,.int .u8,.int .u8,.int .u8,.aI .nilFunc .aI,.aI (.pointer Z) .aI,.int .i32,.int .i32],E⟩
abbrev gQ:iE:=U [4]
abbrev zb:iE:=U []
abbrev nJ:iE:=U [3]
abbrev sy:iE:=U [45]
abbrev H7:iE:=U [3,3,3]
abbrev Fl:iE:=U [3,3]
abbrev C5:iE:=U [65,45]
abbrev sg7:iE:=U [65]
abbrev sg9:iE:=U [82]
abbrev QU:iE:=U [65,65]
abbrev ahz:iE:=U [4,45]
abbrev Mu:iE:=U [3,45]
abbrev aBr:iE:=U [30]
abbrev atK:iE:=U [32,35,36,44]
abbrev atL:iE:=U [79]
abbrev atM:iE:=U [90,96]
abbrev atN:iE:=U [29]
abbrev atO:iE:=U [90]
def TT:List (List fD):=[
[Z,aw,YJ,YJ,U ⟨.one,[.bool],E⟩,YK,YK,atk,atk,ti8,ti8,ti8,YL,atl,atl,C4],
 [C4,C4,atm,atm,U ⟨.fh,[.aI .nilIface .aI],E⟩,ti9,za,za,U ⟨(.slice 173),[.aI (.slice Z 0 0) (.sl 173)],E⟩,U ⟨(.slice 175),[.aI (.slice Z 0 0) (.sl 175)],E⟩,U ⟨(.slice 312),[.aI (.slice Z 0 0) (.sl 312)],E⟩,U ⟨(.slice 314),[.aI (.slice Z 0 0) (.sl 314)],E⟩,atn,atn,U ⟨(.slice 90),[.aI (.slice Z 0 0) (.sl 90)],E⟩,ato],
 [ato,U ⟨(.slice 73),[.aI (.slice Z 0 0) (.sl 73)],E⟩,atp,atp,U ⟨(.slice 79),[.aI (.slice Z 0 0) (.sl 79)],E⟩,U ⟨(.slice 4),[.aI (.slice Z 0 0) (.sl 4)],E⟩,U ⟨(.slice 71),[.aI (.slice Z 0 0) (.sl 71)],E⟩,U ⟨(.slice 82),[.aI (.slice Z 0 0) (.sl 82)],E⟩,aw,aw,U ⟨(.slice 65),[.aI (.slice Z 0 0) (.sl 65)],E⟩,atq,atq,YJ,Z,aw],
 [aw,aw,U ⟨(.slice 98),[.aI (.slice Z 0 0) (.sl 98)],E⟩,Z,aw,Z,aw,aw,aw,aw,aw,U ⟨(.slice 142),[.aI (.slice Z 0 0) (.sl 142)],E⟩,Z,aw,Fk,Fk],
 [ahx,ahx,aw,Fk,Fk,U ⟨(.arr 5 68),ri 10,J⟩,atr,atr,ats,ats,Z,aw,aw,U ⟨(.arr 3 3),[.int I,.int I,.int I],J⟩,att,att],
 [aw,aw,U ⟨(.slice 96),[.aI (.slice Z 0 0) (.sl 96)],E⟩,aw,aw,aw,aw,Fk,Fk,atu,atu,aw,aw,Z,aw,atv],
 [atv,za,za,aw,aw,C4,aw,aw,aw,aw,aw,aw,aw,aw,aw,aw],
 [U ⟨(.map 118 4 3 J),[.aI (.map Z) .aI],E⟩,aw,aw,aw,atw,atw,za,aw,aw,U ⟨(.slice 118),[.aI (.slice Z 0 0) (.sl 118)],E⟩,aw,aw,aw,aw,aw,aw],
 [aw,U ⟨(.slice 202),[.aI (.slice Z 0 0) (.sl 202)],E⟩,Z,aw,aw,aw,aw,U ⟨(.slice 3),[.aI (.slice Z 0 0) (.sl 3)],E⟩,Z,aw,U ⟨(.map 3 4 1 E),[.aI (.map Z) .aI],E⟩,aw,aw,U ⟨(.map 142 4 2 J),[.aI (.map Z) .aI],E⟩,U ⟨(.arr 2 3),[.int I,.int I],J⟩,ahx],
 [aw,aw,aw,aw,aw,aw,aw,aw,aw,aw,aw,aw,aw,Z,aw,Z],
 [aw,atx,atx,aw,aty,aty,C4,C4,aw,U ⟨(.arr 7 165),(aIL 7 [.aI .nilFunc .aI,.int I,.int I,.int I]).flatten,E⟩,aw,U ⟨(.slice 165),[.aI (.slice Z 0 0) (.sl 165)],E⟩,atz,atz,za,za],
 [Z,aw,aw,aw,aw,aw,aw,aw,Z,aw,aw,aw,aw,aw,aw,aw],
 [aw,aw,aw,aw,U ⟨(.slice 200),[.aI (.slice Z 0 0) (.sl 200)],E⟩,Z,aw,Fk,Fk,za,za,aw,aw,YL,aw,aw],
 [aw,aw,aw,aw,aw,aw,aw,aw,aw,aw,aw,aw,aw,aw,aw,aw],
 [aw,aw,Z,aw,za,za,Z,aw,aw,aw,aw,Z,aw,aw,Z,U ⟨(.map 3 237 1 E),[.aI (.map Z) .aI],E⟩],
 [aw,aw,aw,aw,atA,atA,U ⟨(.arr 10 245),(aIL 10 [.bool,.bool,.bool,.int I,.int I,.int I]).flatten,J⟩,aw,U ⟨(.arr 2 88),ri 4,J⟩,U ⟨(.slice 248),[.aI (.slice Z 0 0) (.sl 248)],E⟩,U ⟨(.slice 258),[.aI (.slice Z 0 0) (.sl 258)],E⟩,Z,aw,aw,aw,aw],
 [U ⟨(.arr 5 4),[.bool,.bool,.bool,.bool,.bool],J⟩,atB,atB,U ⟨(.arr 2 135),[.aI (.slice Z 0 0) (.sl 3),.aI (.slice Z 0 0) (.sl 3)],E⟩,U ⟨(.arr 10 259),.replicate 20 (.aI (.slice Z 0 0) (.sl 3)),E⟩,aw,aw,aw,aw,aw,aw,aw,aw,aw,aw,aw],
 [U ⟨(.map 3 96 1 E),[.aI (.map Z) .aI],E⟩,aw,aw,aw,U ⟨(.arr 2 42),[.aI (.slice Z 0 0) (.sl 65),.aI (.slice Z 0 0) (.sl 65)],E⟩,U ⟨(.arr 5 276),.replicate 10 (.aI (.slice Z 0 0) (.sl 65)),E⟩,aw,YJ,Z,aw,aw,aw,Z,aw,aw,U ⟨.one,[.int .u32],E⟩],
 [aw,YL,aw,aw,aw,aw,aw,aw,aw,aw,Z,aw,aw,U ⟨(.arr 8 142),ri 16,J⟩,aw,aw],
 [aw,aw,aw,aw,aw,aw,aw,YM,YM,YM,YM,aw,aw,aw,Z,aw],
 [aw,aw,aw,aw,aw,aw,U ⟨(.map 3 331 1 E),[.aI (.map Z) .aI],E⟩,aw,aw,aw,atC,atC,aw,aw,U ⟨(.map 3 40 1 E),[.aI (.map Z) .aI],E⟩,aw],
 [YL,aw,aw,aw,aw,aw,aw,aw,aw,aw,aw,aw,aw,aw,aw,aw],
 [aw,aw,aw,aw,U ⟨(.arr 4 142),ri 8,J⟩,U ⟨(.arr 2 142),ri 4,J⟩,aw,atD,atD,Z,U ⟨(.map 3 360 1 E),[.aI (.map Z) .aI],E⟩,aw,aw,U ⟨(.arr 4 3),ri 4,J⟩,atE,atE],
 [C4,aw,aw,aw,aw,aw,aw,Z,aw,aw,aw,aw,Z,aw,C4,aw],
 [aw,aw,aw,aw,aw,aw,aw,U ⟨(.slice 393),[.aI (.slice Z 0 0) (.sl 393)],E⟩,atF,atF,aw,aw,aw,aw,aw,aw],
 [aw,aw,aw,aw,aw,aw,aw,aw,aw,aw,aw,aw,aw,aw,aw,aw],
 [aw,aw,aw,aw,aw,aw,aw,aw,atG,atG,U ⟨(.arr 0 16),[],J⟩,atH,atH,aw,YK,YK],
 [aw,C4,ti9,ti9,atI,atI,Z]]
def SG:List (List iE):=[
[Z,Z,Z,gQ,Z,Z,Z,Z,Z,Z,Z,gQ,gQ,U [44,45],U [44,45],gQ],
 [U [50,45],Z,ahz,Z,gQ,U [44,45],Z,U [59,45],ahz,C5,ahz,C5,Z,Z,Z,Z],
 [U [32,36,38,39],gQ,zb,Z,Z,sy,Z,U [44],sy,gQ,U [44,45],gQ,gQ,gQ,zb,Z],
 [Z,Z,Z,zb,nJ,Z,Z,Z,Z,Z,Z,Z,Z,zb,Z,U [135,45]],
 [Z,sy,gQ,Z,Z,gQ,gQ,Z,C5,Z,sy,sy,Z,U [30,45],U [82,45],Z],
 [Z,sy,gQ,sy,gQ,sy,U [37],U [38],sg9,U [71,45],C5,sy,gQ,gQ,sy,sy],
 [U [71,45],Z,gQ,Z,Z,Z,gQ,gQ,U [196,45],Z,U [129,45],Z,Z,Z,nJ,Z],
 [Z,Z,Z,U [96],Z,Z,Z,Z,Z,Z,C5,Z,Z,Z,Z,Z],
 [Z,Z,Z,Z,Z,C5,gQ,gQ,Z,Z,Mu,U [229,45],zb,nJ,Mu,U [90,45]],
 [Z,Z,Z,Z,Z,Z,Z,zb,Z,U [23],gQ,U [250,4],Z,Z,Z,gQ],
 [Z,Z,Z,gQ,sy,gQ,gQ,sy,Z,U [30,45],gQ,U [71,45],C5,nJ,Z,Z],
 [Z,Z,nJ,Z,Z,gQ,Z,Z,Z,Z,Z,Z,Z,Z,Z,Z],
 [gQ,Z,Z,C5,Z,aBr,Z,Z,U [71,45],Z,Z,Z,Z,Z,Z,nJ],
 [Z,Z,sy,Z,Z,Z,Z,Z,Z,Z,Z,gQ,nJ,Z,Z,zb],
 [nJ,gQ,Z,U [71,45],nJ,nJ,Z,sy,Mu,gQ,Z,Z,Z,U [38,4],sg7,C5],
 [Z,Z,Z,zb,Z,Z,Z,Z,U [229],nJ,Z,Z,Z,Z,Z,Z],
 [Z,Z,Z,Z,Z,U [229,45],Z,Z,Z,gQ,gQ,U [71],Z,Mu,Z,Z],
 [nJ,Z,Z,U [205],U [205],Z,Z,Z,Z,Z,Z,Z,gQ,Z,Z,Z],
 [Z,Z,Z,Z,Z,Z,U [256],Z,sg7,Z,Z,Z,Z,Z,Z,Z],
 [Z,Z,Z,Z,Z,Z,U [3,3,45],Z,gQ,Z,Z,Z,Z,Z,Z,Z],
 [Z,Z,zb,nJ,Z,Z,Z,Z,Z,Z,Z,Z,Z,Z,Z,Z],
 [Z,Z,Z,Z,Z,Z,nJ,nJ,Z,Z,Z,Z,Z,Z,Z,Z],
 [Z,Mu,U [3,3,45],Z,Z,Z,Z,Z,Z,Mu,Z,Z,Z,Z,Z,Z],
 [Z,Z,Z,nJ,Z,Z,Z,Z,U [3,3,45],Z,Z,Z,Z,Z,Z,Z]]
def PT:List (List iE):=[
[Z,Z,Z,U [32,35,36,3,37,38,39],Z,Z,Z,Z,Z,Z,Z,zb,U [32,35,36,38,39],U [32,35,36,3,37,38,39],U [32,35,36,3,37,38,39],U [44,44]],
 [atK,Z,atK,Z,U [50,50],U [32,35,36,44,37],Z,U [32,3],QU,U [73,3],QU,U [71,79],Z,Z,Z,Z],
 [zb,U [32],Z,Z,Z,U [32],Z,U [32,36,3,37,38,39],U [32],U [32,36,3,37,38,39],U [32,36,3,37,38,39],U [37,37],U [38,38],U [39,39],Z,Z],
 [Z,Z,Z,U [121,123],U [118,118],Z,Z,Z,Z,Z,Z,Z,Z,Z,Z,U [32,3]],
 [Z,U [32,3],U [143],Z,Z,sg7,H7,Z,QU,Z,U [71],atL,Z,U [32,3,3],U [32,3,79],Z],
 [Z,atN,H7,U [23],U [90,3,3],U [32,3,3,82],U [37],U [38],sg9,U [32,3,3,71,82],U [32,3,3,71,79,82],atN,U [32],U [32,36],U [71],U [32,3,3,82]],
 [U [32,3,3,4,71,82],Z,U [82,82],Z,Z,Z,U [82,96],U [32,44,90],U [32,3,3,71,36,82],Z,U [32,35,3,42,42,59],Z,Z,Z,Fl,Z],
 [Z,Z,Z,U [82,3],Z,Z,Z,Z,Z,Z,U [71,79],Z,Z,Z,Z,Z],
 [Z,Z,Z,Z,Z,U [65,3,3],H7,U [9],Z,Z,Fl,Fl,U [30,234],U [90,90],U [88,88],U [32,3]],
 [Z,Z,Z,Z,Z,Z,Z,Z,Z,U [23],U [3,4,3,3],U [30,82],Z,Z,Z,H7],
 [Z,Z,Z,H7,U [23],U [90,3],atO,atL,Z,U [32,3,3],U [30,82],U [32,3,3,71,82],U [32,3,3,71,79,82],U [82,96],Z,Z],
 [Z,Z,U [200,200],Z,Z,QU,Z,Z,Z,Z,Z,Z,Z,Z,Z,Z],
 [nJ,Z,Z,QU,Z,U [32,3,3],Z,Z,U [71,90,96],Z,Z,Z,Z,Z,Z,U [5]],
 [Z,Z,U [88],Z,Z,Z,Z,Z,Z,Z,Z,H7,U [29,3],Z,Z,U [30,234]],
 [U [90,90],atM,Z,U [71,90,96],U [29,3],Fl,Z,U [88],U [88,88],U [9],Z,Z,Z,U [30,71,82],U [30,71,79,82],U [65,3,3]],
 [Z,Z,Z,U [196,274],Z,Z,Z,Z,U [68,3],U [29,90],Z,Z,Z,Z,Z,Z],
 [Z,Z,Z,Z,Z,Fl,Z,Z,Z,U [3,3,3,3,3,3],atM,U [71,3,3],Z,Fl,Z,Z],
 [U [9,5],Z,Z,U [205,205],nJ,Z,Z,Z,Z,Z,Z,Z,H7,Z,Z,Z],
 [Z,Z,Z,Z,Z,Z,atO,Z,U [71,79,3],Z,Z,Z,Z,Z,Z,Z],
 [Z,Z,Z,Z,Z,Z,U [29,3,88],Z,U [90,90],Z,Z,Z,Z,Z,Z,Z],
 [Z,Z,U [391,395],U [393,393],Z,Z,Z,Z,Z,Z,Z,Z,Z,Z,Z,Z],
 [Z,Z,Z,Z,Z,Z,Fl,nJ,Z,Z,Z,Z,Z,Z,Z,Z],
 [Z,U [29,3],U [88,3],Z,Z,Z,Z,Z,Z,U [229,229],Z,Z,Z,Z,Z,Z],
 [Z,Z,Z,Fl,Z,Z,Z,Z,nJ,Z,Z,Z,Z,Z,Z,Z]]
def atP:TD->Bool
 |.map k _ n X=>(k==3&&n==1&& !X)||(k==142&&n==2&&X)||(k==118&&n==3&&X)
 |_=>J
def aBs:s5 Tryz.prog 3 1 false:=aBn (by kernel_rfl)
def aBt:s5 Tryz.prog 142 2 true:=by
 have X:Tryz.prog.underlying 142=U (.array 2 3):=by kernel_rfl
 obtain⟨i,V⟩:∃i,Tryz.prog.info? 3=U i:=aIS.1 (by kernel_rfl);exact atj X (by kernel_rfl) (by kernel_rfl) (λl b W R=>aBp X (by kernel_rfl) V (by kernel_rfl) R b 9998 W)
def atQ(P:Program)(k n:Nat):Bool:=match P.underlying k with
 |U (.struct X)=>X.toList.all λf=>f.name != "_"&&(match P.underlying f.type with
  |U (.int I)=>J
  |_=>E)&&decide (f.offset<n)
 |_=>E
def aBu{P:Program}(h:atQ P X C=J)(Q:ue (P.underlying X)=J)(O:uf P 20 X (aIL C (.int I))=J):s5 P X C true:=by
 unfold atQ at h;split at h;rename_i L V;refine atj V Q O (λl b W N=>aBq V (λf M=> ?_) N b 9998 W);have:=aIN.1 h f M;simp only[aIy,bne_iff_ne,ne_eq,decide_eq_true_eq] at this;refine⟨this.1.1, ?_,this.2⟩;have R:=this.1.2;split at R;assumption;cases R;cases h
def aBv:s5 Tryz.prog 118 3 true:=aBu (by kernel_rfl) (by kernel_rfl) (by kernel_rfl)
def aBw:DE (λt X=>abL Tryz.prog t X&&(!X.eq||aht Tryz.prog t X)&&atP X.d) 0 TT=true:=by kernel_rfl
def YN:DE (λg _=>uB Tryz.prog g) 0 SG=true:=by kernel_rfl
def Mv:iu Tryz.prog (look TT):=by
 intro t R h;have:=al4 aBw h;simp only[aIy,aIZ,aIR] at this;refine ayK this.1.1 (λW=>aBl (this.1.2.resolve_left (by rw[W];simp))) (λk e n Q V=> ?_);have X:=this.2;rw[V] at X;simp only[atP,aIZ,aIy,beq_iff_eq,aIR] at X;rcases X with(⟨⟨rfl,rfl⟩,rfl⟩|⟨⟨rfl,rfl⟩,rfl⟩)|⟨⟨rfl,rfl⟩,rfl⟩;exact aBs;exact aBt;exact aBv
def YO:Tryz.prog.follows .mixedOrders=true:=by kernel_rfl
end
def GL:lu:=[(0,0,6),(1,1,2),(2,2,2)]
def GLK:bc:=[.sl 245,.sl 259,.sl 142]
def GW(W:World):Prop:=∃X,Oe (look TT) GL GLK iG W X
def GW.grow{W X:World}(V:Below W.heap.size W X)(h:GW W):GW X:=by
 obtain⟨R,Q,P,O,N⟩:=h;exact⟨R,Q,P,λk e M L H=>(O k e M L H).grow V,N⟩
def ug(X:zn):Prop:=∀x∈X,kU Tryz.prog (look TT) x.1 x.2.1 x.2.2.1 x.2.2.2.1 x.2.2.2.2
def GZ(z:Bool)(W:World):Prop:=z=J->GW W
def GZ.grow{z:Bool}{W X:World}(V:Below W.heap.size W X)(h:GZ z W):GZ z X:=λe=>(h e).grow V
abbrev qR(z:Bool)(f:FuncId)(F:aV->jF):Prop:=Gv Tryz.prog (look TT) (look PT) (look SG) (GZ z) f F
def atS:∀{X:aP},ov X=J->∀(k:Nat)(t:TypeId),(iT X)[k]?≠U (.own t)
 |[],_,k,t=>by simp[iT]
 |x::X,h,k,t=>by
  simp only[ov,aIy] at h;have W:=atS h.2;cases x with
  |int _=>exact W k t
  |bool=>exact W k t
  |ref e=>
   cases k with
   |zero=>
    intro V;simp[iT] at V;subst V;simp[FX] at h
   |succ k=>simpa[iT] using W k t
def H8(g:Bool):lu:=if g then GL else[]
def sC(g:Bool):bc:=if g then GLK else[]
def atT(g:Bool)(V:g=J->x=J)(W:World)(h:GZ x W):∃R,Oe (look TT) (H8 g) (sC g) (me g) W R:=by
 cases g with
 |true=>exact h (V rfl)
 |false=>exact⟨[],rfl,λk v P h=>by simp[me] at h,λk e O h=>by simp[sC] at h,λN X Q=>by simp[H8] at Q⟩
def aBx{bm:md}(ag:∀B,qR x B (bm B))(hf:Tryz.prog.funcs[B]?=U w)(hb:w.body=U v){D:ai}(hi:D.all (uB Tryz.prog)=J){y:zn}(al:ug y){lW:Bool}{j:Bh}{g:Bool}{e:Option TypeId}
  {a s:i5}{L qk:aP}{l:ah}{H:bc}{F:aV->jF}
  (an:look PT B=U a)(a0:look SG B=U s)(a1:gJ (look TT) a=U L)(a3:gJ (look TT) s=U qk)
  (bf:ov L=J)(hl:jp (look TT) a n=U l)(a4:rC 0 0 (sC g).length L l=J)(q:H=sC g++iT L)(hq:g=E\/uE qk=J)
  (bg:((⟨[],[],0,0,[],0,0,[]⟩:S).bS L).2.ni=C)(bk:((⟨[],[],0,0,[],0,0,[]⟩:S).bS L).2.nb=u)
  (a9:evX (oD Tryz.prog TT SG (H8 g) D A y lW j) e X B v w.ntmps w.results.toList n ⟨[],[],C,u,H,0,0,[]⟩=t)
  (bl:∀p,e=U p->(∃d,uv v=U d/\p9 Tryz.prog d.g p)/\∀P V,F P≠U (.bn V))
  (hc:t.gL (look TT) (look PT) (look SG) s C u H []=J)(hF:∀P o,dU L P->F P=U o->uG bm t (fJ (me g) P) [] o)(hz:g=J->x=J):qR x B F:=by
 have e1:∀G P,dU L P->(fJ G P).i.length=C:=λG P M=>by
  have h1:=(xX L P ⟨[],[],0,0,[],0,0,[]⟩ ⟨[],[],[],[]⟩ M rfl rfl rfl).1;have h2:=(DH (O:=⟨[],[],[],[]⟩) M).1;have h3:=(DH (O:=⟨[],[],G,[]⟩) M).1;rw[<-bg,<-h1,fJ,h3,h2]
 have e2:∀G P,dU L P->(fJ G P).b.length=u:=λG P M=>by
  have h1:=(xX L P ⟨[],[],0,0,[],0,0,[]⟩ ⟨[],[],[],[]⟩ M rfl rfl rfl).2.1;have h2:=(DH (O:=⟨[],[],[],[]⟩) M).2.1;have h3:=(DH (O:=⟨[],[],G,[]⟩) M).2.1;rw[<-bk,<-h1,fJ,h3,h2]
 have e3:∀P,dU L P->(fJ (me g) P).r.length=Y H:=λP M=>by rw[q];exact N7 M (by cases g<;>rfl)
 have e4:∀(k:Nat)(t:TypeId),H[k]?≠U (.own t):=by
  rw[q];intro k t m;by_cases bb:k<(sC g).length;rw[aIB bb] at m;cases g with
  |false=>simp[sC] at bb
  |true=>rcases k with _|_|_|k<;>simp[sC,GLK] at m
  rw[aIH (by omega)] at m;exact atS bf _ t m
 have e5:me g=[]\/uE qk=true:=hq.imp (λh=>by subst h;rfl) id;have bd:∀P o,dU L P->F P=U o->∃N,run (look TT) (look PT) (look SG) bm s N t (fJ (me g) P) H []=U o:=λP o M ho=>by
  obtain⟨N,hN⟩:=hF P o M ho;exact⟨N,tj N t _ H [] [] [] o hN (by rw[e1 _ P M,e2 _ P M];exact hc) (e3 P M) zW.nil⟩
 cases e with
 |none=>exact ay9 (cf:=oD Tryz.prog TT SG (H8 g) D A y lW j) (glk:=sC g) (glv:=me g) (λQ R af=>TC Mv YN hi YO af al) rfl ag (λ_ _ hB h=>h.grow hB) hf hb an a0 a1 a3 hl (by cases g<;>exact a4) q e4 (by cases g<;>rfl) e5 e1 e2 (λW h=>atT g hz W h) ((azs _ _ _ _ _ _ _ _).symm.trans a9) bd
 |some p=>
  obtain⟨⟨d,hd,br⟩,bs⟩:=bl p rfl;exact aza (cf:=oD Tryz.prog TT SG (H8 g) D A y lW j) (glk:=sC g) (glv:=me g) (λQ R af=>TC Mv YN hi YO af al) rfl ag (λ_ _ hB h=>h.grow hB) hf hb hd br an a0 a1 a3 hl (by cases g<;>exact a4) q e4 (by cases g<;>rfl) e5 e1 e2 (λW h=>atT g hz W h) ((azt _ _ _ _ _ _ _ _ _).symm.trans a9) bs bd
def ahB(f:FuncId):qR x f (λ_=>Z):=λ_ _ _ _ _ _ _ _ _ _ _ h=>by cases h
def bp(f:FuncId)(g d:Bool)(t:T):Prop:=∀(z:Bool),(g=J->z=J)->∀(bm:md),(∀g,qR z g (bm g))->∀n,qR z f (λX=>zX d (exec bm n t (fJ (me g) X) []))
def aBy(r:Tryz.prog.funcs[B]?=U w)(q:w.body=U v){H:ai}(p:H.all (uB Tryz.prog)=J){G:zn}(k:ug G){j:Bh}{g:Bool}{P:Option TypeId}
  {N M:i5}{V D:aP}{l:ah}{L:bc}
  (i:look PT B=U N)(e:look SG B=U M)(b:gJ (look TT) N=U V)(a:gJ (look TT) M=U D)
  (af:ov V=J)(hl:jp (look TT) N n=U l)(ag:rC 0 0 (sC g).length V l=J)(al:L=sC g++iT V)(hq:g=E\/uE D=J)
  (an:((⟨[],[],0,0,[],0,0,[]⟩:S).bS V).2.ni=C)(a0:((⟨[],[],0,0,[],0,0,[]⟩:S).bS V).2.nb=u)
  (a1:∀O,P=U O->∃d,uv v=U d/\p9 Tryz.prog d.g O)
  (ht:evX (oD Tryz.prog TT SG (H8 g) H A G x j) P X B v w.ntmps w.results.toList n ⟨[],[],C,u,L,0,0,[]⟩=t)
  (hc:t.gL (look TT) (look PT) (look SG) M C u L []=J):bp B g P.isSome t:=
 λz hz bm a3 m=>aBx (F:=λQ=>zX P.isSome (exec bm m t (fJ (me g) Q) [])) a3 r q p k i e b a af hl ag al hq an a0 ht
  (λO y=>⟨a1 O y,λQ W h=>by
   subst y;simp only[Option.isSome_some] at h;cases R:exec bm m t (fJ (me g) Q) [] with
   |none=>rw[R] at h;cases h
   |some o=>rw[R] at h;cases o<;>simp[zX] at h⟩) hc (λQ o _ h=>by
   cases R:exec bm m t (fJ (me g) Q) [] with
   |none=>simp only[R,zX] at h;cases h
   |some s=>
    simp only[R] at h;have:o=s:=by
     cases s with
     |ret ys=>simp only[zX,aID] at h;exact h.symm
     |bn W=>
      simp only[zX] at h;split at h;cases h;cases h;rfl
    subst this;exact⟨m,R⟩) hz
def YP:dS->Nat->Nat->Nat->ah×Nat×Nat×Nat
 |[],a,b,c=>([],a,b,c)
 |.int k::l,a,b,c=>let r:=YP l (a+1) b c;(.int k (.v a)::r.1,r.2)
 |.bool::l,a,b,c=>let r:=YP l a (b+1) c;(.bool (.v b)::r.1,r.2)
 |.aI _ _::l,a,b,c=>let r:=YP l a b (c+1);(.ref (.v c)::r.1,r.2)
def mkA:i5->Nat->Nat->Nat->ah
 |[],_,_,_=>[]
 |t::W,a,b,c=>match look TT t with
  |U X=>let r:=YP X.ae a b c;(if X.d.isAgg then .agg r.1 else r.1.headD .any)::mkA W r.2.1 r.2.2.1 r.2.2.2
  |none=>[]
def pkF(f:FuncId):aP:=(gJ (look TT) ((look PT f).getD [])).getD []
abbrev YQ:S:=⟨[],[],0,0,[],0,0,[]⟩
def tk{V R:i5}{W N:aP}(H:Tryz.prog.funcs[B]?=U w)(loops:List (Nat×Nat×eF):=[])(inl:ai:=[])(srts:zn:=[])(lW:Bool:=E)(chs:Bh:=[])(g:Bool:=E)(dT:Option TypeId:=Z)(X:Nat:=300)
  (M:ah:=mkA ((look PT B).getD []) 0 0 (sC g).length)(Q:Nat:=(YQ.bS (pkF B)).2.ni)(P:Nat:=(YQ.bS (pkF B)).2.nb)(O:bc:=sC g++iT (pkF B))
  (hsr:ug srts:=by exact λx G=>by cases G)(hdc:∀L,dT=U L->∃d,uv (w.body.getD .skip)=U d/\p9 Tryz.prog d.g L:=by exact λ_ h=>by cases h)
  (F:w.body=U (w.body.getD .skip):=by rfl)(D:inl.all (uB Tryz.prog)=true:=by kernel_rfl)
  (C:look PT B=U V:=by exact rfl)(A:look SG B=U R:=by exact rfl)(z:gJ (look TT) V=U W:=by exact rfl)(y:gJ (look TT) R=U N:=by exact rfl)
  (v:ov W=true:=by exact rfl)(u:jp (look TT) V M=U n:=by exact rfl)(s:rC 0 0 (sC g).length W n=true:=by exact rfl)(r:O=sC g++iT W:=by exact rfl)(q:g=E\/uE N=true:=by first|exact .inl rfl|exact .inr rfl)
  (p:(YQ.bS W).2.ni=Q:=by exact rfl)(o:(YQ.bS W).2.nb=P:=by exact rfl)
  (m:evX (oD Tryz.prog TT SG (H8 g) inl loops srts lW chs) dT X B (w.body.getD .skip) w.ntmps w.results.toList M ⟨[],[],Q,P,O,0,0,[]⟩=t:=by kernel_rfl)
  (k:t.gL (look TT) (look PT) (look SG) R Q P O []=true:=by kernel_rfl):bp B g dT.isSome t:=
 aBy H F D hsr C A z y v u s r q p o hdc m k
structure ahD(tb:jV)(z:Bool):Prop where
 tree:∀f fn,tb.tree f=U fn->bp f fn.g fn.d fn.t
 laid:∀f fn,tb.tree f=U fn->fn.g=J->z=J
 rD:∀f,qR z f (tb.rD f)
def qR.or{F G:aV->jF}(h:qR x B F)(k:qR x B G):qR x B (λW=>match F W with|U o=>U o|none=>G W):=by
 intro Q P O N M L H D V W o X;simp only at X;cases R:F V with
 |some C=>rw[R] at X;simp only[aID] at X;subst X;exact h Q P O N M L H D V W C R
 |none=>rw[R] at X;exact k Q P O N M L H D V W o X
def YR{V:jV}{z:Bool}(X:ahD V z):∀n f,qR z f (V.bm n f)
 |0,f=>X.rD f
 |n+1,f=>by
  cases R:V.tree f with
  |none=>
   have:=qR.or (X.rD f) (ahB f);intro Q P O N M L H G F D o W;simp only[jV.bm,R] at W;exact this Q P O N M L H G F D o W
  |some t=>
   have:=qR.or (X.rD f) (X.tree f t R z (X.laid f t R) (V.bm n) (YR X n) n);intro Q P O N M L H G F D o W;simp only[jV.bm,R] at W;exact this Q P O N M L H G F D o W
def YS(h:(uv v).map DI.g=U B)(k:p9 Tryz.prog B Q):∃d,uv v=U d/\p9 Tryz.prog d.g Q:=by
 cases X:uv v with
 |none=>rw[X] at h;cases h
 |some d=>rw[X] at h;cases h;exact⟨d,rfl,k⟩
def YT:∀X:aV,zU X X
 |[]=>trivial
 |x::X=>⟨by cases x with
  |i n=>rfl
  |b n=>rfl
  |r v=>exact cE.refl v,YT X⟩
def YU{V:Ty}{X:aP}{R:aV}(h:∀e,LK.ref e∉X):yf V M X R:=λq e P Q _=>(h e (aIW Q)).elim
def atV{V:Ty}{W:aP}{R:aV}(h:∀e,LK.ref e∉W):¬ye V W R X:=λ⟨q,e,P,Q,_,_⟩=>h e (aIW Q)
def qS:zn:=[(51,52,118,.lex [0,1,2] E,E),(140,141,90,.ratio 10 11,J),(223,224,90,.lex [0] E,E),(243,178,200,.lex [1,0] E,E),(322,323,393,.lex [4] J,J),(130,130,3,.cn 0 (.lex [] E) [],J)]
end
end Go.Proofs.YtieaiocljdpebaaGreatDoor.Y
namespace Go.Proofs.YtieaiocljdpebaaGreatDoor
open Go.RowKit
variable{M:World}{X C u:Nat}{k:Value}{x:Bool}{Q:TypeId}{F:Array Value}
section
def aBz{P:Program}(X:Array TypeId)(t:TypeId)(x y:Int):(Builtin.min_ X t #[.int I x,.int I y]).run P M=.ok (.int I (min x y)) M:=by
 simp[Builtin.min_,Builtin.min2];omega
def aBA{P:Program}(X:Array TypeId)(t:TypeId)(x y:Int):(Builtin.max_ X t #[.int I x,.int I y]).run P M=.ok (.int I (max x y)) M:=by
 simp[Builtin.max_,Builtin.max2];omega
attribute[go_sem high] aBz aBA
def Sl{R:Type}(P:R->List Value)(k:Nat)(w:World)(v:Value)(X:List R):Prop:=
 ∃(a:Option Addr)(W V:Nat),v=.slice a W V/\Y X=W/\W<=V/\V<=4611686018427387904/\
  ∀i(h:i<Y X),∃b Q,a=U ⟨b,Q,Z⟩/\b<w.heap.size/\∀j,j<k->w.cell? ⟨b,Q+i*k+j,Z⟩=(P X[i])[j]?
def Sl.below{W:Type}{V:W->List Value}{R:World}{Q:List W}(h:Sl V X M k Q)(P:Below M.heap.size M R):Sl V X R k Q:=by
 obtain⟨a,N,L,H,G,F,D,C⟩:=h;refine⟨a,N,L,H,G,F,D,λi B=> ?_⟩;obtain⟨b,A,e,O,z⟩:=C i B;exact⟨b,A,e,aKy O P.size,λj y=>(P.cell (p:=⟨b,_,Z⟩) O).trans (z j y)⟩
def YV(n:Int):List Value:=[.int I n]
def Mw{b:Bool}(h:x=b):Ending.returned (.bool x)=.returned (.bool b):=by rw[h]
def atW{X:World}(V:Below M.heap.size M X):(∀b o,b<M.heap.size->X.cell? ⟨b,o,Z⟩=M.cell? ⟨b,o,Z⟩)/\(∀b o,b<M.heap.size->X.frozen? ⟨b,o,Z⟩=M.frozen? ⟨b,o,Z⟩):=
 ⟨λb o h=>V.cell (p:=⟨b,o,Z⟩) h,λb o h=>V.frozen (p:=⟨b,o,Z⟩) h⟩
def aBB:List Value:=[.int I 0,.int I 29,.int I 20,.int I 21,.int I 29,.int I 0,.int I 20,.int I (-21),.int I 0,.int I (-29),.int I (-20),.int I (-21),.int I (-29),.int I 0,.int I (-20),.int I 21]
def ahE(w:World):Prop:=4<=w.heap.size/\∀i,i<16->w.cell? ⟨2,i,Z⟩=aBB[i]?
def ahE.below{X:World}(h:ahE M)(W:Below M.heap.size M X):ahE X:=
 ⟨aJL h.1 W.size,λi V=>(W.cell (p:=⟨2,i,Z⟩) (by have:=h.1;show 2<_;omega)).trans (h.2 i V)⟩
def zc{X:World}(h:Below M.heap.size M X)(o:Obj):Below M.heap.size M (X.alloc o):=h.alloc h.size o
def ahF{X:World}(h:Below M.heap.size M X){p:Addr}(W:M.heap.size<=p.block)(u:Value):Below M.heap.size M (X.setCell p u):=h.setCell W u
def C6{X W:World}(h:Below M.heap.size M X)(k:Below X.heap.size X W):Below M.heap.size M W:=h.trans (k.mono h.size)
def ahG{X:World}(h:Below M.heap.size M X):Below M.heap.size M X.drew:=h.drew
def Bx(W:World)(b:Nat)(t:TypeId)(X:Array Value):Prop:=W.heap[b]?=U (.cells X t (0,0))
def Bx.lt(h:Bx M X Q F):X<M.heap.size:=by
 unfold Bx at h;by_cases V:X<M.heap.size;exact V;rw[aLK (by omega)] at h;cases h
def Bx.cell(h:Bx M X Q F):∀i,M.cell? ⟨X,i,Z⟩=F[i]?:=by
 intro i;unfold Bx at h;simp[World.cell?,h]
def Bx.new(w:World)(X:Array Value)(t:TypeId):Bx (w.alloc (.cells X t)) w.heap.size t X:=by
 show(w.heap.push _)[w.heap.size]?=_;simp
def Bx.alloc(h:Bx M X Q F)(o:Obj):Bx (M.alloc o) X Q F:=
 (Below.heap_alloc M o X h.lt).trans h
def Bx.drew(h:Bx M X Q F):Bx M.drew X Q F:=h
def Bx.drewN(h:Bx M X Q F)(n:Nat):Bx (M.drewN n) X Q F:=h
def Bx.below{V:World}(h:Bx M X Q F)(R:Below M.heap.size M V):Bx V X Q F:=
 (R.block X h.lt).trans h
def Bx.other(h:Bx M X Q F)(R:X≠C)(V:Value):Bx (M.setCell ⟨C,u,Z⟩ V) X Q F:=
 (Below.heap_setCell M _ V X R).trans h
def Bx.set(h:Bx M X Q F)(u:Value):Bx (M.setCell ⟨X,C,Z⟩ u) X Q (F.setIfInBounds C u):=by
 unfold Bx at*;simp[World.setCell,aJ9,h]
end
end Go.Proofs.YtieaiocljdpebaaGreatDoor
namespace Go.Proofs.YtieaiocljdpebaaGreatDoor.K
structure Range where
 Lo:Int
 Hi:Int
 deriving DecidableEq
structure ij where
 X:Range
 Y:Range
 deriving DecidableEq
structure Vec where
 X:Int
 Y:Int
 Z:Int
 deriving DecidableEq
def ij.zero:ij:=⟨⟨0,0⟩,⟨0,0⟩⟩
def zd(m:Int)(X:List Int):Bool:=X.all λn=> !(n< -m||n>m)
def ij.valid(b:ij):Bool:=zd 1099511627776 [b.X.Lo,b.X.Hi,b.Y.Lo,b.Y.Hi]&&decide (b.X.Lo<=b.X.Hi)&&decide (b.Y.Lo<=b.Y.Hi)
def ij.join(a b:ij):ij:=⟨⟨min a.X.Lo b.X.Lo,max a.X.Hi b.X.Hi⟩,⟨min a.Y.Lo b.Y.Lo,max a.Y.Hi b.Y.Hi⟩⟩
def Range.sD(x y:Range):Bool:=decide (x.Lo<=y.Hi)&&decide (y.Lo<=x.Hi)
def ij.sD(a b:ij):Bool:=a.X.sD b.X&&a.Y.sD b.Y
def ij.shift(a:ij)(x y:Int):ij:=⟨⟨a.X.Lo+x,a.X.Hi+x⟩,⟨a.Y.Lo+y,a.Y.Hi+y⟩⟩
def aaQ(X W:Int):Int:=if X=0 then 0 else if X+W>8 then X+W-8 else X+W
def aBC(m:Int)(X:List Int)(k:Nat)(h:k<Y X):zd m (X.take (k+1))=(zd m (X.take k)&& !(X[k]< -m||X[k]>m)):=by
 unfold zd;rw[List.take_succ_eq_append_getElem h,List.all_append];simp
def aBD{m:Int}{X:List Int}{k:Nat}(h:zd m (X.take k)=E):zd m X=false:=by
 unfold zd at*;rw[List.all_eq_false] at*;obtain⟨x,W,h⟩:=h;exact⟨x,aJG W,h⟩
end Go.Proofs.YtieaiocljdpebaaGreatDoor.K
namespace Go.Proofs.YtieaiocljdpebaaGreatDoor
open Go.RowKit
abbrev K.Range.v(x:K.Range):Value:=.agg #[.int I x.Lo,.int I x.Hi]
abbrev K.ij.v(x:K.ij):Value:=.agg #[.int I x.X.Lo,.int I x.X.Hi,.int I x.Y.Lo,.int I x.Y.Hi]
def K.ij.vs(x:K.ij):List Value:=[.int I x.X.Lo,.int I x.X.Hi,.int I x.Y.Lo,.int I x.Y.Hi]
set_option maxHeartbeats 400000 in
def aBE (m:Int) (v:Value) (X:List Int) (w:World) (A:0<=m) (z:m<=4611686018427387904) (G:Sl YV 1 w v X):
  Calls Tryz.prog 131 #[.int I m,v] w λe F=>e=.returned (.bool (K.zd m X))/\w=F:=by
 obtain⟨a,W,x,rfl,R,u,t,Q⟩:=G;have D:=Lib.hid Q;clear Q;have P:=Lib.hid R;clear R;go_enter Tryz.func131,Tryz.ntmps131;go_wp2
 go_loop [9] (λi=>∃k:Nat,k<=W/\i=.int I k/\K.zd m (X.take k)=J) (λi=>W-(intOf i).toNat)
 case atStart=>exact⟨0,aKG _,rfl,rfl⟩
 case round=>
  obtain⟨k,s,rfl,O⟩:=hrel;have V:=Lib.hid O;clear O;by_cases C:k<W
  ·have N:k<Y X:=by rw[P.out];exact C
   have M:=K.aBC m X k N;have L:=Lib.hid M;clear M;obtain⟨b,r,rfl,q,H⟩:=D.out k N;have B:=H 0 (by omega);clear H;simp only[YV,aJr,aJU,aMg] at B;generalize X[k]=y at*;go_wp2
   all_goals first
    |(go_ret;exact⟨Mw (K.aBD (k:=k+1) (by rw[L.out,V.out];simp<;>omega)).symm,rfl⟩)
    |(go_round
      case rel=>exact⟨k+1,by omega,by go_num,by rw[L.out,V.out];simp<;>omega⟩
      case measure=>simp[intOf];omega)
  ·go_wp2;go_ret;exact⟨Mw (by rw[<-V.out,aJW (by rw[P.out];omega)]),rfl⟩
set_option maxHeartbeats 400000 in
def QW (x:K.ij) (r:Bool) (R:x.valid=r) (w:World):
  Calls Tryz.prog 66 #[x.v] w λe W=>e=.returned (.bool r)/\Below w.heap.size w W:=by
 subst R;have Q:Sl YV 1 ((w.alloc (.cells #[.int I x.X.Lo,.int I x.X.Hi,.int I x.Y.Lo,.int I x.Y.Hi] 143)).alloc (.cells #[.int I x.X.Lo,.int I x.X.Hi,.int I x.Y.Lo,.int I x.Y.Hi] 3)) (.slice (U ⟨w.heap.size+1,0,Z⟩) 4 4) [x.X.Lo,x.X.Hi,x.Y.Lo,x.Y.Hi]:=by
  refine⟨_,_,_,rfl,rfl,by omega,by omega,λi P=>⟨w.heap.size+1,0,rfl,by simp,λj O=> ?_⟩⟩;obtain rfl:j=0:=by omega
  simp at P;rcases i with _|_|_|_|i<;>first|omega|simp[YV,go_sem]
 cases V:K.zd 1099511627776 [x.X.Lo,x.X.Hi,x.Y.Lo,x.Y.Hi]
 all_goals
  go_enter Tryz.func66,Tryz.ntmps66
  go_wp2_with (go_at_call 131;refine(aBE _ _ _ _ (by omega) (by omega) Q).mono ?_;rw[V];rintro e W ⟨rfl,rfl⟩)
  all_goals(go_ret;exact⟨Mw (by simp[K.ij.valid,V]<;>omega),zc (zc (Below.refl _ _) _) _⟩)
set_option maxHeartbeats 400000 in
def ahH (x y:K.Range) (r:Bool) (X:x.sD y=r) (w:World):
  Calls Tryz.prog 73 #[x.v,y.v] w λe W=>e=.returned (.bool r)/\Below w.heap.size w W:=by
 subst X;by_cases V:x.Lo<=y.Hi
 all_goals
  go_enter Tryz.func73,Tryz.ntmps73;go_wp2
  all_goals(go_ret;exact⟨Mw (by simp[K.Range.sD]<;>omega),zc (zc (Below.refl _ _) _) _⟩)
set_option maxHeartbeats 400000 in
def aBF (a b:K.ij) (w:World):
  Calls Tryz.prog 67 #[a.v,b.v,.func (.func 73) #[] #[]] w λe O=>e=.returned (.bool (a.sD b))/\Below w.heap.size w O:=by
 cases R:a.X.sD b.X
 ·have W:=Lib.hid R;clear R;go_enter Tryz.func67,Tryz.ntmps67
  go_wp2_with (go_at_call 73;refine(ahH ⟨_,_⟩ ⟨_,_⟩ E W.out _).mono ?_;rintro e N ⟨rfl,V⟩;obtain⟨M,L⟩:=atW V)
  go_ret;exact⟨Mw (by simp[K.ij.sD,W.out]),C6 (zc (zc (Below.refl _ _) _) _) V⟩
 ·have W:=Lib.hid R;clear R;cases Q:a.Y.sD b.Y
  all_goals
   have P:=Lib.hid Q;clear Q;go_enter Tryz.func67,Tryz.ntmps67
   go_wp2_with fail
   refine(ahH ⟨_,_⟩ ⟨_,_⟩ J W.out _).mono ?_;rintro e N ⟨rfl,V⟩;obtain⟨M,L⟩:=atW V
   go_wp2_with fail
   refine(ahH ⟨_,_⟩ ⟨_,_⟩ _ P.out _).mono ?_;rintro e G ⟨rfl,H⟩;go_wp2;go_ret;exact⟨Mw (by simp[K.ij.sD,W.out,P.out]),C6 (C6 (zc (zc (Below.refl _ _) _) _) V) H⟩
abbrev K.Vec.v(x:K.Vec):Value:=.agg #[.int I x.X,.int I x.Y,.int I x.Z]
set_option maxHeartbeats 1000000 in
def aBG (a b:K.ij) (Q:a.valid=J) (P:b.valid=J) (r:Bool) (O:a.sD b= !r) (w:World):
  Calls Tryz.prog 26 #[a.v,b.v] w λe N=>e=.returned (.tuple #[.bool r,.int I 0])/\Below w.heap.size w N:=by
 have M:=Lib.hid Q;clear Q;have L:=Lib.hid P;clear P;have H:=Lib.hid O;clear O;go_enter Tryz.func26,Tryz.ntmps26
 go_wp2_with fail
 refine(QW ⟨⟨_,_⟩,⟨_,_⟩⟩ J M.out _).mono ?_;rintro e D ⟨rfl,W⟩;have V:=((Bx.new w _ _).alloc _).below W;have X:=(Bx.new (w.alloc _) _ _).below W;simp only[World.size_alloc] at X;have G:=X.cell
 go_wp2_with fail
 refine(QW ⟨⟨_,_⟩,⟨_,_⟩⟩ J L.out _).mono ?_;rintro e C ⟨rfl,R⟩;replace V:=V.below R;replace X:=X.below R;have B:=V.cell;have G:=X.cell
 go_wp2_with fail
 refine(aBF ⟨⟨_,_⟩,⟨_,_⟩⟩ ⟨⟨_,_⟩,⟨_,_⟩⟩ _).mono ?_;rw[show K.ij.sD ⟨⟨_,_⟩,⟨_,_⟩⟩ ⟨⟨_,_⟩,⟨_,_⟩⟩= !r from H.out];rintro e A ⟨rfl,F⟩;go_wp2
 go_ret2
 refine⟨by simp, ?_⟩
 repeat' first|with_reducible apply zc|with_reducible apply ahG|(with_reducible refine ahF ?_ (by dsimp only;omega) _)|with_reducible exact Below.refl _ _|(refine C6 ?_ F)|(refine C6 ?_ R)|(refine C6 ?_ W)
end Go.Proofs.YtieaiocljdpebaaGreatDoor
namespace Go.Proofs.YtieaiocljdpebaaGreatDoor.Y
open Go.RowKit
noncomputable section
variable{B:FuncId}{w:Func}{v:Code}{X C u:Nat}{n:ah}{t:T}{Q:TypeId}{R H:am}{z:aW}{y:bi}{M:World}{x:Bool}{A:List (Nat×Nat×eF)}{c:aH→aH→Bool}{k:Value}
set_option maxHeartbeats 1000000 in
def aBH (a b:K.ij) (X:a.valid=E) (w:World):Calls Tryz.prog 26 #[a.v,b.v] w λe R=>e=.returned (.tuple #[.bool E,.int I 150])/\Below w.heap.size w R:=by
 have Q:=Lib.hid X;clear X;go_enter Tryz.func26,Tryz.ntmps26
 go_wp2_with fail
 refine(QW ⟨⟨_,_⟩,⟨_,_⟩⟩ E Q.out _).mono ?_;rintro e P ⟨rfl,W⟩;have V:=(Bx.new (w.alloc _) _ _).below W;simp only[World.size_alloc] at V;have O:=V.cell;go_wp2
 go_ret2
 refine⟨by simp, ?_⟩
 repeat' first|with_reducible apply zc|with_reducible apply ahG|(with_reducible refine ahF ?_ (by dsimp only;omega) _)|with_reducible exact Below.refl _ _|(refine C6 ?_ W)
set_option maxHeartbeats 1000000 in
def aBI (a b:K.ij) (Q:a.valid=J) (P:b.valid=E) (w:World):Calls Tryz.prog 26 #[a.v,b.v] w λe O=>e=.returned (.tuple #[.bool E,.int I 150])/\Below w.heap.size w O:=by
 have N:=Lib.hid Q;clear Q;have M:=Lib.hid P;clear P;go_enter Tryz.func26,Tryz.ntmps26
 go_wp2_with fail
 refine(QW ⟨⟨_,_⟩,⟨_,_⟩⟩ J N.out _).mono ?_;rintro e H ⟨rfl,W⟩;have V:=((Bx.new w _ _).alloc _).below W;have X:=(Bx.new (w.alloc _) _ _).below W;simp only[World.size_alloc] at X;have L:=X.cell
 go_wp2_with fail
 refine(QW ⟨⟨_,_⟩,⟨_,_⟩⟩ E M.out _).mono ?_;rintro e G ⟨rfl,R⟩;replace V:=V.below R;replace X:=X.below R;have F:=V.cell;have L:=X.cell;go_wp2
 go_ret2
 refine⟨by simp, ?_⟩
 repeat' first|with_reducible apply zc|with_reducible apply ahG|(with_reducible refine ahF ?_ (by dsimp only;omega) _)|with_reducible exact Below.refl _ _|(refine C6 ?_ R)|(refine C6 ?_ W)
def S.bare(s:S):S:=⟨[],[],s.ni,s.nb,s.rs,0,0,s.pd⟩
def YW:XE->S->T:=λe s=>.out e s.bare
section
variable{g:ai}{q:World}{D:bQ}{V:ai}{O:aa}{s:S}{a:Act}{W:World}{o:Ty}{cf:bz}{p:Sp}
def av.bare(R:av g q D o V O s a W):av g q D o [] O s.bare ⟨#[],a.defers⟩ W where
 mem:=⟨R.mem.base,λi h=>by simp[S.bare,aL,bU] at h,λi j h=>by simp[S.bare,aL,bU] at h,λi t M h=>by simp[S.bare,bU] at h,λk e X Q P=>⟨(R.mem.ref k e X Q P).1,λb L i h=>by simp[S.bare,aL,bU] at h⟩⟩
 fH:=rfl
 ei:=R.ei
 eb:=R.eb
 er:=R.er
 cM:=R.cM
 size:=rfl
 tmps:=λt H h=>by simp[S.bare] at h
 fl:=λk e X b Q P N=>⟨(R.fl k e X b Q P N).own,(R.fl k e X b Q P N).mem,λi h=>by simp[S.bare,aL,bU] at h,(R.fl k e X b Q P N).alone,(R.fl k e X b Q P N).inner⟩
def aBJ(H:kD p cf)(x:p.P.funcs[B]?=U w)(j:w.body=U v)(i:w.results.toList=[])(h:p.D=bQ.none){s:S}{O:aa}{V:ai}
  (b:eS cf X B v {s with tmps:=n++aIL (w.ntmps-Y n) (.bH [])} iF YW=t)(F:t.aQ p O [])(hg:ek cf.gl O)(R:av p.S0 p.w0 bQ.none cf.ty V O {s with tmps:=[]} ⟨#[],[]⟩ p.w0)
  (hQ:∀e a W,p.Q e a W->(e=.normal\/e=.ret)/\p.R (.returned (.tuple #[])) W):
  Calls p.P B (SV.aA O V n).toArray p.w0 p.R:=by
 subst b;refine NR x j ?_;have RE:=R.enter n w.ntmps R.cM;refine(TA H X).1 bQ.none ⟨{s with tmps:=n++aIL (w.ntmps-Y n) (.bH [])},O,V,[]⟩ iF Z B v _ _ [] O V _ p.w0 _ (Gp _ _) (kC.here _ _ _ _) rfl (λhh=>by cases hh) ⟨w,x⟩ F RE hg ?_ ?_;intro u M C pd y hA hR;obtain⟨af,G,q0,A,q3⟩:=hA.l9;show LeavesInM Fence.wide 0 p.P w M.tmps p.R M.defers (.panicking u) C;rw[G];exact ta (by simp) (aJz.1 A).1 (λd L=>(q3 d (by simp[L])).1) (NU (H.Ta u) (λd L=>(q3 d (by simp[L])).2) hR);intro e s' O' V' M C L' hl hL r F;obtain⟨af,G,q0,A,q3⟩:=r.cM.l9;have m:=r.p8 G;have z:=hQ _ _ _ (F O'.y [] _ _ (by rw[H.pt,h];exact m.bare));have k:LeavesInM Fence.wide 0 p.P w M.tmps p.R M.defers .returning (C):=by
  rw[G];refine ta (by simp) (aJz.1 A).1 (λd L=>(q3 d (by simp[L])).1) ⟨_,NG (l:=[]) m H.kV (by rw[i];rfl), ?_⟩;exact z.2
 cases e with
 |normal=>exact k
 |ret=>exact k
 |bn N=>have:=z.1;simp[XE.to] at this
 |exit id=>have:=z.1;simp[XE.to] at this
def aBK{A:mu}(P:av (jT A u).toList q D cf.ty V O s a W)(z:s.rs[X]?=U (.own Q))(y:O.rv X=.mk (.slice A C u) R):
  q.grownBy W (jT A u)/\Dv q W Q (bq cf.ty (.sl Q)).length (jT A u) R A u:=by
 obtain⟨l,j,g,N,L,G⟩:=Ny P z;rw[y] at N L;simp only[RV.lA] at N L;injection N with N _;injection N with x F w;subst x;subst F;subst w;obtain⟨F,f⟩:=ru L;have M:=P.mem.base;refine⟨⟨M.os,M.tape,M.output,M.size,λi v t=>M.block i v (λH=>t ?_)⟩,⟨by omega,G.nil, ?_⟩⟩;exact((by simpa[Option.mem_toList] using H:jT A u=U i)).symm;rcases G.mem with h|⟨b,r,rfl,B,H,m⟩;exact .inl h;cases u with
 |zero=>exact .inl rfl
 |succ c=>exact .inr ⟨b,r,rfl,B,H,m,aat L B,.inr rfl⟩
end
section
variable{lt:aH->aH->Bool}{p:aH->Prop}
structure kq(lt:aH->aH->Bool)(p:aH->Prop):Prop where
 YX:∀x,p x->lt x x=E
 tr:∀x y z,p x->p y->p z->lt x y=J->lt y z=J->lt x z=J
 nt:∀x y z,p x->p y->p z->lt x y=E->lt y z=E->lt x z=E
def kq.asym(h:kq lt p){x y:aH}(X:p x)(W:p y)(V:lt x y=J):lt y x=false:=by
 cases R:lt y x;rfl;have:=h.tr x y x X W X V R;rw[h.YX x X] at this;cases this
def atY(h:kq lt p){x y:aH}(W:p x)(V:p y)(X:lt y x=J):∀{l:am},(∀z∈l,p z)->dj lt y (dj lt x l)=dj lt x (dj lt y l)
 |[],_=>by
  have R:=h.asym V W X;simp[dj,X,R]
 |z::r,O=>by
  have N:=O z (by simp);have M:=atY h W V X (l:=r) (λw L=>O w (by simp[L]));have R:=h.asym V W X;cases Q:lt x z;cases P:lt y z;simp[dj,Q,P,M];simp[dj,Q,P,R];have P:lt y z=true:=h.tr y x z V W N X Q;simp[dj,Q,P,X,R]
inductive fu(lt:List RV->List RV->Bool)(l:List (List RV)):List (List RV)->Prop
 |refl:fu lt l l
 |step {P Q:List (List RV)} {x y:List RV}:lt y x=J->fu lt l (P++x::y::Q)->fu lt l (P++y::x::Q)
def fu.trans{b:am}(X:fu lt R b)(W:fu lt b H):fu lt R H:=by
 induction W with
 |refl=>exact X
 |step h _ V=>exact .step h V
def fu.Mx(A B:am)(h:fu lt R H):fu lt (A++R++B) (A++H++B):=by
 induction h with
 |refl=>exact .refl
 | @step P Q x y h _ X=>
  have W:A++(P++x::y::Q)++B=(A++P)++x::y::(Q++B):=by simp
  have V:A++(P++y::x::Q)++B=(A++P)++y::x::(Q++B):=by simp
  rw[W] at X;rw[V];exact .step h X
def fu.perm(h:fu lt R H):H.Perm R:=by
 induction h with
 |refl=>exact aLX _
 |step _ _ X=>exact((aMi _ _ _).append_left _).trans X
def fu.atZ(P:am)(b:aH):∀(A Q:am),(∀a∈A,lt b a=J)->fu lt (P++A.reverse++b::Q) (P++b::(A.reverse++Q))
 |[],Q,_=>by simpa using fu.refl
 |a::A,Q,h=>by
  have X:fu lt (P++(a::A).reverse++b::Q) ((P++A.reverse)++b::a::Q):=by
   have:P++(a::A).reverse++b::Q=(P++A.reverse)++a::b::Q:=by simp
   rw[this];exact .step (h a (by simp)) .refl
  have W:=fu.atZ P b A (a::Q) (λx V=>h x (by simp[V]));have e:P++b::((a::A).reverse++Q)=P++b::(A.reverse++a::Q):=by simp
  rw[e];exact X.trans W
def fu.one(P Q:am)(b:aH)(A:am)(h:∀a∈A,lt b a=J):fu lt (P++A++b::Q) (P++b::(A++Q)):=by
 have:=fu.atZ (lt:=lt) P b A.reverse Q (λa X=>h a (by simpa using X));simpa using this
def fu.block(Q:am)(A:am):∀(B P:am),(∀a∈A,∀b∈B,lt b a=J)->fu lt (P++A++(B++Q)) (P++B++(A++Q))
 |[],P,_=>by simpa using fu.refl
 |b::B,P,h=>by
  have W:=fu.one P (B++Q) b A (λa X=>h a X b (by simp));have V:=fu.block Q A B (P++[b]) (λa X R O=>h a X R (by simp[O]));have N:P++b::(A++(B++Q))=P++[b]++A++(B++Q):=by simp
  have M:P++b::B++(A++Q)=P++[b]++B++(A++Q):=by simp
  rw[N] at W;rw[M];exact W.trans V
def xp(lt:aH->aH->Bool)(acc l:am):am:=l.foldl (λacc x=>dj lt x acc) acc
def aBL{acc:am}(V:∀z∈acc,p z)(Q:∀z∈R,p z):∀z∈xp lt acc R,p z:=by
 induction R generalizing acc with
 |nil=>exact V
 |cons x R X=>
  refine X (acc:=dj lt x acc) (λz W=> ?_) (λz W=>Q z (by simp[W]));have P:∀{R:am},z∈dj lt x R->z=x\/z∈R:=by
   intro R;induction R with
   |nil=>intro h;simpa[dj] using h
   |cons y r X=>
    intro h;simp only[dj] at h;split at h;simpa using h;rcases aIK.1 h with h|h;exact .inr (by simp[h]);rcases X h with h|h;exact .inl h;exact .inr (by simp[h])
  rcases P W with rfl|h;exact Q _ (by simp);exact V z h
def fu.fold(h:kq lt p)(X:fu lt R H){acc:am}(N:∀z∈R,p z)(M:∀z∈acc,p z):xp lt acc H=xp lt acc R:=by
 induction X with
 |refl=>rfl
 | @step P Q x y L X G=>
  rw[<-G];have W:=λz(V:z∈P++x::y::Q)=>N z (X.perm.mem_iff.1 V)
  have O:∀z∈xp lt acc P,p z:=aBL M λz V=>W z (by simp[V])
  simp only[xp,List.foldl_append,aJ2] at O⊢;rw[atY h (W x (by simp)) (W y (by simp)) L O]
def fC(lt:aH->aH->Bool)(l:am):Prop:=l.Pairwise λa b=>lt b a=E
def at0{x:aH}:∀{l:am},(∀y∈l,lt x y=E)->dj lt x l=l++[x]
 |[],_=>rfl
 |y::r,h=>by
  have X:=h y (by simp);simp[dj,X,at0 (l:=r) λz W=>h z (by simp[W])]
def aBM:∀{acc:am},fC lt (acc++R)->xp lt acc R=acc++R:=by
 induction R with
 |nil=>intro acc _;simp[xp]
 |cons x R X=>
  intro acc h;have W:∀y∈acc,lt x y=false:=λy V=>(aI4.1 h).2.2 y V x (by simp)
  have e:acc++x::R=(acc++[x])++R:=by simp
  rw[e] at h⊢;rw[<-X h];simp only[xp,aJ2];rw[at0 W]
def YY(h:fC lt R):bE lt R=R:=aBM (acc:=[]) h
def QX{x z:aH}:∀{l:am},z∈dj lt x l->z=x\/z∈l
 |[],h=>by simpa[dj] using h
 |y::r,h=>by
  simp only[dj] at h;split at h;simpa using h;rcases aIK.1 h with h|h;exact .inr (by simp[h]);rcases QX h with h|h;exact .inl h;exact .inr (by simp[h])
def fC.ins(h:kq lt p){x:aH}(W:p x):∀{l:am},(∀z∈l,p z)->fC lt l->fC lt (dj lt x l)
 |[],_,_=>aLG _ _
 |y::r,V,Q=>by
  have P:=V y (by simp);have R:=aIV.1 Q;simp only[dj];cases O:lt x y;refine aIV.2 ⟨λz X=> ?_,fC.ins h W (λz X=>V z (by simp[X])) R.2⟩;rcases QX X with rfl|X;exact O;exact R.1 z X;refine aIV.2 ⟨λz X=> ?_,Q⟩;have N:=h.asym W P O;rcases aIK.1 X with rfl|X;exact N;exact h.nt z y x (V z (by simp[X])) P W (R.1 z X) N
def fC.fold(h:kq lt p):∀{acc:am},(∀z∈acc,p z)->(∀z∈R,p z)->fC lt acc->fC lt (xp lt acc R):=by
 induction R with
 |nil=>intro acc _ _ h;exact h
 |cons x R Q=>
  intro acc V W P;refine Q (acc:=dj lt x acc) (λz X=> ?_) (λz X=>W z (by simp[X])) (P.ins h (W x (by simp)) V);rcases QX X with rfl|X;exact W _ (by simp);exact V z X
def C7(h:kq lt p){l:am}(X:∀z∈l,p z):fC lt (bE lt l):=fC.fold h (acc:=[]) (by simp) X aJt
def fu.ins(h:kq lt p){x:aH}(V:p x):∀{l:am},(∀z∈l,p z)->fC lt l->fu lt (l++[x]) (dj lt x l)
 |[],_,_=>.refl
 |y::r,W,P=>by
  have O:=W y (by simp);have R:=aIV.1 P;simp only[dj];cases Q:lt x y;have:=(fu.ins h V (l:=r) (λz X=>W z (by simp[X])) R.2).Mx [y] [];simpa using this;have:=fu.one (lt:=lt) [] [] x (y::r) (λz X=>by
   rcases aIK.1 X with rfl|X;exact Q;cases N:lt x z;have:=h.nt x z y V (W z (by simp[X])) O N (R.1 z X);rw[Q] at this;cases this;rfl)
  simpa using this
def fu.aBN(h:kq lt p):∀{acc:am},(∀z∈acc,p z)->(∀z∈R,p z)->fC lt acc->fu lt (acc++R) (xp lt acc R):=by
 induction R with
 |nil=>intro acc _ _ _;simpa[xp] using fu.refl
 |cons x R P=>
  intro acc V W Q;have O:=(fu.ins h (W x (by simp)) V Q).Mx [] R;have N:=P (acc:=dj lt x acc) (λz X=>by
   rcases QX X with rfl|X;exact W _ (by simp);exact V z X) (λz X=>W z (by simp[X])) (Q.ins h (W x (by simp)) V)
  have e:acc++x::R=[]++(acc++[x])++R:=by simp
  rw[e];refine O.trans ?_;rw[aIJ];exact N
def fu.YZ(h:kq lt p)(X:∀z∈R,p z):fu lt R (bE lt R):=by
 exact fu.aBN h (acc:=[]) (by simp) X aJt
def ahI(h:kq lt p)(X:∀z∈R,p z)(W:fu lt R H)(V:fC lt H):bE lt R=H:=by
 rw[<-YY V];exact(W.fold h (acc:=[]) X (by simp)).symm
def H9{z:aH}(h:z∈bE lt R):z∈R:=by
 have:∀(R acc:am),z∈xp lt acc R->z∈acc\/z∈R:=by
  intro R;induction R with
  |nil=>intro acc h;exact .inl h
  |cons x R X=>
   intro acc h;rcases X (dj lt x acc) h with h|h;rcases QX h with rfl|h;exact .inr (by simp);exact .inl h;exact .inr (by simp[h])
 rcases this R [] h with h|h;cases h;exact h
def aBO(h:kq lt p){x:aH}(V:∀z∈x::(R++H),p z)(O:fC lt (R++H))(P:∀y∈R,lt y x=J)(N:∀y∈H,lt y x=E):bE lt (x::(R++H))=R++x::H:=by
 refine ahI h V ?_ ?_;have:=fu.block (lt:=lt) H [x] R [] (λa X b W=>by simp at X;subst X;exact P b W);simpa using this;have Q:=aI4.1 O;refine aI4.2 ⟨Q.1,aIV.2 ⟨N,Q.2.1⟩,λa X b W=> ?_⟩;rcases aIK.1 W with rfl|W;exact h.asym (V a (by simp[X])) (V b (by simp)) (P a X);exact Q.2.2 a X b W
def aBP(h:kq lt p){y:aH}(W:∀z∈R++H++[y],p z)(O:fC lt (R++H))(N:∀x∈R,lt y x=E)(Q:∀x∈H,lt y x=J):bE lt (R++H++[y])=R++y::H:=by
 refine ahI h W ?_ ?_;have:=fu.one (lt:=lt) R [] y H Q;simpa using this;have V:=aI4.1 O;refine aI4.2 ⟨V.1,aIV.2 ⟨λb X=>h.asym (W y (by simp)) (W b (by simp[X])) (Q b X),V.2.1⟩,λa P b X=> ?_⟩;rcases aIK.1 X with rfl|X;exact N a P;exact V.2.2 a P b X
def aBQ(h:kq lt p){V Q:am}(P:∀z∈R++H++(V++Q),p z)(D:fC lt (R++H))(C:fC lt (V++Q))(B:∀x∈R,∀y∈Q,lt y x=E)(L:∀x∈H,∀y∈V,lt y x=J):
  bE lt (R++H++(V++Q))=bE lt (R++V)++bE lt (H++Q):=by
 have A:=aI4.1 D;have w:=aI4.1 C;have O:∀z∈R++V,p z:=λz N=>P z (by rcases aIM.1 N with h|h<;>simp[h])
 have M:∀z∈H++Q,p z:=λz N=>P z (by rcases aIM.1 N with h|h<;>simp[h])
 refine ahI h P ?_ ?_;have v:=fu.block (lt:=lt) Q H V R L;have G:=(fu.YZ h O).Mx [] (H++Q);have F:=(fu.YZ h M).Mx (bE lt (R++V)) [];simp only[aIJ,aKf] at G F;exact(v.trans G).trans F;refine aI4.2 ⟨C7 h O,C7 h M,λa W b X=> ?_⟩;have W:=H9 W;have X:=H9 X;have u:=O a W;have t:=M b X;rcases aIM.1 W with W|W;rcases aIM.1 X with X|X;exact A.2.2 a W b X;exact B a W b X;rcases aIM.1 X with X|X;exact h.asym u t (L b X a W);exact w.2.2 a W b X
def at1(h:kq lt p)(X:∀z∈R,p z)(W:∀z∈H,p z):bE lt (bE lt R++bE lt H)=bE lt (R++H):=by
 have V:=(fu.YZ h X).Mx [] H;have Q:=(fu.YZ h W).Mx (bE lt R) [];simp only[aIJ,aKf] at V Q;exact(V.trans Q).fold h (acc:=[]) (λz P=>by exact(aIM.1 P).elim (X z) (W z)) (by simp)
end
section
def at2(d:Bool):∀(Q:ai)(x y z:aH),iO d Q x y=E->iO d Q y z=E->iO d Q x z=E
 |[],_,_,_,_,_=>rfl
 |c::Q,x,y,z,V,X=>by
  simp only[iO] at V X⊢;by_cases R:aT c x=aT c y;rw[if_pos R] at V;by_cases W:aT c y=aT c z;rw[if_pos W] at X;rw[if_pos (R.trans W)];exact at2 d Q x y z V X;rw[if_neg W] at X;rw[if_neg (by rw[R];exact W),R];exact X;rw[if_neg R] at V;by_cases W:aT c y=aT c z;rw[if_neg (by rw[<-W];exact R),<-W];exact V;rw[if_neg W] at X;cases d;simp only[aIU,if_false,decide_eq_false_iff_not] at V X⊢;rw[if_neg (by omega)];simp only[decide_eq_false_iff_not];omega;simp only[if_true,decide_eq_false_iff_not] at V X⊢;rw[if_neg (by omega)];simp only[decide_eq_false_iff_not];omega
def at3(d:Bool):∀(X:ai)(x:aH),iO d X x x=E
 |[],_=>rfl
 |c::X,x=>by simp[iO,at3 d X x]
def at4(d:Bool):∀(Q:ai)(x y z:aH),iO d Q x y=J->iO d Q y z=J->iO d Q x z=J
 |[],_,_,_,h,_=>by simp[iO] at h
 |c::Q,x,y,z,V,X=>by
  simp only[iO] at V X⊢;by_cases R:aT c x=aT c y;rw[if_pos R] at V;by_cases W:aT c y=aT c z;rw[if_pos W] at X;rw[if_pos (R.trans W)];exact at4 d Q x y z V X;rw[if_neg W] at X;rw[if_neg (by rw[R];exact W),R];exact X;rw[if_neg R] at V;by_cases W:aT c y=aT c z;rw[if_neg (by rw[<-W];exact R),<-W];exact V;rw[if_neg W] at X;cases d;simp only[aIU,if_false,decide_eq_true_eq] at V X⊢;rw[if_neg (by omega)];simp only[decide_eq_true_eq];omega;simp only[if_true,decide_eq_true_eq] at V X⊢;rw[if_neg (by omega)];simp only[decide_eq_true_eq];omega
def My(X:ai)(d:Bool):kq (aW.lex X d).lt (λx=>(aW.lex X d).ok x=J):=
 ⟨λx _=>at3 d X x,λx y z _ _ _=>at4 d X x y z,λx y z _ _ _=>at2 d X x y z⟩
def Mz{n d:Int}(h:eU n d=J):0<d:=by
 simp only[eU,aIy,decide_eq_true_eq] at h;omega
def QY(n d:Nat):kq (aW.ratio n d).lt (λx=>(aW.ratio n d).ok x=J):=by
 refine⟨λx _=> ?_,λx y z V R Q X W=> ?_,λx y z V R Q X W=> ?_⟩;simp[aW.lt];have P:=Mz V;have N:=Mz R;have O:=Mz Q;simp only[aW.lt,decide_eq_true_eq] at X W⊢;have M:=aLt X O;have L:=aLt W P;refine Int.lt_of_mul_lt_mul_left (a:=aT d y) ?_ (by omega);have H:aT n x*aT d y*aT d z=aT d y*(aT n x*aT d z):=by ac_rfl
 have G:aT n y*aT d x*aT d z=aT n y*aT d z*aT d x:=by ac_rfl
 have F:aT n z*aT d y*aT d x=aT d y*(aT n z*aT d x):=by ac_rfl
 omega;have P:=Mz V;have N:=Mz R;have O:=Mz Q;simp only[aW.lt,decide_eq_false_iff_not,Int.not_lt] at X W⊢;have M:=aKh X (show 0<=aT d z by omega);have L:=aKh W (show 0<=aT d x by omega);refine Int.le_of_mul_le_mul_left (a:=aT d y) ?_ (by omega);have H:aT n x*aT d y*aT d z=aT d y*(aT n x*aT d z):=by ac_rfl
 have G:aT n y*aT d x*aT d z=aT n y*aT d z*aT d x:=by ac_rfl
 have F:aT n z*aT d y*aT d x=aT d y*(aT n z*aT d x):=by ac_rfl
 omega
end
section
variable{lt:aH->aH->Bool}{p:aH->Prop}
def oj(W:am)(V:X<=C)(R:C<=u):aU W X u=aU W X C++aU W C u:=by
 simp only[aU];have e:u-X=(C-X)+(u-C):=by omega
 rw[e,List.take_add,aKr,show X+(C-X)=C by omega]
def MA(W:am)(V:X<=C):W.take X++(aU W X C++W.drop C)=W:=by
 simp only[aU];have e:W.drop C=(W.drop X).drop (C-X):=by rw[aKr];congr 1;omega
 rw[e,aJR,aJR]
def QZ(X:am){a b i:Nat}(h:i<b-a):(aU X a b)[i]?=X[a+i]?:=by
 simp only[aU,aI6,h,if_true,aJi]
def pJ(W:am)(h:C<=Y W):(aU W X C).length=C-X:=by simp[aU];omega
def Fm{x:aH}(h:x∈aU R X C):∃i,X<=i/\i<C/\i<Y R/\R.getD i []=x:=by
 obtain⟨i,W⟩:=aJg h;have V:=(aIz.1 W).1;simp only[aU,aJS,aJT] at V;rw[QZ R (by omega)] at W;exact⟨X+i,by omega,by omega,by omega,by simp[aIC,W]⟩
def MB(W:C<=Y R)(h:fC lt (aU R X C)){i j:Nat}(Q:X<=i)(O:i<j)(P:j<C):lt (R.getD j []) (R.getD i [])=false:=by
 have:=aJO.1 h (i-X) (j-X) (by rw[pJ R W];omega) (by rw[pJ R W];omega) (by omega);have e:∀k(V:k-X<(aU R X C).length),X<=k->k<C->(aU R X C)[k-X]=R.getD k []:=λk V N M=>by
  have q:=QZ R (a:=X) (b:=C) (i:=k-X) (by omega);rw[aIA V,show X+(k-X)=k by omega] at q;simp[aIC,<-q]
 rw[e i _ Q (by omega),e j _ (by omega) P] at this;exact this
def at5:v8 lt R=J<->fC lt R:=by
 induction R with
 |nil=>exact⟨λ_=>aJt,λ_=>rfl⟩
 |cons x r X=>
  simp only[v8,aIy,X,aIN,aIR,fC,aIV]
def aBR(h:kq lt p)(L:∀z∈R,p z){e b:Nat}(H:X<=C)(G:C<=u)(F:u<=e)(D:e<=b)(t:b<=Y R)(B:fC lt (aU R X u))(A:fC lt (aU R u b))
  (w:∀i j,X<=i->i<C->e<=j->j<b->lt (R.getD j []) (R.getD i [])=E)(v:∀i j,C<=i->i<u->u<=j->j<e->lt (R.getD j []) (R.getD i [])=J):
  bE lt (aU R X b)=bE lt (aU R X C++aU R u e)++bE lt (aU R C u++aU R e b):=by
 rw[oj R (show X<=u by omega) (show u<=b by omega),oj R H G,oj R F D] at*;refine aBQ h (λz W=>L z ?_) B A (λx V y Q=> ?_) (λx V y Q=> ?_);simp only[aIM] at W;rcases W with(W|W)|(W|W)<;>exact s8 W;obtain⟨i,P,O,_,rfl⟩:=Fm V;obtain⟨j,N,M,_,rfl⟩:=Fm Q;exact w i j P O N M;obtain⟨i,P,O,_,rfl⟩:=Fm V;obtain⟨j,N,M,_,rfl⟩:=Fm Q;exact v i j P O N M
end
def iL:kw->aH->Prop
 |[],x=>x=[]
 |b::X,c::r=>(if b then∃n,c=.mk (.int I n) [] else∃q,c=.mk (.bool q) [])/\iL X r
 |_::_,[]=>False
def C8(b:Bool):CT:=if b then .int I else .bool
def uh(c:RV):RV:=.mk c.val []
def eh(X:am):am:=X.map λW=>W.map uh
def ahJ(c:Nat)(x:aH):aT c (x.map uh)=aT c x:=by
 simp only[aT,aIC,aIE];cases x[c]?<;>rfl
def at6(d:Bool)(x y:aH):∀X,iO d X (x.map uh) (y.map uh)=iO d X x y
 |[]=>rfl
 |c::X=>by simp only[iO,ahJ,at6 d x y X]
def ahK(o:aW)(x y:aH):o.lt (x.map uh) (y.map uh)=o.lt x y:=by
 cases o with
 |lex X d=>exact at6 d x y X
 |ratio n d=>simp only[aW.lt,ahJ]
 |cn k o W=>rfl
def aBS(o:aW)(x:aH):o.ok (x.map uh)=o.ok x:=by
 cases o with
 |lex X d=>rfl
 |ratio n d=>simp only[aW.ok,ahJ]
 |cn k o W=>rfl
def at7(o:aW)(x:aH):∀l,dj o.lt (x.map uh) (eh l)=eh (dj o.lt x l)
 |[]=>rfl
 |y::r=>by
  have X:=at7 o x r;simp only[eh,aIP,dj,ahK] at X⊢;split;rfl;rw[X];rfl
def at8(o:aW)(l:am):bE o.lt (eh l)=eh (bE o.lt l):=by
 have:∀l acc,(eh l).foldl (λacc x=>dj o.lt x acc) (eh acc)=eh (l.foldl (λacc x=>dj o.lt x acc) acc):=by
  intro l;induction l with
  |nil=>intro acc;rfl
  |cons x l X=>
   intro acc;have:=X (dj o.lt x acc);rw[<-at7] at this;exact this
 exact this l []
def at9(o:aW)(l:am):(eh l).all o.ok=l.all o.ok:=by
 simp only[eh,aKN];congr 1;funext x;exact aBS o x
def aBT(l:am)(a b:Nat):aU (eh l) a b=eh (aU l a b):=by simp[aU,eh]
def aua(o:aW):∀l,v8 o.lt (eh l)=v8 o.lt l
 |[]=>rfl
 |x::r=>by
  have X:=aua o r;simp only[eh,aIP,v8,aKN] at X⊢;rw[X];congr 2;funext y;simp only[Function.comp,ahK]
def aBU(l:am)(a:Nat):(eh l).take a=eh (l.take a):=by simp[eh]
def aBV(l:am)(a:Nat):(eh l).drop a=eh (l.drop a):=by simp[eh]
def aBW(l m:am):eh (l++m)=eh l++eh m:=by simp[eh]
def ze(l:am):(eh l).length=Y l:=by simp[eh]
def aBX(h:lB X z y R=U H):lB X z y (eh R)=U (eh H):=by
 unfold lB at h⊢;split at h
 all_goals first|(split at h<;>first|(cases h;done)|skip)|skip
 all_goals first|(cases h;done)|skip
 all_goals
  rename_i W;cases h;simp only[ze,at9,aBT,aua,aBU,aBV,at8,<-aBW];rw[if_pos W]
def aBY(h:nS X z y R=U H):nS X z y (eh R)=U (eh H):=by
 obtain⟨W,V⟩:=zQ h;unfold nS;rw[ze,if_pos W];exact aBX V
def aub(l:am):dt (eh l)=dt l:=by
 simp only[dt,eh,List.flatMap_map];congr 1;funext x;simp only[aJo];rfl
def auc:∀(K:kw)(X:aH),Y X=Y K->(∀(j:Nat)(c:RV)(k:IntKind),X[j]?=U c->(K.map C8)[j]?=U (.int k)->∃n,c.val=.int k n)->(∀(j:Nat)(c:RV),X[j]?=U c->(K.map C8)[j]?=U .bool->∃x,c.val=.bool x)->iL K (X.map uh)
 |[],[],_,_,_=>rfl
 |[],_::_,h,_,_=>by simp at h
 |_::_,[],h,_,_=>by simp at h
 |b::O,c::r,N,Q,P=>by
  refine⟨?_,auc O r (by simpa using N) (λj c k W V=>Q (j+1) c k (by simpa using W) (by simpa using V)) (λj c W V=>P (j+1) c (by simpa using W) (by simpa using V))⟩;cases b with
  |true=>
   obtain⟨n,R⟩:=Q 0 c I rfl rfl;exact⟨n,by simp[uh,R]⟩
  |false=>
   obtain⟨n,R⟩:=P 0 c rfl rfl;exact⟨n,by simp[uh,R]⟩
def aud{L:Ty}{K:kw}(V:bq L (.sl Q)=K.map C8)(h:eG M L Q R):∀x∈eh R,iL K x:=by
 intro x H;obtain⟨X,G,rfl⟩:=aI3.1 H;obtain⟨i,P⟩:=aJg G;refine auc K X ?_ (λj c k O N=>h.int i j X c k P O (by rw[V];exact N)) (λj c O N=>h.bool i j X c P O (by rw[V];exact N));have:=h.len i X P;rw[V,aJn] at this;exact this
def aue{x:Ty}{A:mu}(t:∀(j:Nat)(z:Value)(k:RK),(bq x (.sl Q))[j]?≠U (.aI z k))(h:bu M x (.sl Q) (.mk (.slice A X C) R)):bu M x (.sl Q) (.mk (.slice A X C) (eh R)):=by
 have w:∀{i:Nat}{O:aH},(eh R)[i]?=U O->∃V,R[i]?=U V/\O=V.map uh:=by
  intro i O y;simp only[eh,aIE,aJ8] at y;obtain⟨V,H,G⟩:=y;exact⟨V,H,G.symm⟩
 have v:∀{V:aH}{j:Nat}{c:RV},(V.map uh)[j]?=U c->∃P,V[j]?=U P/\c=uh P:=by
  intro V j c u;simp only[aIE,aJ8] at u;obtain⟨P,H,G⟩:=u;exact⟨P,H,G.symm⟩
 cases h with
 |sl Q A g C R H G s y r f=>
  refine bu.sl Q A X C (eh R) (by rw[ze];exact H) G (λi O N=> ?_) (λi j O c k N L F=> ?_) (λi j O c N L F=> ?_) (λi j O c z k N L F=>(t j z k F).elim);obtain⟨V,D,rfl⟩:=w N;obtain⟨q,b,p,o,m,l⟩:=s i V D;refine⟨by simpa using q,b,p,o,m,λj c L=> ?_⟩;obtain⟨P,B,rfl⟩:=v L;exact l j P B;obtain⟨V,D,rfl⟩:=w N;obtain⟨P,B,rfl⟩:=v L;exact y i j V P k D B F;obtain⟨V,D,rfl⟩:=w N;obtain⟨P,B,rfl⟩:=v L;exact r i j V P D B F
def Tgt(p:Sp)(e:TypeId)(v:Value)(ay:am):Prop:=∀(X:Exit)(s:S)(O:aa)(V:ai)(a:Act)(W:World)(k:Nat),(X=.normal\/X=.ret)->av p.S0 p.w0 p.D p.ty V O s a W->s.rs[k]?=U (.own e)->O.rv k=.mk v ay->p.Q X a W
def Ia(P:Program)(K:kw)(g:FuncId)(o:aW):Prop:=∀(W:World)(x y:aH),iL K x->iL K y->o.ok x=J->o.ok y=J->
 Calls P g #[.agg (x.map RV.val).toArray,.agg (y.map RV.val).toArray] W λX V=>Below W.heap.size W V/\∃c:Int,X=.returned (.int I c)/\(c<0<->o.lt x y=J)
def Y0(K:kw)(e g:Nat)(o:aW)(F:bi->am->BA)(N:Nat)(t:T):Prop:=∀(p:Sp)(v:Value)(X ay:am)(W:bi),p.P=Tryz.prog->Ia Tryz.prog K g o->(∃A n V,v=.slice A n V/\Y X=n/\n<=1099511627776)->(∀x∈X,iL K x)->Y W=N->F W X=U ay->Tgt p e v ay->t.aQ p ⟨W,[],[.mk v X],[]⟩ []
abbrev Q0(K:kw)(e g:Nat)(o:aW)(k N:Nat)(t:T):Prop:=Y0 K e g o (nS k o) N t
def ahL{N n:Nat}{o:aW}{F:bi->am->BA}{K:kw}{t:T}{args:ah}{inl:ai}{loops:List (Nat×Nat×eF)}{srts:zn}{chs:Bh}
  (hf:Tryz.prog.funcs[B]?=U w)(d:w.body=U v)(h0:w.results.toList=[])(hi:inl.all (uB Tryz.prog)=J)(an:ug srts)(hK:bq (look TT) (.sl C)=K.map C8)(a0:Ia Tryz.prog K X o)
  (ht:eS (oD Tryz.prog TT SG [] inl loops srts E chs) n B v ⟨args++aIL (w.ntmps-Y args) (.bH []),[],N,0,[.own C],0,0,[]⟩ iF YW=t)(hh:Y0 K C X o F N t)
  (a1:∀(L:bi)(m:RV),Y L=N->SV.aA ⟨L,[],[m],[]⟩ [] args=m.val::(L.map (Value.int I)++[.func (.func X) #[] #[]]))
  (a3:∀(L:bi)(R H:am),F L R=U H->F L (eh R)=U (eh H))
  (af:∀(L:bi)(R H:am),F L R=U H->Y L=N/\Y R<=1099511627776){A:mu}{P:Nat}(hH:bu M (look TT) (.sl C) (.mk (.slice A u P) R))(hR:Jo M C (bq (look TT) (.sl C)).length A P)(hT:F y R=U H):
  Calls Tryz.prog B (NE (.slice A u P) y X) M λen O=>en=.returned (.tuple #[])/\M.grownBy O (jT A P)/\Dv M O C (bq (look TT) (.sl C)).length (jT A P) H A P:=by
 have hN:=(af _ _ _ hT).1;have hp:∀(j:Nat)(z:Value)(q:RK),(bq (look TT) (.sl C))[j]?≠U (.aI z q):=by
  intro j z q D;rw[hK,aIE] at D;cases d:K[j]? with
  |none=>rw[d] at D;cases D
  |some b=>rw[d] at D;cases b<;>simp[C8] at D
 have ag:=aue hp hH;have al:=a3 _ _ _ hT;obtain⟨a4,a9⟩:=ru ag;let O0:aa:=⟨y,[],[.mk (.slice A u P) (eh R)],[]⟩;let Q:Ending->World->Prop:=λen O=>en=.returned (.tuple #[])/\M.grownBy O (jT A P)/\Dv M O C (bq (look TT) (.sl C)).length (jT A P) H A P
 let p:Sp:=⟨Tryz.prog,look TT,(jT A P).toList,M,bQ.none,Q,λex a O=>(ex=.normal\/ex=.ret)/\Q (.returned (.tuple #[])) O⟩;have ok:kD p (oD Tryz.prog TT SG [] inl loops srts E chs):=TC Mv YN hi YO (λch O b ob _ h=>by have:=h.1;cases this) an;have bb:(SV.aA O0 [] args).toArray=NE (.slice A u P) y X:=by rw[a1 y _ hN];rfl
 rw[<-bb];have bd:∀b,(RV.mk (.slice A u P) (eh R)).jR=U b->jT A P=U b:=λb h=>by rw[Jn] at h;exact h
 have bf:av p.S0 p.w0 bQ.none (look TT) [] O0 {(⟨[],[],N,0,[.own C],0,0,[]⟩:S) with tmps:=[]} ⟨#[],[]⟩ p.w0:=by
  refine⟨⟨fk.refl _ _,λi h=>by simp[aL,bU] at h,λi j h=>by simp[aL,bU] at h,λi t cs h=>by simp[bU] at h,λq e' m G r=> ?_⟩,rfl,hN,rfl,rfl,TP _ _,rfl,λt sv h=>by simp at h,λq e' m b G r h3=> ?_⟩;cases q with
  |succ q=>simp at G
  |zero=>
   simp only[aJr,aID] at G;have r:m=.mk (.slice A u P) (eh R):=(aJb r).symm;subst G;subst r;refine⟨bu.own C _ ag λl v hv=> ?_,λb _ i h=>by simp[aL,bU] at h⟩;simp only[RV.lZ,Value.slice.injEq] at hv;rw[<-hv.2.2];exact hR.nil hv.1
  cases q with
  |succ q=>simp at G
  |zero=>
   simp only[aJr,aID] at G;have r:m=.mk (.slice A u P) (eh R):=(aJb r).symm;injection G with G;subst G;subst r;have k:=bd b h3;refine⟨.inr (by show b∈(jT A P).toList;rw[k];simp), ?_,λi h=>by simp[aL,bU] at h,λk' e' bx hk h=> ?_, ?_⟩;rcases hR.mem with D|⟨b',bg,rfl,hg,hm,bk⟩
   ·subst D;unfold jT at k;split at k<;>first|(cases k;done)|omega|skip
    all_goals simp_all
   have bl:b'=b:=by
    cases P with
    |zero=>cases k
    |succ v=>exact aJb k
   subst bl;exact⟨u,P,bg,rfl,hg,a9,hm,bk⟩;cases k' with
   |zero=>exact absurd rfl hk
   |succ k'=>simp at h
   rintro⟨i,j,b0,v,z,q,_,_,hq,_⟩;exact hp j z q hq
 have br:u<=1099511627776:=by
  have:=(af _ _ _ al).2;omega
 have bs:=hh p (.slice A u P) (eh R) (eh H) y rfl a0 ⟨A,u,P,rfl,a4,br⟩ (aud hK (eG.wc hH)) hN al (λex s O1 V a O k' bt RR hk hr=>by
  refine⟨bt,rfl, ?_⟩;obtain⟨g1,g2⟩:=aBK (cf:=oD Tryz.prog TT SG [] inl loops srts E chs) RR hk hr;exact⟨g1,⟨by have:=g2.le;rwa [ze] at this,g2.nil,by have:=g2.mem;rwa [aub,ze] at this⟩⟩)
 exact aBJ ok hf d h0 rfl ht bs (λx hx=>by simp[oD] at hx) bf (λex a O h=>h)
def aBZ{V:Nat}{L:aW}{F:bi->am->BA}{K:kw}{H:zn}{D:Bh}
  (y:Tryz.prog.funcs[B]?=U w)(s:w.body=U v)(r:w.results.toList=[])(q:uB Tryz.prog B=J)(p:ug H)(m:bq (look TT) (.sl C)=K.map C8)(l:Ia Tryz.prog K X z)
  (k:eS (oD Tryz.prog TT SG [] [] A H E D) V B v ⟨n++aIL (w.ntmps-Y n) (.bH []),[],u,0,[.own C],0,0,[]⟩ iF YW=t)(j:Y0 K C X z F u t)
  (i:∀(Q:bi)(G:RV),Y Q=u->SV.aA ⟨Q,[],[G],[]⟩ [] n=G.val::(Q.map (Value.int I)++[.func (.func X) #[] #[]]))
  (h:∀(Q:List IE)(M:aW)(O:aa)(P ay:am),L.fill Q=U M->jC O M x P=U ay->F (Q.map (IE.den O)) P=U ay)(d:∀(Q:bi)(P ay:am),F Q P=U ay->F Q (eh P)=U (eh ay))
  (b:∀(Q:bi)(P ay:am),F Q P=U ay->Y Q=u/\Y P<=1099511627776):oB Tryz.prog (look TT) B X C L x:=
 ⟨wi q,λW R n' af P ay O Q M a hH hR hT=>ahL (inl:=[]) y s r rfl p m l k j i d b hH hR (h Q M O P ay a hT)⟩
def Ib(W:X≠2)(h:lB X z y R=U H):Y y=3:=by
 unfold lB at h;split at h
 all_goals first|rfl|(exact absurd rfl W)|cases h
def aug(h:lB 2 z y R=U H):Y y=2:=by
 unfold lB at h;split at h
 all_goals first|rfl|cases h|(rename_i X;cases X)
def Fo{N n:Nat}{K:kw}{t:T}{args:ah}{loops:List (Nat×Nat×eF)}{srts:zn}{chs:Bh}
  (P:Tryz.prog.funcs[B]?=U w)(M:w.body=U v)(L:w.results.toList=[])(H:uB Tryz.prog B=J)(G:ug srts)(D:bq (look TT) (.sl C)=K.map C8)(A:Ia Tryz.prog K X z)
  (y:eS (oD Tryz.prog TT SG [] [] loops srts E chs) n B v ⟨args++aIL (w.ntmps-Y args) (.bH []),[],N,0,[.own C],0,0,[]⟩ iF YW=t)(x:Q0 K C X z u N t)
  (s:∀(W:bi)(R:RV),Y W=N->SV.aA ⟨W,[],[R],[]⟩ [] args=R.val::(W.map (Value.int I)++[.func (.func X) #[] #[]]))
  (r:∀(W:bi)(V ay:am),lB u z W V=U ay->Y W=N):oB Tryz.prog (look TT) B X C (.cn u z []) false:=
 aBZ (F:=nS u z) P M L H G D A y x s (λW p O V ay Q q=>by
  simp only[aW.fill,aID] at Q;subst Q;exact q) (λW V ay h=>aBY h) (λW V ay h=>⟨r W V ay (zQ h).2,(zQ h).1⟩)
abbrev cU(a b:IE):IE:=.bin .add I a b
abbrev dh(a b:IE):IE:=.bin .sub I a b
abbrev gE(a b:IE):BE:=.cmp .lss a b
abbrev ep(a:IE):SV:=.int I a
abbrev eQ(x:IE)(k:Nat)(t:T):T:=.bj (.and (.cmp .leq (.c 0) x) (.cmp .lss x (.len (.v k)))) t
section
variable(e g i h j f N:Nat)(o:aW)(d:RE->IE->ah)
def Y1:T:=(.loop 0 [.ref (.own e),.int I] [(.ref (.v 0)),(ep (.c 0))]
 (.node (gE (.v 3) (.v 2))
 (eQ (cU (.v 1) (.v 3)) 1
 (eQ (cU (.v 1) (.v 3)) 1
 (eQ (cU (.v 0) (.v 3)) 1
 (eQ (cU (.v 0) (.v 3)) 1
 (eQ (cU (.v 0) (.v 3)) 1
 (eQ (cU (.v 0) (.v 3)) 1
 (.new e (.set (.ref (.v 1)) (cU (.v 0) (.v 3)) 0 (d (.v 1) (cU (.v 1) (.v 3)))) [.dead,(.own e)] [.dead,.dead,(.own e)]
 (eQ (cU (.v 1) (.v 3)) 2
 (eQ (cU (.v 1) (.v 3)) 2
 (.new e (.set (.ref (.v 2)) (cU (.v 1) (.v 3)) 0 (d (.v 1) (cU (.v 0) (.v 3)))) [.dead,.dead,(.own e)] [.dead,.dead,.dead,(.own e)]
 (.back 0 [(.ref (.v 3)),(ep (cU (.v 3) (.c 1)))])))))))))))
 (.out .normal ⟨[],[],4,0,[.dead,(.own e)],0,0,[]⟩)))
def Y2:T:=(.loop 0 [.ref (.own e),.int I,.int I] [(.ref (.v 0)),(ep (dh (.v 1) (.v 0))),(ep (dh (.v 2) (.v 1)))]
 (.node (.cmp .neq (.v 3) (.v 4))
 (.node (.cmp .gtr (.v 3) (.v 4))
  (.dO i g e (.cn 0 o [(dh (.v 1) (.v 3)),(.v 1),(.v 4)]) E (.v 1) [.dead,(.own e)]
  (.back 0 [(.ref (.v 2)),(ep (dh (.v 3) (.v 4))),(ep (.v 4))]))
  (.dO i g e (.cn 0 o [(dh (.v 1) (.v 3)),(dh (cU (.v 1) (.v 4)) (.v 3)),(.v 3)]) E (.v 1) [.dead,(.own e)]
  (.back 0 [(.ref (.v 2)),(ep (.v 3)),(ep (dh (.v 4) (.v 3)))])))
 (.dO i g e (.cn 0 o [(dh (.v 1) (.v 3)),(.v 1),(.v 3)]) E (.v 1) [.dead,(.own e)]
 (.out .normal ⟨[],[],5,0,[.dead,.dead,(.own e)],0,0,[]⟩))))
def Y3:T:=(.loop 0 [.ref (.own e),.int I] [(.ref (.v 0)),(ep (cU (.v 0) (.c 1)))]
 (.node (gE (.v 2) (.v 1))
 (.loop 1 [.ref (.own e),.int I] [(.ref (.v 1)),(ep (.v 2))]
  (.node (.cmp .gtr (.v 3) (.v 0))
  (eQ (.v 3) 2
  (eQ (.v 3) 2
  (eQ (dh (.v 3) (.c 1)) 2
  (eQ (dh (.v 3) (.c 1)) 2
  (.call g [(.agg (d (.v 2) (.v 3))),(.agg (d (.v 2) (dh (.v 3) (.c 1))))] [] [.dead,.dead,.dead] [.int I] (ep (.v 4))
  (.node (gE (.v 4) (.c 0))
   (eQ (dh (.v 3) (.c 1)) 2
   (eQ (dh (.v 3) (.c 1)) 2
   (eQ (.v 3) 2
   (eQ (.v 3) 2
   (eQ (.v 3) 2
   (eQ (.v 3) 2
   (.new e (.set (.ref (.v 2)) (.v 3) 0 (d (.v 2) (dh (.v 3) (.c 1)))) [.dead,.dead,(.own e)] [.dead,.dead,.dead,(.own e)]
   (eQ (dh (.v 3) (.c 1)) 3
   (eQ (dh (.v 3) (.c 1)) 3
   (.new e (.set (.ref (.v 3)) (dh (.v 3) (.c 1)) 0 (d (.v 2) (.v 3))) [.dead,.dead,.dead,(.own e)] [.dead,.dead,.dead,.dead,(.own e)]
   (.back 1 [(.ref (.v 4)),(ep (dh (.v 3) (.c 1)))])))))))))))
   (.back 0 [(.ref (.v 2)),(ep (cU (.v 2) (.c 1)))])))))))
  (.back 0 [(.ref (.v 2)),(ep (cU (.v 2) (.c 1)))])))
 (.out .normal ⟨[],[],3,0,[.dead,(.own e)],0,0,[]⟩)))
abbrev oV:IE:=(.conv I (.bin .shr .u64 (.conv .u64 (cU (.v 3) (.v 4))) (.c 1)))
abbrev de:IE:=(.conv I (.bin .shr .u64 (.conv .u64 (cU (.v 0) (.v 2))) (.c 1)))
def Q1:T:=(.node (gE (.v 3) (.v 1))
   (.node (gE (.v 1) (dh (cU de (.v 1)) (.v 3)))
    (.dO h g e (.cn 1 o [(.v 3),(.v 1),(dh (cU de (.v 1)) (.v 3))]) E (.v 1) [.dead,(.own e)]
    (.node (gE (.v 0) (.v 3))
    (.node (gE (.v 3) de)
     (.dO f g e (.cn (N+3) o [(.v 0),(.v 3),de]) E (.v 2) [.dead,.dead,(.own e)]
     (.node (gE de (dh (cU de (.v 1)) (.v 3)))
     (.node (gE (dh (cU de (.v 1)) (.v 3)) (.v 2))
      (.dO f g e (.cn (N+3) o [de,(dh (cU de (.v 1)) (.v 3)),(.v 2)]) E (.v 3) [.dead,.dead,.dead,(.own e)]
      (.out .normal ⟨[],[],5,0,[.dead,.dead,.dead,.dead,(.own e)],0,0,[]⟩))
      (.out .normal ⟨[],[],5,0,[.dead,.dead,.dead,(.own e)],0,0,[]⟩))
     (.out .normal ⟨[],[],5,0,[.dead,.dead,.dead,(.own e)],0,0,[]⟩)))
     (.node (gE de (dh (cU de (.v 1)) (.v 3)))
     (.node (gE (dh (cU de (.v 1)) (.v 3)) (.v 2))
      (.dO f g e (.cn (N+3) o [de,(dh (cU de (.v 1)) (.v 3)),(.v 2)]) E (.v 2) [.dead,.dead,(.own e)]
      (.out .normal ⟨[],[],5,0,[.dead,.dead,.dead,(.own e)],0,0,[]⟩))
      (.out .normal ⟨[],[],5,0,[.dead,.dead,(.own e)],0,0,[]⟩))
     (.out .normal ⟨[],[],5,0,[.dead,.dead,(.own e)],0,0,[]⟩)))
    (.node (gE de (dh (cU de (.v 1)) (.v 3)))
     (.node (gE (dh (cU de (.v 1)) (.v 3)) (.v 2))
     (.dO f g e (.cn (N+3) o [de,(dh (cU de (.v 1)) (.v 3)),(.v 2)]) E (.v 2) [.dead,.dead,(.own e)]
     (.out .normal ⟨[],[],5,0,[.dead,.dead,.dead,(.own e)],0,0,[]⟩))
     (.out .normal ⟨[],[],5,0,[.dead,.dead,(.own e)],0,0,[]⟩))
     (.out .normal ⟨[],[],5,0,[.dead,.dead,(.own e)],0,0,[]⟩))))
    (.node (gE (.v 0) (.v 3))
    (.node (gE (.v 3) de)
     (.dO f g e (.cn (N+3) o [(.v 0),(.v 3),de]) E (.v 1) [.dead,(.own e)]
     (.node (gE de (dh (cU de (.v 1)) (.v 3)))
     (.node (gE (dh (cU de (.v 1)) (.v 3)) (.v 2))
      (.dO f g e (.cn (N+3) o [de,(dh (cU de (.v 1)) (.v 3)),(.v 2)]) E (.v 2) [.dead,.dead,(.own e)]
      (.out .normal ⟨[],[],5,0,[.dead,.dead,.dead,(.own e)],0,0,[]⟩))
      (.out .normal ⟨[],[],5,0,[.dead,.dead,(.own e)],0,0,[]⟩))
     (.out .normal ⟨[],[],5,0,[.dead,.dead,(.own e)],0,0,[]⟩)))
     (.node (gE de (dh (cU de (.v 1)) (.v 3)))
     (.node (gE (dh (cU de (.v 1)) (.v 3)) (.v 2))
      (.dO f g e (.cn (N+3) o [de,(dh (cU de (.v 1)) (.v 3)),(.v 2)]) E (.v 1) [.dead,(.own e)]
      (.out .normal ⟨[],[],5,0,[.dead,.dead,(.own e)],0,0,[]⟩))
      (.out .normal ⟨[],[],5,0,[.dead,(.own e)],0,0,[]⟩))
     (.out .normal ⟨[],[],5,0,[.dead,(.own e)],0,0,[]⟩)))
    (.node (gE de (dh (cU de (.v 1)) (.v 3)))
     (.node (gE (dh (cU de (.v 1)) (.v 3)) (.v 2))
     (.dO f g e (.cn (N+3) o [de,(dh (cU de (.v 1)) (.v 3)),(.v 2)]) E (.v 1) [.dead,(.own e)]
     (.out .normal ⟨[],[],5,0,[.dead,.dead,(.own e)],0,0,[]⟩))
     (.out .normal ⟨[],[],5,0,[.dead,(.own e)],0,0,[]⟩))
     (.out .normal ⟨[],[],5,0,[.dead,(.own e)],0,0,[]⟩))))
   (.node (gE (.v 0) (.v 3))
    (.node (gE (.v 3) de)
    (.dO f g e (.cn (N+3) o [(.v 0),(.v 3),de]) E (.v 1) [.dead,(.own e)]
    (.node (gE de (dh (cU de (.v 1)) (.v 3)))
     (.node (gE (dh (cU de (.v 1)) (.v 3)) (.v 2))
     (.dO f g e (.cn (N+3) o [de,(dh (cU de (.v 1)) (.v 3)),(.v 2)]) E (.v 2) [.dead,.dead,(.own e)]
     (.out .normal ⟨[],[],5,0,[.dead,.dead,.dead,(.own e)],0,0,[]⟩))
     (.out .normal ⟨[],[],5,0,[.dead,.dead,(.own e)],0,0,[]⟩))
     (.out .normal ⟨[],[],5,0,[.dead,.dead,(.own e)],0,0,[]⟩)))
    (.node (gE de (dh (cU de (.v 1)) (.v 3)))
     (.node (gE (dh (cU de (.v 1)) (.v 3)) (.v 2))
     (.dO f g e (.cn (N+3) o [de,(dh (cU de (.v 1)) (.v 3)),(.v 2)]) E (.v 1) [.dead,(.own e)]
     (.out .normal ⟨[],[],5,0,[.dead,.dead,(.own e)],0,0,[]⟩))
     (.out .normal ⟨[],[],5,0,[.dead,(.own e)],0,0,[]⟩))
     (.out .normal ⟨[],[],5,0,[.dead,(.own e)],0,0,[]⟩)))
    (.node (gE de (dh (cU de (.v 1)) (.v 3)))
    (.node (gE (dh (cU de (.v 1)) (.v 3)) (.v 2))
     (.dO f g e (.cn (N+3) o [de,(dh (cU de (.v 1)) (.v 3)),(.v 2)]) E (.v 1) [.dead,(.own e)]
     (.out .normal ⟨[],[],5,0,[.dead,.dead,(.own e)],0,0,[]⟩))
     (.out .normal ⟨[],[],5,0,[.dead,(.own e)],0,0,[]⟩))
    (.out .normal ⟨[],[],5,0,[.dead,(.own e)],0,0,[]⟩))))
def ahM:T:=(.loop 0 [.ref (.own e),.int I,.int I] [(.ref (.v 0)),(ep (.v 1)),(ep (.v 2))]
 (.node (gE (.v 3) (.v 4))
  (eQ oV 1
  (eQ oV 1
  (eQ (.v 0) 1
  (eQ (.v 0) 1
  (.call g [(.agg (d (.v 1) oV)),(.agg (d (.v 1) (.v 0)))] [] [.dead,.dead] [.int I] (ep (.v 5))
  (.bj (.c J)
  (.node (gE (.v 5) (.c 0))
  (.back 0 [(.ref (.v 1)),(ep (cU oV (.c 1))),(ep (.v 4))])
  (.back 0 [(.ref (.v 1)),(ep (.v 3)),(ep oV)]))))))))
  (.loop 1 [.ref (.own e),.int I] [(.ref (.v 1)),(ep (.v 0))]
  (.node (gE (.v 5) (dh (.v 3) (.c 1)))
   (eQ (cU (.v 5) (.c 1)) 2
   (eQ (cU (.v 5) (.c 1)) 2
   (eQ (.v 5) 2
   (eQ (.v 5) 2
   (eQ (.v 5) 2
   (eQ (.v 5) 2
   (.new e (.set (.ref (.v 2)) (.v 5) 0 (d (.v 2) (cU (.v 5) (.c 1)))) [.dead,.dead,(.own e)] [.dead,.dead,.dead,(.own e)]
   (eQ (cU (.v 5) (.c 1)) 3
   (eQ (cU (.v 5) (.c 1)) 3
   (.new e (.set (.ref (.v 3)) (cU (.v 5) (.c 1)) 0 (d (.v 2) (.v 5))) [.dead,.dead,.dead,(.own e)] [.dead,.dead,.dead,.dead,(.own e)]
   (.back 1 [(.ref (.v 4)),(ep (cU (.v 5) (.c 1)))])))))))))))
   (.out .ret ⟨[],[],6,0,[.dead,.dead,(.own e)],0,0,[]⟩)))))
def ahN:T:=(.loop 0 [.ref (.own e),.int I,.int I] [(.ref (.v 0)),(ep (.v 0)),(ep (.v 1))]
  (.node (gE (.v 3) (.v 4))
  (eQ (.v 1) 1
  (eQ (.v 1) 1
  (eQ oV 1
  (eQ oV 1
  (.call g [(.agg (d (.v 1) (.v 1))),(.agg (d (.v 1) oV))] [] [.dead,.dead] [.int I] (ep (.v 5))
  (.bj (.c J)
  (.bj (.c J)
  (.node (.not (gE (.v 5) (.c 0)))
   (.back 0 [(.ref (.v 1)),(ep (cU oV (.c 1))),(ep (.v 4))])
   (.back 0 [(.ref (.v 1)),(ep (.v 3)),(ep oV)])))))))))
  (.loop 1 [.ref (.own e),.int I] [(.ref (.v 1)),(ep (.v 1))]
   (.node (.cmp .gtr (.v 5) (.v 3))
   (eQ (dh (.v 5) (.c 1)) 2
   (eQ (dh (.v 5) (.c 1)) 2
   (eQ (.v 5) 2
   (eQ (.v 5) 2
   (eQ (.v 5) 2
   (eQ (.v 5) 2
   (.new e (.set (.ref (.v 2)) (.v 5) 0 (d (.v 2) (dh (.v 5) (.c 1)))) [.dead,.dead,(.own e)] [.dead,.dead,.dead,(.own e)]
   (eQ (dh (.v 5) (.c 1)) 3
   (eQ (dh (.v 5) (.c 1)) 3
   (.new e (.set (.ref (.v 3)) (dh (.v 5) (.c 1)) 0 (d (.v 2) (.v 5))) [.dead,.dead,.dead,(.own e)] [.dead,.dead,.dead,.dead,(.own e)]
   (.back 1 [(.ref (.v 4)),(ep (dh (.v 5) (.c 1)))])))))))))))
   (.out .ret ⟨[],[],6,0,[.dead,.dead,(.own e)],0,0,[]⟩)))))
def Y4:T:=(eQ (dh (dh (cU de (.v 1)) (.c 1)) oV) 1
   (eQ (dh (dh (cU de (.v 1)) (.c 1)) oV) 1
   (eQ oV 1
   (eQ oV 1
   (.call g [(.agg (d (.v 1) (dh (dh (cU de (.v 1)) (.c 1)) oV))),(.agg (d (.v 1) oV))] [] [.dead,.dead] [.int I] (ep (.v 5))
   (.bj (.c J)
   (.bj (.c J)
   (.node (.not (gE (.v 5) (.c 0)))
   (.back 0 [(.ref (.v 1)),(ep (cU oV (.c 1))),(ep (.v 4))])
   (.back 0 [(.ref (.v 1)),(ep (.v 3)),(ep oV)])))))))))
def aB0:T:=(.loop 0 [.ref (.own e),.int I,.int I] [(.ref (.v 0)),(ep (dh (cU de (.v 1)) (.v 2))),(ep de)]
 (.node (gE (.v 3) (.v 4)) (Y4 g d) (Q1 e g h f N o)))
def aB1:T:=(.loop 0 [.ref (.own e),.int I,.int I] [(.ref (.v 0)),(ep (.v 0)),(ep (.v 1))]
 (.node (gE (.v 3) (.v 4)) (Y4 g d) (Q1 e g h f N o)))
def Y5:T:=(.node (.cmp .eql (dh (.v 1) (.v 0)) (.c 1)) (ahM e g d) (.node (.cmp .eql (dh (.v 2) (.v 1)) (.c 1)) (ahN e g d) (.node (.cmp .gtr (.v 1) de) (aB0 e g h f N o d) (aB1 e g h f N o d))))
def Y6:T:=(.loop 0 [.ref (.own e),.int I,.int I] [(.ref (.v 0)),(ep (.c 20)),(ep (.c 0))]
 (.node (.cmp .leq (.v 0) (.len (.v 0)))
 (.dO j g e (.cn 2 o [(.v 1),(.v 0)]) E (.v 1) [.dead,(.own e)]
 (.back 0 [(.ref (.v 2)),(ep (cU (.v 0) (.c 20))),(ep (.v 0))]))
 (.dO j g e (.cn 2 o [(.v 1),(.len (.v 0))]) E (.v 1) [.dead,(.own e)]
 (.loop 1 [.ref (.own e),.int I] [(.ref (.v 2)),(ep (.c 20))]
  (.node (gE (.v 2) (.len (.v 0)))
  (.loop 2 [.ref (.own e),.int I,.int I] [(.ref (.v 3)),(ep (.bin .mul I (.c 2) (.v 2))),(ep (.c 0))]
   (.node (.cmp .leq (.v 3) (.len (.v 0)))
   (.dO f g e (.cn (N+3) o [(.v 4),(cU (.v 4) (.v 2)),(.v 3)]) E (.v 4) [.dead,.dead,.dead,.dead,(.own e)]
   (.back 2 [(.ref (.v 5)),(ep (cU (.v 3) (.bin .mul I (.c 2) (.v 2)))),(ep (.v 3))]))
   (.node (gE (cU (.v 4) (.v 2)) (.len (.v 0)))
    (.dO f g e (.cn (N+3) o [(.v 4),(cU (.v 4) (.v 2)),(.len (.v 0))]) E (.v 4) [.dead,.dead,.dead,.dead,(.own e)]
    (.back 1 [(.ref (.v 5)),(ep (.bin .mul I (.v 2) (.c 2)))]))
    (.back 1 [(.ref (.v 4)),(ep (.bin .mul I (.v 2) (.c 2)))]))))
  (.out .normal ⟨[],[],3,0,[.dead,.dead,.dead,(.own e)],0,0,[]⟩))))))
end
structure HP where
 K:kw
 g:Nat
 o:aW
 e:TypeId
 v:Value
 ay:am
def ahO(O:aa)(l:ah)(x:aH):Prop:=∀y V,SV.aA (O.at y) V l=x.map RV.val
def Ic(c:Option LC)(X:aV):Prop:=match c with
 |U c=>c.I X/\c.μ X<c.m
 |none=>False
def aB2(h:HP)(f:FuncId)(V:ah)(R:aP)(im:SV)(O:aa)(k:Int->Prop):Prop:=f=h.g/\R=[.int I]/\im=.int I (.v (Y O.i))/\∃X W x y,V=[.agg X,.agg W]/\ahO O X x/\ahO O W y/\iL h.K x/\iL h.K y/\h.o.ok x=J/\h.o.ok y=J/\∀c:Int,(c<0<->h.o.lt x y=J)->k c
def T.hw(h:HP):T->aa->cV->Prop
 |.out V s,O,_=>(V=.normal\/V=.ret)/\∃k,s.rs[k]?=U (.own h.e)/\O.rv k=.mk h.v h.ay
 |.node b t f,O,L=>if b.den O=J then t.hw h O L else f.hw h O L
 |.bj b t,O,L=>b.den O=J/\t.hw h O L
 |.call f P _ _ N im t,O,L=>aB2 h f P N im O λc=>t.hw h (O.add (.i c)) L
 |.loop aq _ M t,O,L=>∃X R,X (M.map (SV.xv O))/\∀W,X W->t.hw h (O.ext W) (⟨aq,X,R,R W⟩::L)
 |.back aq x,O,L=>Ic (mB aq L) (x.map (SV.xv O))
 |.new _ (.set (.ref (.v k)) i H G) _ _ t,O,L=>t.hw h (O.add (.r (.mk (O.rv k).val (LE.rows O (.set (.ref (.v k)) i H G))))) L
 |.dO _ _ _ F D r _ t,O,L=>∃Q,jC O F D (r.rv O).rows=U Q/\t.hw h (O.add (.r (.mk (r.rv O).val Q))) L
 |_,_,_=>False
def xq(h:HP){p:Sp}(F:Ia p.P h.K h.g h.o)(D:Tgt p h.e h.v h.ay):∀(t:T)(O:aa)(L:cV),t.hw h O L->t.aQ p O L
 |.out ex s,O,L,Q=>by
  obtain⟨C,k,B,w⟩:=Q;intro y V a W R;refine D _ s (O.at y) V a W k ?_ R B w;rcases C with rfl|rfl;exact .inl rfl;exact .inr rfl
 |.node b t f,O,L,Q=>by
  simp only[T.hw] at Q;refine⟨λu=>xq h F D t O L ?_,λu=>xq h F D f O L ?_⟩
  rwa [if_pos u] at Q
  rwa [if_neg (by simp[u])] at Q
 |.bj b t,O,L,Q=>⟨Q.1,xq h F D t O L Q.2⟩
 |.call f al bx N j im t,O,L,Q=>by
  obtain⟨rfl,rfl,rfl,d,l2,x,y,rfl,C,B,w,h4,h5,h6,h7⟩:=Q;intro q V W R;have e:(SV.aA (O.at q) V [.agg d,.agg l2]).toArray= #[.agg (x.map RV.val).toArray,.agg (y.map RV.val).toArray]:=by
   simp only[SV.aA,SV.den,C q V,B q V]
  rw[e];refine(F W x y w h4 h5 h6).mono ?_;rintro en W' ⟨hB,c,rfl,af⟩;refine⟨[.i c],⟨trivial,trivial⟩, ?_,hB,⟨trivial,trivial⟩, ?_⟩;simp[SV.den,IE.den,aa.ext,aa.add,aa.at];exact xq h F D t (O.add (.i c)) L (h7 c af)
 |.loop aq j x0 t,O,L,Q=>by
  obtain⟨X,μ,C,B⟩:=Q;exact⟨X,μ,C,λxs _ hx=>xq h F D t _ _ (B xs hx)⟩
 |.back aq x,O,L,Q=>by
  simp only[T.hw,Ic] at Q;simp only[T.aQ];cases m:mB aq L with
  |none=>rw[m] at Q;exact Q
  |some c=>rw[m] at Q;exact Q
 |.new e (.set (.ref (.v k)) i G H) N M t,O,L,Q=>by
  intro rv hn;obtain⟨⟨A,n,c,rfl,hl⟩,_,z⟩:=hn;have z:=z k i G H rfl;refine xq h F D t _ L ?_;simp only[RV.lZ] at z;rw[z];exact Q
 |.new e (.ref r) N M t,O,L,Q=>by simp[T.hw] at Q
 |.new e (.lit l) N M t,O,L,Q=>by simp[T.hw] at Q
 |.new e (.kz a b) N M t,O,L,Q=>by simp[T.hw] at Q
 |.new e (.sM n an) N M t,O,L,Q=>by simp[T.hw] at Q
 |.new e (.sub a lo hi) N M t,O,L,Q=>by simp[T.hw] at Q
 |.new e (.ins a n H) N M t,O,L,Q=>by simp[T.hw] at Q
 |.new e (.set (.ref (.k _)) i G H) N M t,O,L,Q=>by simp[T.hw] at Q
 |.new e (.set (.lit _) i G H) N M t,O,L,Q=>by simp[T.hw] at Q
 |.new e (.set (.kz _ _) i G H) N M t,O,L,Q=>by simp[T.hw] at Q
 |.new e (.set (.sM _ _) i G H) N M t,O,L,Q=>by simp[T.hw] at Q
 |.new e (.set (.set _ _ _ _) i G H) N M t,O,L,Q=>by simp[T.hw] at Q
 |.new e (.set (.sub _ _ _) i G H) N M t,O,L,Q=>by simp[T.hw] at Q
 |.new e (.set (.ins _ _ _) i G H) N M t,O,L,Q=>by simp[T.hw] at Q
 |.new e (.set (.ref (.cell _ _ _ _)) i G H) N M t,O,L,Q=>by simp[T.hw] at Q
 |.dO f g e sp st r N t,O,L,Q=>by
  obtain⟨ag,C,B⟩:=Q;exact⟨ag,C,xq h F D t _ L B⟩
 |.ret ..,_,_,Q=>by simp[T.hw] at Q
 |.bn ..,_,_,Q=>by simp[T.hw] at Q
 |.rows ..,_,_,Q=>by simp[T.hw] at Q
 |.gp ..,_,_,Q=>by simp[T.hw] at Q
 |.pick ..,_,_,Q=>by simp[T.hw] at Q
 |.stuck _,_,_,Q=>by simp[T.hw] at Q
section
variable{h:HP}{O:aa}{L:cV}
def Ie{X:aa}(e:O=X):T.hw h t O L=T.hw h t X L:=by rw[e]
def vF(b:BE)(t f:T):T.hw h (.node b t f) O L=(if b.den O=J then t.hw h O L else f.hw h O L):=rfl
def If(b:BE)(t:T):T.hw h (.bj b t) O L=(b.den O=J/\t.hw h O L):=rfl
def Ig(aq:Nat)(x:ah):T.hw h (.back aq x) O L=Ic (mB aq L) (x.map (SV.xv O)):=rfl
def Ih(e:TypeId)(k:Nat)(i:IE)(X:Nat)(W:ah)(V R:bc)(t:T):T.hw h (.new e (.set (.ref (.v k)) i X W) V R t) O L=t.hw h (O.add (.r (.mk (O.rv k).val (LE.rows O (.set (.ref (.v k)) i X W))))) L:=rfl
def Ba(f g:FuncId)(e:TypeId)(X:aW)(W:Bool)(r:RE)(R:bc)(t:T):T.hw h (.dO f g e X W r R t) O L=(∃V,jC O X W (r.rv O).rows=U V/\t.hw h (O.add (.r (.mk (r.rv O).val V))) L):=rfl
def Bb(X:XE)(s:S):T.hw h (.out X s) O L=((X=.normal\/X=.ret)/\∃k,s.rs[k]?=U (.own h.e)/\O.rv k=.mk h.v h.ay):=rfl
def xt{Q:aP}(W:aV->Prop)(V:aV->Nat)(P:W (n.map (SV.xv O)))(N:∀R,W R->t.hw h (O.ext R) (⟨X,W,V,V R⟩::L)):T.hw h (.loop X Q n t) O L:=⟨W,V,P,N⟩
end
section
attribute[local simp] IE.den BE.den RE.rv RE.den gg aa.rv aa.ext aa.add SV.xv vF If Ig Ih Ba Bb LE.rows mB
attribute[local congr] Ie
structure C9(K:kw)(d:RE->IE->ah):Prop where
 bN:∀(O:aa)(r:RE)(i:IE)(x:aH),(r.rv O).rows[(i.den O).toNat]?=U x->iL K x->(d r i).map (SV.bN O)=x
 den:∀(O:aa)(r:RE)(i:IE)(x:aH),(r.rv O).rows[(i.den O).toNat]?=U x->iL K x->ahO O (d r i) x
def ahP:∀{K:kw}{x:aH},iL K x->Y x=Y K
 |[],_,h=>by cases h;rfl
 |_::_,[],h=>h.elim
 |_::_,_::_,h=>by simp[ahP h.2]
def auh:∀(x W X:aH),Y W=Y x->gF (X++W) (Y X) x=X++x
 |[],W,X,h=>by
  have:W=[]:=aI1 h;subst this;rfl
 |v::r,[],X,h=>by simp at h
 |v::r,c::W,X,h=>by
  have V:=auh r W (X++[v]) (by simpa using h);simp only[aIO,aJm,aKF,aJ5,aIF,aIJ] at V;simp only[gF];rw[aKo _ _ (aIG _),aLg,aL9];exact V
def Fp{K:kw}{x:aH}(P:∀y∈R,iL K y)(O:iL K x):(R.modify X λW=>gF W 0 x)=R.set X x:=by
 apply aI0;intro k;rw[aL0,aJs];by_cases Q:X=k;subst Q;simp only[if_true];cases V:R[X]? with
 |none=>
  have:=aJk.1 V;rw[if_neg (by omega)];rfl
 |some W=>
  obtain⟨N,_⟩:=aIz.1 V;rw[if_pos N];have:=auh x W [] (by rw[ahP (P W (aIW V)),ahP O]);simpa using this
 simp[Q]
def Q2{n:Int}(X:-9223372036854775808<=n)(W:n<9223372036854775808):IntKind.i64.wrap n=n:=by
 rw[IntKind.wrap_i64];omega
def zf{a b:Nat}(h:a+b<=4398046511104):au .add I (a:Int) (b:Int)=((a+b:Nat):Int):=by
 simp only[au];rw[Q2 (by omega) (by omega)];omega
def xu{a b:Nat}(h:b<=a)(X:a<=4398046511104):au .sub I (a:Int) (b:Int)=((a-b:Nat):Int):=by
 simp only[au];rw[Q2 (by omega) (by omega)];omega
def Da{a:Nat}(h:a<=4398046511103):au .add I (a:Int) 1=((a+1:Nat):Int):=zf (b:=1) (by omega)
def Y7{a:Nat}(h:1<=a)(X:a<=4398046511104):au .sub I (a:Int) 1=((a-1:Nat):Int):=xu (b:=1) h X
def aB3(W:am)(M:X+u<=C)(V:C+u<=Y W)(k:Nat):
  (W.take X++(aU W C (C+u)++(aU W (X+u) C++(aU W X (X+u)++W.drop (C+u)))))[k]?=if X<=k/\k<X+u then W[k-X+C]? else if C<=k/\k<C+u then W[k-C+X]? else W[k]?:=by
 have R:(W.take X).length=X:=by simp;omega
 have Q:(aU W C (C+u)).length=u:=by rw[pJ W V];omega
 have P:(aU W (X+u) C).length=C-(X+u):=pJ W (by omega);have O:(aU W X (X+u)).length=u:=by rw[pJ W (by omega)];omega
 by_cases N:k<X;rw[aIB (by omega),if_neg (by omega),if_neg (by omega),aI6,if_pos N];rw[aIH (by omega),R];by_cases L:k<X+u;rw[aIB (by omega),if_pos (by omega),QZ W (by omega)];congr 1;omega;rw[aIH (by omega),Q,if_neg (by omega)];by_cases q3:k<C;rw[aIB (by omega),if_neg (by omega),QZ W (by omega)];congr 1;omega;rw[aIH (by omega),P];by_cases H:k<C+u;rw[aIB (by omega),if_pos (by omega),QZ W (by omega)];congr 1;omega;rw[aIH (by omega),O,if_neg (by omega),aJi];congr 1;omega
def Bc(h:Y y=3):∃a b c,y=[a,b,c]:=by
 match y,h with
 |[a,b,c],_=>exact⟨a,b,c,rfl⟩
def two(h:Y y=2):∃a b,y=[a,b]:=by
 match y,h with
 |[a,b],_=>exact⟨a,b,rfl⟩
def zg{a:Int}(h:0<=a):∃n:Nat,a=n:=⟨a.toNat,by omega⟩
section
variable{K:kw}{e g:Nat}{o:aW}{d:RE->IE->ah}
set_option maxHeartbeats 2000000 in
def aui (C:C9 K d):Q0 K e g o 0 3 (Y1 e d):=by
 rintro p _ W ay ns c af ⟨A,n,R,rfl,ag,hn⟩ hT hN V al;obtain⟨a,b,m,rfl⟩:=Bc hN;obtain⟨_,V⟩:=zQ V;simp only[lB] at V;split at V;rename_i O;simp only[aIy,decide_eq_true_eq] at O;obtain⟨a,rfl⟩:=zg O.1.1.1;obtain⟨m,rfl⟩:=zg O.1.1.2;obtain⟨b,rfl⟩:=zg (a:=b) (by omega);have h1:a+m<=b:=by omega
 have h2:b+m<=Y W:=by omega
 simp only[aID] at V;have e1:((a:Int)).toNat=a:=rfl;have e2:((b:Int)).toNat=b:=rfl;have e3:((b:Int)+(m:Int)).toNat=b+m:=by omega
 have e4:((a:Int)+(m:Int)).toNat=a+m:=by omega
 rw[e1,e2,e3,e4] at V;have B:=aB3 W h1 h2;rw[V] at B;clear V;refine xq ⟨K,g,o,e,.slice A n R,ay⟩ (c▸af) al _ _ _ ?_;unfold Y1;refine xt (λN=>∃(i:Nat)(X:am),N=[.r (.mk (.slice A n R) X),.i i]/\i<=m/\Y X=n/\(∀x∈X,iL K x)/\∀k:Nat,X[k]?=if a<=k/\k<a+i then W[k-a+b]? else if b<=k/\k<b+i then W[k-b+a]? else W[k]?) (λN=>match N with|[_,.i j]=>m-j.toNat|_=>0) ⟨0,W,rfl,by omega,ag,hT,λk=>by rw[if_neg (by omega),if_neg (by omega)]⟩ ?_;rintro _ ⟨i,X,rfl,hi,hl,Q,P⟩;by_cases an:i<m;obtain⟨x,M⟩:∃x,X[a+i]?=U x:=aIz.2 ⟨by omega,rfl⟩|>λh=>⟨_,h⟩
 obtain⟨y,L⟩:∃y,X[b+i]?=U y:=aIz.2 ⟨by omega,rfl⟩|>λh=>⟨_,h⟩
 have H:=Q x (aIW M);have G:=Q y (aIW L);have w:=zf (a:=a) (b:=i) (by omega);have u:=zf (a:=b) (b:=i) (by omega);have c1:aKR (SV.bN ⟨[(a:Int),b,m,i],[],[.mk (.slice A n R) W,.mk (.slice A n R) X],[]⟩) (d (.v 1) (.bin .add I (.v 1) (.v 3)))=y:=C.bN _ _ _ y (by simp only[RE.rv,aa.rv,IE.den,aJ6,aJP,RV.lA,u,aJ0];exact L) G;have c2:∀t,aKR (SV.bN ⟨[(a:Int),b,m,i],[],[.mk (.slice A n R) W,.mk (.slice A n R) X,t],[]⟩) (d (.v 1) (.bin .add I (.v 0) (.v 3)))=x:=λt=>C.bN _ _ _ x (by simp only[RE.rv,aa.rv,IE.den,aJ6,aJP,RV.lA,w,aJ0];exact M) H
 have m1:(X.modify (a+i) λF=>gF F 0 y)=X.set (a+i) y:=Fp Q G;have s:∀z∈X.set (a+i) y,iL K z:=λz D=>by
  rcases aJx D with h|rfl;exact Q z h;exact G
 have m2:((X.set (a+i) y).modify (b+i) λF=>gF F 0 x)=(X.set (a+i) y).set (b+i) x:=Fp s H;have t1:((a:Int)+(i:Int)).toNat=a+i:=by omega
 have t2:((b:Int)+(i:Int)).toNat=b+i:=by omega
 simp[w,u,Da (a:=i) (by omega),an,c1,c2,t1,t2,m1,m2,lenOf];refine⟨by omega,by omega,by omega,⟨i+1,_,rfl,by omega,by simp[hl],λz D=> ?_,λk=> ?_⟩,show m-((i:Int)+1).toNat<m-i by omega⟩;rcases aJx D with h|rfl;exact s z h;exact H;have a0:W[a+i]?=U x:=by
  have:=P (a+i);rw[if_neg (by omega),if_neg (by omega)] at this;rw[<-this];exact M
 have a1:W[b+i]?=U y:=by
  have:=P (b+i);rw[if_neg (by omega),if_neg (by omega)] at this;rw[<-this];exact L
 rw[aJs,aJs];by_cases q:b+i=k;subst q;rw[if_pos rfl,if_pos (by simp;omega),if_neg (by omega),if_pos (by omega),<-a0];congr 1;omega;rw[if_neg q];by_cases l:a+i=k;subst l;rw[if_pos rfl,if_pos (by omega),if_pos (by omega),<-a1];congr 1;omega;rw[if_neg l,P k];by_cases k3:a<=k/\k<a+i;rw[if_pos k3,if_pos (by omega)];rw[if_neg k3];by_cases f:b<=k/\k<b+i;rw[if_pos f,if_neg (by omega),if_pos (by omega)];rw[if_neg f,if_neg (by omega),if_neg (by omega)];have a3:i=m:=by omega
 subst a3;have a4:X=ay:=aI0 λk=>by rw[P k,B k]
 subst a4;simp;exact⟨1,rfl,rfl⟩;cases V
end
end
section
attribute[local simp] IE.den BE.den RE.rv RE.den gg aa.rv aa.ext aa.add SV.xv vF If Ig Ih Ba Bb LE.rows mB jC
attribute[local congr] Ie
def Q3(P S Q:am):aU (P++(S++Q)) (Y P) (Y P+Y S)=S:=by simp[aU]
def Q4{P Q:am}(h:R=P++(H++Q))(W:X=Y P)(V:C=X+Y H):aU R X C=H:=by
 subst h;subst W;subst V;exact Q3 P H Q
def ahQ{o:aW}{P X M Y Q:am}{a b n:Int}(W:a=P.length)(V:b=P.length+X.length+M.length)(R:n=X.length)(A:Y.length=X.length)(O:(P++(X++(M++(Y++Q)))).length<=1099511627776):
  nS 0 o [a,b,n] (P++(X++(M++(Y++Q))))=U (P++(Y++(M++(X++Q)))):=by
 subst W;subst V;subst R;unfold nS;rw[if_pos O];simp only[lB];rw[if_pos (by simp only[aIy,decide_eq_true_eq,aIO];omega)];have N:((P.length:Int)).toNat=P.length:=rfl;have L:((P.length:Int)+X.length+M.length).toNat=P.length+X.length+M.length:=by omega
 have H:((P.length:Int)+X.length+M.length+X.length).toNat=P.length+X.length+M.length+X.length:=by omega
 have G:((P.length:Int)+X.length).toNat=P.length+X.length:=by omega
 rw[N,L,H,G];have F:(P++(X++(M++(Y++Q)))).take P.length=P:=by simp
 have D:aU (P++(X++(M++(Y++Q)))) (P.length+X.length+M.length) (P.length+X.length+M.length+X.length)=Y:=Q4 (P:=P++(X++M)) (Q:=Q) (by simp) (by simp;omega) (by omega);have q3:aU (P++(X++(M++(Y++Q)))) (P.length+X.length) (P.length+X.length+M.length)=M:=Q4 (P:=P++X) (Q:=Y++Q) (by simp) (by simp) rfl;have C:aU (P++(X++(M++(Y++Q)))) P.length (P.length+X.length)=X:=Q3 P X _;have B:(P++(X++(M++(Y++Q)))).drop (P.length+X.length+M.length+X.length)=Q:=by
  have:P++(X++(M++(Y++Q)))=(P++(X++(M++Y)))++Q:=by simp
  rw[this,aK0 (by simp;omega)]
 rw[F,D,q3,C,B]
def auj(W:am)(V:X<=C)(R:C<=u):W.take X++(aU W X C++(aU W C u++W.drop u))=W:=by
 rw[<-aJ5 (aU W X C),<-oj W V R,MA W (by omega)]
def sF{c:Prop}[Decidable c]{A B:Prop}(X:c->A)(W:¬c->B):if c then A else B:=by
 by_cases h:c;rw[if_pos h];exact X h;rw[if_neg h];exact W h
section
variable{K:kw}{e g d:Nat}{o:aW}{f:RE->IE->ah}
set_option maxHeartbeats 2000000 in
def auk:Q0 K e g o 1 3 (Y2 e g d o):=by
 rintro p _ W ay ns t s ⟨z,n,y,rfl,q,hn⟩ hT l L k;obtain⟨a,m,b,rfl⟩:=Bc l;obtain⟨_,L⟩:=zQ L;simp only[lB] at L;split at L;rename_i x;simp only[aIy,decide_eq_true_eq] at x;obtain⟨a,rfl⟩:=zg x.1.1.1;obtain⟨m,rfl⟩:=zg (a:=m) (by omega);obtain⟨b,rfl⟩:=zg (a:=b) (by omega);simp only[aID,aJ0] at L;have w:b<=W.length:=by omega
 refine xq ⟨K,g,o,e,.slice z n y,ay⟩ (t▸s) k _ _ _ ?_;unfold Y2;refine xt (λF=>∃(P A B Q:am),F=[.r (.mk (.slice z n y) (P++(A++(B++Q)))),.i A.length,.i B.length]/\1<=A.length/\1<=B.length/\P.length+A.length=m/\m+B.length<=b/\(P++(A++(B++Q))).length=n/\P++(B++(A++Q))=ay) (λF=>match F with|[_,.i i,.i j]=>i.toNat+j.toNat|_=>0) ⟨W.take a,aU W a m,aU W m b,W.drop b, ?_, ?_⟩ ?_;have h:W.take a++(aU W a m++(aU W m b++W.drop b))=W:=by
  exact auj W (by omega) (by omega)
 have v:(aU W a m).length=m-a:=pJ W (by omega);have u:(aU W m b).length=b-m:=pJ W w;simp only[aIP,aJ7,SV.xv,RE.rv,aa.rv,aJP,aJ6,IE.den,h,v,u];rw[xu (a:=m) (b:=a) (by omega) (by omega),xu (a:=b) (b:=m) (by omega) (by omega)];have v:(aU W a m).length=m-a:=pJ W (by omega);have u:(aU W m b).length=b-m:=pJ W w;refine⟨by omega,by omega,by simp;omega,by omega, ?_,L⟩;rw[auj W (by omega) (by omega)];exact q;rintro _ ⟨P,A,B,Q,rfl,hA,hB,a1,a3,f,D⟩;have c:=xu (a:=m) (b:=A.length) (by omega) (by omega);have af:((m-A.length:Nat):Int)=P.length:=by omega
 simp only[aIO] at f;simp[c,af];refine sF (λag=> ?_) (λag=>sF (λal=> ?_) (λal=> ?_));have H:=ahQ (o:=o) (P:=P) (X:=A) (M:=[]) (Y:=B) (Q:=Q) (a:=P.length) (b:=m) (n:=A.length) rfl (by simp;omega) rfl (by omega) (by simp;omega);refine⟨P++(B++(A++Q)),by simpa using H,2,rfl, ?_⟩;simp[D];obtain⟨O,N,rfl,C⟩:∃O N,A=O++N/\O.length=B.length:=⟨A.take B.length,A.drop B.length,(aJR _ _).symm,by simp;omega⟩;simp only[aIO] at*;have G:=xu (a:=O.length+N.length) (b:=B.length) (by omega) (by omega);have H:=ahQ (o:=o) (P:=P) (X:=O) (M:=N) (Y:=B) (Q:=Q) (a:=P.length) (b:=m) (n:=B.length) rfl (by omega) (by omega) (by omega) (by simp;omega);refine⟨P++(B++(N++(O++Q))),by simpa using H,⟨P++B,N,O,Q, ?_,by omega,by omega,by simp;omega,by omega,by simp;omega, ?_⟩, ?_⟩;rw[G,C];simp;rw[<-D];simp;rw[G];show((O.length+N.length-B.length:Nat):Int).toNat+((B.length:Int)).toNat<O.length+N.length+B.length;omega;obtain⟨R,V,rfl,C⟩:∃R V,B=R++V/\V.length=A.length:=⟨B.take (B.length-A.length),B.drop (B.length-A.length),(aJR _ _).symm,by simp;omega⟩;simp only[aIO] at*;have an:=zf (a:=m) (b:=R.length+V.length) (by omega);have G:=xu (a:=m+(R.length+V.length)) (b:=A.length) (by omega) (by omega);have a0:=xu (a:=R.length+V.length) (b:=A.length) (by omega) (by omega);have H:=ahQ (o:=o) (P:=P) (X:=A) (M:=R) (Y:=V) (Q:=Q) (a:=P.length) (b:=((m+(R.length+V.length)-A.length:Nat):Int)) (n:=A.length) rfl (by omega) rfl (by omega) (by simp;omega);rw[an,G,a0];refine⟨P++(V++(R++(A++Q))),by simpa using H,⟨P,V,R,A++Q, ?_,by omega,by omega,by omega,by omega,by simp;omega, ?_⟩, ?_⟩;rw[C];simp;rw[<-D];simp;show((A.length:Int)).toNat+((R.length+V.length-A.length:Nat):Int).toNat<A.length+(R.length+V.length);omega;cases L
end
end
section
attribute[local simp] IE.den BE.den RE.rv RE.den gg aa.rv aa.ext aa.add SV.xv vF If Ig Ih Ba Bb LE.rows mB jC
attribute[local congr] Ie
def aB4(l:am)(x:aH):bE c (l++[x])=dj c x (bE c l):=by simp[bE]
def aul{lt:aH->aH->Bool}{x:aH}:∀{L G:am},(∀l∈L,lt x l=E)->(∀g∈G,lt x g=J)->dj lt x (L++G)=L++x::G
 |[],[],_,_=>rfl
 |[],g::G,_,h=>by simp[dj,h g (by simp)]
 |l::L,G,X,W=>by
  have V:=aul (L:=L) (G:=G) (λy R=>X y (by simp[R])) W;simp only[aIF,dj,X l (by simp)];rw[V];simp
def aum(A R:am)(l x:aH)(W:X=Y A):((A++(l::x::R)).set (X+1) l).set X x=A++(x::l::R):=by
 subst W;rw[aKo _ _ (by omega),aKu,aKo _ _ (by omega),aLg];rfl
def Y8{h:HP}{O:aa}{L:cV}{d:RE->IE->ah}(P:C9 h.K d){W V:RE}{R Q:IE}{H:bw}{G:bc}(F:X=Y O.i)(x y:aH)(D:(W.rv O).rows[(R.den O).toNat]?=U x)(C:(V.rv O).rows[(Q.den O).toNat]?=U y)(N:iL h.K x)(M:iL h.K y)(B:h.o.ok x=J)(A:h.o.ok y=J)
  (z:∀c:Int,(c<0<->h.o.lt x y=J)->t.hw h (O.add (.i c)) L):T.hw h (.call h.g [.agg (d W R),.agg (d V Q)] H G [.int I] (.int I (.v X)) t) O L:=by
 subst F;exact⟨rfl,rfl,rfl,_,_,x,y,rfl,P.den O W R x D N,P.den O V Q y C M,N,M,B,A,z⟩
section
variable{K:kw}{e g:Nat}{o:aW}{d:RE->IE->ah}
set_option maxHeartbeats 4000000 in
def aun (af:C9 K d) (a0:kq o.lt (λx=>o.ok x=J)):Q0 K e g o 2 2 (Y3 e g d):=by
 rintro p _ X ay ns hP bg ⟨R,n,Q,rfl,cf,hn⟩ hT hN N bk;obtain⟨a,b,rfl⟩:=two hN;obtain⟨_,N⟩:=zQ N;simp only[lB] at N;split at N;rename_i u;simp only[aIy,decide_eq_true_eq,aIN] at u;obtain⟨⟨⟨bl,br⟩,ch⟩,a1⟩:=u;obtain⟨a,rfl⟩:=zg bl;obtain⟨b,rfl⟩:=zg (a:=b) (by omega);simp only[aID,aJ0] at N;have hb:b<=Y X:=by omega
 have br:a<=b:=by omega
 refine xq ⟨K,g,o,e,.slice R n Q,ay⟩ (hP▸bg) bk _ _ _ ?_;unfold Y3;refine xt (λM=>∃(i:Nat)(t:am),M=[.r (.mk (.slice R n Q) t),.i i]/\a<i/\i<=b+1/\t=X.take a++(bE o.lt (aU X a (min i b))++X.drop (min i b))) (λM=>match M with|[_,.i i]=>b+1-i.toNat|_=>0) ⟨a+1,X, ?_,by omega,by omega, ?_⟩ ?_;simp only[aIP,aJ7,SV.xv,RE.rv,aa.rv,aJP,IE.den];rw[Da (by omega)];by_cases h:a+1<=b;rw[aLh h];have:aU X a (a+1)=[X[a]'(by omega)]:=by
  simp only[aU,show a+1-a=1 by omega];rw[aJw (by omega)];rfl
 rw[this];show X=_++([X[a]'(by omega)]++_);rw[<-this,MA X (by omega)];have:b=a:=by omega
 subst this;rw[Nat.min_eq_right (by omega)];have:aU X b b=[]:=by simp[aU]
 rw[this];show X=X.take b++([]++X.drop b);simp;rintro _ ⟨i,t,rfl,cl,cp,H⟩;by_cases a3:i<b;rw[aLh (by omega)] at H;obtain⟨x,hx⟩:∃x,x=X[i]'(by omega):=⟨_,rfl⟩;have hd:X.drop i=x::X.drop (i+1):=by rw[hx,aJw (by omega)]
 have hS:(bE o.lt (aU X a i)).length=i-a:=by rw[j9,pJ X (by omega)]
 have bs:aU X a (i+1)=aU X a i++[x]:=by
  rw[oj X (show a<=i by omega) (show i<=i+1 by omega)];congr 1;simp only[aU,aKu,hd];rfl
 have F:∀y,y∈X.take a\/y∈bE o.lt (aU X a i)\/y=x\/y∈X.drop (i+1)->iL K y/\o.ok y=true:=by
  intro y V;have:y∈X:=by
   rcases V with h|h|rfl|h;exact aJG h;exact s8 (H9 h);rw[hx];exact aJl _;exact aJA h
  exact⟨hT y this,a1 y this⟩
 have ag:fC o.lt (bE o.lt (aU X a i)):=C7 a0 λz hz=>a1 z (s8 hz)
 have bt:(X.take a).length=a:=by simp;omega
 have bx:(X.drop (i+1)).length=n-(i+1):=by simp;omega
 generalize b0:bE o.lt (aU X a i)=S at H hS F ag;generalize ct:X.take a=P at H F bt N;generalize b1:X.drop (i+1)=D at hd F bx;rw[hd] at H;have a4:∀L G,S=L++G->(∀l∈L,o.lt x l=E)->(∀g∈G,o.lt x g=J)->P++(L++x::(G++D))=P++(bE o.lt (aU X a (min (i+1) b))++X.drop (min (i+1) b)):=by
  intro L G s q h3;rw[aLh (by omega),bs,aB4,b0,s,aul q h3,b1];simp
 simp[a3];refine xt (λM=>∃(L G:am),M=[.r (.mk (.slice R n Q) (P++(L++x::(G++D)))),.i ((a+Y L:Nat):Int)]/\S=L++G/\∀g∈G,o.lt x g=J) (λM=>match M with|[_,.i j]=>j.toNat|_=>0) ⟨S,[], ?_,by simp,by simp⟩ ?_;simp[H,hS];omega;rintro _ ⟨L,G,rfl,W,hG⟩;rcases List.eq_nil_or_concat L with rfl|⟨L,l,rfl⟩;simp;rw[Da (by omega)];refine⟨⟨i+1,_,rfl,by omega,by omega, ?_⟩, ?_⟩;exact a4 [] G W (by simp) hG;show b+1-((i+1:Nat):Int).toNat<b+1-i;omega;simp only[List.concat_eq_append] at W⊢;have cv:a+Y L+1<=i:=by
  have:=congrArg Y W;simp only[aIO,aJm,aKF] at this;omega
 have C:au .sub I (((a+(Y L+1):Nat)):Int) 1=((a+Y L:Nat):Int):=by rw[Y7 (by omega) (by omega)];omega
 have m:=F x (by simp);have B:=F l (.inr (.inl (by rw[W];simp)));have e0:P++(L++[l]++x::(G++D))=(P++L)++(l::x::(G++D)):=by simp
 have gx:((P++L)++(l::x::(G++D)))[a+(Y L+1)]?=U x:=by
  rw[aIH (by simp;omega)];simp[show a+(Y L+1)-(Y P+Y L)=1 by omega]
 have gl:((P++L)++(l::x::(G++D)))[a+Y L]?=U l:=by
  rw[aIH (by simp;omega)];simp[show a+Y L-(Y P+Y L)=0 by omega]
 have al:∀y∈(P++L)++(l::x::(G++D)),iL K y/\o.ok y=true:=by
  intro y V;refine F y ?_;simp only[aIM,aIK] at V;rcases V with(h|h)|h|h|h|h;exact .inl h;exact .inr (.inl (by rw[W];simp[h]));subst h;exact .inr (.inl (by rw[W];simp));exact .inr (.inr (.inl h));exact .inr (.inl (by rw[W];simp[h]));exact .inr (.inr (.inr h))
 have a9:((P++L)++(l::x::(G++D))).length=n:=by
  have:=congrArg Y W;simp only[aIO,aJm,aKF] at this;simp only[aIO,aJm];omega
 rw[e0];have b2:(((a+(L++[l]).length:Nat):Int))=((a+(Y L+1):Nat):Int):=by simp
 rw[b2];have k:((a+(Y L+1):Nat):Int).toNat=a+(Y L+1):=rfl;have f:((a+Y L:Nat):Int).toNat=a+Y L:=rfl;have bb:((a+(Y L+1):Nat):Int)=((a+Y L:Nat):Int)+1:=by omega
 have b3:((a+(Y L+1):Nat):Int)<n:=by
  have:=a9;simp only[aIO,aJm] at this;omega
 have bd:(a:Int)<((a+(Y L+1):Nat):Int):=by omega
 have b4:(0:Int)<=((a+Y L:Nat):Int):=by omega
 generalize hz:((a+(Y L+1):Nat):Int)=z at C k bb b3 bd⊢;generalize hw:((a+Y L:Nat):Int)=w at C f bb b4⊢;generalize hR:(P++L)++(l::x::(G++D))=A at gx gl al a9⊢;simp[C,bd];refine⟨⟨by omega,by simp[lenOf];omega⟩,⟨by omega,by simp[lenOf];omega⟩, ?_⟩;refine Y8 af rfl x l ?_ ?_ m.1 B.1 m.2 B.2 (λc u=> ?_);simp[k];exact gx;simp[C,f];exact gl;have c1:∀O:aa,O.r=[.mk (.slice R n Q) X,.mk (.slice R n Q) t,.mk (.slice R n Q) A]->O.i=[(a:Int),b,i,z,c]->aKR (SV.bN O) (d (.v 2) (.bin .sub I (.v 3) (.c 1)))=l:=λO s q=>af.bN O _ _ l (by simp[s,q,C,f];exact gl) B.1
 have c2:∀(O:aa) rv,O.r=[.mk (.slice R n Q) X,.mk (.slice R n Q) t,.mk (.slice R n Q) A,rv]->O.i=[(a:Int),b,i,z,c]->aKR (SV.bN O) (d (.v 2) (.v 3))=x:=λO rv s q=>af.bN O _ _ x (by simp[s,q,k];exact gx) m.1
 simp[C];refine sF (λb5=> ?_) (λb6=> ?_);rw[c1 _ rfl rfl,c2 _ _ rfl rfl];have m1:(A.modify z.toNat λan=>gF an 0 l)=A.set (a+Y L+1) l:=by rw[k];exact Fp (λy V=>(al y V).1) B.1
 have m2:((A.set (a+Y L+1) l).modify w.toNat λan=>gF an 0 x)=(A.set (a+Y L+1) l).set (a+Y L) x:=by
  rw[f];refine Fp (λy V=> ?_) m.1;rcases aJx V with h|rfl;exact(al y h).1;exact B.1
 rw[m1,m2,<-hR,aum (P++L) (G++D) l x (by simp;omega)];refine⟨⟨by omega,by simp[lenOf];omega⟩,⟨by omega,by simp[lenOf];omega⟩,⟨by omega,by simp[lenOf];omega⟩,⟨L,l::G, ?_,by rw[W];simp,λg' b7=> ?_⟩, ?_⟩;simp;omega;rcases aIK.1 b7 with rfl|h;exact u.1 b5;exact hG g' h;show w.toNat<z.toNat;omega;have bf:o.lt x l=false:=by
  cases h:o.lt x l;rfl;exact absurd (u.2 h) b6
 have b8:∀y∈L++[l],o.lt x y=false:=by
  intro y V;rcases aIM.1 V with h|h;have:o.lt l y=false:=by
   rw[W] at ag;exact(aI4.1 (aI4.1 ag).1).2.2 y h l (by simp)
  have ca:=F y (.inr (.inl (by rw[W];simp[h])));exact a0.nt x l y m.2 B.2 ca.2 bf this;simp at h;subst h;exact bf
 rw[Da (by omega)];refine⟨⟨i+1,_,rfl,by omega,by omega, ?_⟩, ?_⟩;rw[<-a4 (L++[l]) G W b8 hG,<-hR];simp;show b+1-((i+1:Nat):Int).toNat<b+1-i;omega;have cc:min i b=b:=Nat.min_eq_right (by omega);rw[cc,N] at H;simp[a3];exact⟨1,rfl,by rw[H];rfl⟩;cases N
end
end
section
attribute[local simp] IE.den BE.den RE.rv RE.den gg aa.rv aa.ext aa.add SV.xv vF If Ig Ih Ba Bb LE.rows mB jC
attribute[local congr] Ie
def aB5(h:X<=4398046511104):IntKind.i64.wrap (au .shr .u64 (IntKind.u64.wrap (X:Int)) 1)=((X/2:Nat):Int):=by
 have e1:IntKind.u64.wrap (X:Int)=(X:Int):=by
  rw[IntKind.wrap_u64];omega
 rw[e1];simp only[au];have W:(2:Int)^min (Int.toNat 1) IntKind.u64.bits=2:=rfl;rw[W,aLv _ (by omega),Q2 (by omega) (by omega)];omega
def Y9{o:aW}{N:Nat}{P X Y Q:am}{a m b:Int}(W:a=P.length)(V:m=P.length+X.length)(R:b=P.length+X.length+Y.length)(w:1<=X.length)(v:1<=Y.length)(u:X.length+Y.length<N)(M:(P++(X++(Y++Q))).length<=1099511627776)(H:∀z∈P++(X++(Y++Q)),o.ok z=J)(G:fC o.lt X)(F:fC o.lt Y):
  nS (N+3) o [a,m,b] (P++(X++(Y++Q)))=U (P++(bE o.lt (X++Y)++Q)):=by
 subst W;subst V;subst R;unfold nS;rw[if_pos M];simp only[lB];have e1:((P.length:Int)).toNat=P.length:=rfl;have D:((P.length:Int)+X.length).toNat=P.length+X.length:=by omega
 have C:((P.length:Int)+X.length+Y.length).toNat=P.length+X.length+Y.length:=by omega
 rw[e1,D,C];have B:(P++(X++(Y++Q))).take P.length=P:=by simp
 have A:aU (P++(X++(Y++Q))) P.length (P.length+X.length)=X:=Q3 P X _;have q3:aU (P++(X++(Y++Q))) (P.length+X.length) (P.length+X.length+Y.length)=Y:=Q4 (P:=P++X) (Q:=Q) (by simp) (by simp) rfl;have y:aU (P++(X++(Y++Q))) P.length (P.length+X.length+Y.length)=X++Y:=Q4 (P:=P) (Q:=Q) (by simp) rfl (by simp;omega);have x:(P++(X++(Y++Q))).drop (P.length+X.length+Y.length)=Q:=by
  have:P++(X++(Y++Q))=(P++(X++Y))++Q:=by simp
  rw[this,aK0 (by simp;omega)]
 rw[B,A,q3,y,x,if_pos];simp only[aIy,decide_eq_true_eq,aIN,at5];refine⟨⟨⟨⟨⟨⟨⟨by omega,by omega⟩,by omega⟩, ?_⟩,by omega⟩,H⟩,G⟩,F⟩;simp only[aIO];omega
def Za(h:R=[]\/H=[])(W:fC c R)(V:fC c H):bE c (R++H)=R++H:=by
 rcases h with rfl|rfl;simpa using YY V;simpa using YY W
def aB6{B Q:am}{a m b:Int}(X:a=Y R)(W:m=Y R+Y H)(V:b=Y R+Y H+Y B)(x:1<=Y H)(w:1<=Y B)(M:(R++(H++(B++Q))).length<=1099511627776):
  nS 1 z [a,m,b] (R++(H++(B++Q)))=U (R++(B++(H++Q))):=by
 subst X;subst W;subst V;unfold nS;rw[if_pos M];simp only[lB];have e1:((Y R:Int)).toNat=Y R:=rfl;have G:((Y R:Int)+Y H).toNat=Y R+Y H:=by omega
 have F:((Y R:Int)+Y H+Y B).toNat=Y R+Y H+Y B:=by omega
 rw[e1,G,F];have D:(R++(H++(B++Q))).take (Y R)=R:=by simp
 have C:aU (R++(H++(B++Q))) (Y R) (Y R+Y H)=H:=Q3 R H _;have q3:aU (R++(H++(B++Q))) (Y R+Y H) (Y R+Y H+Y B)=B:=Q4 (P:=R++H) (Q:=Q) (by simp) (by simp) rfl;have y:(R++(H++(B++Q))).drop (Y R+Y H+Y B)=Q:=by
  have:R++(H++(B++Q))=(R++(H++B))++Q:=by simp
  rw[this,aK0 (by simp;omega)]
 rw[D,C,q3,y,if_pos];simp only[aIy,decide_eq_true_eq,aIO];omega
abbrev MC:IE:=.bin .sub I (.bin .add I de (.v 1)) (.v 3)
section
variable{f d g e N:Nat}{o:aW}{h:HP}{O:aa}{L:cV}{a m b s r mid e1:Nat}
structure Ii(O:aa)(a m b s:Nat)(mid e1:Nat):Prop where
 va:O.i.getD 0 0=a
 vm:O.i.getD 1 0=m
 vb:O.i.getD 2 0=b
 vs:O.i.getD 3 0=s
 Q5:de.den O=mid
 ve:MC.den O=e1
def Ii.add{rv:RV}(H:Ii O a m b s mid e1):Ii (O.add (.r rv)) a m b s mid e1:=by
 have X:∀(x:Nat),IE.den (O.add (.r rv)) (.v x)=IE.den O (.v x):=λx=>rfl
 exact⟨H.va,H.vm,H.vb,H.vs,by rw[<-H.Q5];rfl,by rw[<-H.ve];rfl⟩
def Db(W:Ii O a m b s mid e1)(G:h.e=e){u:bc}{A y x:S}{V Q:am}(M:O.rv X=.mk k (R++(H++(V++Q))))(t:X+1=Y O.r)(F:h.v=k)(D:h.ay=R++(bE o.lt (H++V)++Q))
  (hP:Y R=mid)(hX:Y H=e1-mid)(hY:Y V=b-e1)(h1:mid<=e1)(h2:e1<=b)(hN:b-mid<N)(q:(R++(H++(V++Q))).length<=1099511627776)(p:∀z∈R++(H++(V++Q)),o.ok z=J)(C:fC o.lt H)(B:fC o.lt V)
  (n:A.rs[X+1]?=U (.own e))(l:y.rs[X]?=U (.own e))(k3:x.rs[X]?=U (.own e)):
  T.hw h (.node (.cmp .lss de MC) (.node (.cmp .lss MC (.v 2)) (.dO f g e (.cn (N+3) o [de,MC,.v 2]) E (.v X) u (.out .normal A)) (.out .normal y)) (.out .normal x)) O L:=by
 have w:IE.den O (.v 2)=b:=W.vb;rw[vF];simp only[BE.den,gg,W.Q5,W.ve,decide_eq_true_eq];refine sF (λj=> ?_) (λj=> ?_);rw[vF];simp only[BE.den,gg,W.ve,w,decide_eq_true_eq];refine sF (λi=> ?_) (λi=> ?_);rw[Ba];refine⟨R++(bE o.lt (H++V)++Q), ?_, ?_⟩;simp only[jC,aIP,aJ7,W.Q5,W.ve,w,RE.rv,M,RV.lA];exact Y9 (by omega) (by omega) (by omega) (by omega) (by omega) (by omega) q p C B;rw[Bb];refine⟨.inl rfl,X+1,by rw[G];exact n, ?_⟩;have d:(O.rv X).val=k:=by rw[M];rfl
 rw[show(RE.v X).rv O=O.rv X from rfl,d,F,D];simp[aa.add,aa.rv,t];rw[Bb];refine⟨.inl rfl,X,by rw[G];exact l, ?_⟩;rw[M,F,D,Za (.inr (aI1 (by omega))) C B];simp;rw[Bb];refine⟨.inl rfl,X,by rw[G];exact k3, ?_⟩;rw[M,F,D,Za (.inl (aI1 (by omega))) C B];simp
def ahR(W:Ii O a m b s mid e1){y:bc}{C B:T}{V Q:am}(M:O.rv X=.mk k (R++(H++(V++Q))))
  (j:Y R=a)(i:Y H=s-a)(d:Y V=mid-s)(h1:a<=s)(h2:s<=mid)(hN:mid-a<N)(x:(R++(H++(V++Q))).length<=1099511627776)(w:∀z∈R++(H++(V++Q)),o.ok z=J)(G:fC o.lt H)(F:fC o.lt V)
  (u:T.hw h t (O.add (.r (.mk k (R++(bE o.lt (H++V)++Q))))) L)(q:O.rv X=.mk k (R++(bE o.lt (H++V)++Q))->T.hw h C O L)(p:O.rv X=.mk k (R++(bE o.lt (H++V)++Q))->T.hw h B O L):
  T.hw h (.node (.cmp .lss (.v 0) (.v 3)) (.node (.cmp .lss (.v 3) de) (.dO f g e (.cn (N+3) o [.v 0,.v 3,de]) E (.v X) y t) C) B) O L:=by
 have A:IE.den O (.v 0)=a:=W.va;have D:IE.den O (.v 3)=s:=W.vs;rw[vF];simp only[BE.den,gg,A,D,decide_eq_true_eq];refine sF (λn=> ?_) (λn=> ?_);rw[vF];simp only[BE.den,gg,W.Q5,D,decide_eq_true_eq];refine sF (λl=> ?_) (λl=> ?_);rw[Ba];refine⟨R++(bE o.lt (H++V)++Q), ?_, ?_⟩;simp only[jC,aIP,aJ7,W.Q5,A,D,RE.rv,M,RV.lA];exact Y9 (by omega) (by omega) (by omega) (by omega) (by omega) (by omega) x w G F;simp only[RE.rv,M,RV.lZ];exact u;refine q ?_;rw[M,Za (.inr (aI1 (by omega))) G F];simp;refine p ?_;rw[M,Za (.inl (aI1 (by omega))) G F];simp
def aB7(W:Ii O a m b s mid e1){C:bc}{G F:T}{B V:am}(Q:O.rv X=.mk k (R++(H++(B++V))))
  (p:Y R=s)(n:Y H=m-s)(l:Y B=e1-m)(j:s<=m)(i:m<=e1)(z:(R++(H++(B++V))).length<=1099511627776)
  (y:T.hw h t (O.add (.r (.mk k (R++(B++(H++V)))))) L)(x:O.rv X=.mk k (R++(B++(H++V)))->T.hw h G O L)(w:O.rv X=.mk k (R++(B++(H++V)))->T.hw h F O L):
  T.hw h (.node (.cmp .lss (.v 3) (.v 1)) (.node (.cmp .lss (.v 1) MC) (.dO d g e (.cn 1 o [.v 3,.v 1,MC]) E (.v X) C t) G) F) O L:=by
 have M:IE.den O (.v 1)=m:=W.vm;have D:IE.den O (.v 3)=s:=W.vs;rw[vF];simp only[BE.den,gg,M,D,decide_eq_true_eq];refine sF (λu=> ?_) (λu=> ?_);rw[vF];simp only[BE.den,gg,W.ve,M,decide_eq_true_eq];refine sF (λq=> ?_) (λq=> ?_);rw[Ba];refine⟨R++(B++(H++V)), ?_, ?_⟩;simp only[jC,aIP,aJ7,W.ve,M,D,RE.rv,Q,RV.lA];exact aB6 (by omega) (by omega) (by omega) (by omega) (by omega) z;simp only[RE.rv,Q,RV.lZ];exact y;refine x ?_;have:B=[]:=aI1 (by omega);rw[Q,this];simp;refine w ?_;have:H=[]:=aI1 (by omega);rw[Q,this];simp
end
section
variable{f d e g N:Nat}{o:aW}{O:aa}{L:cV}{a m b s mid e1:Nat}{K:kw}
def Zb{O:aa}{v:RV}(h:X=Y O.r):(O.add (.r v)).rv X=v:=by subst h;simp[aa.rv,aa.add]
def aB8(bg:kq o.lt (λx=>o.ok x=J))(X:Ii O a m b s mid e1)(al:Y O.r=2)(hc:O.rv 1=.mk k R)
  (h1:a<=s)(h2:s<=m)(h3:m<=e1)(D:e1<=b)(hb:b<=Y R)(a0:s<=mid)(bt:mid+m=e1+s)(a1:mid-a<N)(y:b-mid<N)(hl:Y R<=1099511627776)(bb:∀z∈R,o.ok z=J)(sA:fC o.lt (aU R a m))(sB:fC o.lt (aU R m b))
  (q1:∀i j,a<=i->i<s->e1<=j->j<b->o.lt (R.getD j []) (R.getD i [])=E)(q2:∀i j,s<=i->i<m->m<=j->j<e1->o.lt (R.getD j []) (R.getD i [])=J)
  (bd:H=R.take a++(bE o.lt (aU R a b)++R.drop b)):T.hw ⟨K,g,o,e,k,H⟩ (Q1 e g d f N o) O L:=by
 have bk:=aBR bg bb h1 h2 h3 D hb sA sB q1 q2;have e0:R=R.take a++(aU R a s++(aU R s m++(aU R m e1++(aU R e1 b++R.drop b)))):=by
  have:=MA R (show a<=b by omega);rw[oj R (show a<=s by omega) (show s<=b by omega),oj R h2 (show m<=b by omega),oj R h3 D] at this;simpa using this.symm
 have l1:(aU R a s).length=s-a:=pJ R (by omega);have l2:(aU R s m).length=m-s:=pJ R (by omega);have l3:(aU R m e1).length=e1-m:=pJ R (by omega);have w:(aU R e1 b).length=b-e1:=pJ R (by omega);have lP:(R.take a).length=a:=by simp;omega
 rw[oj R h1 h2] at sA;rw[oj R h3 D] at sB;have a3:fC o.lt (aU R a s):=(aI4.1 sA).1;have u:fC o.lt (aU R s m):=(aI4.1 sA).2.1;have a4:fC o.lt (aU R m e1):=(aI4.1 sB).1;have t:fC o.lt (aU R e1 b):=(aI4.1 sB).2.1;rw[bk] at bd;have bl:∀x,(x∈R.take a\/x∈aU R a s\/x∈aU R s m\/x∈aU R m e1\/x∈aU R e1 b\/x∈R.drop b)->o.ok x=true:=λx hx=>bb x (by
  rcases hx with h|h|h|h|h|h;exact aJG h;exact s8 h;exact s8 h;exact s8 h;exact s8 h;exact aJA h)
 rw[e0] at hc hl;generalize R.take a=P at*;generalize aU R a s=V at*;generalize aU R s m=C at*;generalize aU R m e1=M at*;generalize aU R e1 b=A at*;generalize R.drop b=Q at*;have q:H=(P++bE o.lt (V++M))++(bE o.lt (C++A)++Q):=by rw[bd];simp
 have br:∀x∈bE o.lt (V++M),x∈V\/x∈M:=λx hx=>by simpa using H9 hx
 have bf:(bE o.lt (V++M)).length=mid-a:=by rw[j9];simp;omega
 have bx:Y P+(Y V+(Y C+(Y M+(Y A+Y Q))))<=1099511627776:=by simpa using hl
 have an:∀z∈P++(V++(M++(C++(A++Q)))),o.ok z=true:=λz hz=>bl z (by
  simp only[aIM] at hz;rcases hz with h|h|h|h|h|h;exact .inl h;exact .inr (.inl h);exact .inr (.inr (.inr (.inl h)));exact .inr (.inr (.inl h));exact .inr (.inr (.inr (.inr (.inl h))));exact .inr (.inr (.inr (.inr (.inr h)))))
 have p:∀z∈(P++bE o.lt (V++M))++(C++(A++Q)),o.ok z=true:=λz hz=>an z (by
  simp only[aIM] at hz⊢;rcases hz with(h|h)|h|h|h;exact .inl h;rcases br z h with h|h;exact .inr (.inl h);exact .inr (.inr (.inl h));exact .inr (.inr (.inr (.inl h)));exact .inr (.inr (.inr (.inr (.inl h))));exact .inr (.inr (.inr (.inr (.inr h)))))
 have lU:(P++(V++(M++(C++(A++Q))))).length<=1099511627776:=by simp;omega
 have n:((P++bE o.lt (V++M))++(C++(A++Q))).length<=1099511627776:=by simp only[aIO,bf];omega
 have l:(P++bE o.lt (V++M)).length=mid:=by simp only[aIO,bf];omega
 have c:Y C=e1-mid:=by omega
 have bs:O.rv 1=.mk k ((P++V)++(C++(M++(A++Q)))):=by rw[hc];simp
 have a9:∀W:am,(P++V)++(M++W)=P++(V++(M++W)):=λW=>by simp
 have af:∀W:am,P++(bE o.lt (V++M)++W)=(P++bE o.lt (V++M))++W:=λW=>by simp
 unfold Q1;refine aB7 X bs (by simp;omega) l2 l3 h2 h3 (by simp;omega) ?_ (λag=> ?_) (λag=> ?_);have ag:=Zb (v:=.mk k ((P++V)++(M++(C++(A++Q))))) (show 2=Y O.r by omega);rw[a9] at ag⊢;have G:=X.add (rv:=.mk k (P++(V++(M++(C++(A++Q))))));have F:(O.add (.r (.mk k (P++(V++(M++(C++(A++Q)))))))).r.length=3:=by simp[aa.add,al]
 refine ahR G ag lP l1 (by omega) h1 a0 a1 lU an a3 a4 ?_ (λB=> ?_) (λB=> ?_);refine Db G.add rfl ((Zb (show 3=_ from F.symm)).trans (by rw[af])) (by simp[aa.add,al]) rfl q l c w (by omega) D y n p u t rfl rfl rfl;refine Db G rfl (B.trans (by rw[af])) (show 2+1=_ from F.symm) rfl q l c w (by omega) D y n p u t rfl rfl rfl;refine Db G rfl (B.trans (by rw[af])) (show 2+1=_ from F.symm) rfl q l c w (by omega) D y n p u t rfl rfl rfl;rw[a9] at ag;have G:=X;have F:=al;refine ahR G ag lP l1 (by omega) h1 a0 a1 lU an a3 a4 ?_ (λB=> ?_) (λB=> ?_);refine Db G.add rfl ((Zb (show 2=_ from F.symm)).trans (by rw[af])) (by simp[aa.add,F]) rfl q l c w (by omega) D y n p u t rfl rfl rfl;refine Db G rfl (B.trans (by rw[af])) (show 1+1=_ from F.symm) rfl q l c w (by omega) D y n p u t rfl rfl rfl;refine Db G rfl (B.trans (by rw[af])) (show 1+1=_ from F.symm) rfl q l c w (by omega) D y n p u t rfl rfl rfl;rw[a9] at ag;have G:=X;have F:=al;refine ahR G ag lP l1 (by omega) h1 a0 a1 lU an a3 a4 ?_ (λB=> ?_) (λB=> ?_);refine Db G.add rfl ((Zb (show 2=_ from F.symm)).trans (by rw[af])) (by simp[aa.add,F]) rfl q l c w (by omega) D y n p u t rfl rfl rfl;refine Db G rfl (B.trans (by rw[af])) (show 1+1=_ from F.symm) rfl q l c w (by omega) D y n p u t rfl rfl rfl;refine Db G rfl (B.trans (by rw[af])) (show 1+1=_ from F.symm) rfl q l c w (by omega) D y n p u t rfl rfl rfl
end
end
section
attribute[local simp] IE.den BE.den RE.rv RE.den gg aa.rv aa.ext aa.add SV.xv vF If Ig Ih Ba Bb LE.rows mB jC
attribute[local congr] Ie
def getD_some(h:X<Y R):R[X]?=U (R.getD X []):=by
 rw[aIC,aIA h];rfl
def Q6{i j:Nat}(h:i+j<=4398046511104):IntKind.i64.wrap (au .shr .u64 (IntKind.u64.wrap (au .add I (i:Int) (j:Int))) 1)=(((i+j)/2:Nat):Int):=by
 rw[zf h];exact aB5 h
def Q7(h:X<Y R):aU R X (X+1)=[R.getD X []]:=by
 have e:R.getD X []=R[X]:=by rw[aIC,aIA h];rfl
 simp only[aU,aKu];rw[aJw h,e];rfl
def aB9(A R:am)(y x:aH)(W:X=Y A):((A++(x::y::R)).set X y).set (X+1) x=A++(y::x::R):=by
 subst W;rw[aKo _ _ (by omega),aLg,aKo _ _ (by omega),aKu];rfl
def bZ(X:am)(k:Nat):aH:=X.getD k []
def auo(h:X<Y R):R.drop X=bZ R X::R.drop (X+1):=by
 rw[aJw h,bZ,aIC,aIA h];rfl
section
variable{K:kw}{e g:Nat}{o:aW}{d:RE->IE->ah}
set_option maxHeartbeats 4000000 in
def aCa (ag:C9 K d) (al:kq o.lt (λx=>o.ok x=J)) {V:mu} {m b:Nat} (ca:Y R=X) (hn:X<=1099511627776) (A:∀x∈R,iL K x) (a1:∀x∈R,o.ok x=J)
  (hm:m=u+1) (cc:m<b) (hb:b<=Y R) (sB:fC o.lt (aU R m b)) (bs:H=R.take u++(bE o.lt (aU R u b)++R.drop b)):
  T.hw ⟨K,g,o,e,.slice V X C,H⟩ (ahM e g d) ⟨[(u:Int),m,b],[],[.mk (.slice V X C) R],[]⟩ []:=by
 subst hm;have N:u<Y R:=by omega
 have a3:∀k,k<Y R->bZ R k∈R:=λk Q=>aIW (getD_some Q)
 have t:∀k,k<Y R->iL K (bZ R k):=λk Q=>A _ (a3 k Q)
 have M:∀k,k<Y R->o.ok (bZ R k)=true:=λk Q=>a1 _ (a3 k Q)
 unfold ahM;refine xt (λG=>∃(i j:Nat),G=[.r (.mk (.slice V X C) R),.i i,.i j]/\u+1<=i/\i<=j/\j<=b/\(∀k,u+1<=k->k<i->o.lt (bZ R k) (bZ R u)=J)/\∀k,j<=k->k<b->o.lt (bZ R k) (bZ R u)=E) (λG=>match G with|[_,.i i,.i j]=>j.toNat-i.toNat|_=>0) ⟨u+1,b,rfl,by omega,by omega,by omega,by omega,by omega⟩ ?_;rintro _ ⟨i,j,rfl,a4,cf,s,a9,bb⟩;by_cases bt:i<j;have p:=Q6 (i:=i) (j:=j) (by omega);have bx:i<=(i+j)/2:=by omega
 have b0:(i+j)/2<j:=by omega
 generalize hq:(i+j)/2=q at p bx b0;simp[bt,p,lenOf];refine⟨by omega,by omega, ?_⟩;refine Y8 ag rfl (bZ R q) (bZ R u) ?_ ?_ (t q (by omega)) (t u N) (M q (by omega)) (M u N) (λc hc=> ?_);simp[p];exact getD_some (by omega);simp;exact getD_some N;simp[p];refine sF (λb1=> ?_) (λb2=> ?_);rw[Da (by omega)];refine⟨⟨q+1,j,rfl,by omega,by omega,s,λk F D=> ?_,bb⟩, ?_⟩;have B:=hc.1 b1;by_cases Q:k=q;subst Q;exact B;have hs:=MB hb sB (i:=k) (j:=q) (by omega) (by omega) (by omega);cases h:o.lt (bZ R k) (bZ R u);have:=al.nt _ _ _ (M q (by omega)) (M k (by omega)) (M u N) hs h;rw[B] at this;cases this;rfl;show(j:Int).toNat-((q+1:Nat):Int).toNat<j-i;omega;have B:o.lt (bZ R q) (bZ R u)=false:=by
  cases h:o.lt (bZ R q) (bZ R u);rfl;exact absurd (hc.2 h) b2
 refine⟨⟨i,q,rfl,by omega,by omega,by omega,a9,λk F D=> ?_⟩, ?_⟩;by_cases Q:k=q;subst Q;exact B;have hs:=MB hb sB (i:=q) (j:=k) (by omega) (by omega) (by omega);exact al.nt _ _ _ (M k (by omega)) (M q (by omega)) (M u N) hs B;show((q:Nat):Int).toNat-(i:Int).toNat<j-i;omega;have b3:i=j:=by omega
 subst b3;simp;have bd:bE o.lt (aU R u b)=aU R (u+1) i++bZ R u::aU R i b:=by
  have e0:aU R u b=bZ R u::(aU R (u+1) i++aU R i b):=by
   rw[<-oj R a4 s,oj R (show u<=u+1 by omega) (show u+1<=b by omega)];have:aU R u (u+1)=[bZ R u]:=Q7 N;rw[this];rfl
  rw[e0];refine aBO al (λz L=> ?_) (by rw[<-oj R a4 s];exact sB) (λy hy=> ?_) (λy hy=> ?_);rw[<-e0] at L;exact a1 z (s8 L);obtain⟨k,k1,k2,_,rfl⟩:=Fm hy;exact a9 k k1 k2;obtain⟨k,k1,k2,_,rfl⟩:=Fm hy;exact bb k k1 k2
 have b4:(R.take u).length=u:=by simp;omega
 refine xt (λG=>∃(k:Nat)(W:am),G=[.r (.mk (.slice V X C) W),.i k]/\u<=k/\k+1<=i/\W=(R.take u++aU R (u+1) (k+1))++bZ R u::R.drop (k+1)) (λG=>match G with|[_,.i k]=>i-k.toNat|_=>0) ⟨u,R,by simp,by omega,by omega, ?_⟩ ?_;have e1:aU R (u+1) (u+1)=[]:=by simp[aU]
 have:=MA R (show u<=u+1 by omega);rw[Q7 N] at this;rw[e1,aKf];exact this.symm;rintro _ ⟨k,W,rfl,ch,cl,P⟩;have bf:au .sub I (i:Int) 1=((i-1:Nat):Int):=Y7 (by omega) (by omega);have l:(R.take u++aU R (u+1) (k+1)).length=k:=by rw[aIO,b4,pJ R (by omega)];omega
 by_cases Q:k<i-1;have hd:R.drop (k+1)=bZ R (k+1)::R.drop (k+1+1):=by
  exact auo (by omega)
 have bg:aU R (u+1) (k+1+1)=aU R (u+1) (k+1)++[bZ R (k+1)]:=by
  rw[oj R (show u+1<=k+1 by omega) (show k+1<=k+1+1 by omega),Q7 (by omega)];rfl
 have f:=t u N;have af:=t (k+1) (by omega);have bk:∀z∈W,iL K z:=λz L=>by
  rw[P] at L;simp only[aIM,aIK] at L;rcases L with(h|h)|h|h;exact A z (aJG h);exact A z (s8 h);subst h;exact f;exact A z (aJA h)
 rw[hd] at P;generalize bZ R u=x at f P bd;generalize bZ R (k+1)=y at af P bg;have cp:Y W=X:=by
  rw[P,aIO,l];simp;omega
 have gx:W[k]?=U x:=by rw[P,aIH (by omega),l];simp
 have gy:W[k+1]?=U y:=by rw[P,aIH (by omega),l];simp
 have c1:∀O:aa,O.r=[.mk (.slice V X C) R,.mk (.slice V X C) R,.mk (.slice V X C) W]->O.i=[(u:Int),((u+1:Nat):Int),b,i,i,k]->aKR (SV.bN O) (d (.v 2) (.bin .add I (.v 5) (.c 1)))=y:=λO F D=>ag.bN O _ _ y (by simp only[RE.rv,aa.rv,IE.den,F,D,aJ6,aJP,RV.lA,Da (a:=k) (by omega)];exact gy) af
 have c2:∀(O:aa) rv,O.r=[.mk (.slice V X C) R,.mk (.slice V X C) R,.mk (.slice V X C) W,rv]->O.i=[(u:Int),((u+1:Nat):Int),b,i,i,k]->aKR (SV.bN O) (d (.v 2) (.v 5))=x:=λO rv F D=>ag.bN O _ _ x (by simp only[RE.rv,aa.rv,IE.den,F,D,aJ6,aJP,RV.lA];exact gx) f
 have m1:(W.modify k λan=>gF an 0 y)=W.set k y:=Fp bk af;have m2:((W.set k y).modify (k+1) λan=>gF an 0 x)=(W.set k y).set (k+1) x:=Fp (λz L=>by
  rcases aJx L with h|rfl;exact bk z h;exact af) f
 have a0:(k:Int)<((i-1:Nat):Int):=by omega
 have bl:=Da (a:=k) (by omega);generalize hw:((k+1:Nat):Int)=w at bl;have b5:w.toNat=k+1:=by omega
 have br:=aB9 (R.take u++aU R (u+1) (k+1)) (R.drop (k+1+1)) y x l.symm;rw[<-P] at br;simp[bf,a0,bl,lenOf];rw[c1 _ rfl rfl,c2 _ _ rfl rfl,b5,m1,m2,br];refine⟨by omega,by omega,by omega,⟨k+1,_,by rw[hw],by omega,by omega, ?_⟩, ?_⟩;rw[bg];simp;show i-w.toNat<i-k;omega;have a0:¬(k:Int)<((i-1:Nat):Int):=by omega
 have b6:k+1=i:=by omega
 rw[b6] at P;have hd:=MA (R.drop 0) (show i<=i by omega);have b7:R.drop i=aU R i b++R.drop b:=by
  have:=oj R s (show b<=b by omega);simp only[aU];have e:R.drop b=(R.drop i).drop (b-i):=by rw[aKr];congr 1;omega
  rw[e,aJR]
 have b8:W=H:=by
  rw[P,bs,bd,b7];simp
 simp[bf,a0];exact⟨2,rfl,by rw[b8];rfl⟩
set_option maxHeartbeats 4000000 in
def aCb (af:C9 K d) (ag:kq o.lt (λx=>o.ok x=J)) {V:mu} {m b:Nat} (cc:Y R=X) (hn:X<=1099511627776) (A:∀x∈R,iL K x) (a9:∀x∈R,o.ok x=J)
  (hm:b=m+1) (cf:u<m) (hb:b<=Y R) (sA:fC o.lt (aU R u m)) (bs:H=R.take u++(bE o.lt (aU R u b)++R.drop b)):
  T.hw ⟨K,g,o,e,.slice V X C,H⟩ (ahN e g d) ⟨[(u:Int),m,b],[],[.mk (.slice V X C) R],[]⟩ []:=by
 subst hm;have N:m<Y R:=by omega
 have bb:∀k,k<Y R->bZ R k∈R:=λk P=>aIW (getD_some P)
 have t:∀k,k<Y R->iL K (bZ R k):=λk P=>A _ (bb k P)
 have M:∀k,k<Y R->o.ok (bZ R k)=true:=λk P=>a9 _ (bb k P)
 unfold ahN;refine xt (λQ=>∃(i j:Nat),Q=[.r (.mk (.slice V X C) R),.i i,.i j]/\u<=i/\i<=j/\j<=m/\(∀k,u<=k->k<i->o.lt (bZ R m) (bZ R k)=E)/\∀k,j<=k->k<m->o.lt (bZ R m) (bZ R k)=J) (λQ=>match Q with|[_,.i i,.i j]=>j.toNat-i.toNat|_=>0) ⟨u,m,rfl,by omega,by omega,by omega,by omega,by omega⟩ ?_;rintro _ ⟨i,j,rfl,al,ch,an,bd,bf⟩;by_cases bt:i<j;have s:=Q6 (i:=i) (j:=j) (by omega);have bx:i<=(i+j)/2:=by omega
 have b0:(i+j)/2<j:=by omega
 generalize hq:(i+j)/2=q at s bx b0;simp[bt,s,lenOf];refine⟨by omega,by omega, ?_⟩;refine Y8 af rfl (bZ R m) (bZ R q) ?_ ?_ (t m N) (t q (by omega)) (M m N) (M q (by omega)) (λc hc=> ?_);simp;exact getD_some N;simp[s];exact getD_some (by omega);simp[s];refine sF (λcl=> ?_) (λcp=> ?_);rw[Da (by omega)];have F:o.lt (bZ R m) (bZ R q)=false:=by
  cases h:o.lt (bZ R m) (bZ R q);rfl;have:=hc.2 h;omega
 refine⟨⟨q+1,j,rfl,by omega,by omega,an,λk D G=> ?_,bf⟩, ?_⟩;by_cases P:k=q;subst P;exact F;have hs:=MB (show m<=Y R by omega) sA (i:=k) (j:=q) (by omega) (by omega) (by omega);exact ag.nt _ _ _ (M m N) (M q (by omega)) (M k (by omega)) F hs;show(j:Int).toNat-((q+1:Nat):Int).toNat<j-i;omega;have F:o.lt (bZ R m) (bZ R q)=true:=hc.1 (by omega);refine⟨⟨i,q,rfl,by omega,by omega,by omega,bd,λk D G=> ?_⟩, ?_⟩;by_cases P:k=q;subst P;exact F;have hs:=MB (show m<=Y R by omega) sA (i:=q) (j:=k) (by omega) (by omega) (by omega);cases h:o.lt (bZ R m) (bZ R k);have:=ag.nt _ _ _ (M m N) (M k (by omega)) (M q (by omega)) h hs;rw[F] at this;cases this;rfl;show((q:Nat):Int).toNat-(i:Int).toNat<j-i;omega;have b1:i=j:=by omega
 subst b1;simp;have b2:bE o.lt (aU R u (m+1))=aU R u i++bZ R m::aU R i m:=by
  have e0:aU R u (m+1)=aU R u i++aU R i m++[bZ R m]:=by
   rw[<-oj R al an,oj R (show u<=m by omega) (show m<=m+1 by omega),Q7 N];rfl
  rw[e0];refine aBP ag (λz L=> ?_) (by rw[<-oj R al an];exact sA) (λy hy=> ?_) (λy hy=> ?_);rw[<-e0] at L;exact a9 z (s8 L);obtain⟨k,k1,k2,_,rfl⟩:=Fm hy;exact bd k k1 k2;obtain⟨k,k1,k2,_,rfl⟩:=Fm hy;exact bf k k1 k2
 refine xt (λQ=>∃(k:Nat)(W:am),Q=[.r (.mk (.slice V X C) W),.i k]/\i<=k/\k<=m/\W=R.take k++bZ R m::(aU R k m++R.drop (m+1))) (λQ=>match Q with|[_,.i k]=>k.toNat|_=>0) ⟨m,R,by simp,by omega,by omega, ?_⟩ ?_;have e1:aU R m m=[]:=by simp[aU]
 rw[e1,aIJ,<-auo N,aJR];rintro _ ⟨k,W,rfl,ct,cv,bg⟩;by_cases P:i<k;obtain⟨q,rfl⟩:∃q,k=q+1:=⟨k-1,by omega⟩;have a0:au .sub I (((q+1:Nat)):Int) 1=(q:Int):=by rw[Y7 (by omega) (by omega)];omega
 have p:(R.take q).length=q:=by simp;omega
 have b3:R.take (q+1)=R.take q++[bZ R q]:=by
  rw[List.take_add_one,getD_some (show q<Y R by omega)];rfl
 have b4:aU R q m=bZ R q::aU R (q+1) m:=by
  rw[oj R (show q<=q+1 by omega) (show q+1<=m by omega),Q7 (by omega)];rfl
 have a1:=t m N;have l:=t q (by omega);have B:W=R.take q++(bZ R q::bZ R m::(aU R (q+1) m++R.drop (m+1))):=by rw[bg,b3];simp
 have bk:∀z∈W,iL K z:=λz L=>by
  rw[B] at L;simp only[aIM,aIK] at L;rcases L with h|h|h|h|h;exact A z (aJG h);subst h;exact l;subst h;exact a1;exact A z (s8 h);exact A z (aJA h)
 have bl:=aum (R.take q) (aU R (q+1) m++R.drop (m+1)) (bZ R q) (bZ R m) p.symm;rw[<-B] at bl;have cx:Y W=X:=by
  rw[B,aIO,p];simp only[aJm,aIO,pJ R (show m<=Y R by omega),aJT];omega
 have gx:W[q+1]?=U (bZ R m):=by rw[B,aIH (by omega),p];simp
 have gy:W[q]?=U (bZ R q):=by rw[B,aIH (by omega),p];simp
 have br:(i:Int)<((q+1:Nat):Int):=by omega
 have b5:((q+1:Nat):Int)<X:=by omega
 have a3:((q+1:Nat):Int).toNat=q+1:=rfl;have b6:(0:Int)<=((q+1:Nat):Int):=by omega
 have b7:∀f,f=R.take q++bZ R m::(aU R q m++R.drop (m+1))->Ic (U ⟨1,λQ=>∃(k:Nat)(W:am),Q=[.r (.mk (.slice V X C) W),.i k]/\i<=k/\k<=m/\W=R.take k++bZ R m::(aU R k m++R.drop (m+1)),λQ=>match Q with|[_,.i k]=>k.toNat|_=>0,q+1⟩) [.r (.mk (.slice V X C) f),.i q]:=λf G=>⟨⟨q,f,rfl,by omega,by omega,G⟩,show(q:Int).toNat<q+1 by omega⟩
 generalize hw:((q+1:Nat):Int)=w at a0 br b5 a3 b6⊢;have c1:∀O:aa,O.r=[.mk (.slice V X C) R,.mk (.slice V X C) R,.mk (.slice V X C) W]->O.i=[(u:Int),m,((m+1:Nat):Int),i,i,w]->aKR (SV.bN O) (d (.v 2) (.bin .sub I (.v 5) (.c 1)))=bZ R q:=λO D G=>af.bN O _ _ _ (by simp only[RE.rv,aa.rv,IE.den,D,G,aJ6,aJP,RV.lA,a0];exact gy) l
 have c2:∀(O:aa) rv,O.r=[.mk (.slice V X C) R,.mk (.slice V X C) R,.mk (.slice V X C) W,rv]->O.i=[(u:Int),m,((m+1:Nat):Int),i,i,w]->aKR (SV.bN O) (d (.v 2) (.v 5))=bZ R m:=λO rv D G=>af.bN O _ _ _ (by simp only[RE.rv,aa.rv,IE.den,D,G,aJ6,aJP,RV.lA,a3];exact gx) a1
 have m1:(W.modify (q+1) λa4=>gF a4 0 (bZ R q))=W.set (q+1) (bZ R q):=Fp bk l;have m2:((W.set (q+1) (bZ R q)).modify q λa4=>gF a4 0 (bZ R m))=(W.set (q+1) (bZ R q)).set q (bZ R m):=Fp (λz L=>by
  rcases aJx L with h|rfl;exact bk z h;exact l) a1
 simp[a0,br,lenOf];rw[c1 _ rfl rfl,c2 _ _ rfl rfl,a3,m1,m2,bl];refine⟨by omega,by omega,by omega, ?_⟩;exact b7 _ (by rw[b4];simp);have b8:k=i:=by omega
 subst b8;have ca:W=H:=by
  have ht:R.take k=R.take u++aU R u k:=by
   have e1:=MA R al;have e2:(R.take u++aU R u k).length=k:=by rw[aIO,pJ R (by omega)];simp;omega
   calc R.take k=(R.take u++aU R u k++R.drop k).take k:=by rw[aJ5,e1]
    _=_:=by rw[aKI (by omega),aJW (by omega)]
  rw[bg,bs,b2,ht];simp
 simp;exact⟨2,rfl,by rw[ca];rfl⟩
end
end
section
attribute[local simp] IE.den BE.den RE.rv RE.den gg aa.rv aa.ext aa.add SV.xv vF If Ig Ih Ba Bb LE.rows mB jC
attribute[local congr] Ie
section
variable{K:kw}{e g f l N:Nat}{o:aW}{d:RE->IE->ah}
set_option maxHeartbeats 4000000 in
def aup (bb:C9 K d) (Q:kq o.lt (λx=>o.ok x=J)) {L:mu} {m b lo hi:Nat} (bx:Y R=X) (hn:X<=1099511627776) (hT:∀x∈R,iL K x) (ag:∀x∈R,o.ok x=J)
  (b0:u<m) (b1:m<b) (hb:b<=Y R) (hN:b-u<N+1) (b2:2<=b-u) (sA:fC o.lt (aU R u m)) (sB:fC o.lt (aU R m b)) (bd:H=R.take u++(bE o.lt (aU R u b)++R.drop b))
  (l1:u<=lo) (l2:lo<=hi) (l3:hi<=m) (l4:hi<=(u+b)/2) (l5:(u+b)/2+m<=lo+b) (l6:lo=u\/lo+b=(u+b)/2+m) (l7:hi=m\/hi=(u+b)/2)
  {ks:aP} (bf:n.map (SV.xv ⟨[(u:Int),m,b],[],[.mk (.slice L X C) R],[]⟩)=[.r (.mk (.slice L X C) R),.i lo,.i hi]):
  T.hw ⟨K,g,o,e,.slice L X C,H⟩ (.loop 0 ks n (.node (.cmp .lss (.v 3) (.v 4)) (Y4 g d) (Q1 e g f l N o))) ⟨[(u:Int),m,b],[],[.mk (.slice L X C) R],[]⟩ []:=by
 have al:∀k,k<Y R->bZ R k∈R:=λk G=>aIW (getD_some G)
 have an:∀k,k<Y R->iL K (bZ R k):=λk G=>hT _ (al k G)
 have W:∀k,k<Y R->o.ok (bZ R k)=true:=λk G=>ag _ (al k G)
 have z:=Q6 (i:=u) (j:=b) (by omega);have b3:u<(u+b)/2/\(u+b)/2<b:=by omega
 generalize b4:(u+b)/2=V at*;have y:∀i j,u<=i->i<=j->j<m->o.lt (bZ R j) (bZ R i)=false:=λi j P F D=>by
  by_cases h:i=j;subst h;exact Q.YX _ (W i (by omega));exact MB (show m<=Y R by omega) sA P (by omega) D
 have w:∀i j,m<=i->i<=j->j<b->o.lt (bZ R j) (bZ R i)=false:=λi j P F D=>by
  by_cases h:i=j;subst h;exact Q.YX _ (W i (by omega));exact MB hb sB P (by omega) D
 refine xt (λp=>∃(s r:Nat),p=[.r (.mk (.slice L X C) R),.i s,.i r]/\lo<=s/\s<=r/\r<=hi/\(∀c,lo<=c->c<s->o.lt (bZ R (V+m-1-c)) (bZ R c)=E)/\∀c,r<=c->c<hi->o.lt (bZ R (V+m-1-c)) (bZ R c)=J) (λp=>match p with|[_,.i i,.i j]=>j.toNat-i.toNat|_=>0) ⟨lo,hi,bf,by omega,l2,by omega,by omega,by omega⟩ ?_;rintro _ ⟨s,r,rfl,b5,b6,bg,a0,a1⟩;by_cases bk:s<r;have B:=Q6 (i:=s) (j:=r) (by omega);have bl:s<=(s+r)/2:=by omega
 have br:(s+r)/2<r:=by omega
 generalize hq:(s+r)/2=q at B bl br;have a3:=zf (a:=V) (b:=m) (by omega);have a4:=Y7 (a:=V+m) (by omega) (by omega);have a9:=xu (a:=V+m-1) (b:=q) (by omega) (by omega);unfold Y4;simp[bk,B,lenOf,z];rw[a3,a4,a9];refine⟨by omega,by omega, ?_⟩;refine Y8 bb rfl (bZ R (V+m-1-q)) (bZ R q) ?_ ?_ (an _ (by omega)) (an q (by omega)) (W _ (by omega)) (W q (by omega)) (λc hc=> ?_);simp[B,z];rw[a3,a4,a9];exact getD_some (by omega);simp[B];exact getD_some (by omega);simp[B];refine sF (λb7=> ?_) (λb8=> ?_);rw[Da (by omega)];have af:o.lt (bZ R (V+m-1-q)) (bZ R q)=false:=by
  cases h:o.lt (bZ R (V+m-1-q)) (bZ R q);rfl;have:=hc.2 h;omega
 refine⟨⟨q+1,r,rfl,by omega,by omega,bg,λk P F=> ?_,a1⟩, ?_⟩;have O:=y k q (by omega) (by omega) (by omega);have M:=w (V+m-1-q) (V+m-1-k) (by omega) (by omega) (by omega);have t3:=Q.nt _ _ _ (W _ (by omega)) (W _ (by omega)) (W q (by omega)) M af;exact Q.nt _ _ _ (W _ (by omega)) (W q (by omega)) (W k (by omega)) t3 O;show(r:Int).toNat-((q+1:Nat):Int).toNat<r-s;omega;have af:o.lt (bZ R (V+m-1-q)) (bZ R q)=true:=hc.1 (by omega);refine⟨⟨s,q,rfl,by omega,by omega,by omega,a0,λk P F=> ?_⟩, ?_⟩;cases h:o.lt (bZ R (V+m-1-k)) (bZ R k);have O:=y q k (by omega) (by omega) (by omega);have M:=w (V+m-1-k) (V+m-1-q) (by omega) (by omega) (by omega);have t3:=Q.nt _ _ _ (W _ (by omega)) (W _ (by omega)) (W k (by omega)) M h;have A:=Q.nt _ _ _ (W _ (by omega)) (W k (by omega)) (W q (by omega)) t3 O;rw[af] at A;cases A;rfl;show((q:Nat):Int).toNat-(s:Int).toNat<r-s;omega;have bs:s=r:=by omega
 subst bs;simp;refine aB8 Q (a:=u) (m:=m) (b:=b) (s:=s) (mid:=V) (e1:=V+m-s) ⟨rfl,rfl,rfl,rfl, ?_, ?_⟩ rfl rfl (by omega) (by omega) (by omega) (by omega) hb (by omega) (by omega) (by omega) (by omega) (by omega) ag sA sB (λi j P F D h4=> ?_) (λi j P F D h4=> ?_) bd;simp[z];simp[z];rw[zf (by omega),xu (by omega) (by omega)];have bt:lo<s:=by
  rcases l6 with h|h<;>omega
 have t:=a0 (s-1) (by omega) (by omega);rw[show V+m-1-(s-1)=V+m-s by omega] at t;have O:=y i (s-1) (by omega) (by omega) (by omega);have M:=w (V+m-s) j (by omega) (by omega) (by omega);have t3:=Q.nt _ _ _ (W j (by omega)) (W _ (by omega)) (W (s-1) (by omega)) M t;exact Q.nt _ _ _ (W j (by omega)) (W (s-1) (by omega)) (W i (by omega)) t3 O;have bt:s<hi:=by
  rcases l7 with h|h<;>omega
 have t:=a1 s (by omega) (by omega);cases h:o.lt (bZ R j) (bZ R i);have O:=y s i (by omega) (by omega) (by omega);have M:=w j (V+m-1-s) (by omega) (by omega) (by omega);have t3:=Q.nt _ _ _ (W _ (by omega)) (W j (by omega)) (W i (by omega)) M h;have A:=Q.nt _ _ _ (W _ (by omega)) (W i (by omega)) (W s (by omega)) t3 O;rw[t] at A;cases A;exact h
def aCc{a m b:Int}:lB (X+4) z [a,m,b] R=if decide (0<=a)&&decide (a<m)&&decide (m<b)&&decide (b<=Y R)&&decide (b-a<((X+1:Nat):Int))&&R.all z.ok&&v8 z.lt (aU R a.toNat m.toNat)&&v8 z.lt (aU R m.toNat b.toNat) then U (R.take a.toNat++(bE z.lt (aU R a.toNat b.toNat)++R.drop b.toNat)) else none:=rfl
set_option maxHeartbeats 4000000 in
def auq (W:C9 K d) (V:kq o.lt (λx=>o.ok x=J)):Q0 K e g o (N+4) 3 (Y5 e g f l N o d):=by
 rintro p _ B ay h A z ⟨y,n,w,rfl,R,Q⟩ P v D u;obtain⟨a,m,b,rfl⟩:=Bc v;obtain⟨_,X⟩:=zQ D;clear D;rw[aCc] at X;split at X;rename_i C;simp only[aIy,decide_eq_true_eq,aIN,at5] at C;obtain⟨⟨⟨⟨⟨⟨⟨t,c⟩,af⟩,ag⟩,al⟩,O⟩,M⟩,L⟩:=C;obtain⟨a,rfl⟩:=zg t;obtain⟨m,rfl⟩:=zg (a:=m) (by omega);obtain⟨b,rfl⟩:=zg (a:=b) (by omega);simp only[aID,aJ0] at X M L;have H:b<=Y B:=by omega
 refine xq ⟨K,g,o,e,.slice y n w,ay⟩ (A▸z) u _ _ _ ?_;unfold Y5;have F:=Q6 (i:=a) (j:=b) (by omega);obtain⟨G,s⟩:∃G,G=(a+b)/2:=⟨_,rfl⟩;rw[<-s] at F;simp[xu (a:=m) (b:=a) (by omega) (by omega),xu (a:=b) (b:=m) (by omega) (by omega),F];refine sF (λr=> ?_) (λr=>sF (λq=> ?_) (λq=>sF (λk=> ?_) (λk=> ?_)));exact aCa W V R Q P O (by omega) (by omega) H L X.symm;exact aCb W V R Q P O (by omega) (by omega) H M X.symm;refine aup W V R Q P O (lo:=G+m-b) (hi:=G) (by omega) (by omega) H (by omega) (by omega) M L X.symm (by omega) (by omega) (by omega) (by omega) (by omega) (by omega) (by omega) ?_;simp[F];rw[zf (by omega),xu (by omega) (by omega)];refine aup W V R Q P O (lo:=a) (hi:=m) (by omega) (by omega) H (by omega) (by omega) M L X.symm (by omega) (by omega) (by omega) (by omega) (by omega) (by omega) (by omega) ?_;simp;cases X
end
end
section
attribute[local simp] IE.den BE.den RE.rv RE.den gg aa.rv aa.ext aa.add SV.xv vF If Ig Ih Ba Bb LE.rows mB jC
attribute[local congr] Ie
section
variable{lt:aH->aH->Bool}
inductive jQ(lt:List RV->List RV->Bool)(s:Nat):List (List RV)->List (List RV)->Prop
 |nil:jQ lt s [] []
 |last (X:List (List RV)):1<=Y X->Y X<=s->jQ lt s X (bE lt X)
 |cons (X R R':List (List RV)):Y X=s->jQ lt s R R'->jQ lt s (X++R) (bE lt X++R')
inductive vG(lt:List RV->List RV->Bool)(s:Nat):List (List RV)->List (List RV)->Prop
 |nil:vG lt s [] []
 |snoc (A A' X:List (List RV)):Y X=s->vG lt s A A'->vG lt s (A++X) (A'++bE lt X)
def vG.kz(h:vG lt X R H):∀{W Q:am},jQ lt X W Q->jQ lt X (R++W) (H++Q):=by
 induction h with
 |nil=>intro W Q P;exact P
 |snoc R H V O _ N=>
  intro W Q P;have:=N (.cons V W Q O P);simpa using this
def vG.len(h:vG lt X R H):Y H=Y R:=by
 induction h with
 |nil=>rfl
 |snoc R H W Q _ V=>simp[V,j9]
def jQ.len(h:jQ lt X R H):Y H=Y R:=by
 induction h with
 |nil=>rfl
 |last W _ _=>simp[j9]
 |cons W V P O _ Q=>simp[Q,j9]
def vG.mem(h:vG lt X R H):∀x∈H,x∈R:=by
 induction h with
 |nil=>simp
 |snoc R H W V _ Q=>
  intro x V;rcases aIM.1 V with h|h;simp[Q x h];simp[H9 h]
def jQ.mem(h:jQ lt X R H):∀x∈H,x∈R:=by
 induction h with
 |nil=>simp
 |last W _ _=>intro x Q;exact H9 Q
 |cons W V O Q _ P=>
  intro x Q;rcases aIM.1 Q with h|h;simp[H9 h];simp[P x h]
def jQ.two(F:1<=X)(h:jQ lt X R H)(O:2*X<=Y R):∃W V Q P,R=W++(V++Q)/\H=bE lt W++(bE lt V++P)/\Y W=X/\Y V=X/\jQ lt X Q P:=by
 cases h with
 |nil=>simp at O;omega
 |last _ M L=>omega
 |cons W R H N h=>
  simp only[aIO] at O;cases h with
  |nil=>simp at O;omega
  |last _ M L=>exact⟨W,R,[],[],by simp,by simp,N,by omega,.nil⟩
  |cons V Q P G h=>exact⟨W,V,Q,P,rfl,rfl,N,G,h⟩
def jQ.one(h:jQ lt X R H)(P:X<Y R)(O:Y R<2*X):∃W V,R=W++V/\H=bE lt W++bE lt V/\Y W=X:=by
 cases h with
 |nil=>simp at P
 |last _ P O=>omega
 |cons W R H N h=>
  simp only[aIO] at P O;cases h with
  |nil=>simp at P;omega
  |last _ P O=>exact⟨W,R,rfl,rfl,N⟩
  |cons V Q M L h=>simp only[aIO] at O;omega
def jQ.short(h:jQ lt X R H)(P:Y R<=X):H=bE lt R:=by
 cases h with
 |nil=>rfl
 |last _ N M=>rfl
 |cons W R H L h=>
  simp only[aIO] at P;have V:R=[]:=aI1 (by omega);have Q:=h.len;rw[V] at Q;have O:H=[]:=aI1 (by simpa using Q);rw[V,O];simp
def jQ.ahS(W:Y R<=X):jQ lt X R (bE lt R):=by
 cases R with
 |nil=>exact .nil
 |cons x r=>exact .last _ (by simp) W
end
def aur{o:aW}{P X Q:am}{a b:Int}(W:a=Y P)(V:b=Y P+Y X)(R:(P++(X++Q)).length<=1099511627776)(O:∀z∈P++(X++Q),o.ok z=J):
  nS 2 o [a,b] (P++(X++Q))=U (P++(bE o.lt X++Q)):=by
 subst W;subst V;unfold nS;rw[if_pos R];simp only[lB];have N:((Y P:Int)).toNat=Y P:=rfl;have M:((Y P:Int)+Y X).toNat=Y P+Y X:=by omega
 rw[N,M];have L:(P++(X++Q)).take (Y P)=P:=by simp
 have H:aU (P++(X++Q)) (Y P) (Y P+Y X)=X:=Q3 P X _;have G:(P++(X++Q)).drop (Y P+Y X)=Q:=by
  have:P++(X++Q)=(P++X)++Q:=by simp
  rw[this,aK0 (by simp)]
 rw[L,H,G,if_pos];simp only[aIy,decide_eq_true_eq,aIN,aIO];exact⟨⟨⟨by omega,by omega⟩,by omega⟩,O⟩
section
variable{K:kw}{e g j f:Nat}{o:aW}
set_option maxHeartbeats 4000000 in
def aus (l:kq o.lt (λx=>o.ok x=J)):Y0 K e g o (λns H=>if ns=[]/\H.length<X then gR o J H else Z) 0 (Y6 e g j f X o):=by
 rintro p _ H ay ns hP b0 ⟨D,n,C,rfl,bl,hn⟩ hT hN B b1;simp only at B;split at B;rename_i G;obtain⟨rfl,cc⟩:=G;have cf:=aaN B;have b2:(∀x∈H,o.ok x=J)/\ay=bE o.lt H:=by
  cases o with
  |cn k o zs=>simp[gR] at B
  |_=>
   simp only[gR] at B;split at B;rename_i hq;simp only[aIy,aIN] at hq;exact⟨hq.2.1,(aJb B).symm⟩;cases B
 obtain⟨a0,b3⟩:=b2;clear B;refine xq ⟨K,g,o,e,.slice D n C,ay⟩ (hP▸b0) b1 _ _ _ ?_;unfold Y6;refine xt (λM=>∃(A O R:am),M=[.r (.mk (.slice D n C) (O++R)),.i ((A.length+20:Nat):Int),.i A.length]/\H=A++R/\vG o.lt 20 A O) (λM=>match M with|[_,_,.i a]=>n-a.toNat|_=>0) ⟨[],[],H,by simp,rfl,.nil⟩ ?_;rintro _ ⟨A,O,R,rfl,F,y⟩;have b4:=y.len;have a1:A.length+R.length=n:=by rw[<-bl,F];simp
 have c:∀z∈O++R,o.ok z=true:=λz L=>a0 z (by
  rw[F];rcases aIM.1 L with h|h;simp[y.mem z h];simp[h])
 by_cases b5:A.length+20<=n;obtain⟨W,R2,rfl,q⟩:∃W R2,R=W++R2/\W.length=20:=⟨R.take 20,R.drop 20,(aJR _ _).symm,by simp;omega⟩;have d:=aur (o:=o) (P:=O) (X:=W) (Q:=R2) (a:=A.length) (b:=((A.length+20:Nat):Int)) (by omega) (by omega) (by simp at a1⊢;omega) c;have G:((A.length+20:Nat):Int)<=n:=by omega
 have a3:=zf (a:=A.length+20) (b:=20) (by omega);have af:Ic (U ⟨0,λM=>∃(A O R:am),M=[.r (.mk (.slice D n C) (O++R)),.i ((A.length+20:Nat):Int),.i A.length]/\H=A++R/\vG o.lt 20 A O,λM=>match M with|[_,_,.i a]=>n-a.toNat|_=>0,n-A.length⟩) [.r (.mk (.slice D n C) (O++(bE o.lt W++R2))),.i (au .add I ((A.length+20:Nat):Int) 20),.i ((A.length+20:Nat):Int)]:=by
  refine⟨⟨A++W,O++bE o.lt W,R2, ?_,by rw[F];simp,.snoc A O W q y⟩, ?_⟩;rw[show((20:Int))=((20:Nat):Int) from rfl,a3];simp[q];show n-((A.length+20:Nat):Int).toNat<n-A.length;omega
 generalize L:((A.length+20:Nat):Int)=z at d G af⊢;simp[lenOf,G];exact⟨_,d,af⟩;have G:¬((A.length+20:Nat):Int)<=n:=by omega
 have d:=aur (o:=o) (P:=O) (X:=R) (Q:=[]) (a:=A.length) (b:=n) (by omega) (by omega) (by simp;omega) (by simpa using c);simp only[aKf] at d;generalize L:((A.length+20:Nat):Int)=z at G⊢;have hB:jQ o.lt 20 H (O++bE o.lt R):=by rw[F];exact y.kz (.ahS (by omega))
 simp[lenOf,G];refine⟨_,d, ?_⟩;clear d;generalize ch:O++bE o.lt R=b6 at hB⊢;have cl:∀{v:am}{s:Nat},jQ o.lt s H v->∀z∈v,o.ok z=true:=λh z L=>a0 z (h.mem z L)
 refine xt (λM=>∃(s:Nat)(v:am),M=[.r (.mk (.slice D n C) v),.i s]/\20<=s/\s<=2*1099511627776/\jQ o.lt s H v) (λM=>match M with|[_,.i s]=>4398046511104-s.toNat|_=>0) ⟨20,b6,rfl,by omega,by omega,hB⟩ ?_;rintro _ ⟨s,v,rfl,cp,cs,br⟩;by_cases bs:s<n;have bb:au .mul I 2 (s:Int)=((2*s:Nat):Int):=by simp only[au];rw[Q2 (by omega) (by omega)];omega
 have bd:au .mul I (s:Int) 2=((2*s:Nat):Int):=by simp only[au];rw[Q2 (by omega) (by omega)];omega
 have bf:∀a4,jQ o.lt (2*s) H a4->Ic (U ⟨1,λM=>∃(s:Nat)(v:am),M=[.r (.mk (.slice D n C) v),.i s]/\20<=s/\s<=2*1099511627776/\jQ o.lt s H v,λM=>match M with|[_,.i s]=>4398046511104-s.toNat|_=>0,4398046511104-s⟩) [.r (.mk (.slice D n C) a4),.i ((2*s:Nat):Int)]:=λa4 h'=>⟨⟨2*s,a4,rfl,by omega,by omega,h'⟩,show 4398046511104-((2*s:Nat):Int).toNat<4398046511104-s by omega⟩
 generalize bt:((2*s:Nat):Int)=w at bb bd bf;simp[bs,lenOf];refine xt (λM=>∃(A O R u:am),M=[.r (.mk (.slice D n C) (O++u)),.i ((A.length+2*s:Nat):Int),.i A.length]/\H=A++R/\vG o.lt (2*s) A O/\jQ o.lt s R u) (λM=>match M with|[_,_,.i a]=>n-a.toNat|_=>0) ⟨[],[],H,v,by simp[bb,<-bt],rfl,.nil,br⟩ ?_;rintro _ ⟨A,O,R,u,rfl,F,y,hR⟩;have b4:=y.len;have bx:=hR.len;have a1:A.length+R.length=n:=by rw[<-bl,F];simp
 have c:∀z∈O++u,o.ok z=true:=λz L=>a0 z (by
  rw[F];rcases aIM.1 L with h|h;simp[y.mem z h];simp[hR.mem z h])
 have a9:∀z∈R,o.ok z=true:=λz L=>a0 z (by rw[F];simp[L])
 have has:=zf (a:=A.length) (b:=s) (by omega);by_cases b5:A.length+2*s<=n;obtain⟨W,V,Q,Q',rfl,rfl,q,hy,hq⟩:=hR.two (by omega) (by omega);have b7:(bE o.lt W).length=s:=by rw[j9,q]
 have b8:(bE o.lt V).length=s:=by rw[j9,hy]
 have ag:∀z∈W,o.ok z=true:=λz L=>a9 z (by simp[L])
 have al:∀z∈V,o.ok z=true:=λz L=>a9 z (by simp[L])
 have t:=Y9 (o:=o) (N:=X) (P:=O) (X:=bE o.lt W) (Y:=bE o.lt V) (Q:=Q') (a:=A.length) (m:=((A.length+s:Nat):Int)) (b:=((A.length+2*s:Nat):Int)) (by omega) (by omega) (by omega) (by omega) (by omega) (by omega) (by simp only[aIO] at bx a1⊢;omega) c (C7 l ag) (C7 l al);rw[at1 l ag al] at t;have G:((A.length+2*s:Nat):Int)<=n:=by omega
 have a3:=zf (a:=A.length+2*s) (b:=2*s) (by omega);rw[bt] at a3;have af:Ic (U ⟨2,λM=>∃(A O R u:am),M=[.r (.mk (.slice D n C) (O++u)),.i ((A.length+2*s:Nat):Int),.i A.length]/\H=A++R/\vG o.lt (2*s) A O/\jQ o.lt s R u,λM=>match M with|[_,_,.i a]=>n-a.toNat|_=>0,n-A.length⟩) [.r (.mk (.slice D n C) (O++(bE o.lt (W++V)++Q'))),.i (au .add I ((A.length+2*s:Nat):Int) w),.i ((A.length+2*s:Nat):Int)]:=by
  refine⟨⟨A++(W++V),O++bE o.lt (W++V),Q,Q', ?_,by rw[F];simp,.snoc A O (W++V) (by simp;omega) y,hq⟩, ?_⟩;rw[a3];simp[q,hy];omega;show n-((A.length+2*s:Nat):Int).toNat<n-A.length;omega
 generalize L:((A.length+2*s:Nat):Int)=z at t G af⊢;simp[lenOf,G,bb,has];exact⟨_,by simpa using t,af⟩;have G:¬((A.length+2*s:Nat):Int)<=n:=by omega
 generalize L:((A.length+2*s:Nat):Int)=z at G⊢;by_cases ct:A.length+s<n;obtain⟨W,V,rfl,rfl,q⟩:=hR.one (by omega) (by omega);simp only[aIO] at a1 bx;have b7:(bE o.lt W).length=s:=by rw[j9,q]
 have b8:(bE o.lt V).length=V.length:=j9;have ag:∀z∈W,o.ok z=true:=λz L=>a9 z (by simp[L])
 have al:∀z∈V,o.ok z=true:=λz L=>a9 z (by simp[L])
 have t:=Y9 (o:=o) (N:=X) (P:=O) (X:=bE o.lt W) (Y:=bE o.lt V) (Q:=[]) (a:=A.length) (m:=((A.length+s:Nat):Int)) (b:=n) (by omega) (by omega) (by omega) (by omega) (by omega) (by omega) (by simp only[aIO,aKF];omega) (by simpa using c) (C7 l ag) (C7 l al);rw[at1 l ag al] at t;simp only[aKf] at t;have an:((A.length+s:Nat):Int)<n:=by omega
 have bg:jQ o.lt (2*s) H (O++bE o.lt (W++V)):=by rw[F];exact y.kz (.ahS (by simp;omega))
 generalize ca:((A.length+s:Nat):Int)=z3 at has t an;simp[lenOf,G,has,an,bd];exact⟨_,t,bf _ bg⟩;have an:¬((A.length+s:Nat):Int)<n:=by omega
 have bk:=hR.short (by omega);have bg:jQ o.lt (2*s) H (O++u):=by rw[F,bk];exact y.kz (.ahS (by omega))
 generalize ca:((A.length+s:Nat):Int)=z3 at has an;simp[lenOf,G,has,an,bd];exact bf _ bg;have bk:=br.short (by omega);simp[bs,lenOf];exact⟨3,rfl,by rw[bk,b3];rfl⟩;cases B
end
end
