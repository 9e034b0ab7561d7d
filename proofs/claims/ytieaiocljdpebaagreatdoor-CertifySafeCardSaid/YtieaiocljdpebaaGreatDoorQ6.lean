/- Part 6 of the proof. -/
import Derived.Test.YtieaiocljdpebaaGreatDoorQ5
import Derived.Test.YtieaiocljdpebaaGreatDoorProg
import Derived.ChangeKeysEq
import Derived.Laws.StructEq
import Derived.KernelRfl
import Derived.LoopTactic
import Derived.Lib.Hide
import Derived.Outline
import Derived.OwnWalk
import Derived.RegionTactic
import Derived.BigQuiet
import Derived.Deep.QuietTactic
import Derived.WalkSpells
import Derived.WalkLawsBesides
import Derived.WalkSmall
import Derived.Deep.RegionWith
set_option linter.all false
open Bool renaming and_eq_true->aDc,not_eq_true'->aDv,false_eq_true->aDB,or_eq_true->aDE,and_assoc->aGy,true->J,false->E
open List renaming getElem?_eq_some_iff->aDd,getElem?_eq_getElem->aDe,getD_eq_getElem?_getD->aDf,getElem?_append_left->aDg,cons_append->aDi,getElem?_map->aDj,getElem?_append_right->aDk,nil_append->aDl,mem_append->aDo,mem_cons->aDp,replicate->aDq,all_eq_true->aDr,length_append->aDs,map_cons->aDt,mem_of_getElem?->aDx,pairwise_cons->aDz,mem_map->aDF,ext_getElem?->aDG,pairwise_append->aDH,eq_nil_of_length_eq_zero->aDI,length_eq_one_iff->aDJ,getElem?_take->aDK,length_eq_zero_iff->aDT,getElem?_of_mem->aDU,length_map->aDV,getElem?_drop->aDZ,getElem?_eq_none_iff->aD2,getElem_mem->aD3,length_cons->aD4,append_assoc->aD5,map_map->aD7,getElem?_set->aD9,getElem?_cons_zero->aEb,mem_or_eq_of_mem_set->aEc,drop_eq_getElem_cons->aEf,nodup_append->aEi,mem_of_mem_drop->aEj,mem_of_mem_take->aEo,take_of_length_le->aEp,getD_cons_zero->aEy,range'->aEC,foldl_cons->aEG,take_append_drop->aEI,length_drop->aEJ,map_nil->aEK,append_nil->aEO,getD_cons_succ->aEP,length_take->aEQ,pairwise_iff_getElem->aET,map->aEZ,set_append_right->aE6,range_eq_range'->aE9,drop_drop->aFa,length_nil->aFm,take_append_of_le_length->aFo,all_map->aFr,range'_succ->aFs,getElem?_modify->aFu,drop_left'->aFC,take_add_one->aFJ,pairwise_singleton->aGm,set_cons_zero->aGO,length->Y
open Option.some renaming injEq->aDh,inj->aDQ
open Nat renaming le_refl->aDm,le_trans->aDY,zero_le->aD0,add_zero->aEA,add_sub_cancel_left->aFe,lt_of_lt_of_le->aFh,min_eq_left->aFA,sub_self->aFU,min_eq_right->aGl,mul_one->aGZ
open Option renaming isSome_iff_exists->aDw,map_eq_some_iff->aEx,some->U,none->Z
open Array renaming ext'->aEe,getElem?_modify->aER,getElem?_eq_none->aGr
open List.Pairwise renaming nil->aD6
open Int renaming toNat_natCast->aEa,mul_le_mul_of_nonneg_right->aFY,mul_lt_mul_of_pos_right->aF7,fdiv_eq_ediv_of_nonneg->aGa
open List.cons renaming injEq->aEg
open List.Perm renaming refl->aF3,swap->aG1
open Go.IntKind renaming i64->I
namespace Go.Proofs.YtieaiocljdpebaaGreatDoor.Y
open Go.RowKit
noncomputable section
variable{Q:TypeId}{X F v:Nat}{y:bh}{C:FuncId}{x:Func}{w:Code}{B:List (Nat×Nat×eF)}{t:ai}{u:T}{c:aE}{M:World}
def tR:Option TypeDesc->Bool
 |U (.struct _)|U (.array _ _)=>J
 |_=>E
def vn(P:Program)(t:TypeId)(X:eJ):Value:=if tR (P.underlying t) then .agg X.toArray else X.getD 0 undef
def O8(P:Program)(eI:TypeId->dN->Bool):Nat->List Field->dN->Bool
 |_,[],ae=>ae.isEmpty
 |X,f::W,ae=>f.name != "_"&&f.offset==X&&(P.info? f.type).isSome&&decide (P.cellsOf f.type<=Y ae)&&eI f.type (ae.take (P.cellsOf f.type))&&O8 P eI (X+P.cellsOf f.type) W (ae.drop (P.cellsOf f.type))
def O9(eI:dN->Bool)(c:Nat):Nat->dN->Bool
 |0,ae=>ae.isEmpty
 |n+1,ae=>decide (c<=Y ae)&&eI (ae.take c)&&O9 eI c n (ae.drop c)
def tS(P:Program):Nat->TypeId->dN->Bool
 |0,_,_=>E
 |d+1,t,ae=>match P.underlying t with
  |U .bool=>(match ae with
   |[.bool]=>J
   |_=>E)
  |U (.int k)=>(match ae with
   |[.int X]=>decide (k=X)
   |_=>E)
  |U .string=>(match ae with
   |[.aH _ .str]=>J
   |_=>E)
  |U (.struct W)=> !P.stoodInHeld t&&O8 P (tS P d) 0 W.toList ae
  |U (.array n e)=>(P.info? e).isSome&&O9 (tS P d e) (P.cellsOf e) n ae
  |_=>E
def vo:∀{X:dN}{W:eJ},jT X W->Y W=Y X
 |[],[],_=>rfl
 |[],_::_,h=>h.elim
 |_::_,[],h=>h.elim
 |_::_,_::_,h=>by simp[vo h.2]
def afm:∀{X:dN}{W:eJ}(n:Nat),jT X W->jT (X.take n) (W.take n)/\jT (X.drop n) (W.drop n)
 |[],[],n,_=>by simp[jT]
 |[],_::_,n,h=>h.elim
 |_::_,[],n,h=>h.elim
 |_::_,_::_,0,h=>⟨trivial,h⟩
 |_::_,_::_,n+1,h=>by
  obtain⟨a,b⟩:=afm n h.2;exact⟨⟨h.1,a⟩,b⟩
def apv:∀{X W:eJ}{r:Bool}(n:Nat),i6 X W=U r->∃a b,i6 (X.take n) (W.take n)=U a/\i6 (X.drop n) (W.drop n)=U b/\r=(a&&b)
 |[],[],r,n,h=>by simp[i6] at h;subst h;exact⟨J,J,by simp[i6],by simp[i6],rfl⟩
 |[],_::_,r,n,h=>by simp[i6] at h
 |_::_,[],r,n,h=>by simp[i6] at h
 |x::X,y::W,r,0,h=>⟨J,r,rfl,h,by simp⟩
 |x::X,y::W,r,n+1,h=>by
  simp only[i6] at h;split at h;rename_i a b V R;cases h;obtain⟨c,d,Q,O,rfl⟩:=apv n R;exact⟨a&&c,d,by simp[i6,V,Q],by simpa using O,by simp[aGy]⟩;cases h
section
variable{P:Program}
def apw(w:World){i:TypeInfo}(M:P.info? Q=U i){W:eJ}(h:tR (P.underlying Q)=J\/X<Y W/\P.cellsOf Q=1)(L:(P.underlying Q).isSome=J):(part Q W.toArray X).run P w=.ok (vn P Q ((W.drop X).take (P.cellsOf Q))) w:=by
 obtain⟨d,R⟩:=aDw.1 L;unfold vn;by_cases V:tR (P.underlying Q)=J;rw[if_pos V];have:(W.toArray.extract X (X+P.cellsOf Q))=((W.drop X).take (P.cellsOf Q)).toArray:=by
  apply aEe;simp[List.extract]
 rw[R] at V;unfold tR at V;split at V;rename_i O;cases O;simp[part,isAgg,run_underlying R,run_sizeOf w M];rename_i O;cases O;simp[part,isAgg,run_underlying R,run_sizeOf w M];cases V;rw[if_neg V];obtain⟨N,H⟩:=h.resolve_left V;have F:W.toArray[X]?=U W[X]:=by simp[N]
 have G:((W.drop X).take (P.cellsOf Q)).getD 0 undef=W[X]:=by rw[H];simp[aDf,N]
 rw[G];rw[R] at V;cases d<;>first|(exact absurd rfl V)|simp[part,isAgg,run_underlying R,N]
def ayl{ae:dN}(h:tS P X Q ae=J):(P.underlying Q).isSome=J/\(tR (P.underlying Q)=J\/Y ae=1):=by
 cases X with
 |zero=>simp[tS] at h
 |succ X=>
  simp only[tS] at h;split at h;rename_i W;rw[W];split at h;exact⟨rfl,.inr rfl⟩;cases h;rename_i W;rw[W];split at h;exact⟨rfl,.inr rfl⟩;cases h;rename_i W;rw[W];split at h;exact⟨rfl,.inr rfl⟩;cases h;rename_i W;rw[W];exact⟨rfl,.inl rfl⟩;rename_i W;rw[W];exact⟨rfl,.inl rfl⟩;cases h
def WQ(P:Program)(V m:Nat):Prop:=∀(t:TypeId)(ae:dN)(X W:eJ)(r:Bool)(w:World),tS P m t ae=J->jT ae X->jT ae W->i6 X W=U r->(Op.equalIn V t (vn P t X) (vn P t W)).run P w=.ok r w
def apx(y:WQ P X F)(w:World){ae:dN}{W V:eJ}{r:Bool}(N:(P.info? Q).isSome=J)(k:P.cellsOf Q<=Y ae)(H:tS P F Q (ae.take (P.cellsOf Q))=J)
  (G:jT ae (W.drop v))(D:jT ae (V.drop v))(x:i6 (W.drop v) (V.drop v)=U r):
  ∃a b q M,(part Q W.toArray v).run P w=.ok a w/\(part Q V.toArray v).run P w=.ok b w/\(Op.equalIn X Q a b).run P w=.ok q w/\i6 (W.drop (v+P.cellsOf Q)) (V.drop (v+P.cellsOf Q))=U M/\r=(q&&M)/\
   jT (ae.drop (P.cellsOf Q)) (W.drop (v+P.cellsOf Q))/\jT (ae.drop (P.cellsOf Q)) (V.drop (v+P.cellsOf Q)):=by
 obtain⟨i,N⟩:=aDw.1 N;obtain⟨C,O⟩:=ayl H;obtain⟨u,B⟩:=afm (P.cellsOf Q) G;obtain⟨t,A⟩:=afm (P.cellsOf Q) D;obtain⟨q,M,s,L,p⟩:=apv (P.cellsOf Q) x;have o:=vo G;have n:=vo D;have z:∀R:eJ,(R.drop v).length=Y ae->tR (P.underlying Q)=J\/v<Y R/\P.cellsOf Q=1:=by
  intro R l;rcases O with O|O;exact .inl O;right;simp only[aEQ,aEJ] at O l;omega
 rw[aFa] at B A L;exact⟨_,_,q,M,apw w N (z W o) C,apw w N (z V n) C,y Q _ _ _ q w H u t s,by rw[<-aFa] at L⊢;simpa using L,p,B,A⟩
def apy{L m:Nat}(H:WQ P L m)(X W:eJ):∀(O:List Field)(V:Nat)(ae:dN)(r:Bool)(w:World),O8 P (tS P m) V O ae=J->jT ae (X.drop V)->jT ae (W.drop V)->i6 (X.drop V) (W.drop V)=U r->
  (Op.eqFields L X.toArray W.toArray O).run P w=.ok r w
 |[],V,ae,r,w,R,N,M,Q=>by
  simp only[O8,List.isEmpty_iff] at R;subst R;have:=vo N;have:=vo M;rw[aDT.1 ‹(X.drop V).length=_›,aDT.1 ‹(W.drop V).length=_›] at Q;simp[i6] at Q;subst Q;simp[Op.eqFields]
 |f::O,V,ae,r,w,R,N,M,Q=>by
  simp only[O8,aDc,bne_iff_ne,beq_iff_eq,decide_eq_true_eq] at R;obtain⟨⟨⟨⟨⟨G,F⟩,D⟩,C⟩,B⟩,A⟩:=R;obtain⟨a,b,q,z,y,x,v,u,rfl,t,s⟩:=apx H w D C B N M Q;have p:=apy H X W O _ _ z w A t s u;simp only[Op.eqFields,G,ne_eq,not_false_eq_true,if_true,Sem.run_bind,F,y,x,v,Result.andThen_ok];cases q;simp;simpa using p
def apz{N m:Nat}(M:WQ P N m){e:TypeId}(L:(P.info? e).isSome=J)(X W:eJ):∀(n j:Nat)(ae:dN)(r:Bool)(w:World),O9 (tS P m e) (P.cellsOf e) n ae=J->jT ae (X.drop (j*P.cellsOf e))->jT ae (W.drop (j*P.cellsOf e))->i6 (X.drop (j*P.cellsOf e)) (W.drop (j*P.cellsOf e))=U r->
  (Op.eqItems N e (P.cellsOf e) X.toArray W.toArray (aEC j n)).run P w=.ok r w
 |0,j,ae,r,w,V,Q,O,R=>by
  simp only[O9,List.isEmpty_iff] at V;subst V;have:=vo Q;have:=vo O;rw[aDT.1 ‹(X.drop _).length=_›,aDT.1 ‹(W.drop _).length=_›] at R;simp[i6] at R;subst R;simp[Op.eqItems]
 |n+1,j,ae,r,w,V,Q,O,R=>by
  simp only[O9,aDc,decide_eq_true_eq] at V;obtain⟨⟨D,C⟩,B⟩:=V;obtain⟨a,b,q,A,z,y,x,H,rfl,G,F⟩:=apx M w L D C Q O R;have v:j*P.cellsOf e+P.cellsOf e=(j+1)*P.cellsOf e:=by rw[Nat.succ_mul]
  rw[v] at H G F;have u:=apz M L X W n (j+1) _ A w B G F H;rw[aFs];simp only[Op.eqItems,Sem.run_bind,z,y,x,Result.andThen_ok];cases q;simp;simpa using u
def afn(d:Nat):∀m,WQ P (d+m) m
 |0=>λt ae H G r w h=>by simp[tS] at h
 |m+1=>by
  intro t ae H G r w X V R Q;have F:=afn d m;simp only[tS] at X;split at X;rename_i W;split at X;obtain⟨x,rfl⟩:=aDJ.1 (vo V);obtain⟨y,rfl⟩:=aDJ.1 (vo R);have N:=V.1;have M:=R.1;cases x<;>simp only[Br] at N;cases y<;>simp only[Br] at M;simp[i6,Bq] at Q;subst Q;simp[vn,W,tR,Op.equalIn,run_underlying W];cases X;rename_i k W;split at X;obtain⟨x,rfl⟩:=aDJ.1 (vo V);obtain⟨y,rfl⟩:=aDJ.1 (vo R);have N:=V.1;have M:=R.1;cases x<;>simp only[Br] at N;cases y<;>simp only[Br] at M;subst N M;simp[i6,Bq] at Q;subst Q;simp[vn,W,tR,Op.equalIn,run_underlying W];cases X;rename_i W;split at X;obtain⟨x,rfl⟩:=aDJ.1 (vo V);obtain⟨y,rfl⟩:=aDJ.1 (vo R);have N:=V.1;have M:=R.1;cases x<;>simp only[Br] at N;cases y<;>simp only[Br] at M;simp[i6,Bq] at Q;subst Q;simp[vn,W,tR,Op.equalIn,run_underlying W,beq_toListBytes];cases X;rename_i D W;simp only[aDc,aDv] at X;have C:P.fieldsOf t=D:=by simp[Program.fieldsOf,W]
  have L:∀O:eJ,vn P t O=.agg O.toArray:=λO=>by simp[vn,W,tR]
  rw[L,L,show d+(m+1)=(d+m)+1 from rfl,run_equalIn_struct w (d+m) t _ _ (by rw[C];exact W) X.1,C];exact apy F H G D.toList 0 ae r w X.2 V R Q;rename_i n e W;simp only[aDc] at X;obtain⟨i,B⟩:=aDw.1 X.1;have L:∀O:eJ,vn P t O=.agg O.toArray:=λO=>by simp[vn,W,tR]
  rw[L,L,show d+(m+1)=(d+m)+1 from rfl,run_equalIn_array w (d+m) _ _ W B,aE9];exact apz F X.1 H G n 0 ae r w X.2 (by simpa using V) (by simpa using R) (by simpa using Q);cases X
def afo(P:Program)(t:TypeId)(X:TI):Bool:=tR (P.underlying t)&&tS P 20 t X.ae&& !P.eqGuardType P.depth t
def aym{V:TI}(h:afo P Q V=J):∀(X W:eJ)(r:Bool)(x y:Operand)(w:World),jT V.ae X->jT V.ae W->i6 X W=U r->
  (do eqGuard .eql Q x y (.agg X.toArray) (.agg W.toArray);binOp .eql Q (.agg X.toArray) (.agg W.toArray)).run P w=.ok (.bool r) w/\
  (do eqGuard .neq Q x y (.agg X.toArray) (.agg W.toArray);binOp .neq Q (.agg X.toArray) (.agg W.toArray)).run P w=.ok (.bool !r) w:=by
 intro X W r x y w O N M;simp only[afo,aDc,aDv] at h;have:=afn (P:=P) 9980 20 Q V.ae X W r w h.1.2 O N M;simp only[vn,h.1.1,if_true] at this;have R:(Op.equal Q (.agg X.toArray) (.agg W.toArray)).run P w=.ok r w:=this;constructor;rw[Sem.run_bind];simp[eqGuard,h.2,binOp,R];rw[Sem.run_bind];simp[eqGuard,h.2,binOp,R]

def ayn{ag:Bool}(W:Y y=X)(V:ag=E->X=1):vL (fC ag y)=y:=by
 cases ag with
 |false=>
  have:=V rfl;subst this;obtain⟨x,rfl⟩:=aDJ.1 W;rfl
 |true=>simp[fC,vL,Function.comp_def,aO]
def ayo(O:P.underlying Q=U (.int I)):sq P Q 1 false:=by
 refine⟨λ_=>rfl,λl X W M L=>⟨λb=>MapKept.run_checkKey O (by trivial) b 9999,MapKept.run_findKey O ?_⟩⟩;obtain⟨x,rfl⟩:=aDJ.1 M;have:∀(X:List MapEntry)(i:Nat),(∀e∈X,∃V:bh,Y V=1/\e.key=fC E V)->Instr.findNow (.int I) (fC E [x]) X i=U (mJ [x] X i):=by
  intro X;induction X with
  |nil=>intro i _;rfl
  |cons e X H=>
   intro i N;obtain⟨V,G,F⟩:=N e (by simp);obtain⟨y,rfl⟩:=aDJ.1 G;simp only[Instr.findNow,F,mJ];simp only[fC,aDB,if_false,List.headD_cons,Instr.sameNow,if_true,vL,aEg,and_true];by_cases R:x=y;subst R;simp;have:¬y=x:=λe=>R e.symm
   simp only[this,if_false,show(x==y)=E by simpa using R];exact H (i+1) (λe D=>N e (by simp[D]))
 exact this X 0 L
def ayp(d:TypeDesc)(X:jk)(v:Value):Instr.sameNow d (.agg X) v=none:=by
 cases d<;>rfl
def apA:∀(l X:bh),Y l=Y X->i6 (l.map (Value.int I)) (X.map (Value.int I))=U (l==X)
 |[],[],_=>rfl
 |[],_::_,h=>by simp at h
 |_::_,[],h=>by simp at h
 |x::W,y::V,h=>by
  have R:=apA W V (by simpa using h);simp only[aDt,i6,Bq,R];rfl
def afp:∀(l:bh),jT (aDq (Y l) (.int I)) (l.map (Value.int I))
 |[]=>trivial
 |x::X=>⟨rfl,afp X⟩
def apB(X:P.underlying Q=U (.int I)){l:bh}{off:Nat}(V:off<Y l)(W:World):∃a,(part Q (l.map (Value.int I)).toArray off).run P W=.ok (.int I a) W:=by
 refine⟨l[off],run_part_plain W (by simp[Program.plainKey,X]) ?_⟩;simp[V]
def ayq{e:TypeId}{i:TypeInfo}(M:P.underlying Q=U (.array X e))(O:P.underlying e=U (.int I))(L:P.info? e=U i)(H:P.cellsOf e=1)(G:Y y=X)(b:Bool)(m:Nat)(W:World):(Instr.checkKey b (m+2) Q (fC J y)).run P W=.ok () W:=by
 rw[show m+2=(m+1)+1 from rfl,Instr.checkKey];simp only[Sem.run_bind,dQ.f9 M,Result.andThen_ok,fC,if_true];simp only[Std.Legacy.Range.forIn_eq_forIn_range',Std.Legacy.Range.size,Nat.sub_zero,Nat.add_one_sub_one,Nat.div_one];have R:∀j∈aEC 0 X,j<X:=λj F=>by simpa[List.mem_range'] using F
 generalize aEC 0 X=N at R;induction N with
 |nil=>simp
 |cons j N D=>
  obtain⟨a,C⟩:=apB O (l:=y) (off:=j*P.cellsOf e) (by rw[H,G,aGZ];exact R j (by simp)) W;have B:=MapKept.run_checkKey (w:=W) (k:=.int I a) O (by trivial) b m;simp only[List.forIn_cons,Sem.run_bind,run_sizeOf W L,Result.andThen_ok,C,B,Sem.run_pure];exact D (λV A=>R V (by simp[A]))
def ayr{R:Array Field}(M:P.underlying Q=U (.struct R))(O:∀f∈R.toList,f.name≠ "_"/\P.underlying f.type=U (.int I)/\f.offset<X)(H:Y y=X)(b:Bool)(m:Nat)(W:World):(Instr.checkKey b (m+2) Q (fC J y)).run P W=.ok () W:=by
 rw[show m+2=(m+1)+1 from rfl,Instr.checkKey];simp only[Sem.run_bind,dQ.f9 M,Result.andThen_ok,fC,if_true];rw[<-Array.forIn_toList];generalize R.toList=L at O;induction L with
 |nil=>simp
 |cons f L G=>
  obtain⟨F,N,D⟩:=O f (by simp);obtain⟨a,C⟩:=apB N (l:=y) (off:=f.offset) (by rw[H];exact D) W;have B:=MapKept.run_checkKey (w:=W) (k:=.int I a) N (by trivial) b m;simp only[List.forIn_cons,Sem.run_bind,F,ne_eq,not_false_eq_true,if_true,Result.andThen_ok,C,B,Sem.run_pure];exact G (λV A=>O V (by simp[A]))
def apC{d:TypeDesc}(L:P.underlying Q=U d)(D:tR (P.underlying Q)=J)(C:tS P 20 Q (aDq X (.int I))=J)
  (B:∀(l:bh)(b:Bool)(W:World),Y l=X->(Instr.checkKey b 10000 Q (fC J l)).run P W=.ok () W):sq P Q X true:=by
 refine⟨λh=>(by cases h),λl V W O A=>⟨λb=> ?_, ?_⟩⟩;exact B l b W O;have z:∀l:bh,fC J l=.agg (l.map (Value.int I)).toArray:=λl=>rfl
 have y:∀(V:List MapEntry)(i:Nat),(∀e∈V,∃R:bh,Y R=X/\e.key=fC J R)->(Instr.findAsking Q (fC J l) V i).run P W=.ok (mJ l V i) W:=by
  intro V;induction V with
  |nil=>intro i _;rfl
  |cons e V x=>
   intro i H;obtain⟨R,N,G⟩:=H e (by simp);have F:=afn (P:=P) 9980 20 Q (aDq X (.int I)) (l.map (Value.int I)) (R.map (Value.int I)) (l==R) W C (by rw[<-O];exact afp l) (by rw[<-N];exact afp R) (apA l R (by rw[O,N]));simp only[vn,D,if_true] at F;have w:(Op.equal Q (fC J l) e.key).run P W=.ok (l==R) W:=by rw[G];exact F
   simp only[Instr.findAsking,Sem.run_bind,w,Result.andThen_ok];simp only[mJ,G,ayn (ag:=J) N (by simp)];by_cases M:R=l;rw[M];simp;have v:(l==R)=false:=by
    cases u:l==R;rfl;exact absurd (eq_of_beq u).symm M
   simp only[M,v,aDB,if_false];exact x (i+1) (λe t=>H e (by simp[t]))
 have s:=y V 0 A;cases V with
 |nil=>simp[Instr.findKey,dQ.f9 L,Instr.findNow,mJ,Result.andThen]
 |cons e V=>
  have:Instr.findNow d (fC J l) (e::V) 0=none:=by simp only[Instr.findNow,z,ayp]
  simp only[Instr.findKey,Sem.run_bind,dQ.f9 L,Result.andThen_ok,this];exact s
end
section
set_option maxRecDepth 100000
abbrev ri(n:Nat):dN:=aDq n (.int I)
abbrev aA:fj:=U ⟨.one,[.aH .nilFunc .aH],E⟩
abbrev zb:fj:=U ⟨(.struct [(0,3),(1,3),(2,3)]),[.int I,.int I,.int I],J⟩
abbrev CP:fj:=U ⟨.one,[.aH (.pointer Z) .aH],E⟩
abbrev E2:fj:=U ⟨(.struct [(0,3),(1,3)]),[.int I,.int I],J⟩
abbrev WR:fj:=U ⟨.one,[.int I],E⟩
abbrev WS:fj:=U ⟨.one,[.int .u8],E⟩
abbrev WT:fj:=U ⟨.one,[.int .u64],E⟩
abbrev WU:fj:=U ⟨(.struct [(0,3),(1,3),(2,3),(3,3)]),ri 4,J⟩
abbrev ti8:fj:=U ⟨.str,[.aH (.string ⟨#[]⟩) .str],E⟩
abbrev ti9:fj:=U ⟨.one,[.int .i32],E⟩
abbrev afs:fj:=U ⟨(.struct [(0,63),(2,63)]),ri 4,J⟩
abbrev apD:fj:=U ⟨(.struct [(0,2),(1,3),(2,4),(3,6)]),[.int I,.int I,.bool,.int .u8],J⟩
abbrev apE:fj:=U ⟨(.struct [(0,9),(1,12)]),[.aH (.string ⟨#[]⟩) .str,.int .u64],E⟩
abbrev apF:fj:=U ⟨(.struct [(0,17)]),[.aH (.pointer Z) .aH],E⟩
abbrev apG:fj:=U ⟨(.struct [(0,3),(1,25),(2,26),(3,27)]),[.int I,.aH (.slice Z 0 0) (.sl 175),.aH (.slice Z 0 0) (.sl 312),.aH (.slice Z 0 0) (.sl 314)],E⟩
abbrev apH:fj:=U ⟨(.struct [(0,3),(1,3),(2,23),(5,24),(6,29),(10,30)]),ri 5++[.aH (.slice Z 0 0) (.sl 173),.int I,.aH (.slice Z 0 0) (.sl 175),.aH (.slice Z 0 0) (.sl 312),.aH (.slice Z 0 0) (.sl 314),.aH (.slice Z 0 0) (.sl 90)],E⟩
abbrev apI:fj:=U ⟨(.struct [(0,33)]),[.aH (.slice Z 0 0) (.sl 73)],E⟩
abbrev apJ:fj:=U ⟨(.struct [(0,3),(1,37),(2,38),(3,38),(4,39),(5,42)]),[.int I,.aH (.slice Z 0 0) (.sl 4),.aH (.slice Z 0 0) (.sl 71),.aH (.slice Z 0 0) (.sl 71),.aH (.slice Z 0 0) (.sl 82),.aH (.slice Z 0 0) (.sl 65)],E⟩
abbrev apK:fj:=U ⟨(.struct [(0,3),(1,3),(2,3),(3,69)]),ri 13,J⟩
abbrev apL:fj:=U ⟨(.struct [(0,65),(4,3),(5,3),(6,3),(7,3)]),ri 8,J⟩
abbrev apM:fj:=U ⟨(.struct [(0,9),(1,3),(2,3),(3,3),(4,3),(5,3),(6,77),(9,77),(12,77),(15,3),(16,3)]),[.aH (.string ⟨#[]⟩) .str]++ri 16,J⟩
abbrev apN:fj:=U ⟨(.struct [(0,3),(1,3),(2,3),(3,3),(4,3),(5,3),(6,3),(7,3),(8,3),(9,3),(10,88),(12,88)]),ri 14,J⟩
abbrev apO:fj:=U ⟨(.struct [(0,3),(1,3),(2,3),(3,4)]),[.int I,.int I,.int I,.bool],J⟩
abbrev apP:fj:=U ⟨(.struct [(0,3),(1,4),(2,79),(19,71),(32,82)]),[.int I,.bool,.aH (.string ⟨#[]⟩) .str]++ri 29++[.aH (.slice Z 0 0) (.sl 96)],E⟩
abbrev apQ:fj:=U ⟨(.struct [(0,79)]),[.aH (.string ⟨#[]⟩) .str]++ri 16,J⟩
abbrev apR:fj:=U ⟨(.struct [(0,163),(1,3),(2,3),(3,3)]),[.aH .nilFunc .aH,.int I,.int I,.int I],E⟩
abbrev apS:fj:=U ⟨(.struct [(0,9),(1,3),(2,3),(3,3)]),[.aH (.string ⟨#[]⟩) .str,.int I,.int I,.int I],J⟩
abbrev apT:fj:=U ⟨(.struct [(0,4),(1,4),(2,4),(3,3),(4,3),(5,3)]),[.bool,.bool,.bool,.int I,.int I,.int I],J⟩
abbrev apU:fj:=U ⟨(.struct [(0,90),(14,96)]),ri 17++[.bool],J⟩
abbrev apV:fj:=U ⟨(.struct [(0,328),(1,4),(2,307),(3,4),(4,329)]),[.aH .nilFunc .aH,.bool,.aH .nilFunc .aH,.bool,.aH .nilFunc .aH],E⟩
abbrev apW:fj:=U ⟨(.struct [(0,356),(8,357),(12,358)]),ri 12++[.aH .nilFunc .aH],E⟩
abbrev apX:fj:=U ⟨(.struct [(0,71),(13,90),(27,96)]),ri 30++[.bool],J⟩
abbrev apY:fj:=U ⟨(.struct [(0,96),(4,3)]),[.int I,.int I,.int I,.bool,.int I],J⟩
abbrev apZ:fj:=U ⟨(.struct [(0,17),(1,17),(2,17),(3,9)]),[.aH (.pointer Z) .aH,.aH (.pointer Z) .aH,.aH (.pointer Z) .aH,.aH (.string ⟨#[]⟩) .str],E⟩
abbrev ap0:fj:=U ⟨(.struct [(0,426)]),[],E⟩
abbrev ap1:fj:=U ⟨(.struct [(0,12),(1,12),(2,287),(3,430),(4,5),(5,5),(6,431),(7,432),(8,433),(9,434),(10,435)]),[.int .u64,.int .u64,.int .u32,.int .u8,.int .u8,.int .u8,.int .u8,.aH .nilFunc .aH,.aH (.pointer Z) .aH,.int .i32,.int .i32],E⟩
abbrev mB:iQ:=U [4]
abbrev zc:iQ:=U []
abbrev rR:iQ:=U [3]
abbrev E3:iQ:=U [45]
abbrev Pa:iQ:=U [3,3,3]
abbrev WV:iQ:=U [3,3]
abbrev Pb:iQ:=U [65,45]
abbrev sg7:iQ:=U [65]
abbrev sg9:iQ:=U [82]
abbrev WW:iQ:=U [65,65]
abbrev afu:iQ:=U [4,45]
abbrev WX:iQ:=U [3,45]
abbrev ap3:iQ:=U [32,35,36,44]
abbrev ayt:iQ:=U [79]
abbrev ayu:iQ:=U [90,96]
abbrev ayv:iQ:=U [29]
def TT:List (List fj):=[
[Z,aA,WR,WR,U ⟨.one,[.bool],E⟩,WS,WS,apD,apD,ti8,ti8,ti8,WT,apE,apE,CP],
 [CP,CP,apF,apF,U ⟨.eP,[.aH .nilIface .aH],E⟩,ti9,zb,zb,U ⟨(.slice 173),[.aH (.slice Z 0 0) (.sl 173)],E⟩,U ⟨(.slice 175),[.aH (.slice Z 0 0) (.sl 175)],E⟩,U ⟨(.slice 312),[.aH (.slice Z 0 0) (.sl 312)],E⟩,U ⟨(.slice 314),[.aH (.slice Z 0 0) (.sl 314)],E⟩,apG,apG,U ⟨(.slice 90),[.aH (.slice Z 0 0) (.sl 90)],E⟩,apH],
 [apH,U ⟨(.slice 73),[.aH (.slice Z 0 0) (.sl 73)],E⟩,apI,apI,U ⟨(.slice 79),[.aH (.slice Z 0 0) (.sl 79)],E⟩,U ⟨(.slice 4),[.aH (.slice Z 0 0) (.sl 4)],E⟩,U ⟨(.slice 71),[.aH (.slice Z 0 0) (.sl 71)],E⟩,U ⟨(.slice 82),[.aH (.slice Z 0 0) (.sl 82)],E⟩,aA,aA,U ⟨(.slice 65),[.aH (.slice Z 0 0) (.sl 65)],E⟩,apJ,apJ,WR,Z,aA],
 [aA,aA,U ⟨(.slice 98),[.aH (.slice Z 0 0) (.sl 98)],E⟩,Z,aA,Z,aA,aA,aA,aA,aA,U ⟨(.slice 142),[.aH (.slice Z 0 0) (.sl 142)],E⟩,Z,aA,E2,E2],
 [afs,afs,aA,E2,E2,U ⟨(.arr 5 68),ri 10,J⟩,apK,apK,apL,apL,Z,aA,aA,U ⟨(.arr 3 3),[.int I,.int I,.int I],J⟩,apM,apM],
 [aA,aA,U ⟨(.slice 96),[.aH (.slice Z 0 0) (.sl 96)],E⟩,aA,aA,aA,aA,E2,E2,apN,apN,aA,aA,Z,aA,apO],
 [apO,zb,zb,aA,aA,CP,aA,aA,aA,aA,aA,aA,aA,aA,aA,aA],
 [U ⟨(.map 118 4 3 J),[.aH (.map Z) .aH],E⟩,aA,aA,aA,apP,apP,zb,aA,aA,U ⟨(.slice 118),[.aH (.slice Z 0 0) (.sl 118)],E⟩,aA,aA,aA,aA,aA,aA],
 [aA,U ⟨(.slice 202),[.aH (.slice Z 0 0) (.sl 202)],E⟩,Z,aA,aA,aA,aA,U ⟨(.slice 3),[.aH (.slice Z 0 0) (.sl 3)],E⟩,Z,aA,U ⟨(.map 3 4 1 E),[.aH (.map Z) .aH],E⟩,aA,aA,U ⟨(.map 142 4 2 J),[.aH (.map Z) .aH],E⟩,U ⟨(.arr 2 3),[.int I,.int I],J⟩,afs],
 [aA,aA,aA,aA,aA,aA,aA,aA,aA,aA,aA,aA,aA,Z,aA,Z],
 [aA,apQ,apQ,aA,apR,apR,CP,CP,aA,U ⟨(.arr 7 165),(aDq 7 [.aH .nilFunc .aH,.int I,.int I,.int I]).flatten,E⟩,aA,U ⟨(.slice 165),[.aH (.slice Z 0 0) (.sl 165)],E⟩,apS,apS,zb,zb],
 [Z,aA,aA,aA,aA,aA,aA,aA,Z,aA,aA,aA,aA,aA,aA,aA],
 [aA,aA,aA,aA,U ⟨(.slice 200),[.aH (.slice Z 0 0) (.sl 200)],E⟩,Z,aA,E2,E2,zb,zb,aA,aA,WT,aA,aA],
 [aA,aA,aA,aA,aA,aA,aA,aA,aA,aA,aA,aA,aA,aA,aA,aA],
 [aA,aA,Z,aA,zb,zb,Z,aA,aA,aA,aA,Z,aA,aA,Z,U ⟨(.map 3 237 1 E),[.aH (.map Z) .aH],E⟩],
 [aA,aA,aA,aA,apT,apT,U ⟨(.arr 10 245),(aDq 10 [.bool,.bool,.bool,.int I,.int I,.int I]).flatten,J⟩,aA,U ⟨(.arr 2 88),ri 4,J⟩,U ⟨(.slice 248),[.aH (.slice Z 0 0) (.sl 248)],E⟩,U ⟨(.slice 258),[.aH (.slice Z 0 0) (.sl 258)],E⟩,Z,aA,aA,aA,aA],
 [U ⟨(.arr 5 4),[.bool,.bool,.bool,.bool,.bool],J⟩,apU,apU,U ⟨(.arr 2 135),[.aH (.slice Z 0 0) (.sl 3),.aH (.slice Z 0 0) (.sl 3)],E⟩,U ⟨(.arr 10 259),.replicate 20 (.aH (.slice Z 0 0) (.sl 3)),E⟩,aA,aA,aA,aA,aA,aA,aA,aA,aA,aA,aA],
 [U ⟨(.map 3 96 1 E),[.aH (.map Z) .aH],E⟩,aA,aA,aA,U ⟨(.arr 2 42),[.aH (.slice Z 0 0) (.sl 65),.aH (.slice Z 0 0) (.sl 65)],E⟩,U ⟨(.arr 5 276),.replicate 10 (.aH (.slice Z 0 0) (.sl 65)),E⟩,aA,WR,Z,aA,aA,aA,Z,aA,aA,U ⟨.one,[.int .u32],E⟩],
 [aA,WT,aA,aA,aA,aA,aA,aA,aA,aA,Z,aA,aA,U ⟨(.arr 8 142),ri 16,J⟩,aA,aA],
 [aA,aA,aA,aA,aA,aA,aA,WU,WU,WU,WU,aA,aA,aA,Z,aA],
 [aA,aA,aA,aA,aA,aA,U ⟨(.map 3 331 1 E),[.aH (.map Z) .aH],E⟩,aA,aA,aA,apV,apV,aA,aA,U ⟨(.map 3 40 1 E),[.aH (.map Z) .aH],E⟩,aA],
 [WT,aA,aA,aA,aA,aA,aA,aA,aA,aA,aA,aA,aA,aA,aA,aA],
 [aA,aA,aA,aA,U ⟨(.arr 4 142),ri 8,J⟩,U ⟨(.arr 2 142),ri 4,J⟩,aA,apW,apW,Z,U ⟨(.map 3 360 1 E),[.aH (.map Z) .aH],E⟩,aA,aA,U ⟨(.arr 4 3),ri 4,J⟩,apX,apX],
 [CP,aA,aA,aA,aA,aA,aA,Z,aA,aA,aA,aA,Z,aA,CP,aA],
 [aA,aA,aA,aA,aA,aA,aA,U ⟨(.slice 393),[.aH (.slice Z 0 0) (.sl 393)],E⟩,apY,apY,aA,aA,aA,aA,aA,aA],
 [aA,aA,aA,aA,aA,aA,aA,aA,aA,aA,aA,aA,aA,aA,aA,aA],
 [aA,aA,aA,aA,aA,aA,aA,aA,apZ,apZ,U ⟨(.arr 0 16),[],J⟩,ap0,ap0,aA,WS,WS],
 [aA,CP,ti9,ti9,ap1,ap1,Z]]
def SG:List (List iQ):=[
[Z,Z,Z,Z,Z,Z,mB,Z,Z,Z,Z,mB,mB,U [44,45],Z,Z],
 [U [50,45],Z,afu,Z,mB,U [44,45],Z,U [59,45],afu,Pb,afu,Pb,mB,mB,Z,Z],
 [U [32,36,38,39],mB,zc,Z,Z,E3,Z,U [44],Z,Z,Z,Z,Z,Z,zc,Z],
 [Z,Z,Z,zc,rR,Z,Z,Z,Z,Z,Z,Z,Z,zc,Z,U [135,45]],
 [Z,E3,mB,Z,Z,mB,mB,Z,Pb,Z,E3,E3,Z,U [30,45],U [82,45],Z],
 [Z,E3,mB,E3,mB,E3,U [37],U [38],sg9,U [71,45],Pb,Z,Z,Z,Z,Z],
 [Z,Z,Z,Z,Z,Z,mB,mB,U [196,45],Z,U [129,45],Z,Z,Z,rR,Z],
 [Z,Z,Z,Z,Z,Z,Z,Z,Z,Z,Z,Z,Z,Z,Z,Z],
 [Z,Z,Z,Z,Z,Pb,mB,mB,Z,Z,WX,U [229,45],zc,rR,WX,U [90,45]],
 [Z,Z,Z,Z,Z,Z,Z,zc,Z,U [23],mB,U [250,4],Z,Z,Z,Z],
 [Z,Z,Z,Z,Z,Z,Z,Z,Z,Z,Z,Z,Z,rR,Z,Z],
 [Z,Z,rR,Z,Z,mB,Z,Z,Z,Z,Z,Z,Z,Z,Z,Z],
 [mB,Z,Z,Z,Z,Z,Z,Z,Z,Z,Z,Z,Z,Z,Z,rR],
 [Z,Z,E3,Z,Z,Z,Z,Z,Z,Z,Z,mB,rR,Z,Z,zc],
 [rR,mB,Z,U [71,45],Z,Z,Z,Z,Z,Z,Z,Z,Z,Z,Z,Z],
 [Z,Z,Z,zc,Z,Z,Z,Z,U [229],rR,Z,Z,Z,Z,Z,Z],
 [Z,Z,Z,Z,Z,Z,Z,Z,Z,Z,Z,Z,Z,Z,Z,Z],
 [rR,Z,Z,U [205],U [205],Z,Z,Z,Z,Z,Z,Z,mB,Z,Z,Z],
 [Z,Z,Z,Z,Z,Z,Z,Z,Z,Z,Z,Z,Z,Z,Z,Z],
 [Z,Z,Z,Z,Z,Z,U [3,3,45],Z,Z,Z,Z,Z,Z,Z,Z,Z],
 [Z,Z,zc,rR,Z,Z,Z,Z,Z,Z,Z,Z,Z,Z,Z,Z],
 [Z,Z,Z,Z,Z,Z,Z,Z,Z,Z,Z,Z,Z,Z,Z,Z],
 [Z,WX,U [3,3,45],Z,Z,Z,Z,Z,Z,WX,Z,Z,Z,Z,Z,Z],
 [Z,Z,Z,rR,Z,Z,Z,Z,U [3,3,45],Z,Z,Z,Z,Z,Z,Z]]
def PT:List (List iQ):=[
[Z,Z,Z,Z,Z,Z,U [32,35,36,44,37],Z,Z,Z,Z,zc,U [32,35,36,38,39],U [32,35,36,3,37,38,39],Z,Z],
 [ap3,Z,ap3,Z,U [50,50],U [32,35,36,44,37],Z,U [32,3],WW,U [73,3],WW,U [71,79],U [59,3,3],U [32,79,3,3,82],Z,Z],
 [zc,U [32],Z,Z,Z,U [32],Z,U [32,36,3,37,38,39],Z,Z,Z,Z,Z,Z,Z,Z],
 [Z,Z,Z,U [121,123],U [118,118],Z,Z,Z,Z,Z,Z,Z,Z,Z,Z,U [32,3]],
 [Z,U [32,3],U [143],Z,Z,sg7,Pa,Z,WW,Z,U [71],ayt,Z,U [32,3,3],U [32,3,79],Z],
 [Z,ayv,Pa,U [23],U [90,3,3],U [32,3,3,82],U [37],U [38],sg9,U [32,3,3,71,82],U [32,3,3,71,79,82],Z,Z,Z,Z,Z],
 [Z,Z,Z,Z,Z,Z,U [82,96],U [32,44,90],U [32,3,3,71,36,82],Z,U [32,35,3,42,42,59],Z,Z,Z,WV,Z],
 [Z,Z,Z,Z,Z,Z,Z,Z,Z,Z,Z,Z,Z,Z,Z,Z],
 [Z,Z,Z,Z,Z,U [65,3,3],Pa,U [9],Z,Z,WV,WV,U [30,234],U [90,90],U [88,88],U [32,3]],
 [Z,Z,Z,Z,Z,Z,Z,Z,Z,U [23],U [3,4,3,3],U [30,82],Z,Z,Z,Z],
 [Z,Z,Z,Z,Z,Z,Z,Z,Z,Z,Z,Z,Z,U [82,96],Z,Z],
 [Z,Z,U [200,200],Z,Z,WW,Z,Z,Z,Z,Z,Z,Z,Z,Z,Z],
 [rR,Z,Z,Z,Z,Z,Z,Z,Z,Z,Z,Z,Z,Z,Z,U [5]],
 [Z,Z,U [88],Z,Z,Z,Z,Z,Z,Z,Z,Pa,U [29,3],Z,Z,U [30,234]],
 [U [90,90],ayu,Z,U [71,90,96],Z,Z,Z,Z,Z,Z,Z,Z,Z,Z,Z,Z],
 [Z,Z,Z,U [196,274],Z,Z,Z,Z,U [68,3],U [29,90],Z,Z,Z,Z,Z,Z],
 [Z,Z,Z,Z,Z,Z,Z,Z,Z,Z,Z,Z,Z,Z,Z,Z],
 [U [9,5],Z,Z,U [205,205],rR,Z,Z,Z,Z,Z,Z,Z,Pa,Z,Z,Z],
 [Z,Z,Z,Z,Z,Z,Z,Z,Z,Z,Z,Z,Z,Z,Z,Z],
 [Z,Z,Z,Z,Z,Z,U [29,3,88],Z,Z,Z,Z,Z,Z,Z,Z,Z],
 [Z,Z,U [391,395],U [393,393],Z,Z,Z,Z,Z,Z,Z,Z,Z,Z,Z,Z],
 [Z,Z,Z,Z,Z,Z,Z,Z,Z,Z,Z,Z,Z,Z,Z,Z],
 [Z,U [29,3],U [88,3],Z,Z,Z,Z,Z,Z,U [229,229],Z,Z,Z,Z,Z,Z],
 [Z,Z,Z,WV,Z,Z,Z,Z,rR,Z,Z,Z,Z,Z,Z,Z]]
def ap4:TD->Bool
 |.map k _ n X=>(k==3&&n==1&& !X)||(k==142&&n==2&&X)||(k==118&&n==3&&X)
 |_=>J
def ayw:sq Tryz.prog 3 1 false:=ayo (by kernel_rfl)
def ayx:sq Tryz.prog 142 2 true:=by
 have X:Tryz.prog.underlying 142=U (.array 2 3):=by kernel_rfl
 obtain⟨i,V⟩:∃i,Tryz.prog.info? 3=U i:=aDw.1 (by kernel_rfl);exact apC X (by kernel_rfl) (by kernel_rfl) (λl b W R=>ayq X (by kernel_rfl) V (by kernel_rfl) R b 9998 W)
def ap5(P:Program)(k n:Nat):Bool:=match P.underlying k with
 |U (.struct X)=>X.toList.all λf=>f.name != "_"&&(match P.underlying f.type with
  |U (.int I)=>J
  |_=>E)&&decide (f.offset<n)
 |_=>E
def ayy{P:Program}(h:ap5 P X F=J)(Q:tR (P.underlying X)=J)(O:tS P 20 X (aDq F (.int I))=J):sq P X F true:=by
 unfold ap5 at h;split at h;rename_i L V;refine apC V Q O (λl b W N=>ayr V (λf M=> ?_) N b 9998 W);have:=aDr.1 h f M;simp only[aDc,bne_iff_ne,ne_eq,decide_eq_true_eq] at this;refine⟨this.1.1, ?_,this.2⟩;have R:=this.1.2;split at R;assumption;cases R;cases h
def ayz:sq Tryz.prog 118 3 true:=ayy (by kernel_rfl) (by kernel_rfl) (by kernel_rfl)
def ayA:Dq (λt X=>ZT Tryz.prog t X&&(!X.eq||afo Tryz.prog t X)&&ap4 X.d) 0 TT=true:=by kernel_rfl
def WY:Dq (λg _=>ul Tryz.prog g) 0 SG=true:=by kernel_rfl
def Lu:gY Tryz.prog (look TT):=by
 intro t R h;have:=ajy ayA h;simp only[aDc,aDE,aDv] at this;refine aut this.1.1 (λW=>aym (this.1.2.resolve_left (by rw[W];simp))) (λk e n Q V=> ?_);have X:=this.2;rw[V] at X;simp only[ap4,aDE,aDc,beq_iff_eq,aDv] at X;rcases X with(⟨⟨rfl,rfl⟩,rfl⟩|⟨⟨rfl,rfl⟩,rfl⟩)|⟨⟨rfl,rfl⟩,rfl⟩;exact ayw;exact ayx;exact ayz
def WZ:Tryz.prog.follows .mixedOrders=true:=by kernel_rfl
end
def GL:lC:=[(0,0,6),(1,1,2),(2,2,2)]
def GLK:aE:=[.sl 245,.sl 259,.sl 142]
def GW(W:World):Prop:=∃X,Nf (look TT) GL GLK kf W X
def GW.grow{W X:World}(V:Below W.heap.size W X)(h:GW W):GW X:=by
 obtain⟨R,Q,P,O,N⟩:=h;exact⟨R,Q,P,λk e M L H=>(O k e M L H).grow V,N⟩
def tT(X:zj):Prop:=∀x∈X,ll Tryz.prog (look TT) x.1 x.2.1 x.2.2.1 x.2.2.2.1 x.2.2.2.2
def GZ(z:Bool)(W:World):Prop:=z=J->GW W
def GZ.grow{z:Bool}{W X:World}(V:Below W.heap.size W X)(h:GZ z W):GZ z X:=λe=>(h e).grow V
abbrev qG(z:Bool)(f:FuncId)(F:aW->jH):Prop:=Ga Tryz.prog (look TT) (look PT) (look SG) (GZ z) f F
def ap6:∀{X:aR},ou X=J->∀(k:Nat)(t:TypeId),(iR X)[k]?≠U (.own t)
 |[],_,k,t=>by simp[iR]
 |x::X,h,k,t=>by
  simp only[ou,aDc] at h;have W:=ap6 h.2;cases x with
  |int _=>exact W k t
  |bool=>exact W k t
  |ref e=>
   cases k with
   |zero=>
    intro V;simp[iR] at V;subst V;simp[FA] at h
   |succ k=>simpa[iR] using W k t
def Hz(g:Bool):lC:=if g then GL else[]
def rT(g:Bool):aE:=if g then GLK else[]
def ap7{z:Bool}(g:Bool)(X:g=J->z=J)(W:World)(h:GZ z W):∃V,Nf (look TT) (Hz g) (rT g) (kg g) W V:=by
 cases g with
 |true=>exact h (X rfl)
 |false=>exact⟨[],rfl,λk v Q h=>by simp[kg] at h,λk e P h=>by simp[rT] at h,λO x R=>by simp[Hz] at R⟩
def ayB{z:Bool}{bi:me}(af:∀C,qG z C (bi C))(hf:Tryz.prog.funcs[C]?=U x)(hb:x.body=U w){G:aj}(hi:G.all (ul Tryz.prog)=J){D:zj}(ag:tT D){nA:Bool}{p:A5}{g:Bool}{m:Option TypeId}
  {j A:gT}{L e:aR}{l:ai}{y:Nat}{F:aW->jH}
  (al:look PT C=U j)(an:look SG C=U A)(ap:gA (look TT) j=U L)(a0:gA (look TT) A=U e)
  (a5:ou L=J)(hl:jm (look TT) j t=U l)(a1:rf 0 0 (rT g).length L l=J)(bI:c=rT g++iR L)(hq:g=E\/uq e=J)
  (a6:((⟨[],[],0,0,[],0,0,[]⟩:S).bW L).2.ni=y)(a7:((⟨[],[],0,0,[],0,0,[]⟩:S).bW L).2.nb=v)
  (a2:evX (oC Tryz.prog TT SG (Hz g) G B D nA p) m X C w x.ntmps x.results.toList t ⟨[],[],y,v,c,0,0,[]⟩=u)
  (a8:∀s,m=U s->(∃d,ud w=U d/\pZ Tryz.prog d.g s)/\∀P V,F P≠U (.bj V))
  (hc:u.eI (look TT) (look PT) (look SG) A y v c []=J)(hF:∀P o,dP L P->F P=U o->ut bi u (eL (kg g) P) [] o)(hz:g=J->z=J):qG z C F:=by
 have a:∀H P,dP L P->(eL H P).i.length=y:=λH P M=>by
  have h1:=(xK L P ⟨[],[],0,0,[],0,0,[]⟩ ⟨[],[],[],[]⟩ M rfl rfl rfl).1;have h2:=(Dt (O:=⟨[],[],[],[]⟩) M).1;have h3:=(Dt (O:=⟨[],[],H,[]⟩) M).1;rw[<-a6,<-h1,eL,h3,h2]
 have e2:∀H P,dP L P->(eL H P).b.length=v:=λH P M=>by
  have h1:=(xK L P ⟨[],[],0,0,[],0,0,[]⟩ ⟨[],[],[],[]⟩ M rfl rfl rfl).2.1;have h2:=(Dt (O:=⟨[],[],[],[]⟩) M).2.1;have h3:=(Dt (O:=⟨[],[],H,[]⟩) M).2.1;rw[<-a7,<-h1,eL,h3,h2]
 have e3:∀P,dP L P->(eL (kg g) P).r.length=Y c:=λP M=>by rw[bI];exact M7 M (by cases g<;>rfl)
 have e4:∀(k:Nat)(u:TypeId),c[k]?≠U (.own u):=by
  rw[bI];intro k u q;by_cases a3:k<(rT g).length;rw[aDg a3] at q;cases g with
  |false=>simp[rT] at a3
  |true=>rcases k with _|_|_|k<;>simp[rT,GLK] at q
  rw[aDk (by omega)] at q;exact ap6 a5 _ u q
 have e5:kg g=[]\/uq e=true:=hq.imp (λh=>by subst h;rfl) id;have a4:∀P o,dP L P->F P=U o->∃N,run (look TT) (look PT) (look SG) bi A N u (eL (kg g) P) c []=U o:=λP o M ho=>by
  obtain⟨N,hN⟩:=hF P o M ho;exact⟨N,sC N u _ c [] [] [] o hN (by rw[a _ P M,e2 _ P M];exact hc) (e3 P M) zR.nil⟩
 cases m with
 |none=>exact auQ (cf:=oC Tryz.prog TT SG (Hz g) G B D nA p) (glk:=rT g) (glv:=kg g) (λQ R ab=>Rp Lu WY hi WZ ab ag) rfl af (λ_ _ hB h=>h.grow hB) hf hb al an ap a0 hl (by cases g<;>exact a1) bI e4 (by cases g<;>rfl) e5 a e2 (λW h=>ap7 g hz W h) ((au9 _ _ _ _ _ _ _ _).symm.trans a2) a4
 |some s=>
  obtain⟨⟨d,hd,bq⟩,a9⟩:=a8 s rfl;exact auR (cf:=oC Tryz.prog TT SG (Hz g) G B D nA p) (glk:=rT g) (glv:=kg g) (λQ R ab=>Rp Lu WY hi WZ ab ag) rfl af (λ_ _ hB h=>h.grow hB) hf hb hd bq al an ap a0 hl (by cases g<;>exact a1) bI e4 (by cases g<;>rfl) e5 a e2 (λW h=>ap7 g hz W h) ((ava _ _ _ _ _ _ _ _ _).symm.trans a2) a9 a4
def afw{z:Bool}(f:FuncId):qG z f (λ_=>Z):=λ_ _ _ _ _ _ _ _ _ _ _ h=>by cases h
def cG(f:FuncId)(g d:Bool)(t:T):Prop:=∀(z:Bool),(g=J->z=J)->∀(bi:me),(∀g,qG z g (bi g))->∀n,qG z f (λX=>xS d (exec bi n t (eL (kg g) X) []))
def ayC(y:Tryz.prog.funcs[C]?=U x)(s:x.body=U w){L:aj}(r:L.all (ul Tryz.prog)=J){H:zj}(q:tT H){nA:Bool}{p:A5}{g:Bool}{P:Option TypeId}
  {N M:gT}{V G:aR}{l:ai}
  (k:look PT C=U N)(j:look SG C=U M)(i:gA (look TT) N=U V)(e:gA (look TT) M=U G)
  (b:ou V=J)(a:jm (look TT) N t=U l)(ab:rf 0 0 (rT g).length V l=J)(bI:c=rT g++iR V)(hq:g=E\/uq G=J)
  (af:((⟨[],[],0,0,[],0,0,[]⟩:S).bW V).2.ni=F)(ag:((⟨[],[],0,0,[],0,0,[]⟩:S).bW V).2.nb=v)
  (al:∀O,P=U O->∃d,ud w=U d/\pZ Tryz.prog d.g O)
  (ht:evX (oC Tryz.prog TT SG (Hz g) L B H nA p) P X C w x.ntmps x.results.toList t ⟨[],[],F,v,c,0,0,[]⟩=u)
  (hc:u.eI (look TT) (look PT) (look SG) M F v c []=J):cG C g P.isSome u:=
 λz hz bi an m=>ayB (F:=λQ=>xS P.isSome (exec bi m u (eL (kg g) Q) [])) an y s r q k j i e b a ab bI hq af ag ht
  (λO D=>⟨al O D,λQ W h=>by
   subst D;simp only[Option.isSome_some] at h;cases R:exec bi m u (eL (kg g) Q) [] with
   |none=>rw[R] at h;cases h
   |some o=>rw[R] at h;cases o<;>simp[xS] at h⟩) hc (λQ o _ h=>by
   cases R:exec bi m u (eL (kg g) Q) [] with
   |none=>simp only[R,xS] at h;cases h
   |some A=>
    simp only[R] at h;have:o=A:=by
     cases A with
     |ret ys=>simp only[xS,aDh] at h;exact h.symm
     |bj W=>
      simp only[xS] at h;split at h;cases h;cases h;rfl
    subst this;exact⟨m,R⟩) hz
def W0:dN->Nat->Nat->Nat->ai×Nat×Nat×Nat
 |[],a,b,c=>([],a,b,c)
 |.int k::l,a,b,c=>let r:=W0 l (a+1) b c;(.int k (.v a)::r.1,r.2)
 |.bool::l,a,b,c=>let r:=W0 l a (b+1) c;(.bool (.v b)::r.1,r.2)
 |.aH _ _::l,a,b,c=>let r:=W0 l a b (c+1);(.ref (.v c)::r.1,r.2)
def mkA:gT->Nat->Nat->Nat->ai
 |[],_,_,_=>[]
 |t::W,a,b,c=>match look TT t with
  |U X=>let r:=W0 X.ae a b c;(if X.d.isAgg then .agg r.1 else r.1.headD .any)::mkA W r.2.1 r.2.2.1 r.2.2.2
  |none=>[]
def pkF(f:FuncId):aR:=(gA (look TT) ((look PT f).getD [])).getD []
abbrev W5:S:=⟨[],[],0,0,[],0,0,[]⟩
def tk{V R:gT}{W N:aR}(H:Tryz.prog.funcs[C]?=U x)(loops:List (Nat×Nat×eF):=[])(inl:aj:=[])(srts:zj:=[])(nA:Bool:=E)(chs:A5:=[])(g:Bool:=E)(dT:Option TypeId:=Z)(n:Nat:=300)
  (M:ai:=mkA ((look PT C).getD []) 0 0 (rT g).length)(Q:Nat:=(W5.bW (pkF C)).2.ni)(P:Nat:=(W5.bW (pkF C)).2.nb)(O:aE:=rT g++iR (pkF C))
  (hsr:tT srts:=by exact λX G=>by cases G)(hdc:∀L,dT=U L->∃d,ud (x.body.getD .skip)=U d/\pZ Tryz.prog d.g L:=by exact λ_ h=>by cases h)
  (F:x.body=U (x.body.getD .skip):=by rfl)(D:inl.all (ul Tryz.prog)=true:=by kernel_rfl)
  (B:look PT C=U V:=by exact rfl)(A:look SG C=U R:=by exact rfl)(z:gA (look TT) V=U W:=by exact rfl)(y:gA (look TT) R=U N:=by exact rfl)
  (w:ou W=true:=by exact rfl)(v:jm (look TT) V M=U t:=by exact rfl)(s:rf 0 0 (rT g).length W t=true:=by exact rfl)(bI:O=rT g++iR W:=by exact rfl)(r:g=E\/uq N=true:=by first|exact .inl rfl|exact .inr rfl)
  (q:(W5.bW W).2.ni=Q:=by exact rfl)(p:(W5.bW W).2.nb=P:=by exact rfl)
  (o:evX (oC Tryz.prog TT SG (Hz g) inl loops srts nA chs) dT n C (x.body.getD .skip) x.ntmps x.results.toList M ⟨[],[],Q,P,O,0,0,[]⟩=u:=by kernel_rfl)
  (m:u.eI (look TT) (look PT) (look SG) R Q P O []=true:=by kernel_rfl):cG C g dT.isSome u:=
 ayC H F D hsr B A z y w v s bI r q p hdc o m
structure afy(tb:jK)(z:Bool):Prop where
 tree:∀f fn,tb.tree f=U fn->cG f fn.g fn.d fn.t
 laid:∀f fn,tb.tree f=U fn->fn.g=J->z=J
 nT:∀f,qG z f (tb.nT f)
def qG.or{z:Bool}{F G:aW->jH}(h:qG z C F)(k:qG z C G):qG z C (λW=>match F W with|U o=>U o|none=>G W):=by
 intro Q P O N M L H D V W o X;simp only at X;cases R:F V with
 |some B=>rw[R] at X;simp only[aDh] at X;subst X;exact h Q P O N M L H D V W B R
 |none=>rw[R] at X;exact k Q P O N M L H D V W o X
def W6{V:jK}{z:Bool}(X:afy V z):∀n f,qG z f (V.bi n f)
 |0,f=>X.nT f
 |n+1,f=>by
  cases R:V.tree f with
  |none=>
   have:=qG.or (X.nT f) (afw f);intro Q P O N M L H G F D o W;simp only[jK.bi,R] at W;exact this Q P O N M L H G F D o W
  |some t=>
   have:=qG.or (X.nT f) (X.tree f t R z (X.laid f t R) (V.bi n) (W6 X n) n);intro Q P O N M L H G F D o W;simp only[jK.bi,R] at W;exact this Q P O N M L H G F D o W
def W7(h:(ud w).map DI.g=U C)(k:pZ Tryz.prog C Q):∃d,ud w=U d/\pZ Tryz.prog d.g Q:=by
 cases X:ud w with
 |none=>rw[X] at h;cases h
 |some d=>rw[X] at h;cases h;exact⟨d,rfl,k⟩
def W8:∀X:aW,nO X X
 |[]=>trivial
 |x::X=>⟨by cases x with
  |i n=>rfl
  |b n=>rfl
  |r v=>exact ck.refl v,W8 X⟩
def W9{V:Ty}{X:aR}{R:aW}(h:∀e,LK.ref e∉X):xR V M X R:=λq e P Q _=>(h e (aDx Q)).elim
def ap9{V:Ty}{W:aR}{R:aW}(h:∀e,LK.ref e∉W):¬xQ V W R X:=λ⟨q,e,P,Q,_,_⟩=>h e (aDx Q)
def qH:zj:=[(51,52,118,.lex [0,1,2] E,E),(140,141,90,.ratio 10 11,J),(223,224,90,.lex [0] E,E),(243,178,200,.lex [1,0] E,E),(322,323,393,.lex [4] J,J),(130,130,3,.cw 0 (.lex [] E) [],J)]
end
end Go.Proofs.YtieaiocljdpebaaGreatDoor.Y
namespace Go.Proofs.YtieaiocljdpebaaGreatDoor
open Go.RowKit
variable{M:World}{X F v:Nat}{n:Value}{Q:TypeId}{G:Array Value}
section
def ay0{P:Program}(X:Array TypeId)(t:TypeId)(x y:Int):(Builtin.min_ X t #[.int I x,.int I y]).run P M=.ok (.int I (min x y)) M:=by
 simp[Builtin.min_,Builtin.min2];omega
def ay1{P:Program}(X:Array TypeId)(t:TypeId)(x y:Int):(Builtin.max_ X t #[.int I x,.int I y]).run P M=.ok (.int I (max x y)) M:=by
 simp[Builtin.max_,Builtin.max2];omega
attribute[go_sem high] ay0 ay1
def Sl{R:Type}(P:R->List Value)(k:Nat)(w:World)(v:Value)(X:List R):Prop:=
 ∃(a:Option Addr)(W V:Nat),v=.slice a W V/\Y X=W/\W<=V/\V<=4611686018427387904/\
  ∀i(h:i<Y X),∃b Q,a=U ⟨b,Q,Z⟩/\b<w.heap.size/\∀j,j<k->w.cell? ⟨b,Q+i*k+j,Z⟩=(P X[i])[j]?
def Sl.below{W:Type}{V:W->List Value}{R:World}{Q:List W}(h:Sl V X M n Q)(P:Below M.heap.size M R):Sl V X R n Q:=by
 obtain⟨a,N,L,H,G,F,D,C⟩:=h;refine⟨a,N,L,H,G,F,D,λi B=> ?_⟩;obtain⟨b,A,e,O,z⟩:=C i B;exact⟨b,A,e,aFh O P.size,λj y=>(P.cell (p:=⟨b,_,Z⟩) O).trans (z j y)⟩
def Xa(n:Int):List Value:=[.int I n]
def Lv{a b:Bool}(h:a=b):Ending.returned (.bool a)=.returned (.bool b):=by rw[h]
def aqg{X:World}(V:Below M.heap.size M X):(∀b o,b<M.heap.size->X.cell? ⟨b,o,Z⟩=M.cell? ⟨b,o,Z⟩)/\(∀b o,b<M.heap.size->X.frozen? ⟨b,o,Z⟩=M.frozen? ⟨b,o,Z⟩):=
 ⟨λb o h=>V.cell (p:=⟨b,o,Z⟩) h,λb o h=>V.frozen (p:=⟨b,o,Z⟩) h⟩
def ay2:List Value:=[.int I 0,.int I 29,.int I 20,.int I 21,.int I 29,.int I 0,.int I 20,.int I (-21),.int I 0,.int I (-29),.int I (-20),.int I (-21),.int I (-29),.int I 0,.int I (-20),.int I 21]
def afz(w:World):Prop:=4<=w.heap.size/\∀i,i<16->w.cell? ⟨2,i,Z⟩=ay2[i]?
def afz.below{X:World}(h:afz M)(W:Below M.heap.size M X):afz X:=
 ⟨aDY h.1 W.size,λi V=>(W.cell (p:=⟨2,i,Z⟩) (by have:=h.1;show 2<_;omega)).trans (h.2 i V)⟩
def zd{X:World}(h:Below M.heap.size M X)(o:Obj):Below M.heap.size M (X.alloc o):=h.alloc h.size o
def afA{X:World}(h:Below M.heap.size M X){p:Addr}(W:M.heap.size<=p.block)(u:Value):Below M.heap.size M (X.setCell p u):=h.setCell W u
def CQ{X W:World}(h:Below M.heap.size M X)(k:Below X.heap.size X W):Below M.heap.size M W:=h.trans (k.mono h.size)
def afB{X:World}(h:Below M.heap.size M X):Below M.heap.size M X.drew:=h.drew
def Bx(W:World)(b:Nat)(t:TypeId)(X:Array Value):Prop:=W.heap[b]?=U (.cells X t (0,0))
def Bx.lt(h:Bx M X Q G):X<M.heap.size:=by
 unfold Bx at h;by_cases V:X<M.heap.size;exact V;rw[aGr (by omega)] at h;cases h
def Bx.cell(h:Bx M X Q G):∀i,M.cell? ⟨X,i,Z⟩=G[i]?:=by
 intro i;unfold Bx at h;simp[World.cell?,h]
def Bx.new(w:World)(X:Array Value)(t:TypeId):Bx (w.alloc (.cells X t)) w.heap.size t X:=by
 show(w.heap.push _)[w.heap.size]?=_;simp
def Bx.alloc(h:Bx M X Q G)(o:Obj):Bx (M.alloc o) X Q G:=
 (Below.heap_alloc M o X h.lt).trans h
def Bx.drew(h:Bx M X Q G):Bx M.drew X Q G:=h
def Bx.drewN(h:Bx M X Q G)(n:Nat):Bx (M.drewN n) X Q G:=h
def Bx.below{V:World}(h:Bx M X Q G)(R:Below M.heap.size M V):Bx V X Q G:=
 (R.block X h.lt).trans h
def Bx.other(h:Bx M X Q G)(V:X≠F)(u:Value):Bx (M.setCell ⟨F,v,Z⟩ u) X Q G:=
 (Below.heap_setCell M _ u X V).trans h
def Bx.set(h:Bx M X Q G)(u:Value):Bx (M.setCell ⟨X,F,Z⟩ u) X Q (G.setIfInBounds F u):=by
 unfold Bx at*;simp[World.setCell,aER,h]
end
end Go.Proofs.YtieaiocljdpebaaGreatDoor
namespace Go.Proofs.YtieaiocljdpebaaGreatDoor.K
structure Range where
 Lo:Int
 Hi:Int
 deriving DecidableEq
structure gR where
 X:Range
 Y:Range
 deriving DecidableEq
structure Vec where
 X:Int
 Y:Int
 Z:Int
 deriving DecidableEq
def gR.zero:gR:=⟨⟨0,0⟩,⟨0,0⟩⟩
def ze(m:Int)(X:List Int):Bool:=X.all λn=> !(n< -m||n>m)
def gR.valid(b:gR):Bool:=ze 1099511627776 [b.X.Lo,b.X.Hi,b.Y.Lo,b.Y.Hi]&&decide (b.X.Lo<=b.X.Hi)&&decide (b.Y.Lo<=b.Y.Hi)
def gR.join(a b:gR):gR:=⟨⟨min a.X.Lo b.X.Lo,max a.X.Hi b.X.Hi⟩,⟨min a.Y.Lo b.Y.Lo,max a.Y.Hi b.Y.Hi⟩⟩
def Range.rU(x y:Range):Bool:=decide (x.Lo<=y.Hi)&&decide (y.Lo<=x.Hi)
def gR.rU(a b:gR):Bool:=a.X.rU b.X&&a.Y.rU b.Y
def gR.shift(a:gR)(x y:Int):gR:=⟨⟨a.X.Lo+x,a.X.Hi+x⟩,⟨a.Y.Lo+y,a.Y.Hi+y⟩⟩
def YY(X W:Int):Int:=if X=0 then 0 else if X+W>8 then X+W-8 else X+W
def ay3(m:Int)(X:List Int)(k:Nat)(h:k<Y X):ze m (X.take (k+1))=(ze m (X.take k)&& !(X[k]< -m||X[k]>m)):=by
 unfold ze;rw[List.take_succ_eq_append_getElem h,List.all_append];simp
def ay4{m:Int}{X:List Int}{k:Nat}(h:ze m (X.take k)=E):ze m X=false:=by
 unfold ze at*;rw[List.all_eq_false] at*;obtain⟨x,W,h⟩:=h;exact⟨x,aEo W,h⟩
end Go.Proofs.YtieaiocljdpebaaGreatDoor.K
namespace Go.Proofs.YtieaiocljdpebaaGreatDoor
open Go.RowKit
abbrev K.Range.v(x:K.Range):Value:=.agg #[.int I x.Lo,.int I x.Hi]
abbrev K.gR.v(x:K.gR):Value:=.agg #[.int I x.X.Lo,.int I x.X.Hi,.int I x.Y.Lo,.int I x.Y.Hi]
def K.gR.vs(x:K.gR):List Value:=[.int I x.X.Lo,.int I x.X.Hi,.int I x.Y.Lo,.int I x.Y.Hi]
set_option maxHeartbeats 400000 in
def ay5 (m:Int) (v:Value) (X:List Int) (w:World) (A:0<=m) (z:m<=4611686018427387904) (G:Sl Xa 1 w v X):
  Calls Tryz.prog 131 #[.int I m,v] w λe F=>e=.returned (.bool (K.ze m X))/\w=F:=by
 obtain⟨a,W,x,rfl,R,u,t,Q⟩:=G;have D:=Lib.hid Q;clear Q;have P:=Lib.hid R;clear R;go_enter Tryz.func131,Tryz.ntmps131;go_wp2
 go_loop [9] (λi=>∃k:Nat,k<=W/\i=.int I k/\K.ze m (X.take k)=J) (λi=>W-(intOf i).toNat)
 case atStart=>exact⟨0,aD0 _,rfl,rfl⟩
 case round=>
  obtain⟨k,s,rfl,O⟩:=hrel;have V:=Lib.hid O;clear O;by_cases C:k<W
  ·have N:k<Y X:=by rw[P.out];exact C
   have M:=K.ay3 m X k N;have L:=Lib.hid M;clear M;obtain⟨b,r,rfl,q,H⟩:=D.out k N;have B:=H 0 (by omega);clear H;simp only[Xa,aEb,aEA,aGZ] at B;generalize X[k]=y at*;go_wp2
   all_goals first
    |(go_ret;exact⟨Lv (K.ay4 (k:=k+1) (by rw[L.out,V.out];simp<;>omega)).symm,rfl⟩)
    |(go_round
      case rel=>exact⟨k+1,by omega,by go_num,by rw[L.out,V.out];simp<;>omega⟩
      case measure=>simp[intOf];omega)
  ·go_wp2;go_ret;exact⟨Lv (by rw[<-V.out,aEp (by rw[P.out];omega)]),rfl⟩
set_option maxHeartbeats 400000 in
def Pc (x:K.gR) (r:Bool) (R:x.valid=r) (w:World):
  Calls Tryz.prog 66 #[x.v] w λe W=>e=.returned (.bool r)/\Below w.heap.size w W:=by
 subst R;have Q:Sl Xa 1 ((w.alloc (.cells #[.int I x.X.Lo,.int I x.X.Hi,.int I x.Y.Lo,.int I x.Y.Hi] 143)).alloc (.cells #[.int I x.X.Lo,.int I x.X.Hi,.int I x.Y.Lo,.int I x.Y.Hi] 3)) (.slice (U ⟨w.heap.size+1,0,Z⟩) 4 4) [x.X.Lo,x.X.Hi,x.Y.Lo,x.Y.Hi]:=by
  refine⟨_,_,_,rfl,rfl,by omega,by omega,λi P=>⟨w.heap.size+1,0,rfl,by simp,λj O=> ?_⟩⟩;obtain rfl:j=0:=by omega
  simp at P;rcases i with _|_|_|_|i<;>first|omega|simp[Xa,go_sem]
 cases V:K.ze 1099511627776 [x.X.Lo,x.X.Hi,x.Y.Lo,x.Y.Hi]
 all_goals
  go_enter Tryz.func66,Tryz.ntmps66
  go_wp2_with (go_at_call 131;refine(ay5 _ _ _ _ (by omega) (by omega) Q).mono ?_;rw[V];rintro e W ⟨rfl,rfl⟩)
  all_goals(go_ret;exact⟨Lv (by simp[K.gR.valid,V]<;>omega),zd (zd (Below.refl _ _) _) _⟩)
set_option maxHeartbeats 400000 in
def afC (x y:K.Range) (r:Bool) (X:x.rU y=r) (w:World):
  Calls Tryz.prog 73 #[x.v,y.v] w λe W=>e=.returned (.bool r)/\Below w.heap.size w W:=by
 subst X;by_cases V:x.Lo<=y.Hi
 all_goals
  go_enter Tryz.func73,Tryz.ntmps73;go_wp2
  all_goals(go_ret;exact⟨Lv (by simp[K.Range.rU]<;>omega),zd (zd (Below.refl _ _) _) _⟩)
set_option maxHeartbeats 400000 in
def ay6 (a b:K.gR) (w:World):
  Calls Tryz.prog 67 #[a.v,b.v,.func (.func 73) #[] #[]] w λe O=>e=.returned (.bool (a.rU b))/\Below w.heap.size w O:=by
 cases R:a.X.rU b.X
 ·have W:=Lib.hid R;clear R;go_enter Tryz.func67,Tryz.ntmps67
  go_wp2_with (go_at_call 73;refine(afC ⟨_,_⟩ ⟨_,_⟩ E W.out _).mono ?_;rintro e N ⟨rfl,V⟩;obtain⟨M,L⟩:=aqg V)
  go_ret;exact⟨Lv (by simp[K.gR.rU,W.out]),CQ (zd (zd (Below.refl _ _) _) _) V⟩
 ·have W:=Lib.hid R;clear R;cases Q:a.Y.rU b.Y
  all_goals
   have P:=Lib.hid Q;clear Q;go_enter Tryz.func67,Tryz.ntmps67
   go_wp2_with fail
   refine(afC ⟨_,_⟩ ⟨_,_⟩ J W.out _).mono ?_;rintro e N ⟨rfl,V⟩;obtain⟨M,L⟩:=aqg V
   go_wp2_with fail
   refine(afC ⟨_,_⟩ ⟨_,_⟩ _ P.out _).mono ?_;rintro e G ⟨rfl,H⟩;go_wp2;go_ret;exact⟨Lv (by simp[K.gR.rU,W.out,P.out]),CQ (CQ (zd (zd (Below.refl _ _) _) _) V) H⟩
abbrev K.Vec.v(x:K.Vec):Value:=.agg #[.int I x.X,.int I x.Y,.int I x.Z]
set_option maxHeartbeats 1000000 in
def ay7 (a b:K.gR) (Q:a.valid=J) (P:b.valid=J) (r:Bool) (O:a.rU b= !r) (w:World):
  Calls Tryz.prog 26 #[a.v,b.v] w λe N=>e=.returned (.tuple #[.bool r,.int I 0])/\Below w.heap.size w N:=by
 have M:=Lib.hid Q;clear Q;have L:=Lib.hid P;clear P;have H:=Lib.hid O;clear O;go_enter Tryz.func26,Tryz.ntmps26
 go_wp2_with fail
 refine(Pc ⟨⟨_,_⟩,⟨_,_⟩⟩ J M.out _).mono ?_;rintro e D ⟨rfl,W⟩;have V:=((Bx.new w _ _).alloc _).below W;have X:=(Bx.new (w.alloc _) _ _).below W;simp only[World.size_alloc] at X;have G:=X.cell
 go_wp2_with fail
 refine(Pc ⟨⟨_,_⟩,⟨_,_⟩⟩ J L.out _).mono ?_;rintro e C ⟨rfl,R⟩;replace V:=V.below R;replace X:=X.below R;have B:=V.cell;have G:=X.cell
 go_wp2_with fail
 refine(ay6 ⟨⟨_,_⟩,⟨_,_⟩⟩ ⟨⟨_,_⟩,⟨_,_⟩⟩ _).mono ?_;rw[show K.gR.rU ⟨⟨_,_⟩,⟨_,_⟩⟩ ⟨⟨_,_⟩,⟨_,_⟩⟩= !r from H.out];rintro e A ⟨rfl,F⟩;go_wp2
 go_ret2
 refine⟨by simp, ?_⟩
 repeat' first|with_reducible apply zd|with_reducible apply afB|(with_reducible refine afA ?_ (by dsimp only;omega) _)|with_reducible exact Below.refl _ _|(refine CQ ?_ F)|(refine CQ ?_ R)|(refine CQ ?_ W)
end Go.Proofs.YtieaiocljdpebaaGreatDoor
namespace Go.Proofs.YtieaiocljdpebaaGreatDoor.Y
open Go.RowKit
noncomputable section
variable{C:FuncId}{x:Func}{w:Code}{X F v:Nat}{t:ai}{u:T}{Q:TypeId}{R H:am}{A:be}{y:bh}{M:World}{B:List (Nat×Nat×eF)}{k:aF→aF→Bool}{c:aE}{n:Value}
set_option maxHeartbeats 1000000 in
def ay8 (a b:K.gR) (X:a.valid=E) (w:World):Calls Tryz.prog 26 #[a.v,b.v] w λe R=>e=.returned (.tuple #[.bool E,.int I 150])/\Below w.heap.size w R:=by
 have Q:=Lib.hid X;clear X;go_enter Tryz.func26,Tryz.ntmps26
 go_wp2_with fail
 refine(Pc ⟨⟨_,_⟩,⟨_,_⟩⟩ E Q.out _).mono ?_;rintro e P ⟨rfl,W⟩;have V:=(Bx.new (w.alloc _) _ _).below W;simp only[World.size_alloc] at V;have O:=V.cell;go_wp2
 go_ret2
 refine⟨by simp, ?_⟩
 repeat' first|with_reducible apply zd|with_reducible apply afB|(with_reducible refine afA ?_ (by dsimp only;omega) _)|with_reducible exact Below.refl _ _|(refine CQ ?_ W)
set_option maxHeartbeats 1000000 in
def ay9 (a b:K.gR) (Q:a.valid=J) (P:b.valid=E) (w:World):Calls Tryz.prog 26 #[a.v,b.v] w λe O=>e=.returned (.tuple #[.bool E,.int I 150])/\Below w.heap.size w O:=by
 have N:=Lib.hid Q;clear Q;have M:=Lib.hid P;clear P;go_enter Tryz.func26,Tryz.ntmps26
 go_wp2_with fail
 refine(Pc ⟨⟨_,_⟩,⟨_,_⟩⟩ J N.out _).mono ?_;rintro e H ⟨rfl,W⟩;have V:=((Bx.new w _ _).alloc _).below W;have X:=(Bx.new (w.alloc _) _ _).below W;simp only[World.size_alloc] at X;have L:=X.cell
 go_wp2_with fail
 refine(Pc ⟨⟨_,_⟩,⟨_,_⟩⟩ E M.out _).mono ?_;rintro e G ⟨rfl,R⟩;replace V:=V.below R;replace X:=X.below R;have F:=V.cell;have L:=X.cell;go_wp2
 go_ret2
 refine⟨by simp, ?_⟩
 repeat' first|with_reducible apply zd|with_reducible apply afB|(with_reducible refine afA ?_ (by dsimp only;omega) _)|with_reducible exact Below.refl _ _|(refine CQ ?_ R)|(refine CQ ?_ W)
def S.bare(s:S):S:=⟨[],[],s.ni,s.nb,s.rs,0,0,s.pd⟩
def Xb:XE->S->T:=λe s=>.out e s.bare
section
variable{g:aj}{q:World}{D:bR}{V:aj}{O:ac}{s:S}{a:Act}{W:World}{o:Ty}{cf:bB}{p:Sp}
def az.bare(R:az g q D o V O s a W):az g q D o [] O s.bare ⟨#[],a.defers⟩ W where
 mem:=⟨R.mem.base,λi h=>by simp[S.bare,aM,bX] at h,λi j h=>by simp[S.bare,aM,bX] at h,λi t M h=>by simp[S.bare,bX] at h,λk e X Q P=>⟨(R.mem.ref k e X Q P).1,λb L i h=>by simp[S.bare,aM,bX] at h⟩⟩
 fp:=rfl
 ei:=R.ei
 eb:=R.eb
 er:=R.er
 cP:=R.cP
 size:=rfl
 tmps:=λt H h=>by simp[S.bare] at h
 dJ:=λk e X b Q P N=>⟨(R.dJ k e X b Q P N).own,(R.dJ k e X b Q P N).mem,λi h=>by simp[S.bare,aM,bX] at h,(R.dJ k e X b Q P N).alone,(R.dJ k e X b Q P N).inner⟩
def azc(L:kG p cf)(r:p.P.funcs[C]?=U x)(h:x.body=U w)(b:x.results.toList=[])(hD:p.D=bR.none){s:S}{O:ac}{V:aj}
  (ht:eR cf X C w {s with tmps:=t++aDq (x.ntmps-Y t) (.bK [])} iA Xb=u)(F:u.aT p O [])(hg:et cf.gl O)(R:az p.S0 p.w0 bR.none cf.ty V O {s with tmps:=[]} ⟨#[],[]⟩ p.w0)
  (hQ:∀e a W,p.Q e a W->(e=.normal\/e=.ret)/\p.R (.returned (.tuple #[])) W):
  Calls p.P C (SV.aD O V t).toArray p.w0 p.R:=by
 subst ht;refine MP r h ?_;have RE:=R.enter t x.ntmps R.cP;refine(Ro L X).1 bR.none ⟨{s with tmps:=t++aDq (x.ntmps-Y t) (.bK [])},O,V,[]⟩ iA Z C w _ _ [] O V _ p.w0 _ (F3 _ _) (kE.here _ _ _ _) rfl (λhh=>by cases hh) ⟨x,r⟩ F RE hg ?_ ?_;intro m N B pd y hA hR;obtain⟨ab,H,q0,A,G⟩:=hA.l8;show LeavesInM Fence.wide 0 p.P x N.tmps p.R N.defers (.panicking m) B;rw[H];exact sx (by simp) (aEi.1 A).1 (λd M=>(G d (by simp[M])).1) (MT (L.QR m) (λd M=>(G d (by simp[M])).2) hR);intro e s' O' V' N B L' hl hL k F;obtain⟨ab,H,q0,A,G⟩:=k.cP.l8;have j:=k.pX H;have z:=hQ _ _ _ (F O'.y [] _ _ (by rw[L.pt,hD];exact j.bare));have i:LeavesInM Fence.wide 0 p.P x N.tmps p.R N.defers .returning (B):=by
  rw[H];refine sx (by simp) (aEi.1 A).1 (λd M=>(G d (by simp[M])).1) ⟨_,ME (l:=[]) j L.ln (by rw[b];rfl), ?_⟩;exact z.2
 cases e with
 |normal=>exact i
 |ret=>exact i
 |bj v=>have:=z.1;simp[XE.to] at this
 |exit id=>have:=z.1;simp[XE.to] at this
def azd{A:mC}(P:az (jU A v).toList q D cf.ty V O s a W)(z:s.rs[X]?=U (.own Q))(y:O.rv X=.mk (.slice A F v) R):
  q.grownBy W (jU A v)/\Dg q W Q (bw cf.ty (.sl Q)).length (jU A v) R A v:=by
 obtain⟨l,j,g,N,L,G⟩:=Mv P z;rw[y] at N L;simp only[RV.lj] at N L;injection N with N _;injection N with x C w;subst x;subst C;subst w;obtain⟨C,f⟩:=qY L;have M:=P.mem.base;refine⟨⟨M.os,M.tape,M.output,M.size,λi u t=>M.block i u (λH=>t ?_)⟩,⟨by omega,G.nil, ?_⟩⟩;exact((by simpa[Option.mem_toList] using H:jU A v=U i)).symm;rcases G.mem with h|⟨b,r,rfl,B,H,m⟩;exact .inl h;cases v with
 |zero=>exact .inl rfl
 |succ c=>exact .inr ⟨b,r,rfl,B,H,m,YA L B,.inr rfl⟩
end
section
variable{lt:aF->aF->Bool}{p:aF->Prop}
structure kW(lt:aF->aF->Bool)(p:aF->Prop):Prop where
 Xc:∀x,p x->lt x x=E
 tr:∀x y z,p x->p y->p z->lt x y=J->lt y z=J->lt x z=J
 nt:∀x y z,p x->p y->p z->lt x y=E->lt y z=E->lt x z=E
def kW.asym(h:kW lt p){x y:aF}(X:p x)(W:p y)(V:lt x y=J):lt y x=false:=by
 cases R:lt y x;rfl;have:=h.tr x y x X W X V R;rw[h.Xc x X] at this;cases this
def aql(h:kW lt p){x y:aF}(W:p x)(V:p y)(X:lt y x=J):∀{l:am},(∀z∈l,p z)->dO lt y (dO lt x l)=dO lt x (dO lt y l)
 |[],_=>by
  have R:=h.asym V W X;simp[dO,X,R]
 |z::r,O=>by
  have N:=O z (by simp);have M:=aql h W V X (l:=r) (λw L=>O w (by simp[L]));have R:=h.asym V W X;cases Q:lt x z;cases P:lt y z;simp[dO,Q,P,M];simp[dO,Q,P,R];have P:lt y z=true:=h.tr y x z V W N X Q;simp[dO,Q,P,X,R]
inductive eZ(lt:List RV->List RV->Bool)(l:List (List RV)):List (List RV)->Prop
 |refl:eZ lt l l
 |step {P Q:List (List RV)} {x y:List RV}:lt y x=J->eZ lt l (P++x::y::Q)->eZ lt l (P++y::x::Q)
def eZ.trans{b:am}(X:eZ lt R b)(W:eZ lt b H):eZ lt R H:=by
 induction W with
 |refl=>exact X
 |step h _ V=>exact .step h V
def eZ.Lw(A B:am)(h:eZ lt R H):eZ lt (A++R++B) (A++H++B):=by
 induction h with
 |refl=>exact .refl
 | @step P Q x y h _ X=>
  have W:A++(P++x::y::Q)++B=(A++P)++x::y::(Q++B):=by simp
  have V:A++(P++y::x::Q)++B=(A++P)++y::x::(Q++B):=by simp
  rw[W] at X;rw[V];exact .step h X
def eZ.perm(h:eZ lt R H):H.Perm R:=by
 induction h with
 |refl=>exact aF3 _
 |step _ _ X=>exact((aG1 _ _ _).append_left _).trans X
def eZ.aqm(P:am)(b:aF):∀(A Q:am),(∀a∈A,lt b a=J)->eZ lt (P++A.reverse++b::Q) (P++b::(A.reverse++Q))
 |[],Q,_=>by simpa using eZ.refl
 |a::A,Q,h=>by
  have X:eZ lt (P++(a::A).reverse++b::Q) ((P++A.reverse)++b::a::Q):=by
   have:P++(a::A).reverse++b::Q=(P++A.reverse)++a::b::Q:=by simp
   rw[this];exact .step (h a (by simp)) .refl
  have W:=eZ.aqm P b A (a::Q) (λx V=>h x (by simp[V]));have e:P++b::((a::A).reverse++Q)=P++b::(A.reverse++a::Q):=by simp
  rw[e];exact X.trans W
def eZ.one(P Q:am)(b:aF)(A:am)(h:∀a∈A,lt b a=J):eZ lt (P++A++b::Q) (P++b::(A++Q)):=by
 have:=eZ.aqm (lt:=lt) P b A.reverse Q (λa X=>h a (by simpa using X));simpa using this
def eZ.block(Q:am)(A:am):∀(B P:am),(∀a∈A,∀b∈B,lt b a=J)->eZ lt (P++A++(B++Q)) (P++B++(A++Q))
 |[],P,_=>by simpa using eZ.refl
 |b::B,P,h=>by
  have W:=eZ.one P (B++Q) b A (λa X=>h a X b (by simp));have V:=eZ.block Q A B (P++[b]) (λa X R O=>h a X R (by simp[O]));have N:P++b::(A++(B++Q))=P++[b]++A++(B++Q):=by simp
  have M:P++b::B++(A++Q)=P++[b]++B++(A++Q):=by simp
  rw[N] at W;rw[M];exact W.trans V
def w6(lt:aF->aF->Bool)(acc l:am):am:=l.foldl (λacc x=>dO lt x acc) acc
def aze{acc:am}(V:∀z∈acc,p z)(Q:∀z∈R,p z):∀z∈w6 lt acc R,p z:=by
 induction R generalizing acc with
 |nil=>exact V
 |cons x R X=>
  refine X (acc:=dO lt x acc) (λz W=> ?_) (λz W=>Q z (by simp[W]));have dU:∀{R:am},z∈dO lt x R->z=x\/z∈R:=by
   intro R;induction R with
   |nil=>intro h;simpa[dO] using h
   |cons y r X=>
    intro h;simp only[dO] at h;split at h;simpa using h;rcases aDp.1 h with h|h;exact .inr (by simp[h]);rcases X h with h|h;exact .inl h;exact .inr (by simp[h])
  rcases dU W with rfl|h;exact Q _ (by simp);exact V z h
def eZ.fold(h:kW lt p)(X:eZ lt R H){acc:am}(N:∀z∈R,p z)(M:∀z∈acc,p z):w6 lt acc H=w6 lt acc R:=by
 induction X with
 |refl=>rfl
 | @step P Q x y L X G=>
  rw[<-G];have W:=λz(V:z∈P++x::y::Q)=>N z (X.perm.mem_iff.1 V)
  have O:∀z∈w6 lt acc P,p z:=aze M λz V=>W z (by simp[V])
  simp only[w6,List.foldl_append,aEG] at O⊢;rw[aql h (W x (by simp)) (W y (by simp)) L O]
def fF(lt:aF->aF->Bool)(l:am):Prop:=l.Pairwise λa b=>lt b a=E
def aqn{x:aF}:∀{l:am},(∀y∈l,lt x y=E)->dO lt x l=l++[x]
 |[],_=>rfl
 |y::r,h=>by
  have X:=h y (by simp);simp[dO,X,aqn (l:=r) λz W=>h z (by simp[W])]
def azf:∀{acc:am},fF lt (acc++R)->w6 lt acc R=acc++R:=by
 induction R with
 |nil=>intro acc _;simp[w6]
 |cons x R X=>
  intro acc h;have W:∀y∈acc,lt x y=false:=λy V=>(aDH.1 h).2.2 y V x (by simp)
  have e:acc++x::R=(acc++[x])++R:=by simp
  rw[e] at h⊢;rw[<-X h];simp only[w6,aEG];rw[aqn W]
def Xd(h:fF lt R):bD lt R=R:=azf (acc:=[]) h
def Pd{x z:aF}:∀{l:am},z∈dO lt x l->z=x\/z∈l
 |[],h=>by simpa[dO] using h
 |y::r,h=>by
  simp only[dO] at h;split at h;simpa using h;rcases aDp.1 h with h|h;exact .inr (by simp[h]);rcases Pd h with h|h;exact .inl h;exact .inr (by simp[h])
def fF.ins(h:kW lt p){x:aF}(W:p x):∀{l:am},(∀z∈l,p z)->fF lt l->fF lt (dO lt x l)
 |[],_,_=>aGm _ _
 |y::r,V,Q=>by
  have P:=V y (by simp);have R:=aDz.1 Q;simp only[dO];cases O:lt x y;refine aDz.2 ⟨λz X=> ?_,fF.ins h W (λz X=>V z (by simp[X])) R.2⟩;rcases Pd X with rfl|X;exact O;exact R.1 z X;refine aDz.2 ⟨λz X=> ?_,Q⟩;have N:=h.asym W P O;rcases aDp.1 X with rfl|X;exact N;exact h.nt z y x (V z (by simp[X])) P W (R.1 z X) N
def fF.fold(h:kW lt p):∀{acc:am},(∀z∈acc,p z)->(∀z∈R,p z)->fF lt acc->fF lt (w6 lt acc R):=by
 induction R with
 |nil=>intro acc _ _ h;exact h
 |cons x R Q=>
  intro acc V W P;refine Q (acc:=dO lt x acc) (λz X=> ?_) (λz X=>W z (by simp[X])) (P.ins h (W x (by simp)) V);rcases Pd X with rfl|X;exact W _ (by simp);exact V z X
def HA(h:kW lt p)(X:∀z∈R,p z):fF lt (bD lt R):=fF.fold h (acc:=[]) (by simp) X aD6
def eZ.ins(h:kW lt p){x:aF}(V:p x):∀{l:am},(∀z∈l,p z)->fF lt l->eZ lt (l++[x]) (dO lt x l)
 |[],_,_=>.refl
 |y::r,W,P=>by
  have O:=W y (by simp);have R:=aDz.1 P;simp only[dO];cases Q:lt x y;have:=(eZ.ins h V (l:=r) (λz X=>W z (by simp[X])) R.2).Lw [y] [];simpa using this;have:=eZ.one (lt:=lt) [] [] x (y::r) (λz X=>by
   rcases aDp.1 X with rfl|X;exact Q;cases N:lt x z;have:=h.nt x z y V (W z (by simp[X])) O N (R.1 z X);rw[Q] at this;cases this;rfl)
  simpa using this
def eZ.azg(h:kW lt p):∀{acc:am},(∀z∈acc,p z)->(∀z∈R,p z)->fF lt acc->eZ lt (acc++R) (w6 lt acc R):=by
 induction R with
 |nil=>intro acc _ _ _;simpa[w6] using eZ.refl
 |cons x R P=>
  intro acc V W Q;have O:=(eZ.ins h (W x (by simp)) V Q).Lw [] R;have N:=P (acc:=dO lt x acc) (λz X=>by
   rcases Pd X with rfl|X;exact W _ (by simp);exact V z X) (λz X=>W z (by simp[X])) (Q.ins h (W x (by simp)) V)
  have e:acc++x::R=[]++(acc++[x])++R:=by simp
  rw[e];refine O.trans ?_;rw[aDl];exact N
def eZ.Xe(h:kW lt p)(X:∀z∈R,p z):eZ lt R (bD lt R):=by
 exact eZ.azg h (acc:=[]) (by simp) X aD6
def afD(h:kW lt p)(X:∀z∈R,p z)(W:eZ lt R H)(V:fF lt H):bD lt R=H:=by
 rw[<-Xd V];exact(W.fold h (acc:=[]) X (by simp)).symm
def HB{z:aF}(h:z∈bD lt R):z∈R:=by
 have:∀(R acc:am),z∈w6 lt acc R->z∈acc\/z∈R:=by
  intro R;induction R with
  |nil=>intro acc h;exact .inl h
  |cons x R X=>
   intro acc h;rcases X (dO lt x acc) h with h|h;rcases Pd h with rfl|h;exact .inr (by simp);exact .inl h;exact .inr (by simp[h])
 rcases this R [] h with h|h;cases h;exact h
def azh(h:kW lt p){x:aF}(V:∀z∈x::(R++H),p z)(O:fF lt (R++H))(P:∀y∈R,lt y x=J)(N:∀y∈H,lt y x=E):bD lt (x::(R++H))=R++x::H:=by
 refine afD h V ?_ ?_;have:=eZ.block (lt:=lt) H [x] R [] (λa X b W=>by simp at X;subst X;exact P b W);simpa using this;have Q:=aDH.1 O;refine aDH.2 ⟨Q.1,aDz.2 ⟨N,Q.2.1⟩,λa X b W=> ?_⟩;rcases aDp.1 W with rfl|W;exact h.asym (V a (by simp[X])) (V b (by simp)) (P a X);exact Q.2.2 a X b W
def azi(h:kW lt p){y:aF}(W:∀z∈R++H++[y],p z)(O:fF lt (R++H))(N:∀x∈R,lt y x=E)(Q:∀x∈H,lt y x=J):bD lt (R++H++[y])=R++y::H:=by
 refine afD h W ?_ ?_;have:=eZ.one (lt:=lt) R [] y H Q;simpa using this;have V:=aDH.1 O;refine aDH.2 ⟨V.1,aDz.2 ⟨λb X=>h.asym (W y (by simp)) (W b (by simp[X])) (Q b X),V.2.1⟩,λa P b X=> ?_⟩;rcases aDp.1 X with rfl|X;exact N a P;exact V.2.2 a P b X
def azj(h:kW lt p){V Q:am}(P:∀z∈R++H++(V++Q),p z)(D:fF lt (R++H))(C:fF lt (V++Q))(B:∀x∈R,∀y∈Q,lt y x=E)(L:∀x∈H,∀y∈V,lt y x=J):
  bD lt (R++H++(V++Q))=bD lt (R++V)++bD lt (H++Q):=by
 have A:=aDH.1 D;have w:=aDH.1 C;have O:∀z∈R++V,p z:=λz N=>P z (by rcases aDo.1 N with h|h<;>simp[h])
 have M:∀z∈H++Q,p z:=λz N=>P z (by rcases aDo.1 N with h|h<;>simp[h])
 refine afD h P ?_ ?_;have v:=eZ.block (lt:=lt) Q H V R L;have G:=(eZ.Xe h O).Lw [] (H++Q);have F:=(eZ.Xe h M).Lw (bD lt (R++V)) [];simp only[aDl,aEO] at G F;exact(v.trans G).trans F;refine aDH.2 ⟨HA h O,HA h M,λa W b X=> ?_⟩;have W:=HB W;have X:=HB X;have u:=O a W;have t:=M b X;rcases aDo.1 W with W|W;rcases aDo.1 X with X|X;exact A.2.2 a W b X;exact B a W b X;rcases aDo.1 X with X|X;exact h.asym u t (L b X a W);exact w.2.2 a W b X
def aqo(h:kW lt p)(X:∀z∈R,p z)(W:∀z∈H,p z):bD lt (bD lt R++bD lt H)=bD lt (R++H):=by
 have V:=(eZ.Xe h X).Lw [] H;have Q:=(eZ.Xe h W).Lw (bD lt R) [];simp only[aDl,aEO] at V Q;exact(V.trans Q).fold h (acc:=[]) (λz P=>by exact(aDo.1 P).elim (X z) (W z)) (by simp)
end
section
def aqp(d:Bool):∀(Q:aj)(x y z:aF),gX d Q x y=E->gX d Q y z=E->gX d Q x z=E
 |[],_,_,_,_,_=>rfl
 |c::Q,x,y,z,V,X=>by
  simp only[gX] at V X⊢;by_cases R:ax c x=ax c y;rw[if_pos R] at V;by_cases W:ax c y=ax c z;rw[if_pos W] at X;rw[if_pos (R.trans W)];exact aqp d Q x y z V X;rw[if_neg W] at X;rw[if_neg (by rw[R];exact W),R];exact X;rw[if_neg R] at V;by_cases W:ax c y=ax c z;rw[if_neg (by rw[<-W];exact R),<-W];exact V;rw[if_neg W] at X;cases d;simp only[aDB,if_false,decide_eq_false_iff_not] at V X⊢;rw[if_neg (by omega)];simp only[decide_eq_false_iff_not];omega;simp only[if_true,decide_eq_false_iff_not] at V X⊢;rw[if_neg (by omega)];simp only[decide_eq_false_iff_not];omega
def aqq(d:Bool):∀(X:aj)(x:aF),gX d X x x=E
 |[],_=>rfl
 |c::X,x=>by simp[gX,aqq d X x]
def aqr(d:Bool):∀(Q:aj)(x y z:aF),gX d Q x y=J->gX d Q y z=J->gX d Q x z=J
 |[],_,_,_,h,_=>by simp[gX] at h
 |c::Q,x,y,z,V,X=>by
  simp only[gX] at V X⊢;by_cases R:ax c x=ax c y;rw[if_pos R] at V;by_cases W:ax c y=ax c z;rw[if_pos W] at X;rw[if_pos (R.trans W)];exact aqr d Q x y z V X;rw[if_neg W] at X;rw[if_neg (by rw[R];exact W),R];exact X;rw[if_neg R] at V;by_cases W:ax c y=ax c z;rw[if_neg (by rw[<-W];exact R),<-W];exact V;rw[if_neg W] at X;cases d;simp only[aDB,if_false,decide_eq_true_eq] at V X⊢;rw[if_neg (by omega)];simp only[decide_eq_true_eq];omega;simp only[if_true,decide_eq_true_eq] at V X⊢;rw[if_neg (by omega)];simp only[decide_eq_true_eq];omega
def Xf(X:aj)(d:Bool):kW (be.lex X d).lt (λx=>(be.lex X d).ok x=J):=
 ⟨λx _=>aqq d X x,λx y z _ _ _=>aqr d X x y z,λx y z _ _ _=>aqp d X x y z⟩
def Lx{n d:Int}(h:ke n d=J):0<d:=by
 simp only[ke,aDc,decide_eq_true_eq] at h;omega
def afE(n d:Nat):kW (be.ratio n d).lt (λx=>(be.ratio n d).ok x=J):=by
 refine⟨λx _=> ?_,λx y z V R Q X W=> ?_,λx y z V R Q X W=> ?_⟩;simp[be.lt];have P:=Lx V;have N:=Lx R;have O:=Lx Q;simp only[be.lt,decide_eq_true_eq] at X W⊢;have M:=aF7 X O;have L:=aF7 W P;refine Int.lt_of_mul_lt_mul_left (a:=ax d y) ?_ (by omega);have H:ax n x*ax d y*ax d z=ax d y*(ax n x*ax d z):=by ac_rfl
 have G:ax n y*ax d x*ax d z=ax n y*ax d z*ax d x:=by ac_rfl
 have F:ax n z*ax d y*ax d x=ax d y*(ax n z*ax d x):=by ac_rfl
 omega;have P:=Lx V;have N:=Lx R;have O:=Lx Q;simp only[be.lt,decide_eq_false_iff_not,Int.not_lt] at X W⊢;have M:=aFY X (show 0<=ax d z by omega);have L:=aFY W (show 0<=ax d x by omega);refine Int.le_of_mul_le_mul_left (a:=ax d y) ?_ (by omega);have H:ax n x*ax d y*ax d z=ax d y*(ax n x*ax d z):=by ac_rfl
 have G:ax n y*ax d x*ax d z=ax n y*ax d z*ax d x:=by ac_rfl
 have F:ax n z*ax d y*ax d x=ax d y*(ax n z*ax d x):=by ac_rfl
 omega
end
section
variable{lt:aF->aF->Bool}{p:aF->Prop}
def oj(W:am)(V:X<=F)(R:F<=v):aX W X v=aX W X F++aX W F v:=by
 simp only[aX];have e:v-X=(F-X)+(v-F):=by omega
 rw[e,List.take_add,aFa,show X+(F-X)=F by omega]
def Ly(W:am)(V:X<=F):W.take X++(aX W X F++W.drop F)=W:=by
 simp only[aX];have e:W.drop F=(W.drop X).drop (F-X):=by rw[aFa];congr 1;omega
 rw[e,aEI,aEI]
def Pe(X:am){a b i:Nat}(h:i<b-a):(aX X a b)[i]?=X[a+i]?:=by
 simp only[aX,aDK,h,if_true,aDZ]
def pK(W:am)(h:F<=Y W):(aX W X F).length=F-X:=by simp[aX];omega
def E4{x:aF}(h:x∈aX R X F):∃i,X<=i/\i<F/\i<Y R/\R.getD i []=x:=by
 obtain⟨i,W⟩:=aDU h;have V:=(aDd.1 W).1;simp only[aX,aEQ,aEJ] at V;rw[Pe R (by omega)] at W;exact⟨X+i,by omega,by omega,by omega,by simp[aDf,W]⟩
def Lz(W:F<=Y R)(h:fF lt (aX R X F)){i j:Nat}(Q:X<=i)(O:i<j)(P:j<F):lt (R.getD j []) (R.getD i [])=false:=by
 have:=aET.1 h (i-X) (j-X) (by rw[pK R W];omega) (by rw[pK R W];omega) (by omega);have e:∀k(V:k-X<(aX R X F).length),X<=k->k<F->(aX R X F)[k-X]=R.getD k []:=λk V N M=>by
  have q:=Pe R (a:=X) (b:=F) (i:=k-X) (by omega);rw[aDe V,show X+(k-X)=k by omega] at q;simp[aDf,<-q]
 rw[e i _ Q (by omega),e j _ (by omega) P] at this;exact this
def aqs:vK lt R=J<->fF lt R:=by
 induction R with
 |nil=>exact⟨λ_=>aD6,λ_=>rfl⟩
 |cons x r X=>
  simp only[vK,aDc,X,aDr,aDv,fF,aDz]
def azk(h:kW lt p)(L:∀z∈R,p z){e b:Nat}(H:X<=F)(G:F<=v)(D:v<=e)(C:e<=b)(t:b<=Y R)(B:fF lt (aX R X v))(A:fF lt (aX R v b))
  (w:∀i j,X<=i->i<F->e<=j->j<b->lt (R.getD j []) (R.getD i [])=E)(u:∀i j,F<=i->i<v->v<=j->j<e->lt (R.getD j []) (R.getD i [])=J):
  bD lt (aX R X b)=bD lt (aX R X F++aX R v e)++bD lt (aX R F v++aX R e b):=by
 rw[oj R (show X<=v by omega) (show v<=b by omega),oj R H G,oj R D C] at*;refine azj h (λz W=>L z ?_) B A (λx V y Q=> ?_) (λx V y Q=> ?_);simp only[aDo] at W;rcases W with(W|W)|(W|W)<;>exact su W;obtain⟨i,P,O,_,rfl⟩:=E4 V;obtain⟨j,N,M,_,rfl⟩:=E4 Q;exact w i j P O N M;obtain⟨i,P,O,_,rfl⟩:=E4 V;obtain⟨j,N,M,_,rfl⟩:=E4 Q;exact u i j P O N M
end
def iF:kz->aF->Prop
 |[],x=>x=[]
 |b::X,c::r=>(if b then∃n,c=.mk (.int I n) [] else∃q,c=.mk (.bool q) [])/\iF X r
 |_::_,[]=>False
def CR(b:Bool):CT:=if b then .int I else .bool
def tU(c:RV):RV:=.mk c.val []
def ef(X:am):am:=X.map λW=>W.map tU
def afF(c:Nat)(x:aF):ax c (x.map tU)=ax c x:=by
 simp only[ax,aDf,aDj];cases x[c]?<;>rfl
def aqt(d:Bool)(x y:aF):∀X,gX d X (x.map tU) (y.map tU)=gX d X x y
 |[]=>rfl
 |c::X=>by simp only[gX,afF,aqt d x y X]
def afG(o:be)(x y:aF):o.lt (x.map tU) (y.map tU)=o.lt x y:=by
 cases o with
 |lex X d=>exact aqt d x y X
 |ratio n d=>simp only[be.lt,afF]
 |cw k o W=>rfl
def azl(o:be)(x:aF):o.ok (x.map tU)=o.ok x:=by
 cases o with
 |lex X d=>rfl
 |ratio n d=>simp only[be.ok,afF]
 |cw k o W=>rfl
def aqu(o:be)(x:aF):∀l,dO o.lt (x.map tU) (ef l)=ef (dO o.lt x l)
 |[]=>rfl
 |y::r=>by
  have X:=aqu o x r;simp only[ef,aDt,dO,afG] at X⊢;split;rfl;rw[X];rfl
def aqv(o:be)(l:am):bD o.lt (ef l)=ef (bD o.lt l):=by
 have:∀l acc,(ef l).foldl (λacc x=>dO o.lt x acc) (ef acc)=ef (l.foldl (λacc x=>dO o.lt x acc) acc):=by
  intro l;induction l with
  |nil=>intro acc;rfl
  |cons x l X=>
   intro acc;have:=X (dO o.lt x acc);rw[<-aqu] at this;exact this
 exact this l []
def aqw(o:be)(l:am):(ef l).all o.ok=l.all o.ok:=by
 simp only[ef,aFr];congr 1;funext x;exact azl o x
def azm(l:am)(a b:Nat):aX (ef l) a b=ef (aX l a b):=by simp[aX,ef]
def aqx(o:be):∀l,vK o.lt (ef l)=vK o.lt l
 |[]=>rfl
 |x::r=>by
  have X:=aqx o r;simp only[ef,aDt,vK,aFr] at X⊢;rw[X];congr 2;funext y;simp only[Function.comp,afG]
def azn(l:am)(a:Nat):(ef l).take a=ef (l.take a):=by simp[ef]
def azo(l:am)(a:Nat):(ef l).drop a=ef (l.drop a):=by simp[ef]
def azp(l m:am):ef (l++m)=ef l++ef m:=by simp[ef]
def zf(l:am):(ef l).length=Y l:=by simp[ef]
def azq(h:lJ X A y R=U H):lJ X A y (ef R)=U (ef H):=by
 unfold lJ at h⊢;split at h
 all_goals first|(split at h<;>first|(cases h;done)|skip)|skip
 all_goals first|(cases h;done)|skip
 all_goals
  rename_i W;cases h;simp only[zf,aqw,azm,aqx,azn,azo,aqv,<-azp];rw[if_pos W]
def azr(h:nL X A y R=U H):nL X A y (ef R)=U (ef H):=by
 obtain⟨W,V⟩:=zM h;unfold nL;rw[zf,if_pos W];exact azq V
def aqy(l:am):dt (ef l)=dt l:=by
 simp only[dt,ef,List.flatMap_map];congr 1;funext x;simp only[aD7];rfl
def aqz:∀(K:kz)(X:aF),Y X=Y K->(∀(j:Nat)(c:RV)(k:IntKind),X[j]?=U c->(K.map CR)[j]?=U (.int k)->∃n,c.val=.int k n)->(∀(j:Nat)(c:RV),X[j]?=U c->(K.map CR)[j]?=U .bool->∃x,c.val=.bool x)->iF K (X.map tU)
 |[],[],_,_,_=>rfl
 |[],_::_,h,_,_=>by simp at h
 |_::_,[],h,_,_=>by simp at h
 |b::O,c::r,N,Q,P=>by
  refine⟨?_,aqz O r (by simpa using N) (λj c k W V=>Q (j+1) c k (by simpa using W) (by simpa using V)) (λj c W V=>P (j+1) c (by simpa using W) (by simpa using V))⟩;cases b with
  |true=>
   obtain⟨n,R⟩:=Q 0 c I rfl rfl;exact⟨n,by simp[tU,R]⟩
  |false=>
   obtain⟨n,R⟩:=P 0 c rfl rfl;exact⟨n,by simp[tU,R]⟩
def aqA{L:Ty}{K:kz}(V:bw L (.sl Q)=K.map CR)(h:eG M L Q R):∀x∈ef R,iF K x:=by
 intro x H;obtain⟨X,G,rfl⟩:=aDF.1 H;obtain⟨i,P⟩:=aDU G;refine aqz K X ?_ (λj c k O N=>h.int i j X c k P O (by rw[V];exact N)) (λj c O N=>h.bool i j X c P O (by rw[V];exact N));have:=h.len i X P;rw[V,aDV] at this;exact this
def aqB{x:Ty}{A:mC}(t:∀(j:Nat)(z:Value)(k:RK),(bw x (.sl Q))[j]?≠U (.aH z k))(h:bz M x (.sl Q) (.mk (.slice A X F) R)):bz M x (.sl Q) (.mk (.slice A X F) (ef R)):=by
 have w:∀{i:Nat}{O:aF},(ef R)[i]?=U O->∃V,R[i]?=U V/\O=V.map tU:=by
  intro i O y;simp only[ef,aDj,aEx] at y;obtain⟨V,H,G⟩:=y;exact⟨V,H,G.symm⟩
 have v:∀{V:aF}{j:Nat}{c:RV},(V.map tU)[j]?=U c->∃P,V[j]?=U P/\c=tU P:=by
  intro V j c u;simp only[aDj,aEx] at u;obtain⟨P,H,G⟩:=u;exact⟨P,H,G.symm⟩
 cases h with
 |sl Q A g F R H G s y r f=>
  refine bz.sl Q A X F (ef R) (by rw[zf];exact H) G (λi O N=> ?_) (λi j O c k N L D=> ?_) (λi j O c N L D=> ?_) (λi j O c z k N L D=>(t j z k D).elim);obtain⟨V,C,rfl⟩:=w N;obtain⟨q,b,p,o,m,l⟩:=s i V C;refine⟨by simpa using q,b,p,o,m,λj c L=> ?_⟩;obtain⟨P,B,rfl⟩:=v L;exact l j P B;obtain⟨V,C,rfl⟩:=w N;obtain⟨P,B,rfl⟩:=v L;exact y i j V P k C B D;obtain⟨V,C,rfl⟩:=w N;obtain⟨P,B,rfl⟩:=v L;exact r i j V P C B D
def Tgt(p:Sp)(e:TypeId)(v:Value)(aC:am):Prop:=∀(X:Exit)(s:S)(O:ac)(V:aj)(a:Act)(W:World)(k:Nat),(X=.normal\/X=.ret)->az p.S0 p.w0 p.D p.ty V O s a W->s.rs[k]?=U (.own e)->O.rv k=.mk v aC->p.Q X a W
def HC(P:Program)(K:kz)(g:FuncId)(o:be):Prop:=∀(W:World)(x y:aF),iF K x->iF K y->o.ok x=J->o.ok y=J->
 Calls P g #[.agg (x.map RV.val).toArray,.agg (y.map RV.val).toArray] W λX V=>Below W.heap.size W V/\∃c:Int,X=.returned (.int I c)/\(c<0<->o.lt x y=J)
def Xg(K:kz)(e g:Nat)(o:be)(F:bh->am->Bo)(N:Nat)(t:T):Prop:=∀(p:Sp)(v:Value)(X aC:am)(W:bh),p.P=Tryz.prog->HC Tryz.prog K g o->(∃A n V,v=.slice A n V/\Y X=n/\n<=1099511627776)->(∀x∈X,iF K x)->Y W=N->F W X=U aC->Tgt p e v aC->t.aT p ⟨W,[],[.mk v X],[]⟩ []
abbrev Pf(K:kz)(e g:Nat)(o:be)(k N:Nat)(t:T):Prop:=Xg K e g o (nL k o) N t
def afH{e N n:Nat}{o:be}{F:bh->am->Bo}{K:kz}{t:T}{args:ai}{inl:aj}{loops:List (Nat×Nat×eF)}{srts:zj}{chs:A5}
  (hf:Tryz.prog.funcs[C]?=U x)(k:x.body=U w)(h0:x.results.toList=[])(hi:inl.all (ul Tryz.prog)=J)(al:tT srts)(hK:bw (look TT) (.sl e)=K.map CR)(an:HC Tryz.prog K X o)
  (ht:eR (oC Tryz.prog TT SG [] inl loops srts E chs) n C w ⟨args++aDq (x.ntmps-Y args) (.bK []),[],N,0,[.own e],0,0,[]⟩ iA Xb=t)(hh:Xg K e X o F N t)
  (ap:∀(G:bh)(r:RV),Y G=N->SV.aD ⟨G,[],[r],[]⟩ [] args=r.val::(G.map (Value.int I)++[.func (.func X) #[] #[]]))
  (kU:∀(G:bh)(R H:am),F G R=U H->F G (ef R)=U (ef H))
  (ab:∀(G:bh)(R H:am),F G R=U H->Y G=N/\Y R<=1099511627776){A:mC}{O:Nat}(hH:bz M (look TT) (.sl e) (.mk (.slice A v O) R))(hR:II M e (bw (look TT) (.sl e)).length A O)(hT:F y R=U H):
  Calls Tryz.prog C (MB (.slice A v O) y X) M λen L=>en=.returned (.tuple #[])/\M.grownBy L (jU A O)/\Dg M L e (bw (look TT) (.sl e)).length (jU A O) H A O:=by
 have hN:=(ab _ _ _ hT).1;have hp:∀(j:Nat)(z:Value)(q:RK),(bw (look TT) (.sl e))[j]?≠U (.aH z q):=by
  intro j z q B;rw[hK,aDj] at B;cases k:K[j]? with
  |none=>rw[k] at B;cases B
  |some b=>rw[k] at B;cases b<;>simp[CR] at B
 have af:=aqB hp hH;have ag:=kU _ _ _ hT;obtain⟨a0,a1⟩:=qY af;let O0:ac:=⟨y,[],[.mk (.slice A v O) (ef R)],[]⟩;let Q:Ending->World->Prop:=λen L=>en=.returned (.tuple #[])/\M.grownBy L (jU A O)/\Dg M L e (bw (look TT) (.sl e)).length (jU A O) H A O
 let p:Sp:=⟨Tryz.prog,look TT,(jU A O).toList,M,bR.none,Q,λd a L=>(d=.normal\/d=.ret)/\Q (.returned (.tuple #[])) L⟩;have ok:kG p (oC Tryz.prog TT SG [] inl loops srts E chs):=Rp Lu WY hi WZ (λch L b ob _ h=>by have:=h.1;cases this) al;have a2:(SV.aD O0 [] args).toArray=MB (.slice A v O) y X:=by rw[ap y _ hN];rfl
 rw[<-a2];have a3:∀b,(RV.mk (.slice A v O) (ef R)).jS=U b->jU A O=U b:=λb h=>by rw[IG] at h;exact h
 have a4:az p.S0 p.w0 bR.none (look TT) [] O0 {(⟨[],[],N,0,[.own e],0,0,[]⟩:S) with tmps:=[]} ⟨#[],[]⟩ p.w0:=by
  refine⟨⟨eV.refl _ _,λi h=>by simp[aM,bX] at h,λi j h=>by simp[aM,bX] at h,λi t cs h=>by simp[bX] at h,λq e' r D u=> ?_⟩,rfl,hN,rfl,rfl,RD _ _,rfl,λt sv h=>by simp at h,λq e' r b D u h3=> ?_⟩;cases q with
  |succ q=>simp at D
  |zero=>
   simp only[aEb,aDh] at D;have u:r=.mk (.slice A v O) (ef R):=(aDQ u).symm;subst D;subst u;refine⟨bz.own e _ af λl w hv=> ?_,λb _ i h=>by simp[aM,bX] at h⟩;simp only[RV.lg,Value.slice.injEq] at hv;rw[<-hv.2.2];exact hR.nil hv.1
  cases q with
  |succ q=>simp at D
  |zero=>
   simp only[aEb,aDh] at D;have u:r=.mk (.slice A v O) (ef R):=(aDQ u).symm;injection D with D;subst D;subst u;have m:=a3 b h3;refine⟨.inr (by show b∈(jU A O).toList;rw[m];simp), ?_,λi h=>by simp[aM,bX] at h,λk' e' bd hk h=> ?_, ?_⟩;rcases hR.mem with B|⟨b',a5,rfl,hg,hm,a6⟩
   ·subst B;unfold jU at m;split at m<;>first|(cases m;done)|omega|skip
    all_goals simp_all
   have a7:b'=b:=by
    cases O with
    |zero=>cases m
    |succ w=>exact aDQ m
   subst a7;exact⟨v,O,a5,rfl,hg,a1,hm,a6⟩;cases k' with
   |zero=>exact absurd rfl hk
   |succ k'=>simp at h
   rintro⟨i,j,bf,w,z,q,_,_,hq,_⟩;exact hp j z q hq
 have a8:v<=1099511627776:=by
  have:=(ab _ _ _ ag).2;omega
 have a9:=hh p (.slice A v O) (ef R) (ef H) y rfl an ⟨A,v,O,rfl,a0,a8⟩ (aqA hK (eG.vN hH)) hN ag (λd s O1 V a L k' bb RR hk hr=>by
  refine⟨bb,rfl, ?_⟩;obtain⟨g1,g2⟩:=azd (cf:=oC Tryz.prog TT SG [] inl loops srts E chs) RR hk hr;exact⟨g1,⟨by have:=g2.le;rwa [zf] at this,g2.nil,by have:=g2.mem;rwa [aqy,zf] at this⟩⟩)
 exact azc ok hf k h0 rfl ht a9 (λP hx=>by simp[oC] at hx) a4 (λd a L h=>h)
def azs{e n:Nat}{M:be}{F:bh->am->Bo}{L:Bool}{K:kz}{H:zj}{D:A5}
  (z:Tryz.prog.funcs[C]?=U x)(y:x.body=U w)(s:x.results.toList=[])(r:ul Tryz.prog C=J)(q:tT H)(p:bw (look TT) (.sl e)=K.map CR)(m:HC Tryz.prog K X A)
  (l:eR (oC Tryz.prog TT SG [] [] B H E D) n C w ⟨t++aDq (x.ntmps-Y t) (.bK []),[],v,0,[.own e],0,0,[]⟩ iA Xb=u)(k:Xg K e X A F v u)
  (j:∀(R:bh)(G:RV),Y R=v->SV.aD ⟨R,[],[G],[]⟩ [] t=G.val::(R.map (Value.int I)++[.func (.func X) #[] #[]]))
  (i:∀(R:List IE)(P:be)(O:ac)(Q aC:am),M.fill R=U P->jE O P L Q=U aC->F (R.map (IE.den O)) Q=U aC)(kU:∀(R:bh)(Q aC:am),F R Q=U aC->F R (ef Q)=U (ef aC))
  (h:∀(R:bh)(Q aC:am),F R Q=U aC->Y R=v/\Y Q<=1099511627776):oA Tryz.prog (look TT) C X e M L:=
 ⟨vQ r,λW V n' ab Q aC O R P d b a hT=>afH (inl:=[]) z y s rfl q p m l k j kU h b a (i R P O Q aC d hT)⟩
def HD(W:X≠2)(h:lJ X A y R=U H):Y y=3:=by
 unfold lJ at h;split at h
 all_goals first|rfl|(exact absurd rfl W)|cases h
def aqD(h:lJ 2 A y R=U H):Y y=2:=by
 unfold lJ at h;split at h
 all_goals first|rfl|cases h|(rename_i X;cases X)
def E5{N n:Nat}{K:kz}{t:T}{args:ai}{loops:List (Nat×Nat×eF)}{srts:zj}{chs:A5}
  (P:Tryz.prog.funcs[C]?=U x)(M:x.body=U w)(L:x.results.toList=[])(H:ul Tryz.prog C=J)(G:tT srts)(D:bw (look TT) (.sl F)=K.map CR)(B:HC Tryz.prog K X A)
  (z:eR (oC Tryz.prog TT SG [] [] loops srts E chs) n C w ⟨args++aDq (x.ntmps-Y args) (.bK []),[],N,0,[.own F],0,0,[]⟩ iA Xb=t)(y:Pf K F X A v N t)
  (u:∀(W:bh)(R:RV),Y W=N->SV.aD ⟨W,[],[R],[]⟩ [] args=R.val::(W.map (Value.int I)++[.func (.func X) #[] #[]]))
  (s:∀(W:bh)(V aC:am),lJ v A W V=U aC->Y W=N):oA Tryz.prog (look TT) C X F (.cw v A []) false:=
 azs (F:=nL v A) P M L H G D B z y u (λW q O V aC Q r=>by
  simp only[be.fill,aDh] at Q;subst Q;exact r) (λW V aC h=>azr h) (λW V aC h=>⟨s W V aC (zM h).2,(zM h).1⟩)
abbrev cY(a b:IE):IE:=.bin .add I a b
abbrev dm(a b:IE):IE:=.bin .sub I a b
abbrev gt(a b:IE):BE:=.cmp .lss a b
abbrev ew(a:IE):SV:=.int I a
abbrev eO(x:IE)(k:Nat)(t:T):T:=.aV (.and (.cmp .leq (.c 0) x) (.cmp .lss x (.len (.v k)))) t
section
variable(e g i h l f N:Nat)(o:be)(d:RE->IE->ai)
def Xh:T:=(.loop 0 [.ref (.own e),.int I] [(.ref (.v 0)),(ew (.c 0))]
 (.node (gt (.v 3) (.v 2))
 (eO (cY (.v 1) (.v 3)) 1
 (eO (cY (.v 1) (.v 3)) 1
 (eO (cY (.v 0) (.v 3)) 1
 (eO (cY (.v 0) (.v 3)) 1
 (eO (cY (.v 0) (.v 3)) 1
 (eO (cY (.v 0) (.v 3)) 1
 (.new e (.set (.ref (.v 1)) (cY (.v 0) (.v 3)) 0 (d (.v 1) (cY (.v 1) (.v 3)))) [.dead,(.own e)] [.dead,.dead,(.own e)]
 (eO (cY (.v 1) (.v 3)) 2
 (eO (cY (.v 1) (.v 3)) 2
 (.new e (.set (.ref (.v 2)) (cY (.v 1) (.v 3)) 0 (d (.v 1) (cY (.v 0) (.v 3)))) [.dead,.dead,(.own e)] [.dead,.dead,.dead,(.own e)]
 (.back 0 [(.ref (.v 3)),(ew (cY (.v 3) (.c 1)))])))))))))))
 (.out .normal ⟨[],[],4,0,[.dead,(.own e)],0,0,[]⟩)))
def Xi:T:=(.loop 0 [.ref (.own e),.int I,.int I] [(.ref (.v 0)),(ew (dm (.v 1) (.v 0))),(ew (dm (.v 2) (.v 1)))]
 (.node (.cmp .neq (.v 3) (.v 4))
 (.node (.cmp .gtr (.v 3) (.v 4))
  (.dw i g e (.cw 0 o [(dm (.v 1) (.v 3)),(.v 1),(.v 4)]) E (.v 1) [.dead,(.own e)]
  (.back 0 [(.ref (.v 2)),(ew (dm (.v 3) (.v 4))),(ew (.v 4))]))
  (.dw i g e (.cw 0 o [(dm (.v 1) (.v 3)),(dm (cY (.v 1) (.v 4)) (.v 3)),(.v 3)]) E (.v 1) [.dead,(.own e)]
  (.back 0 [(.ref (.v 2)),(ew (.v 3)),(ew (dm (.v 4) (.v 3)))])))
 (.dw i g e (.cw 0 o [(dm (.v 1) (.v 3)),(.v 1),(.v 3)]) E (.v 1) [.dead,(.own e)]
 (.out .normal ⟨[],[],5,0,[.dead,.dead,(.own e)],0,0,[]⟩))))
def Xj:T:=(.loop 0 [.ref (.own e),.int I] [(.ref (.v 0)),(ew (cY (.v 0) (.c 1)))]
 (.node (gt (.v 2) (.v 1))
 (.loop 1 [.ref (.own e),.int I] [(.ref (.v 1)),(ew (.v 2))]
  (.node (.cmp .gtr (.v 3) (.v 0))
  (eO (.v 3) 2
  (eO (.v 3) 2
  (eO (dm (.v 3) (.c 1)) 2
  (eO (dm (.v 3) (.c 1)) 2
  (.call g [(.agg (d (.v 2) (.v 3))),(.agg (d (.v 2) (dm (.v 3) (.c 1))))] [] [.dead,.dead,.dead] [.int I] (ew (.v 4))
  (.node (gt (.v 4) (.c 0))
   (eO (dm (.v 3) (.c 1)) 2
   (eO (dm (.v 3) (.c 1)) 2
   (eO (.v 3) 2
   (eO (.v 3) 2
   (eO (.v 3) 2
   (eO (.v 3) 2
   (.new e (.set (.ref (.v 2)) (.v 3) 0 (d (.v 2) (dm (.v 3) (.c 1)))) [.dead,.dead,(.own e)] [.dead,.dead,.dead,(.own e)]
   (eO (dm (.v 3) (.c 1)) 3
   (eO (dm (.v 3) (.c 1)) 3
   (.new e (.set (.ref (.v 3)) (dm (.v 3) (.c 1)) 0 (d (.v 2) (.v 3))) [.dead,.dead,.dead,(.own e)] [.dead,.dead,.dead,.dead,(.own e)]
   (.back 1 [(.ref (.v 4)),(ew (dm (.v 3) (.c 1)))])))))))))))
   (.back 0 [(.ref (.v 2)),(ew (cY (.v 2) (.c 1)))])))))))
  (.back 0 [(.ref (.v 2)),(ew (cY (.v 2) (.c 1)))])))
 (.out .normal ⟨[],[],3,0,[.dead,(.own e)],0,0,[]⟩)))
abbrev oT:IE:=(.conv I (.bin .shr .u64 (.conv .u64 (cY (.v 3) (.v 4))) (.c 1)))
abbrev dh:IE:=(.conv I (.bin .shr .u64 (.conv .u64 (cY (.v 0) (.v 2))) (.c 1)))
def Pg:T:=(.node (gt (.v 3) (.v 1))
   (.node (gt (.v 1) (dm (cY dh (.v 1)) (.v 3)))
    (.dw h g e (.cw 1 o [(.v 3),(.v 1),(dm (cY dh (.v 1)) (.v 3))]) E (.v 1) [.dead,(.own e)]
    (.node (gt (.v 0) (.v 3))
    (.node (gt (.v 3) dh)
     (.dw f g e (.cw (N+3) o [(.v 0),(.v 3),dh]) E (.v 2) [.dead,.dead,(.own e)]
     (.node (gt dh (dm (cY dh (.v 1)) (.v 3)))
     (.node (gt (dm (cY dh (.v 1)) (.v 3)) (.v 2))
      (.dw f g e (.cw (N+3) o [dh,(dm (cY dh (.v 1)) (.v 3)),(.v 2)]) E (.v 3) [.dead,.dead,.dead,(.own e)]
      (.out .normal ⟨[],[],5,0,[.dead,.dead,.dead,.dead,(.own e)],0,0,[]⟩))
      (.out .normal ⟨[],[],5,0,[.dead,.dead,.dead,(.own e)],0,0,[]⟩))
     (.out .normal ⟨[],[],5,0,[.dead,.dead,.dead,(.own e)],0,0,[]⟩)))
     (.node (gt dh (dm (cY dh (.v 1)) (.v 3)))
     (.node (gt (dm (cY dh (.v 1)) (.v 3)) (.v 2))
      (.dw f g e (.cw (N+3) o [dh,(dm (cY dh (.v 1)) (.v 3)),(.v 2)]) E (.v 2) [.dead,.dead,(.own e)]
      (.out .normal ⟨[],[],5,0,[.dead,.dead,.dead,(.own e)],0,0,[]⟩))
      (.out .normal ⟨[],[],5,0,[.dead,.dead,(.own e)],0,0,[]⟩))
     (.out .normal ⟨[],[],5,0,[.dead,.dead,(.own e)],0,0,[]⟩)))
    (.node (gt dh (dm (cY dh (.v 1)) (.v 3)))
     (.node (gt (dm (cY dh (.v 1)) (.v 3)) (.v 2))
     (.dw f g e (.cw (N+3) o [dh,(dm (cY dh (.v 1)) (.v 3)),(.v 2)]) E (.v 2) [.dead,.dead,(.own e)]
     (.out .normal ⟨[],[],5,0,[.dead,.dead,.dead,(.own e)],0,0,[]⟩))
     (.out .normal ⟨[],[],5,0,[.dead,.dead,(.own e)],0,0,[]⟩))
     (.out .normal ⟨[],[],5,0,[.dead,.dead,(.own e)],0,0,[]⟩))))
    (.node (gt (.v 0) (.v 3))
    (.node (gt (.v 3) dh)
     (.dw f g e (.cw (N+3) o [(.v 0),(.v 3),dh]) E (.v 1) [.dead,(.own e)]
     (.node (gt dh (dm (cY dh (.v 1)) (.v 3)))
     (.node (gt (dm (cY dh (.v 1)) (.v 3)) (.v 2))
      (.dw f g e (.cw (N+3) o [dh,(dm (cY dh (.v 1)) (.v 3)),(.v 2)]) E (.v 2) [.dead,.dead,(.own e)]
      (.out .normal ⟨[],[],5,0,[.dead,.dead,.dead,(.own e)],0,0,[]⟩))
      (.out .normal ⟨[],[],5,0,[.dead,.dead,(.own e)],0,0,[]⟩))
     (.out .normal ⟨[],[],5,0,[.dead,.dead,(.own e)],0,0,[]⟩)))
     (.node (gt dh (dm (cY dh (.v 1)) (.v 3)))
     (.node (gt (dm (cY dh (.v 1)) (.v 3)) (.v 2))
      (.dw f g e (.cw (N+3) o [dh,(dm (cY dh (.v 1)) (.v 3)),(.v 2)]) E (.v 1) [.dead,(.own e)]
      (.out .normal ⟨[],[],5,0,[.dead,.dead,(.own e)],0,0,[]⟩))
      (.out .normal ⟨[],[],5,0,[.dead,(.own e)],0,0,[]⟩))
     (.out .normal ⟨[],[],5,0,[.dead,(.own e)],0,0,[]⟩)))
    (.node (gt dh (dm (cY dh (.v 1)) (.v 3)))
     (.node (gt (dm (cY dh (.v 1)) (.v 3)) (.v 2))
     (.dw f g e (.cw (N+3) o [dh,(dm (cY dh (.v 1)) (.v 3)),(.v 2)]) E (.v 1) [.dead,(.own e)]
     (.out .normal ⟨[],[],5,0,[.dead,.dead,(.own e)],0,0,[]⟩))
     (.out .normal ⟨[],[],5,0,[.dead,(.own e)],0,0,[]⟩))
     (.out .normal ⟨[],[],5,0,[.dead,(.own e)],0,0,[]⟩))))
   (.node (gt (.v 0) (.v 3))
    (.node (gt (.v 3) dh)
    (.dw f g e (.cw (N+3) o [(.v 0),(.v 3),dh]) E (.v 1) [.dead,(.own e)]
    (.node (gt dh (dm (cY dh (.v 1)) (.v 3)))
     (.node (gt (dm (cY dh (.v 1)) (.v 3)) (.v 2))
     (.dw f g e (.cw (N+3) o [dh,(dm (cY dh (.v 1)) (.v 3)),(.v 2)]) E (.v 2) [.dead,.dead,(.own e)]
     (.out .normal ⟨[],[],5,0,[.dead,.dead,.dead,(.own e)],0,0,[]⟩))
     (.out .normal ⟨[],[],5,0,[.dead,.dead,(.own e)],0,0,[]⟩))
     (.out .normal ⟨[],[],5,0,[.dead,.dead,(.own e)],0,0,[]⟩)))
    (.node (gt dh (dm (cY dh (.v 1)) (.v 3)))
     (.node (gt (dm (cY dh (.v 1)) (.v 3)) (.v 2))
     (.dw f g e (.cw (N+3) o [dh,(dm (cY dh (.v 1)) (.v 3)),(.v 2)]) E (.v 1) [.dead,(.own e)]
     (.out .normal ⟨[],[],5,0,[.dead,.dead,(.own e)],0,0,[]⟩))
     (.out .normal ⟨[],[],5,0,[.dead,(.own e)],0,0,[]⟩))
     (.out .normal ⟨[],[],5,0,[.dead,(.own e)],0,0,[]⟩)))
    (.node (gt dh (dm (cY dh (.v 1)) (.v 3)))
    (.node (gt (dm (cY dh (.v 1)) (.v 3)) (.v 2))
     (.dw f g e (.cw (N+3) o [dh,(dm (cY dh (.v 1)) (.v 3)),(.v 2)]) E (.v 1) [.dead,(.own e)]
     (.out .normal ⟨[],[],5,0,[.dead,.dead,(.own e)],0,0,[]⟩))
     (.out .normal ⟨[],[],5,0,[.dead,(.own e)],0,0,[]⟩))
    (.out .normal ⟨[],[],5,0,[.dead,(.own e)],0,0,[]⟩))))
def afI:T:=(.loop 0 [.ref (.own e),.int I,.int I] [(.ref (.v 0)),(ew (.v 1)),(ew (.v 2))]
 (.node (gt (.v 3) (.v 4))
  (eO oT 1
  (eO oT 1
  (eO (.v 0) 1
  (eO (.v 0) 1
  (.call g [(.agg (d (.v 1) oT)),(.agg (d (.v 1) (.v 0)))] [] [.dead,.dead] [.int I] (ew (.v 5))
  (.aV (.c J)
  (.node (gt (.v 5) (.c 0))
  (.back 0 [(.ref (.v 1)),(ew (cY oT (.c 1))),(ew (.v 4))])
  (.back 0 [(.ref (.v 1)),(ew (.v 3)),(ew oT)]))))))))
  (.loop 1 [.ref (.own e),.int I] [(.ref (.v 1)),(ew (.v 0))]
  (.node (gt (.v 5) (dm (.v 3) (.c 1)))
   (eO (cY (.v 5) (.c 1)) 2
   (eO (cY (.v 5) (.c 1)) 2
   (eO (.v 5) 2
   (eO (.v 5) 2
   (eO (.v 5) 2
   (eO (.v 5) 2
   (.new e (.set (.ref (.v 2)) (.v 5) 0 (d (.v 2) (cY (.v 5) (.c 1)))) [.dead,.dead,(.own e)] [.dead,.dead,.dead,(.own e)]
   (eO (cY (.v 5) (.c 1)) 3
   (eO (cY (.v 5) (.c 1)) 3
   (.new e (.set (.ref (.v 3)) (cY (.v 5) (.c 1)) 0 (d (.v 2) (.v 5))) [.dead,.dead,.dead,(.own e)] [.dead,.dead,.dead,.dead,(.own e)]
   (.back 1 [(.ref (.v 4)),(ew (cY (.v 5) (.c 1)))])))))))))))
   (.out .ret ⟨[],[],6,0,[.dead,.dead,(.own e)],0,0,[]⟩)))))
def afJ:T:=(.loop 0 [.ref (.own e),.int I,.int I] [(.ref (.v 0)),(ew (.v 0)),(ew (.v 1))]
  (.node (gt (.v 3) (.v 4))
  (eO (.v 1) 1
  (eO (.v 1) 1
  (eO oT 1
  (eO oT 1
  (.call g [(.agg (d (.v 1) (.v 1))),(.agg (d (.v 1) oT))] [] [.dead,.dead] [.int I] (ew (.v 5))
  (.aV (.c J)
  (.aV (.c J)
  (.node (.not (gt (.v 5) (.c 0)))
   (.back 0 [(.ref (.v 1)),(ew (cY oT (.c 1))),(ew (.v 4))])
   (.back 0 [(.ref (.v 1)),(ew (.v 3)),(ew oT)])))))))))
  (.loop 1 [.ref (.own e),.int I] [(.ref (.v 1)),(ew (.v 1))]
   (.node (.cmp .gtr (.v 5) (.v 3))
   (eO (dm (.v 5) (.c 1)) 2
   (eO (dm (.v 5) (.c 1)) 2
   (eO (.v 5) 2
   (eO (.v 5) 2
   (eO (.v 5) 2
   (eO (.v 5) 2
   (.new e (.set (.ref (.v 2)) (.v 5) 0 (d (.v 2) (dm (.v 5) (.c 1)))) [.dead,.dead,(.own e)] [.dead,.dead,.dead,(.own e)]
   (eO (dm (.v 5) (.c 1)) 3
   (eO (dm (.v 5) (.c 1)) 3
   (.new e (.set (.ref (.v 3)) (dm (.v 5) (.c 1)) 0 (d (.v 2) (.v 5))) [.dead,.dead,.dead,(.own e)] [.dead,.dead,.dead,.dead,(.own e)]
   (.back 1 [(.ref (.v 4)),(ew (dm (.v 5) (.c 1)))])))))))))))
   (.out .ret ⟨[],[],6,0,[.dead,.dead,(.own e)],0,0,[]⟩)))))
def Xk:T:=(eO (dm (dm (cY dh (.v 1)) (.c 1)) oT) 1
   (eO (dm (dm (cY dh (.v 1)) (.c 1)) oT) 1
   (eO oT 1
   (eO oT 1
   (.call g [(.agg (d (.v 1) (dm (dm (cY dh (.v 1)) (.c 1)) oT))),(.agg (d (.v 1) oT))] [] [.dead,.dead] [.int I] (ew (.v 5))
   (.aV (.c J)
   (.aV (.c J)
   (.node (.not (gt (.v 5) (.c 0)))
   (.back 0 [(.ref (.v 1)),(ew (cY oT (.c 1))),(ew (.v 4))])
   (.back 0 [(.ref (.v 1)),(ew (.v 3)),(ew oT)])))))))))
def azt:T:=(.loop 0 [.ref (.own e),.int I,.int I] [(.ref (.v 0)),(ew (dm (cY dh (.v 1)) (.v 2))),(ew dh)]
 (.node (gt (.v 3) (.v 4)) (Xk g d) (Pg e g h f N o)))
def azu:T:=(.loop 0 [.ref (.own e),.int I,.int I] [(.ref (.v 0)),(ew (.v 0)),(ew (.v 1))]
 (.node (gt (.v 3) (.v 4)) (Xk g d) (Pg e g h f N o)))
def Xl:T:=(.node (.cmp .eql (dm (.v 1) (.v 0)) (.c 1)) (afI e g d) (.node (.cmp .eql (dm (.v 2) (.v 1)) (.c 1)) (afJ e g d) (.node (.cmp .gtr (.v 1) dh) (azt e g h f N o d) (azu e g h f N o d))))
def Xm:T:=(.loop 0 [.ref (.own e),.int I,.int I] [(.ref (.v 0)),(ew (.c 20)),(ew (.c 0))]
 (.node (.cmp .leq (.v 0) (.len (.v 0)))
 (.dw l g e (.cw 2 o [(.v 1),(.v 0)]) E (.v 1) [.dead,(.own e)]
 (.back 0 [(.ref (.v 2)),(ew (cY (.v 0) (.c 20))),(ew (.v 0))]))
 (.dw l g e (.cw 2 o [(.v 1),(.len (.v 0))]) E (.v 1) [.dead,(.own e)]
 (.loop 1 [.ref (.own e),.int I] [(.ref (.v 2)),(ew (.c 20))]
  (.node (gt (.v 2) (.len (.v 0)))
  (.loop 2 [.ref (.own e),.int I,.int I] [(.ref (.v 3)),(ew (.bin .mul I (.c 2) (.v 2))),(ew (.c 0))]
   (.node (.cmp .leq (.v 3) (.len (.v 0)))
   (.dw f g e (.cw (N+3) o [(.v 4),(cY (.v 4) (.v 2)),(.v 3)]) E (.v 4) [.dead,.dead,.dead,.dead,(.own e)]
   (.back 2 [(.ref (.v 5)),(ew (cY (.v 3) (.bin .mul I (.c 2) (.v 2)))),(ew (.v 3))]))
   (.node (gt (cY (.v 4) (.v 2)) (.len (.v 0)))
    (.dw f g e (.cw (N+3) o [(.v 4),(cY (.v 4) (.v 2)),(.len (.v 0))]) E (.v 4) [.dead,.dead,.dead,.dead,(.own e)]
    (.back 1 [(.ref (.v 5)),(ew (.bin .mul I (.v 2) (.c 2)))]))
    (.back 1 [(.ref (.v 4)),(ew (.bin .mul I (.v 2) (.c 2)))]))))
  (.out .normal ⟨[],[],3,0,[.dead,.dead,.dead,(.own e)],0,0,[]⟩))))))
end
structure HP where
 K:kz
 g:Nat
 o:be
 e:TypeId
 v:Value
 aC:am
def afK(O:ac)(l:ai)(x:aF):Prop:=∀y V,SV.aD (O.at y) V l=x.map RV.val
def HE(c:Option LC)(X:aW):Prop:=match c with
 |U c=>c.I X/\c.μ X<c.m
 |none=>False
def azv(h:HP)(f:FuncId)(V:ai)(R:aR)(fG:SV)(O:ac)(k:Int->Prop):Prop:=f=h.g/\R=[.int I]/\fG=.int I (.v (Y O.i))/\∃X W x y,V=[.agg X,.agg W]/\afK O X x/\afK O W y/\iF h.K x/\iF h.K y/\h.o.ok x=J/\h.o.ok y=J/\∀c:Int,(c<0<->h.o.lt x y=J)->k c
def T.hw(h:HP):T->ac->cZ->Prop
 |.out V s,O,_=>(V=.normal\/V=.ret)/\∃k,s.rs[k]?=U (.own h.e)/\O.rv k=.mk h.v h.aC
 |.node b t f,O,L=>if b.den O=J then t.hw h O L else f.hw h O L
 |.aV b t,O,L=>b.den O=J/\t.hw h O L
 |.call f P _ _ N fG t,O,L=>azv h f P N fG O λc=>t.hw h (O.add (.i c)) L
 |.loop au _ M t,O,L=>∃X R,X (M.map (SV.xv O))/\∀W,X W->t.hw h (O.ext W) (⟨au,X,R,R W⟩::L)
 |.back au x,O,L=>HE (mI au L) (x.map (SV.xv O))
 |.new _ (.set (.ref (.v k)) i H G) _ _ t,O,L=>t.hw h (O.add (.r (.mk (O.rv k).val (LE.rows O (.set (.ref (.v k)) i H G))))) L
 |.dw _ _ _ F D r _ t,O,L=>∃Q,jE O F D (r.rv O).rows=U Q/\t.hw h (O.add (.r (.mk (r.rv O).val Q))) L
 |_,_,_=>False
def w7(h:HP){p:Sp}(F:HC p.P h.K h.g h.o)(D:Tgt p h.e h.v h.aC):∀(t:T)(O:ac)(L:cZ),t.hw h O L->t.aT p O L
 |.out ex s,O,L,Q=>by
  obtain⟨C,k,B,w⟩:=Q;intro y V a W R;refine D _ s (O.at y) V a W k ?_ R B w;rcases C with rfl|rfl;exact .inl rfl;exact .inr rfl
 |.node b t f,O,L,Q=>by
  simp only[T.hw] at Q;refine⟨λu=>w7 h F D t O L ?_,λu=>w7 h F D f O L ?_⟩
  rwa [if_pos u] at Q
  rwa [if_neg (by simp[u])] at Q
 |.aV b t,O,L,Q=>⟨Q.1,w7 h F D t O L Q.2⟩
 |.call f ag bx N j fG t,O,L,Q=>by
  obtain⟨rfl,rfl,rfl,d,l2,x,y,rfl,C,B,w,h4,h5,h6,h7⟩:=Q;intro q V W R;have e:(SV.aD (O.at q) V [.agg d,.agg l2]).toArray= #[.agg (x.map RV.val).toArray,.agg (y.map RV.val).toArray]:=by
   simp only[SV.aD,SV.den,C q V,B q V]
  rw[e];refine(F W x y w h4 h5 h6).mono ?_;rintro en W' ⟨hB,c,rfl,ab⟩;refine⟨[.i c],⟨trivial,trivial⟩, ?_,hB,⟨trivial,trivial⟩, ?_⟩;simp[SV.den,IE.den,ac.ext,ac.add,ac.at];exact w7 h F D t (O.add (.i c)) L (h7 c ab)
 |.loop au j x0 t,O,L,Q=>by
  obtain⟨X,μ,C,B⟩:=Q;exact⟨X,μ,C,λxs _ hx=>w7 h F D t _ _ (B xs hx)⟩
 |.back au x,O,L,Q=>by
  simp only[T.hw,HE] at Q;simp only[T.aT];cases m:mI au L with
  |none=>rw[m] at Q;exact Q
  |some c=>rw[m] at Q;exact Q
 |.new e (.set (.ref (.v k)) i G H) N M t,O,L,Q=>by
  intro rv hn;obtain⟨⟨A,n,c,rfl,hl⟩,_,z⟩:=hn;have z:=z k i G H rfl;refine w7 h F D t _ L ?_;simp only[RV.lg] at z;rw[z];exact Q
 |.new e (.ref r) N M t,O,L,Q=>by simp[T.hw] at Q
 |.new e (.lit l) N M t,O,L,Q=>by simp[T.hw] at Q
 |.new e (.iG a b) N M t,O,L,Q=>by simp[T.hw] at Q
 |.new e (.rY n al) N M t,O,L,Q=>by simp[T.hw] at Q
 |.new e (.sub a lo hi) N M t,O,L,Q=>by simp[T.hw] at Q
 |.new e (.ins a n H) N M t,O,L,Q=>by simp[T.hw] at Q
 |.new e (.set (.ref (.k _)) i G H) N M t,O,L,Q=>by simp[T.hw] at Q
 |.new e (.set (.lit _) i G H) N M t,O,L,Q=>by simp[T.hw] at Q
 |.new e (.set (.iG _ _) i G H) N M t,O,L,Q=>by simp[T.hw] at Q
 |.new e (.set (.rY _ _) i G H) N M t,O,L,Q=>by simp[T.hw] at Q
 |.new e (.set (.set _ _ _ _) i G H) N M t,O,L,Q=>by simp[T.hw] at Q
 |.new e (.set (.sub _ _ _) i G H) N M t,O,L,Q=>by simp[T.hw] at Q
 |.new e (.set (.ins _ _ _) i G H) N M t,O,L,Q=>by simp[T.hw] at Q
 |.new e (.set (.ref (.cell _ _ _ _)) i G H) N M t,O,L,Q=>by simp[T.hw] at Q
 |.dw f g e sp st r N t,O,L,Q=>by
  obtain⟨af,C,B⟩:=Q;exact⟨af,C,w7 h F D t _ L B⟩
 |.ret ..,_,_,Q=>by simp[T.hw] at Q
 |.bj ..,_,_,Q=>by simp[T.hw] at Q
 |.rows ..,_,_,Q=>by simp[T.hw] at Q
 |.fA ..,_,_,Q=>by simp[T.hw] at Q
 |.pick ..,_,_,Q=>by simp[T.hw] at Q
 |.stuck _,_,_,Q=>by simp[T.hw] at Q
section
variable{h:HP}{O:ac}{L:cZ}
def HF{X:ac}(e:O=X):T.hw h u O L=T.hw h u X L:=by rw[e]
def vp(b:BE)(t f:T):T.hw h (.node b t f) O L=(if b.den O=J then t.hw h O L else f.hw h O L):=rfl
def HG(b:BE)(t:T):T.hw h (.aV b t) O L=(b.den O=J/\t.hw h O L):=rfl
def HH(au:Nat)(x:ai):T.hw h (.back au x) O L=HE (mI au L) (x.map (SV.xv O)):=rfl
def HI(e:TypeId)(k:Nat)(i:IE)(X:Nat)(W:ai)(V R:aE)(t:T):T.hw h (.new e (.set (.ref (.v k)) i X W) V R t) O L=t.hw h (O.add (.r (.mk (O.rv k).val (LE.rows O (.set (.ref (.v k)) i X W))))) L:=rfl
def AX(f g:FuncId)(e:TypeId)(X:be)(W:Bool)(r:RE)(R:aE)(t:T):T.hw h (.dw f g e X W r R t) O L=(∃V,jE O X W (r.rv O).rows=U V/\t.hw h (O.add (.r (.mk (r.rv O).val V))) L):=rfl
def AY(X:XE)(s:S):T.hw h (.out X s) O L=((X=.normal\/X=.ret)/\∃k,s.rs[k]?=U (.own h.e)/\O.rv k=.mk h.v h.aC):=rfl
def w8{Q:aR}(W:aW->Prop)(V:aW->Nat)(P:W (t.map (SV.xv O)))(N:∀R,W R->u.hw h (O.ext R) (⟨X,W,V,V R⟩::L)):T.hw h (.loop X Q t u) O L:=⟨W,V,P,N⟩
end
section
attribute[local simp] IE.den BE.den RE.rv RE.den fQ ac.rv ac.ext ac.add SV.xv vp HG HH HI AX AY LE.rows mI
attribute[local congr] HF
structure CS(K:kz)(d:RE->IE->ai):Prop where
 bN:∀(O:ac)(r:RE)(i:IE)(x:aF),(r.rv O).rows[(i.den O).toNat]?=U x->iF K x->(d r i).map (SV.bN O)=x
 den:∀(O:ac)(r:RE)(i:IE)(x:aF),(r.rv O).rows[(i.den O).toNat]?=U x->iF K x->afK O (d r i) x
def afL:∀{K:kz}{x:aF},iF K x->Y x=Y K
 |[],_,h=>by cases h;rfl
 |_::_,[],h=>h.elim
 |_::_,_::_,h=>by simp[afL h.2]
def aqE:∀(x W X:aF),Y W=Y x->fo (X++W) (Y X) x=X++x
 |[],W,X,h=>by
  have:W=[]:=aDI h;subst this;rfl
 |v::r,[],X,h=>by simp at h
 |v::r,c::W,X,h=>by
  have V:=aqE r W (X++[v]) (by simpa using h);simp only[aDs,aD4,aFm,aD5,aDi,aDl] at V;simp only[fo];rw[aE6 _ _ (aDm _),aFU,aGO];exact V
def E6{K:kz}{x:aF}(P:∀y∈R,iF K y)(O:iF K x):(R.modify X λW=>fo W 0 x)=R.set X x:=by
 apply aDG;intro k;rw[aFu,aD9];by_cases Q:X=k;subst Q;simp only[if_true];cases V:R[X]? with
 |none=>
  have:=aD2.1 V;rw[if_neg (by omega)];rfl
 |some W=>
  obtain⟨N,_⟩:=aDd.1 V;rw[if_pos N];have:=aqE x W [] (by rw[afL (P W (aDx V)),afL O]);simpa using this
 simp[Q]
def Ph{n:Int}(X:-9223372036854775808<=n)(W:n<9223372036854775808):IntKind.i64.wrap n=n:=by
 rw[IntKind.wrap_i64];omega
def zg{a b:Nat}(h:a+b<=4398046511104):ay .add I (a:Int) (b:Int)=((a+b:Nat):Int):=by
 simp only[ay];rw[Ph (by omega) (by omega)];omega
def xe{a b:Nat}(h:b<=a)(X:a<=4398046511104):ay .sub I (a:Int) (b:Int)=((a-b:Nat):Int):=by
 simp only[ay];rw[Ph (by omega) (by omega)];omega
def CU{a:Nat}(h:a<=4398046511103):ay .add I (a:Int) 1=((a+1:Nat):Int):=zg (b:=1) (by omega)
def Xn{a:Nat}(h:1<=a)(X:a<=4398046511104):ay .sub I (a:Int) 1=((a-1:Nat):Int):=xe (b:=1) h X
def azw(W:am)(M:X+v<=F)(V:F+v<=Y W)(k:Nat):
  (W.take X++(aX W F (F+v)++(aX W (X+v) F++(aX W X (X+v)++W.drop (F+v)))))[k]?=if X<=k/\k<X+v then W[k-X+F]? else if F<=k/\k<F+v then W[k-F+X]? else W[k]?:=by
 have R:(W.take X).length=X:=by simp;omega
 have Q:(aX W F (F+v)).length=v:=by rw[pK W V];omega
 have P:(aX W (X+v) F).length=F-(X+v):=pK W (by omega);have O:(aX W X (X+v)).length=v:=by rw[pK W (by omega)];omega
 by_cases N:k<X;rw[aDg (by omega),if_neg (by omega),if_neg (by omega),aDK,if_pos N];rw[aDk (by omega),R];by_cases L:k<X+v;rw[aDg (by omega),if_pos (by omega),Pe W (by omega)];congr 1;omega;rw[aDk (by omega),Q,if_neg (by omega)];by_cases H:k<F;rw[aDg (by omega),if_neg (by omega),Pe W (by omega)];congr 1;omega;rw[aDk (by omega),P];by_cases G:k<F+v;rw[aDg (by omega),if_pos (by omega),Pe W (by omega)];congr 1;omega;rw[aDk (by omega),O,if_neg (by omega),aDZ];congr 1;omega
def AZ(h:Y y=3):∃a b c,y=[a,b,c]:=by
 match y,h with
 |[a,b,c],_=>exact⟨a,b,c,rfl⟩
def two(h:Y y=2):∃a b,y=[a,b]:=by
 match y,h with
 |[a,b],_=>exact⟨a,b,rfl⟩
def zh{a:Int}(h:0<=a):∃n:Nat,a=n:=⟨a.toNat,by omega⟩
section
variable{K:kz}{e g:Nat}{o:be}{d:RE->IE->ai}
set_option maxHeartbeats 2000000 in
def aqF (C:CS K d):Pf K e g o 0 3 (Xh e d):=by
 rintro p _ W aC ns hP ab ⟨A,n,R,rfl,af,hn⟩ hT hN V ag;obtain⟨a,b,m,rfl⟩:=AZ hN;obtain⟨_,V⟩:=zM V;simp only[lJ] at V;split at V;rename_i O;simp only[aDc,decide_eq_true_eq] at O;obtain⟨a,rfl⟩:=zh O.1.1.1;obtain⟨m,rfl⟩:=zh O.1.1.2;obtain⟨b,rfl⟩:=zh (a:=b) (by omega);have h1:a+m<=b:=by omega
 have h2:b+m<=Y W:=by omega
 simp only[aDh] at V;have e1:((a:Int)).toNat=a:=rfl;have e2:((b:Int)).toNat=b:=rfl;have e3:((b:Int)+(m:Int)).toNat=b+m:=by omega
 have e4:((a:Int)+(m:Int)).toNat=a+m:=by omega
 rw[e1,e2,e3,e4] at V;have B:=azw W h1 h2;rw[V] at B;clear V;refine w7 ⟨K,g,o,e,.slice A n R,aC⟩ (hP▸ab) ag _ _ _ ?_;unfold Xh;refine w8 (λN=>∃(i:Nat)(X:am),N=[.r (.mk (.slice A n R) X),.i i]/\i<=m/\Y X=n/\(∀x∈X,iF K x)/\∀k:Nat,X[k]?=if a<=k/\k<a+i then W[k-a+b]? else if b<=k/\k<b+i then W[k-b+a]? else W[k]?) (λN=>match N with|[_,.i j]=>m-j.toNat|_=>0) ⟨0,W,rfl,by omega,af,hT,λk=>by rw[if_neg (by omega),if_neg (by omega)]⟩ ?_;rintro _ ⟨i,X,rfl,hi,hl,Q,P⟩;by_cases al:i<m;obtain⟨x,M⟩:∃x,X[a+i]?=U x:=aDd.2 ⟨by omega,rfl⟩|>λh=>⟨_,h⟩
 obtain⟨y,L⟩:∃y,X[b+i]?=U y:=aDd.2 ⟨by omega,rfl⟩|>λh=>⟨_,h⟩
 have H:=Q x (aDx M);have G:=Q y (aDx L);have w:=zg (a:=a) (b:=i) (by omega);have u:=zg (a:=b) (b:=i) (by omega);have c1:aEZ (SV.bN ⟨[(a:Int),b,m,i],[],[.mk (.slice A n R) W,.mk (.slice A n R) X],[]⟩) (d (.v 1) (.bin .add I (.v 1) (.v 3)))=y:=C.bN _ _ _ y (by simp only[RE.rv,ac.rv,IE.den,aEP,aEy,RV.lj,u,aEa];exact L) G;have c2:∀t,aEZ (SV.bN ⟨[(a:Int),b,m,i],[],[.mk (.slice A n R) W,.mk (.slice A n R) X,t],[]⟩) (d (.v 1) (.bin .add I (.v 0) (.v 3)))=x:=λt=>C.bN _ _ _ x (by simp only[RE.rv,ac.rv,IE.den,aEP,aEy,RV.lj,w,aEa];exact M) H
 have m1:(X.modify (a+i) λF=>fo F 0 y)=X.set (a+i) y:=E6 Q G;have s:∀z∈X.set (a+i) y,iF K z:=λz D=>by
  rcases aEc D with h|rfl;exact Q z h;exact G
 have m2:((X.set (a+i) y).modify (b+i) λF=>fo F 0 x)=(X.set (a+i) y).set (b+i) x:=E6 s H;have t1:((a:Int)+(i:Int)).toNat=a+i:=by omega
 have t2:((b:Int)+(i:Int)).toNat=b+i:=by omega
 simp[w,u,CU (a:=i) (by omega),al,c1,c2,t1,t2,m1,m2,lenOf];refine⟨by omega,by omega,by omega,⟨i+1,_,rfl,by omega,by simp[hl],λz D=> ?_,λk=> ?_⟩,show m-((i:Int)+1).toNat<m-i by omega⟩;rcases aEc D with h|rfl;exact s z h;exact H;have an:W[a+i]?=U x:=by
  have:=P (a+i);rw[if_neg (by omega),if_neg (by omega)] at this;rw[<-this];exact M
 have ap:W[b+i]?=U y:=by
  have:=P (b+i);rw[if_neg (by omega),if_neg (by omega)] at this;rw[<-this];exact L
 rw[aD9,aD9];by_cases q:b+i=k;subst q;rw[if_pos rfl,if_pos (by simp;omega),if_neg (by omega),if_pos (by omega),<-an];congr 1;omega;rw[if_neg q];by_cases l:a+i=k;subst l;rw[if_pos rfl,if_pos (by omega),if_pos (by omega),<-ap];congr 1;omega;rw[if_neg l,P k];by_cases f:a<=k/\k<a+i;rw[if_pos f,if_pos (by omega)];rw[if_neg f];by_cases c:b<=k/\k<b+i;rw[if_pos c,if_neg (by omega),if_pos (by omega)];rw[if_neg c,if_neg (by omega),if_neg (by omega)];have a0:i=m:=by omega
 subst a0;have a1:X=aC:=aDG λk=>by rw[P k,B k]
 subst a1;simp;exact⟨1,rfl,rfl⟩;cases V
end
end
section
attribute[local simp] IE.den BE.den RE.rv RE.den fQ ac.rv ac.ext ac.add SV.xv vp HG HH HI AX AY LE.rows mI jE
attribute[local congr] HF
def Pj(P S Q:am):aX (P++(S++Q)) (Y P) (Y P+Y S)=S:=by simp[aX]
def Pl{P Q:am}(h:R=P++(H++Q))(W:X=Y P)(V:F=X+Y H):aX R X F=H:=by
 subst h;subst W;subst V;exact Pj P H Q
def afM{o:be}{P X M Y Q:am}{a b n:Int}(W:a=P.length)(V:b=P.length+X.length+M.length)(R:n=X.length)(z:Y.length=X.length)(O:(P++(X++(M++(Y++Q)))).length<=1099511627776):
  nL 0 o [a,b,n] (P++(X++(M++(Y++Q))))=U (P++(Y++(M++(X++Q)))):=by
 subst W;subst V;subst R;unfold nL;rw[if_pos O];simp only[lJ];rw[if_pos (by simp only[aDc,decide_eq_true_eq,aDs];omega)];have N:((P.length:Int)).toNat=P.length:=rfl;have L:((P.length:Int)+X.length+M.length).toNat=P.length+X.length+M.length:=by omega
 have H:((P.length:Int)+X.length+M.length+X.length).toNat=P.length+X.length+M.length+X.length:=by omega
 have G:((P.length:Int)+X.length).toNat=P.length+X.length:=by omega
 rw[N,L,H,G];have F:(P++(X++(M++(Y++Q)))).take P.length=P:=by simp
 have D:aX (P++(X++(M++(Y++Q)))) (P.length+X.length+M.length) (P.length+X.length+M.length+X.length)=Y:=Pl (P:=P++(X++M)) (Q:=Q) (by simp) (by simp;omega) (by omega);have C:aX (P++(X++(M++(Y++Q)))) (P.length+X.length) (P.length+X.length+M.length)=M:=Pl (P:=P++X) (Q:=Y++Q) (by simp) (by simp) rfl;have B:aX (P++(X++(M++(Y++Q)))) P.length (P.length+X.length)=X:=Pj P X _;have A:(P++(X++(M++(Y++Q)))).drop (P.length+X.length+M.length+X.length)=Q:=by
  have:P++(X++(M++(Y++Q)))=(P++(X++(M++Y)))++Q:=by simp
  rw[this,aFC (by simp;omega)]
 rw[F,D,C,B,A]
def aqG(W:am)(V:X<=F)(R:F<=v):W.take X++(aX W X F++(aX W F v++W.drop v))=W:=by
 rw[<-aD5 (aX W X F),<-oj W V R,Ly W (by omega)]
def rV{c:Prop}[Decidable c]{A B:Prop}(X:c->A)(W:¬c->B):if c then A else B:=by
 by_cases h:c;rw[if_pos h];exact X h;rw[if_neg h];exact W h
section
variable{K:kz}{e g d:Nat}{o:be}{f:RE->IE->ai}
set_option maxHeartbeats 2000000 in
def aqH:Pf K e g o 1 3 (Xi e g d o):=by
 rintro p _ W aC ns t s ⟨z,n,y,rfl,q,hn⟩ hT l L k;obtain⟨a,m,b,rfl⟩:=AZ l;obtain⟨_,L⟩:=zM L;simp only[lJ] at L;split at L;rename_i x;simp only[aDc,decide_eq_true_eq] at x;obtain⟨a,rfl⟩:=zh x.1.1.1;obtain⟨m,rfl⟩:=zh (a:=m) (by omega);obtain⟨b,rfl⟩:=zh (a:=b) (by omega);simp only[aDh,aEa] at L;have w:b<=W.length:=by omega
 refine w7 ⟨K,g,o,e,.slice z n y,aC⟩ (t▸s) k _ _ _ ?_;unfold Xi;refine w8 (λF=>∃(P A B Q:am),F=[.r (.mk (.slice z n y) (P++(A++(B++Q)))),.i A.length,.i B.length]/\1<=A.length/\1<=B.length/\P.length+A.length=m/\m+B.length<=b/\(P++(A++(B++Q))).length=n/\P++(B++(A++Q))=aC) (λF=>match F with|[_,.i i,.i j]=>i.toNat+j.toNat|_=>0) ⟨W.take a,aX W a m,aX W m b,W.drop b, ?_, ?_⟩ ?_;have h:W.take a++(aX W a m++(aX W m b++W.drop b))=W:=by
  exact aqG W (by omega) (by omega)
 have v:(aX W a m).length=m-a:=pK W (by omega);have u:(aX W m b).length=b-m:=pK W w;simp only[aDt,aEK,SV.xv,RE.rv,ac.rv,aEy,aEP,IE.den,h,v,u];rw[xe (a:=m) (b:=a) (by omega) (by omega),xe (a:=b) (b:=m) (by omega) (by omega)];have v:(aX W a m).length=m-a:=pK W (by omega);have u:(aX W m b).length=b-m:=pK W w;refine⟨by omega,by omega,by simp;omega,by omega, ?_,L⟩;rw[aqG W (by omega) (by omega)];exact q;rintro _ ⟨P,A,B,Q,rfl,hA,hB,ap,a0,f,D⟩;have c:=xe (a:=m) (b:=A.length) (by omega) (by omega);have ab:((m-A.length:Nat):Int)=P.length:=by omega
 simp only[aDs] at f;simp[c,ab];refine rV (λaf=> ?_) (λaf=>rV (λag=> ?_) (λag=> ?_));have H:=afM (o:=o) (P:=P) (X:=A) (M:=[]) (Y:=B) (Q:=Q) (a:=P.length) (b:=m) (n:=A.length) rfl (by simp;omega) rfl (by omega) (by simp;omega);refine⟨P++(B++(A++Q)),by simpa using H,2,rfl, ?_⟩;simp[D];obtain⟨O,N,rfl,C⟩:∃O N,A=O++N/\O.length=B.length:=⟨A.take B.length,A.drop B.length,(aEI _ _).symm,by simp;omega⟩;simp only[aDs] at*;have G:=xe (a:=O.length+N.length) (b:=B.length) (by omega) (by omega);have H:=afM (o:=o) (P:=P) (X:=O) (M:=N) (Y:=B) (Q:=Q) (a:=P.length) (b:=m) (n:=B.length) rfl (by omega) (by omega) (by omega) (by simp;omega);refine⟨P++(B++(N++(O++Q))),by simpa using H,⟨P++B,N,O,Q, ?_,by omega,by omega,by simp;omega,by omega,by simp;omega, ?_⟩, ?_⟩;rw[G,C];simp;rw[<-D];simp;rw[G];show((O.length+N.length-B.length:Nat):Int).toNat+((B.length:Int)).toNat<O.length+N.length+B.length;omega;obtain⟨R,V,rfl,C⟩:∃R V,B=R++V/\V.length=A.length:=⟨B.take (B.length-A.length),B.drop (B.length-A.length),(aEI _ _).symm,by simp;omega⟩;simp only[aDs] at*;have al:=zg (a:=m) (b:=R.length+V.length) (by omega);have G:=xe (a:=m+(R.length+V.length)) (b:=A.length) (by omega) (by omega);have an:=xe (a:=R.length+V.length) (b:=A.length) (by omega) (by omega);have H:=afM (o:=o) (P:=P) (X:=A) (M:=R) (Y:=V) (Q:=Q) (a:=P.length) (b:=((m+(R.length+V.length)-A.length:Nat):Int)) (n:=A.length) rfl (by omega) rfl (by omega) (by simp;omega);rw[al,G,an];refine⟨P++(V++(R++(A++Q))),by simpa using H,⟨P,V,R,A++Q, ?_,by omega,by omega,by omega,by omega,by simp;omega, ?_⟩, ?_⟩;rw[C];simp;rw[<-D];simp;show((A.length:Int)).toNat+((R.length+V.length-A.length:Nat):Int).toNat<A.length+(R.length+V.length);omega;cases L
end
end
section
attribute[local simp] IE.den BE.den RE.rv RE.den fQ ac.rv ac.ext ac.add SV.xv vp HG HH HI AX AY LE.rows mI jE
attribute[local congr] HF
def azx(l:am)(x:aF):bD k (l++[x])=dO k x (bD k l):=by simp[bD]
def aqI{lt:aF->aF->Bool}{x:aF}:∀{L G:am},(∀l∈L,lt x l=E)->(∀g∈G,lt x g=J)->dO lt x (L++G)=L++x::G
 |[],[],_,_=>rfl
 |[],g::G,_,h=>by simp[dO,h g (by simp)]
 |l::L,G,X,W=>by
  have V:=aqI (L:=L) (G:=G) (λy R=>X y (by simp[R])) W;simp only[aDi,dO,X l (by simp)];rw[V];simp
def aqJ(A R:am)(l x:aF){j:Nat}(X:j=Y A):((A++(l::x::R)).set (j+1) l).set j x=A++(x::l::R):=by
 subst X;rw[aE6 _ _ (by omega),aFe,aE6 _ _ (by omega),aFU];rfl
def Xo{h:HP}{O:ac}{L:cZ}{d:RE->IE->ai}(N:CS h.K d){V R:RE}{Q P:IE}{G:bA}(F:X=Y O.i)(x y:aF)(D:(V.rv O).rows[(Q.den O).toNat]?=U x)(C:(R.rv O).rows[(P.den O).toNat]?=U y)(M:iF h.K x)(H:iF h.K y)(B:h.o.ok x=J)(A:h.o.ok y=J)
  (z:∀W:Int,(W<0<->h.o.lt x y=J)->u.hw h (O.add (.i W)) L):T.hw h (.call h.g [.agg (d V Q),.agg (d R P)] G c [.int I] (.int I (.v X)) u) O L:=by
 subst F;exact⟨rfl,rfl,rfl,_,_,x,y,rfl,N.den O V Q x D M,N.den O R P y C H,M,H,B,A,z⟩
section
variable{K:kz}{e g:Nat}{o:be}{d:RE->IE->ai}
set_option maxHeartbeats 4000000 in
def aqK (f:CS K d) (al:kW o.lt (λx=>o.ok x=J)):Pf K e g o 2 2 (Xj e g d):=by
 rintro p _ X aC ns hP a5 ⟨R,n,Q,rfl,b2,hn⟩ hT hN N a6;obtain⟨a,b,rfl⟩:=two hN;obtain⟨_,N⟩:=zM N;simp only[lJ] at N;split at N;rename_i A;simp only[aDc,decide_eq_true_eq,aDr] at A;obtain⟨⟨⟨a7,a8⟩,gC⟩,an⟩:=A;obtain⟨a,rfl⟩:=zh a7;obtain⟨b,rfl⟩:=zh (a:=b) (by omega);simp only[aDh,aEa] at N;have hb:b<=Y X:=by omega
 have a8:a<=b:=by omega
 refine w7 ⟨K,g,o,e,.slice R n Q,aC⟩ (hP▸a5) a6 _ _ _ ?_;unfold Xj;refine w8 (λM=>∃(i:Nat)(u:am),M=[.r (.mk (.slice R n Q) u),.i i]/\a<i/\i<=b+1/\u=X.take a++(bD o.lt (aX X a (min i b))++X.drop (min i b))) (λM=>match M with|[_,.i i]=>b+1-i.toNat|_=>0) ⟨a+1,X, ?_,by omega,by omega, ?_⟩ ?_;simp only[aDt,aEK,SV.xv,RE.rv,ac.rv,aEy,IE.den];rw[CU (by omega)];by_cases h:a+1<=b;rw[aFA h];have:aX X a (a+1)=[X[a]'(by omega)]:=by
  simp only[aX,show a+1-a=1 by omega];rw[aEf (by omega)];rfl
 rw[this];show X=_++([X[a]'(by omega)]++_);rw[<-this,Ly X (by omega)];have:b=a:=by omega
 subst this;rw[aGl (by omega)];have:aX X b b=[]:=by simp[aX]
 rw[this];show X=X.take b++([]++X.drop b);simp;rintro _ ⟨i,u,rfl,b3,b4,bI⟩;by_cases ap:i<b;rw[aFA (by omega)] at bI;obtain⟨x,hx⟩:∃x,x=X[i]'(by omega):=⟨_,rfl⟩;have hd:X.drop i=x::X.drop (i+1):=by rw[hx,aEf (by omega)]
 have hS:(bD o.lt (aX X a i)).length=i-a:=by rw[nN,pK X (by omega)]
 have a9:aX X a (i+1)=aX X a i++[x]:=by
  rw[oj X (show a<=i by omega) (show i<=i+1 by omega)];congr 1;simp only[aX,aFe,hd];rfl
 have H:∀y,y∈X.take a\/y∈bD o.lt (aX X a i)\/y=x\/y∈X.drop (i+1)->iF K y/\o.ok y=true:=by
  intro y V;have:y∈X:=by
   rcases V with h|h|rfl|h;exact aEo h;exact su (HB h);rw[hx];exact aD3 _;exact aEj h
  exact⟨hT y this,an y this⟩
 have ab:fF o.lt (bD o.lt (aX X a i)):=HA al λz hz=>an z (su hz)
 have bb:(X.take a).length=a:=by simp;omega
 have bd:(X.drop (i+1)).length=n-(i+1):=by simp;omega
 generalize bf:bD o.lt (aX X a i)=S at bI hS H ab;generalize b5:X.take a=P at bI H bb N;generalize bg:X.drop (i+1)=D at hd H bd;rw[hd] at bI;have a0:∀L G,S=L++G->(∀l∈L,o.lt x l=E)->(∀g∈G,o.lt x g=J)->P++(L++x::(G++D))=P++(bD o.lt (aX X a (min (i+1) b))++X.drop (min (i+1) b)):=by
  intro L G t s h3;rw[aFA (by omega),a9,azx,bf,t,aqI s h3,bg];simp
 simp[ap];refine w8 (λM=>∃(L G:am),M=[.r (.mk (.slice R n Q) (P++(L++x::(G++D)))),.i ((a+Y L:Nat):Int)]/\S=L++G/\∀g∈G,o.lt x g=J) (λM=>match M with|[_,.i j]=>j.toNat|_=>0) ⟨S,[], ?_,by simp,by simp⟩ ?_;simp[bI,hS];omega;rintro _ ⟨L,G,rfl,W,hG⟩;rcases List.eq_nil_or_concat L with rfl|⟨L,l,rfl⟩;simp;rw[CU (by omega)];refine⟨⟨i+1,_,rfl,by omega,by omega, ?_⟩, ?_⟩;exact a0 [] G W (by simp) hG;show b+1-((i+1:Nat):Int).toNat<b+1-i;omega;simp only[List.concat_eq_append] at W⊢;have b6:a+Y L+1<=i:=by
  have:=congrArg Y W;simp only[aDs,aD4,aFm] at this;omega
 have F:ay .sub I (((a+(Y L+1):Nat)):Int) 1=((a+Y L:Nat):Int):=by rw[Xn (by omega) (by omega)];omega
 have q:=H x (by simp);have C:=H l (.inr (.inl (by rw[W];simp)));have e0:P++(L++[l]++x::(G++D))=(P++L)++(l::x::(G++D)):=by simp
 have gx:((P++L)++(l::x::(G++D)))[a+(Y L+1)]?=U x:=by
  rw[aDk (by simp;omega)];simp[show a+(Y L+1)-(Y P+Y L)=1 by omega]
 have gl:((P++L)++(l::x::(G++D)))[a+Y L]?=U l:=by
  rw[aDk (by simp;omega)];simp[show a+Y L-(Y P+Y L)=0 by omega]
 have af:∀y∈(P++L)++(l::x::(G++D)),iF K y/\o.ok y=true:=by
  intro y V;refine H y ?_;simp only[aDo,aDp] at V;rcases V with(h|h)|h|h|h|h;exact .inl h;exact .inr (.inl (by rw[W];simp[h]));subst h;exact .inr (.inl (by rw[W];simp));exact .inr (.inr (.inl h));exact .inr (.inl (by rw[W];simp[h]));exact .inr (.inr (.inr h))
 have a1:((P++L)++(l::x::(G++D))).length=n:=by
  have:=congrArg Y W;simp only[aDs,aD4,aFm] at this;simp only[aDs,aD4];omega
 rw[e0];have bk:(((a+(L++[l]).length:Nat):Int))=((a+(Y L+1):Nat):Int):=by simp
 rw[bk];have m:((a+(Y L+1):Nat):Int).toNat=a+(Y L+1):=rfl;have k:((a+Y L:Nat):Int).toNat=a+Y L:=rfl;have a2:((a+(Y L+1):Nat):Int)=((a+Y L:Nat):Int)+1:=by omega
 have bl:((a+(Y L+1):Nat):Int)<n:=by
  have:=a1;simp only[aDs,aD4] at this;omega
 have a3:(a:Int)<((a+(Y L+1):Nat):Int):=by omega
 have bo:(0:Int)<=((a+Y L:Nat):Int):=by omega
 generalize hz:((a+(Y L+1):Nat):Int)=z at F m a2 bl a3⊢;generalize hw:((a+Y L:Nat):Int)=w at F k a2 bo⊢;generalize hR:(P++L)++(l::x::(G++D))=B at gx gl af a1⊢;simp[F,a3];refine⟨⟨by omega,by simp[lenOf];omega⟩,⟨by omega,by simp[lenOf];omega⟩, ?_⟩;refine Xo f rfl x l ?_ ?_ q.1 C.1 q.2 C.2 (λc A=> ?_);simp[m];exact gx;simp[F,k];exact gl;have c1:∀O:ac,O.r=[.mk (.slice R n Q) X,.mk (.slice R n Q) u,.mk (.slice R n Q) B]->O.i=[(a:Int),b,i,z,c]->aEZ (SV.bN O) (d (.v 2) (.bin .sub I (.v 3) (.c 1)))=l:=λO t s=>f.bN O _ _ l (by simp[t,s,F,k];exact gl) C.1
 have c2:∀(O:ac) rv,O.r=[.mk (.slice R n Q) X,.mk (.slice R n Q) u,.mk (.slice R n Q) B,rv]->O.i=[(a:Int),b,i,z,c]->aEZ (SV.bN O) (d (.v 2) (.v 3))=x:=λO rv t s=>f.bN O _ _ x (by simp[t,s,m];exact gx) q.1
 simp[F];refine rV (λbr=> ?_) (λbs=> ?_);rw[c1 _ rfl rfl,c2 _ _ rfl rfl];have m1:(B.modify z.toNat λag=>fo ag 0 l)=B.set (a+Y L+1) l:=by rw[m];exact E6 (λy V=>(af y V).1) C.1
 have m2:((B.set (a+Y L+1) l).modify w.toNat λag=>fo ag 0 x)=(B.set (a+Y L+1) l).set (a+Y L) x:=by
  rw[k];refine E6 (λy V=> ?_) q.1;rcases aEc V with h|rfl;exact(af y h).1;exact C.1
 rw[m1,m2,<-hR,aqJ (P++L) (G++D) l x (by simp;omega)];refine⟨⟨by omega,by simp[lenOf];omega⟩,⟨by omega,by simp[lenOf];omega⟩,⟨by omega,by simp[lenOf];omega⟩,⟨L,l::G, ?_,by rw[W];simp,λg' bt=> ?_⟩, ?_⟩;simp;omega;rcases aDp.1 bt with rfl|h;exact A.1 br;exact hG g' h;show w.toNat<z.toNat;omega;have a4:o.lt x l=false:=by
  cases h:o.lt x l;rfl;exact absurd (A.2 h) bs
 have bx:∀y∈L++[l],o.lt x y=false:=by
  intro y V;rcases aDo.1 V with h|h;have:o.lt l y=false:=by
   rw[W] at ab;exact(aDH.1 (aDH.1 ab).1).2.2 y h l (by simp)
  have b0:=H y (.inr (.inl (by rw[W];simp[h])));exact al.nt x l y q.2 C.2 b0.2 a4 this;simp at h;subst h;exact a4
 rw[CU (by omega)];refine⟨⟨i+1,_,rfl,by omega,by omega, ?_⟩, ?_⟩;rw[<-a0 (L++[l]) G W bx hG,<-hR];simp;show b+1-((i+1:Nat):Int).toNat<b+1-i;omega;have b1:min i b=b:=aGl (by omega);rw[b1,N] at bI;simp[ap];exact⟨1,rfl,by rw[bI];rfl⟩;cases N
end
end
section
attribute[local simp] IE.den BE.den RE.rv RE.den fQ ac.rv ac.ext ac.add SV.xv vp HG HH HI AX AY LE.rows mI jE
attribute[local congr] HF
def azy(h:X<=4398046511104):IntKind.i64.wrap (ay .shr .u64 (IntKind.u64.wrap (X:Int)) 1)=((X/2:Nat):Int):=by
 have e1:IntKind.u64.wrap (X:Int)=(X:Int):=by
  rw[IntKind.wrap_u64];omega
 rw[e1];simp only[ay];have W:(2:Int)^min (Int.toNat 1) IntKind.u64.bits=2:=rfl;rw[W,aGa _ (by omega),Ph (by omega) (by omega)];omega
def Xp{o:be}{N:Nat}{P X Y Q:am}{a m b:Int}(W:a=P.length)(V:m=P.length+X.length)(R:b=P.length+X.length+Y.length)(v:1<=X.length)(u:1<=Y.length)(t:X.length+Y.length<N)(M:(P++(X++(Y++Q))).length<=1099511627776)(H:∀z∈P++(X++(Y++Q)),o.ok z=J)(G:fF o.lt X)(F:fF o.lt Y):
  nL (N+3) o [a,m,b] (P++(X++(Y++Q)))=U (P++(bD o.lt (X++Y)++Q)):=by
 subst W;subst V;subst R;unfold nL;rw[if_pos M];simp only[lJ];have e1:((P.length:Int)).toNat=P.length:=rfl;have D:((P.length:Int)+X.length).toNat=P.length+X.length:=by omega
 have C:((P.length:Int)+X.length+Y.length).toNat=P.length+X.length+Y.length:=by omega
 rw[e1,D,C];have B:(P++(X++(Y++Q))).take P.length=P:=by simp
 have A:aX (P++(X++(Y++Q))) P.length (P.length+X.length)=X:=Pj P X _;have y:aX (P++(X++(Y++Q))) (P.length+X.length) (P.length+X.length+Y.length)=Y:=Pl (P:=P++X) (Q:=Q) (by simp) (by simp) rfl;have x:aX (P++(X++(Y++Q))) P.length (P.length+X.length+Y.length)=X++Y:=Pl (P:=P) (Q:=Q) (by simp) rfl (by simp;omega);have w:(P++(X++(Y++Q))).drop (P.length+X.length+Y.length)=Q:=by
  have:P++(X++(Y++Q))=(P++(X++Y))++Q:=by simp
  rw[this,aFC (by simp;omega)]
 rw[B,A,y,x,w,if_pos];simp only[aDc,decide_eq_true_eq,aDr,aqs];refine⟨⟨⟨⟨⟨⟨⟨by omega,by omega⟩,by omega⟩, ?_⟩,by omega⟩,H⟩,G⟩,F⟩;simp only[aDs];omega
def Xq(h:R=[]\/H=[])(W:fF k R)(V:fF k H):bD k (R++H)=R++H:=by
 rcases h with rfl|rfl;simpa using Xd V;simpa using Xd W
def azz{B Q:am}{a m b:Int}(X:a=Y R)(W:m=Y R+Y H)(V:b=Y R+Y H+Y B)(x:1<=Y H)(w:1<=Y B)(M:(R++(H++(B++Q))).length<=1099511627776):
  nL 1 A [a,m,b] (R++(H++(B++Q)))=U (R++(B++(H++Q))):=by
 subst X;subst W;subst V;unfold nL;rw[if_pos M];simp only[lJ];have e1:((Y R:Int)).toNat=Y R:=rfl;have G:((Y R:Int)+Y H).toNat=Y R+Y H:=by omega
 have F:((Y R:Int)+Y H+Y B).toNat=Y R+Y H+Y B:=by omega
 rw[e1,G,F];have D:(R++(H++(B++Q))).take (Y R)=R:=by simp
 have C:aX (R++(H++(B++Q))) (Y R) (Y R+Y H)=H:=Pj R H _;have z:aX (R++(H++(B++Q))) (Y R+Y H) (Y R+Y H+Y B)=B:=Pl (P:=R++H) (Q:=Q) (by simp) (by simp) rfl;have y:(R++(H++(B++Q))).drop (Y R+Y H+Y B)=Q:=by
  have:R++(H++(B++Q))=(R++(H++B))++Q:=by simp
  rw[this,aFC (by simp;omega)]
 rw[D,C,z,y,if_pos];simp only[aDc,decide_eq_true_eq,aDs];omega
abbrev LA:IE:=.bin .sub I (.bin .add I dh (.v 1)) (.v 3)
section
variable{f d g e N:Nat}{o:be}{h:HP}{O:ac}{L:cZ}{a m b s r mid e1:Nat}
structure HJ(O:ac)(a m b s:Nat)(mid e1:Nat):Prop where
 va:O.i.getD 0 0=a
 vm:O.i.getD 1 0=m
 vb:O.i.getD 2 0=b
 vs:O.i.getD 3 0=s
 Pm:dh.den O=mid
 ve:LA.den O=e1
def HJ.add{rv:RV}(H:HJ O a m b s mid e1):HJ (O.add (.r rv)) a m b s mid e1:=by
 have X:∀(x:Nat),IE.den (O.add (.r rv)) (.v x)=IE.den O (.v x):=λx=>rfl
 exact⟨H.va,H.vm,H.vb,H.vs,by rw[<-H.Pm];rfl,by rw[<-H.ve];rfl⟩
def CV(W:HJ O a m b s mid e1)(G:h.e=e){A y x:S}{V Q:am}(M:O.rv X=.mk n (R++(H++(V++Q))))(bq:X+1=Y O.r)(F:h.v=n)(D:h.aC=R++(bD o.lt (H++V)++Q))
  (d:Y R=mid)(hX:Y H=e1-mid)(hY:Y V=b-e1)(h1:mid<=e1)(h2:e1<=b)(hN:b-mid<N)(u:(R++(H++(V++Q))).length<=1099511627776)(t:∀z∈R++(H++(V++Q)),o.ok z=J)(C:fF o.lt H)(B:fF o.lt V)
  (q:A.rs[X+1]?=U (.own e))(p:y.rs[X]?=U (.own e))(l:x.rs[X]?=U (.own e)):
  T.hw h (.node (.cmp .lss dh LA) (.node (.cmp .lss LA (.v 2)) (.dw f g e (.cw (N+3) o [dh,LA,.v 2]) E (.v X) c (.out .normal A)) (.out .normal y)) (.out .normal x)) O L:=by
 have w:IE.den O (.v 2)=b:=W.vb;rw[vp];simp only[BE.den,fQ,W.Pm,W.ve,decide_eq_true_eq];refine rV (λk=> ?_) (λk=> ?_);rw[vp];simp only[BE.den,fQ,W.ve,w,decide_eq_true_eq];refine rV (λj=> ?_) (λj=> ?_);rw[AX];refine⟨R++(bD o.lt (H++V)++Q), ?_, ?_⟩;simp only[jE,aDt,aEK,W.Pm,W.ve,w,RE.rv,M,RV.lj];exact Xp (by omega) (by omega) (by omega) (by omega) (by omega) (by omega) u t C B;rw[AY];refine⟨.inl rfl,X+1,by rw[G];exact q, ?_⟩;have i:(O.rv X).val=n:=by rw[M];rfl
 rw[show(RE.v X).rv O=O.rv X from rfl,i,F,D];simp[ac.add,ac.rv,bq];rw[AY];refine⟨.inl rfl,X,by rw[G];exact p, ?_⟩;rw[M,F,D,Xq (.inr (aDI (by omega))) C B];simp;rw[AY];refine⟨.inl rfl,X,by rw[G];exact l, ?_⟩;rw[M,F,D,Xq (.inl (aDI (by omega))) C B];simp
def afN(W:HJ O a m b s mid e1){C B:T}{V Q:am}(M:O.rv X=.mk n (R++(H++(V++Q))))
  (k:Y R=a)(j:Y H=s-a)(i:Y V=mid-s)(d:a<=s)(h2:s<=mid)(hN:mid-a<N)(y:(R++(H++(V++Q))).length<=1099511627776)(x:∀z∈R++(H++(V++Q)),o.ok z=J)(G:fF o.lt H)(F:fF o.lt V)
  (w:T.hw h u (O.add (.r (.mk n (R++(bD o.lt (H++V)++Q))))) L)(t:O.rv X=.mk n (R++(bD o.lt (H++V)++Q))->T.hw h C O L)(q:O.rv X=.mk n (R++(bD o.lt (H++V)++Q))->T.hw h B O L):
  T.hw h (.node (.cmp .lss (.v 0) (.v 3)) (.node (.cmp .lss (.v 3) dh) (.dw f g e (.cw (N+3) o [.v 0,.v 3,dh]) E (.v X) c u) C) B) O L:=by
 have A:IE.den O (.v 0)=a:=W.va;have D:IE.den O (.v 3)=s:=W.vs;rw[vp];simp only[BE.den,fQ,A,D,decide_eq_true_eq];refine rV (λp=> ?_) (λp=> ?_);rw[vp];simp only[BE.den,fQ,W.Pm,D,decide_eq_true_eq];refine rV (λl=> ?_) (λl=> ?_);rw[AX];refine⟨R++(bD o.lt (H++V)++Q), ?_, ?_⟩;simp only[jE,aDt,aEK,W.Pm,A,D,RE.rv,M,RV.lj];exact Xp (by omega) (by omega) (by omega) (by omega) (by omega) (by omega) y x G F;simp only[RE.rv,M,RV.lg];exact w;refine t ?_;rw[M,Xq (.inr (aDI (by omega))) G F];simp;refine q ?_;rw[M,Xq (.inl (aDI (by omega))) G F];simp
def azA(W:HJ O a m b s mid e1){G F:T}{B V:am}(Q:O.rv X=.mk n (R++(H++(B++V))))
  (q:Y R=s)(p:Y H=m-s)(l:Y B=e1-m)(k:s<=m)(j:m<=e1)(C:(R++(H++(B++V))).length<=1099511627776)
  (z:T.hw h u (O.add (.r (.mk n (R++(B++(H++V)))))) L)(y:O.rv X=.mk n (R++(B++(H++V)))->T.hw h G O L)(x:O.rv X=.mk n (R++(B++(H++V)))->T.hw h F O L):
  T.hw h (.node (.cmp .lss (.v 3) (.v 1)) (.node (.cmp .lss (.v 1) LA) (.dw d g e (.cw 1 o [.v 3,.v 1,LA]) E (.v X) c u) G) F) O L:=by
 have M:IE.den O (.v 1)=m:=W.vm;have D:IE.den O (.v 3)=s:=W.vs;rw[vp];simp only[BE.den,fQ,M,D,decide_eq_true_eq];refine rV (λw=> ?_) (λw=> ?_);rw[vp];simp only[BE.den,fQ,W.ve,M,decide_eq_true_eq];refine rV (λt=> ?_) (λt=> ?_);rw[AX];refine⟨R++(B++(H++V)), ?_, ?_⟩;simp only[jE,aDt,aEK,W.ve,M,D,RE.rv,Q,RV.lj];exact azz (by omega) (by omega) (by omega) (by omega) (by omega) C;simp only[RE.rv,Q,RV.lg];exact z;refine y ?_;have:B=[]:=aDI (by omega);rw[Q,this];simp;refine x ?_;have:H=[]:=aDI (by omega);rw[Q,this];simp
end
section
variable{f d e g N:Nat}{o:be}{O:ac}{L:cZ}{a m b s mid e1:Nat}{K:kz}
def Xr{O:ac}{v:RV}(h:X=Y O.r):(O.add (.r v)).rv X=v:=by subst h;simp[ac.rv,ac.add]
def azB(a6:kW o.lt (λx=>o.ok x=J))(X:HJ O a m b s mid e1)(ag:Y O.r=2)(hc:O.rv 1=.mk n R)
  (h1:a<=s)(h2:s<=m)(h3:m<=e1)(D:e1<=b)(hb:b<=Y R)(an:s<=mid)(bd:mid+m=e1+s)(ap:mid-a<N)(y:b-mid<N)(hl:Y R<=1099511627776)(a3:∀z∈R,o.ok z=J)(sA:fF o.lt (aX R a m))(sB:fF o.lt (aX R m b))
  (q1:∀i j,a<=i->i<s->e1<=j->j<b->o.lt (R.getD j []) (R.getD i [])=E)(q2:∀i j,s<=i->i<m->m<=j->j<e1->o.lt (R.getD j []) (R.getD i [])=J)
  (a4:H=R.take a++(bD o.lt (aX R a b)++R.drop b)):T.hw ⟨K,g,o,e,n,H⟩ (Pg e g d f N o) O L:=by
 have a7:=azk a6 a3 h1 h2 h3 D hb sA sB q1 q2;have e0:R=R.take a++(aX R a s++(aX R s m++(aX R m e1++(aX R e1 b++R.drop b)))):=by
  have:=Ly R (show a<=b by omega);rw[oj R (show a<=s by omega) (show s<=b by omega),oj R h2 (show m<=b by omega),oj R h3 D] at this;simpa using this.symm
 have l1:(aX R a s).length=s-a:=pK R (by omega);have l2:(aX R s m).length=m-s:=pK R (by omega);have l3:(aX R m e1).length=e1-m:=pK R (by omega);have w:(aX R e1 b).length=b-e1:=pK R (by omega);have lP:(R.take a).length=a:=by simp;omega
 rw[oj R h1 h2] at sA;rw[oj R h3 D] at sB;have a0:fF o.lt (aX R a s):=(aDH.1 sA).1;have u:fF o.lt (aX R s m):=(aDH.1 sA).2.1;have a1:fF o.lt (aX R m e1):=(aDH.1 sB).1;have t:fF o.lt (aX R e1 b):=(aDH.1 sB).2.1;rw[a7] at a4;have a8:∀x,(x∈R.take a\/x∈aX R a s\/x∈aX R s m\/x∈aX R m e1\/x∈aX R e1 b\/x∈R.drop b)->o.ok x=true:=λx hx=>a3 x (by
  rcases hx with h|h|h|h|h|h;exact aEo h;exact su h;exact su h;exact su h;exact su h;exact aEj h)
 rw[e0] at hc hl;generalize R.take a=P at*;generalize aX R a s=V at*;generalize aX R s m=C at*;generalize aX R m e1=M at*;generalize aX R e1 b=A at*;generalize R.drop b=Q at*;have q:H=(P++bD o.lt (V++M))++(bD o.lt (C++A)++Q):=by rw[a4];simp
 have a9:∀x∈bD o.lt (V++M),x∈V\/x∈M:=λx hx=>by simpa using HB hx
 have a5:(bD o.lt (V++M)).length=mid-a:=by rw[nN];simp;omega
 have bf:Y P+(Y V+(Y C+(Y M+(Y A+Y Q))))<=1099511627776:=by simpa using hl
 have al:∀z∈P++(V++(M++(C++(A++Q)))),o.ok z=true:=λz hz=>a8 z (by
  simp only[aDo] at hz;rcases hz with h|h|h|h|h|h;exact .inl h;exact .inr (.inl h);exact .inr (.inr (.inr (.inl h)));exact .inr (.inr (.inl h));exact .inr (.inr (.inr (.inr (.inl h))));exact .inr (.inr (.inr (.inr (.inr h)))))
 have p:∀z∈(P++bD o.lt (V++M))++(C++(A++Q)),o.ok z=true:=λz hz=>al z (by
  simp only[aDo] at hz⊢;rcases hz with(h|h)|h|h|h;exact .inl h;rcases a9 z h with h|h;exact .inr (.inl h);exact .inr (.inr (.inl h));exact .inr (.inr (.inr (.inl h)));exact .inr (.inr (.inr (.inr (.inl h))));exact .inr (.inr (.inr (.inr (.inr h)))))
 have lU:(P++(V++(M++(C++(A++Q))))).length<=1099511627776:=by simp;omega
 have l:((P++bD o.lt (V++M))++(C++(A++Q))).length<=1099511627776:=by simp only[aDs,a5];omega
 have k:(P++bD o.lt (V++M)).length=mid:=by simp only[aDs,a5];omega
 have c:Y C=e1-mid:=by omega
 have bb:O.rv 1=.mk n ((P++V)++(C++(M++(A++Q)))):=by rw[hc];simp
 have a2:∀W:am,(P++V)++(M++W)=P++(V++(M++W)):=λW=>by simp
 have ab:∀W:am,P++(bD o.lt (V++M)++W)=(P++bD o.lt (V++M))++W:=λW=>by simp
 unfold Pg;refine azA X bb (by simp;omega) l2 l3 h2 h3 (by simp;omega) ?_ (λaf=> ?_) (λaf=> ?_);have af:=Xr (v:=.mk n ((P++V)++(M++(C++(A++Q))))) (show 2=Y O.r by omega);rw[a2] at af⊢;have G:=X.add (rv:=.mk n (P++(V++(M++(C++(A++Q))))));have F:(O.add (.r (.mk n (P++(V++(M++(C++(A++Q)))))))).r.length=3:=by simp[ac.add,ag]
 refine afN G af lP l1 (by omega) h1 an ap lU al a0 a1 ?_ (λB=> ?_) (λB=> ?_);refine CV G.add rfl ((Xr (show 3=_ from F.symm)).trans (by rw[ab])) (by simp[ac.add,ag]) rfl q k c w (by omega) D y l p u t rfl rfl rfl;refine CV G rfl (B.trans (by rw[ab])) (show 2+1=_ from F.symm) rfl q k c w (by omega) D y l p u t rfl rfl rfl;refine CV G rfl (B.trans (by rw[ab])) (show 2+1=_ from F.symm) rfl q k c w (by omega) D y l p u t rfl rfl rfl;rw[a2] at af;have G:=X;have F:=ag;refine afN G af lP l1 (by omega) h1 an ap lU al a0 a1 ?_ (λB=> ?_) (λB=> ?_);refine CV G.add rfl ((Xr (show 2=_ from F.symm)).trans (by rw[ab])) (by simp[ac.add,F]) rfl q k c w (by omega) D y l p u t rfl rfl rfl;refine CV G rfl (B.trans (by rw[ab])) (show 1+1=_ from F.symm) rfl q k c w (by omega) D y l p u t rfl rfl rfl;refine CV G rfl (B.trans (by rw[ab])) (show 1+1=_ from F.symm) rfl q k c w (by omega) D y l p u t rfl rfl rfl;rw[a2] at af;have G:=X;have F:=ag;refine afN G af lP l1 (by omega) h1 an ap lU al a0 a1 ?_ (λB=> ?_) (λB=> ?_);refine CV G.add rfl ((Xr (show 2=_ from F.symm)).trans (by rw[ab])) (by simp[ac.add,F]) rfl q k c w (by omega) D y l p u t rfl rfl rfl;refine CV G rfl (B.trans (by rw[ab])) (show 1+1=_ from F.symm) rfl q k c w (by omega) D y l p u t rfl rfl rfl;refine CV G rfl (B.trans (by rw[ab])) (show 1+1=_ from F.symm) rfl q k c w (by omega) D y l p u t rfl rfl rfl
end
end
section
attribute[local simp] IE.den BE.den RE.rv RE.den fQ ac.rv ac.ext ac.add SV.xv vp HG HH HI AX AY LE.rows mI jE
attribute[local congr] HF
def getD_some(h:X<Y R):R[X]?=U (R.getD X []):=by
 rw[aDf,aDe h];rfl
def Pn{i j:Nat}(h:i+j<=4398046511104):IntKind.i64.wrap (ay .shr .u64 (IntKind.u64.wrap (ay .add I (i:Int) (j:Int))) 1)=(((i+j)/2:Nat):Int):=by
 rw[zg h];exact azy h
def Po(h:X<Y R):aX R X (X+1)=[R.getD X []]:=by
 have e:R.getD X []=R[X]:=by rw[aDf,aDe h];rfl
 simp only[aX,aFe];rw[aEf h,e];rfl
def azC(A R:am)(y x:aF){j:Nat}(X:j=Y A):((A++(x::y::R)).set j y).set (j+1) x=A++(y::x::R):=by
 subst X;rw[aE6 _ _ (by omega),aFU,aE6 _ _ (by omega),aFe];rfl
def cg(X:am)(k:Nat):aF:=X.getD k []
def aqL(h:X<Y R):R.drop X=cg R X::R.drop (X+1):=by
 rw[aEf h,cg,aDf,aDe h];rfl
section
variable{K:kz}{e g:Nat}{o:be}{d:RE->IE->ai}
set_option maxHeartbeats 4000000 in
def azD (f:CS K d) (ab:kW o.lt (λx=>o.ok x=J)) {V:mC} {m b:Nat} (bt:Y R=X) (hn:X<=1099511627776) (B:∀x∈R,iF K x) (al:∀x∈R,o.ok x=J)
  (hm:m=v+1) (bx:m<b) (hb:b<=Y R) (sB:fF o.lt (aX R m b)) (a7:H=R.take v++(bD o.lt (aX R v b)++R.drop b)):
  T.hw ⟨K,g,o,e,.slice V X F,H⟩ (afI e g d) ⟨[(v:Int),m,b],[],[.mk (.slice V X F) R],[]⟩ []:=by
 subst hm;have P:v<Y R:=by omega
 have an:∀k,k<Y R->cg R k∈R:=λk Q=>aDx (getD_some Q)
 have A:∀k,k<Y R->iF K (cg R k):=λk Q=>B _ (an k Q)
 have N:∀k,k<Y R->o.ok (cg R k)=true:=λk Q=>al _ (an k Q)
 unfold afI;refine w8 (λL=>∃(i j:Nat),L=[.r (.mk (.slice V X F) R),.i i,.i j]/\v+1<=i/\i<=j/\j<=b/\(∀k,v+1<=k->k<i->o.lt (cg R k) (cg R v)=J)/\∀k,j<=k->k<b->o.lt (cg R k) (cg R v)=E) (λL=>match L with|[_,.i i,.i j]=>j.toNat-i.toNat|_=>0) ⟨v+1,b,rfl,by omega,by omega,by omega,by omega,by omega⟩ ?_;rintro _ ⟨i,j,rfl,ap,b0,u,a0,a1⟩;by_cases a8:i<j;have t:=Pn (i:=i) (j:=j) (by omega);have a9:i<=(i+j)/2:=by omega
 have bb:(i+j)/2<j:=by omega
 generalize hq:(i+j)/2=q at t a9 bb;simp[a8,t,lenOf];refine⟨by omega,by omega, ?_⟩;refine Xo f rfl (cg R q) (cg R v) ?_ ?_ (A q (by omega)) (A v P) (N q (by omega)) (N v P) (λc hc=> ?_);simp[t];exact getD_some (by omega);simp;exact getD_some P;simp[t];refine rV (λbd=> ?_) (λbf=> ?_);rw[CU (by omega)];refine⟨⟨q+1,j,rfl,by omega,by omega,u,λk G D=> ?_,a1⟩, ?_⟩;have C:=hc.1 bd;by_cases Q:k=q;subst Q;exact C;have hs:=Lz hb sB (i:=k) (j:=q) (by omega) (by omega) (by omega);cases h:o.lt (cg R k) (cg R v);have:=ab.nt _ _ _ (N q (by omega)) (N k (by omega)) (N v P) hs h;rw[C] at this;cases this;rfl;show(j:Int).toNat-((q+1:Nat):Int).toNat<j-i;omega;have C:o.lt (cg R q) (cg R v)=false:=by
  cases h:o.lt (cg R q) (cg R v);rfl;exact absurd (hc.2 h) bf
 refine⟨⟨i,q,rfl,by omega,by omega,by omega,a0,λk G D=> ?_⟩, ?_⟩;by_cases Q:k=q;subst Q;exact C;have hs:=Lz hb sB (i:=q) (j:=k) (by omega) (by omega) (by omega);exact ab.nt _ _ _ (N k (by omega)) (N q (by omega)) (N v P) hs C;show((q:Nat):Int).toNat-(i:Int).toNat<j-i;omega;have bg:i=j:=by omega
 subst bg;simp;have a2:bD o.lt (aX R v b)=aX R (v+1) i++cg R v::aX R i b:=by
  have e0:aX R v b=cg R v::(aX R (v+1) i++aX R i b):=by
   rw[<-oj R ap u,oj R (show v<=v+1 by omega) (show v+1<=b by omega)];have:aX R v (v+1)=[cg R v]:=Po P;rw[this];rfl
  rw[e0];refine azh ab (λz M=> ?_) (by rw[<-oj R ap u];exact sB) (λy hy=> ?_) (λy hy=> ?_);rw[<-e0] at M;exact al z (su M);obtain⟨k,k1,k2,_,rfl⟩:=E4 hy;exact a0 k k1 k2;obtain⟨k,k1,k2,_,rfl⟩:=E4 hy;exact a1 k k1 k2
 have bk:(R.take v).length=v:=by simp;omega
 refine w8 (λL=>∃(k:Nat)(W:am),L=[.r (.mk (.slice V X F) W),.i k]/\v<=k/\k+1<=i/\W=(R.take v++aX R (v+1) (k+1))++cg R v::R.drop (k+1)) (λL=>match L with|[_,.i k]=>i-k.toNat|_=>0) ⟨v,R,by simp,by omega,by omega, ?_⟩ ?_;have e1:aX R (v+1) (v+1)=[]:=by simp[aX]
 have:=Ly R (show v<=v+1 by omega);rw[Po P] at this;rw[e1,aEO];exact this.symm;rintro _ ⟨k,W,rfl,b1,b2,bI⟩;have a3:ay .sub I (i:Int) 1=((i-1:Nat):Int):=Xn (by omega) (by omega);have s:(R.take v++aX R (v+1) (k+1)).length=k:=by rw[aDs,bk,pK R (by omega)];omega
 by_cases Q:k<i-1;have hd:R.drop (k+1)=cg R (k+1)::R.drop (k+1+1):=by
  exact aqL (by omega)
 have iq:aX R (v+1) (k+1+1)=aX R (v+1) (k+1)++[cg R (k+1)]:=by
  rw[oj R (show v+1<=k+1 by omega) (show k+1<=k+1+1 by omega),Po (by omega)];rfl
 have p:=A v P;have l:=A (k+1) (by omega);have a4:∀z∈W,iF K z:=λz M=>by
  rw[bI] at M;simp only[aDo,aDp] at M;rcases M with(h|h)|h|h;exact B z (aEo h);exact B z (su h);subst h;exact p;exact B z (aEj h)
 rw[hd] at bI;generalize cg R v=x at p bI a2;generalize cg R (k+1)=y at l bI iq;have b3:Y W=X:=by
  rw[bI,aDs,s];simp;omega
 have gx:W[k]?=U x:=by rw[bI,aDk (by omega),s];simp
 have gy:W[k+1]?=U y:=by rw[bI,aDk (by omega),s];simp
 have c1:∀O:ac,O.r=[.mk (.slice V X F) R,.mk (.slice V X F) R,.mk (.slice V X F) W]->O.i=[(v:Int),((v+1:Nat):Int),b,i,i,k]->aEZ (SV.bN O) (d (.v 2) (.bin .add I (.v 5) (.c 1)))=y:=λO G D=>f.bN O _ _ y (by simp only[RE.rv,ac.rv,IE.den,G,D,aEP,aEy,RV.lj,CU (a:=k) (by omega)];exact gy) l
 have c2:∀(O:ac) rv,O.r=[.mk (.slice V X F) R,.mk (.slice V X F) R,.mk (.slice V X F) W,rv]->O.i=[(v:Int),((v+1:Nat):Int),b,i,i,k]->aEZ (SV.bN O) (d (.v 2) (.v 5))=x:=λO rv G D=>f.bN O _ _ x (by simp only[RE.rv,ac.rv,IE.den,G,D,aEP,aEy,RV.lj];exact gx) p
 have m1:(W.modify k λaf=>fo af 0 y)=W.set k y:=E6 a4 l;have m2:((W.set k y).modify (k+1) λaf=>fo af 0 x)=(W.set k y).set (k+1) x:=E6 (λz M=>by
  rcases aEc M with h|rfl;exact a4 z h;exact l) p
 have ag:(k:Int)<((i-1:Nat):Int):=by omega
 have a5:=CU (a:=k) (by omega);generalize hw:((k+1:Nat):Int)=w at a5;have bl:w.toNat=k+1:=by omega
 have a6:=azC (R.take v++aX R (v+1) (k+1)) (R.drop (k+1+1)) y x s.symm;rw[<-bI] at a6;simp[a3,ag,a5,lenOf];rw[c1 _ rfl rfl,c2 _ _ rfl rfl,bl,m1,m2,a6];refine⟨by omega,by omega,by omega,⟨k+1,_,by rw[hw],by omega,by omega, ?_⟩, ?_⟩;rw[iq];simp;show i-w.toNat<i-k;omega;have ag:¬(k:Int)<((i-1:Nat):Int):=by omega
 have bo:k+1=i:=by omega
 rw[bo] at bI;have hd:=Ly (R.drop 0) (show i<=i by omega);have br:R.drop i=aX R i b++R.drop b:=by
  have:=oj R u (show b<=b by omega);simp only[aX];have e:R.drop b=(R.drop i).drop (b-i):=by rw[aFa];congr 1;omega
  rw[e,aEI]
 have bs:W=H:=by
  rw[bI,a7,a2,br];simp
 simp[a3,ag];exact⟨2,rfl,by rw[bs];rfl⟩
set_option maxHeartbeats 4000000 in
def azE (f:CS K d) (ab:kW o.lt (λx=>o.ok x=J)) {V:mC} {m b:Nat} (bx:Y R=X) (hn:X<=1099511627776) (A:∀x∈R,iF K x) (a1:∀x∈R,o.ok x=J)
  (hm:b=m+1) (b0:v<m) (hb:b<=Y R) (sA:fF o.lt (aX R v m)) (a8:H=R.take v++(bD o.lt (aX R v b)++R.drop b)):
  T.hw ⟨K,g,o,e,.slice V X F,H⟩ (afJ e g d) ⟨[(v:Int),m,b],[],[.mk (.slice V X F) R],[]⟩ []:=by
 subst hm;have N:m<Y R:=by omega
 have a2:∀k,k<Y R->cg R k∈R:=λk P=>aDx (getD_some P)
 have u:∀k,k<Y R->iF K (cg R k):=λk P=>A _ (a2 k P)
 have M:∀k,k<Y R->o.ok (cg R k)=true:=λk P=>a1 _ (a2 k P)
 unfold afJ;refine w8 (λQ=>∃(i j:Nat),Q=[.r (.mk (.slice V X F) R),.i i,.i j]/\v<=i/\i<=j/\j<=m/\(∀k,v<=k->k<i->o.lt (cg R m) (cg R k)=E)/\∀k,j<=k->k<m->o.lt (cg R m) (cg R k)=J) (λQ=>match Q with|[_,.i i,.i j]=>j.toNat-i.toNat|_=>0) ⟨v,m,rfl,by omega,by omega,by omega,by omega,by omega⟩ ?_;rintro _ ⟨i,j,rfl,af,b1,ag,a3,a4⟩;by_cases a9:i<j;have t:=Pn (i:=i) (j:=j) (by omega);have bb:i<=(i+j)/2:=by omega
 have bd:(i+j)/2<j:=by omega
 generalize hq:(i+j)/2=q at t bb bd;simp[a9,t,lenOf];refine⟨by omega,by omega, ?_⟩;refine Xo f rfl (cg R m) (cg R q) ?_ ?_ (u m N) (u q (by omega)) (M m N) (M q (by omega)) (λc hc=> ?_);simp;exact getD_some N;simp[t];exact getD_some (by omega);simp[t];refine rV (λb2=> ?_) (λb3=> ?_);rw[CU (by omega)];have D:o.lt (cg R m) (cg R q)=false:=by
  cases h:o.lt (cg R m) (cg R q);rfl;have:=hc.2 h;omega
 refine⟨⟨q+1,j,rfl,by omega,by omega,ag,λk C G=> ?_,a4⟩, ?_⟩;by_cases P:k=q;subst P;exact D;have hs:=Lz (show m<=Y R by omega) sA (i:=k) (j:=q) (by omega) (by omega) (by omega);exact ab.nt _ _ _ (M m N) (M q (by omega)) (M k (by omega)) D hs;show(j:Int).toNat-((q+1:Nat):Int).toNat<j-i;omega;have D:o.lt (cg R m) (cg R q)=true:=hc.1 (by omega);refine⟨⟨i,q,rfl,by omega,by omega,by omega,a3,λk C G=> ?_⟩, ?_⟩;by_cases P:k=q;subst P;exact D;have hs:=Lz (show m<=Y R by omega) sA (i:=q) (j:=k) (by omega) (by omega) (by omega);cases h:o.lt (cg R m) (cg R k);have:=ab.nt _ _ _ (M m N) (M k (by omega)) (M q (by omega)) h hs;rw[D] at this;cases this;rfl;show((q:Nat):Int).toNat-(i:Int).toNat<j-i;omega;have bf:i=j:=by omega
 subst bf;simp;have bg:bD o.lt (aX R v (m+1))=aX R v i++cg R m::aX R i m:=by
  have e0:aX R v (m+1)=aX R v i++aX R i m++[cg R m]:=by
   rw[<-oj R af ag,oj R (show v<=m by omega) (show m<=m+1 by omega),Po N];rfl
  rw[e0];refine azi ab (λz L=> ?_) (by rw[<-oj R af ag];exact sA) (λy hy=> ?_) (λy hy=> ?_);rw[<-e0] at L;exact a1 z (su L);obtain⟨k,k1,k2,_,rfl⟩:=E4 hy;exact a3 k k1 k2;obtain⟨k,k1,k2,_,rfl⟩:=E4 hy;exact a4 k k1 k2
 refine w8 (λQ=>∃(k:Nat)(W:am),Q=[.r (.mk (.slice V X F) W),.i k]/\i<=k/\k<=m/\W=R.take k++cg R m::(aX R k m++R.drop (m+1))) (λQ=>match Q with|[_,.i k]=>k.toNat|_=>0) ⟨m,R,by simp,by omega,by omega, ?_⟩ ?_;have e1:aX R m m=[]:=by simp[aX]
 rw[e1,aDl,<-aqL N,aEI];rintro _ ⟨k,W,rfl,b4,b5,bI⟩;by_cases P:i<k;obtain⟨q,rfl⟩:∃q,k=q+1:=⟨k-1,by omega⟩;have al:ay .sub I (((q+1:Nat)):Int) 1=(q:Int):=by rw[Xn (by omega) (by omega)];omega
 have s:(R.take q).length=q:=by simp;omega
 have bk:R.take (q+1)=R.take q++[cg R q]:=by
  rw[aFJ,getD_some (show q<Y R by omega)];rfl
 have iq:aX R q m=cg R q::aX R (q+1) m:=by
  rw[oj R (show q<=q+1 by omega) (show q+1<=m by omega),Po (by omega)];rfl
 have an:=u m N;have p:=u q (by omega);have B:W=R.take q++(cg R q::cg R m::(aX R (q+1) m++R.drop (m+1))):=by rw[bI,bk];simp
 have a5:∀z∈W,iF K z:=λz L=>by
  rw[B] at L;simp only[aDo,aDp] at L;rcases L with h|h|h|h|h;exact A z (aEo h);subst h;exact p;subst h;exact an;exact A z (su h);exact A z (aEj h)
 have a6:=aqJ (R.take q) (aX R (q+1) m++R.drop (m+1)) (cg R q) (cg R m) s.symm;rw[<-B] at a6;have b6:Y W=X:=by
  rw[B,aDs,s];simp only[aD4,aDs,pK R (show m<=Y R by omega),aEJ];omega
 have gx:W[q+1]?=U (cg R m):=by rw[B,aDk (by omega),s];simp
 have gy:W[q]?=U (cg R q):=by rw[B,aDk (by omega),s];simp
 have a7:(i:Int)<((q+1:Nat):Int):=by omega
 have bl:((q+1:Nat):Int)<X:=by omega
 have ap:((q+1:Nat):Int).toNat=q+1:=rfl;have bo:(0:Int)<=((q+1:Nat):Int):=by omega
 have br:∀l,l=R.take q++cg R m::(aX R q m++R.drop (m+1))->HE (U ⟨1,λQ=>∃(k:Nat)(W:am),Q=[.r (.mk (.slice V X F) W),.i k]/\i<=k/\k<=m/\W=R.take k++cg R m::(aX R k m++R.drop (m+1)),λQ=>match Q with|[_,.i k]=>k.toNat|_=>0,q+1⟩) [.r (.mk (.slice V X F) l),.i q]:=λl G=>⟨⟨q,l,rfl,by omega,by omega,G⟩,show(q:Int).toNat<q+1 by omega⟩
 generalize hw:((q+1:Nat):Int)=w at al a7 bl ap bo⊢;have c1:∀O:ac,O.r=[.mk (.slice V X F) R,.mk (.slice V X F) R,.mk (.slice V X F) W]->O.i=[(v:Int),m,((m+1:Nat):Int),i,i,w]->aEZ (SV.bN O) (d (.v 2) (.bin .sub I (.v 5) (.c 1)))=cg R q:=λO C G=>f.bN O _ _ _ (by simp only[RE.rv,ac.rv,IE.den,C,G,aEP,aEy,RV.lj,al];exact gy) p
 have c2:∀(O:ac) rv,O.r=[.mk (.slice V X F) R,.mk (.slice V X F) R,.mk (.slice V X F) W,rv]->O.i=[(v:Int),m,((m+1:Nat):Int),i,i,w]->aEZ (SV.bN O) (d (.v 2) (.v 5))=cg R m:=λO rv C G=>f.bN O _ _ _ (by simp only[RE.rv,ac.rv,IE.den,C,G,aEP,aEy,RV.lj,ap];exact gx) an
 have m1:(W.modify (q+1) λa0=>fo a0 0 (cg R q))=W.set (q+1) (cg R q):=E6 a5 p;have m2:((W.set (q+1) (cg R q)).modify q λa0=>fo a0 0 (cg R m))=(W.set (q+1) (cg R q)).set q (cg R m):=E6 (λz L=>by
  rcases aEc L with h|rfl;exact a5 z h;exact p) an
 simp[al,a7,lenOf];rw[c1 _ rfl rfl,c2 _ _ rfl rfl,ap,m1,m2,a6];refine⟨by omega,by omega,by omega, ?_⟩;exact br _ (by rw[iq];simp);have bs:k=i:=by omega
 subst bs;have bt:W=H:=by
  have ht:R.take k=R.take v++aX R v k:=by
   have e1:=Ly R af;have e2:(R.take v++aX R v k).length=k:=by rw[aDs,pK R (by omega)];simp;omega
   calc R.take k=(R.take v++aX R v k++R.drop k).take k:=by rw[aD5,e1]
    _=_:=by rw[aFo (by omega),aEp (by omega)]
  rw[bI,a8,bg,ht];simp
 simp;exact⟨2,rfl,by rw[bt];rfl⟩
end
end
section
attribute[local simp] IE.den BE.den RE.rv RE.den fQ ac.rv ac.ext ac.add SV.xv vp HG HH HI AX AY LE.rows mI jE
attribute[local congr] HF
section
variable{K:kz}{e g f l N:Nat}{o:be}{d:RE->IE->ai}
set_option maxHeartbeats 4000000 in
def aqM (a3:CS K d) (Q:kW o.lt (λx=>o.ok x=J)) {G:mC} {m b lo hi:Nat} (bf:Y R=X) (hn:X<=1099511627776) (hT:∀x∈R,iF K x) (af:∀x∈R,o.ok x=J)
  (bg:v<m) (bk:m<b) (hb:b<=Y R) (hN:b-v<N+1) (bl:2<=b-v) (sA:fF o.lt (aX R v m)) (sB:fF o.lt (aX R m b)) (a4:H=R.take v++(bD o.lt (aX R v b)++R.drop b))
  (l1:v<=lo) (l2:lo<=hi) (l3:hi<=m) (l4:hi<=(v+b)/2) (l5:(v+b)/2+m<=lo+b) (l6:lo=v\/lo+b=(v+b)/2+m) (l7:hi=m\/hi=(v+b)/2)
  {ks:aR} (a5:t.map (SV.xv ⟨[(v:Int),m,b],[],[.mk (.slice G X F) R],[]⟩)=[.r (.mk (.slice G X F) R),.i lo,.i hi]):
  T.hw ⟨K,g,o,e,.slice G X F,H⟩ (.loop 0 ks t (.node (.cmp .lss (.v 3) (.v 4)) (Xk g d) (Pg e g f l N o))) ⟨[(v:Int),m,b],[],[.mk (.slice G X F) R],[]⟩ []:=by
 have ag:∀k,k<Y R->cg R k∈R:=λk D=>aDx (getD_some D)
 have al:∀k,k<Y R->iF K (cg R k):=λk D=>hT _ (ag k D)
 have W:∀k,k<Y R->o.ok (cg R k)=true:=λk D=>af _ (ag k D)
 have y:=Pn (i:=v) (j:=b) (by omega);have bo:v<(v+b)/2/\(v+b)/2<b:=by omega
 generalize br:(v+b)/2=V at*;have w:∀i j,v<=i->i<=j->j<m->o.lt (cg R j) (cg R i)=false:=λi j P C B=>by
  by_cases h:i=j;subst h;exact Q.Xc _ (W i (by omega));exact Lz (show m<=Y R by omega) sA P (by omega) B
 have u:∀i j,m<=i->i<=j->j<b->o.lt (cg R j) (cg R i)=false:=λi j P C B=>by
  by_cases h:i=j;subst h;exact Q.Xc _ (W i (by omega));exact Lz hb sB P (by omega) B
 refine w8 (λxs=>∃(s r:Nat),xs=[.r (.mk (.slice G X F) R),.i s,.i r]/\lo<=s/\s<=r/\r<=hi/\(∀c,lo<=c->c<s->o.lt (cg R (V+m-1-c)) (cg R c)=E)/\∀c,r<=c->c<hi->o.lt (cg R (V+m-1-c)) (cg R c)=J) (λxs=>match xs with|[_,.i i,.i j]=>j.toNat-i.toNat|_=>0) ⟨lo,hi,a5,by omega,l2,by omega,by omega,by omega⟩ ?_;rintro _ ⟨s,r,rfl,bs,bt,a6,an,ap⟩;by_cases a7:s<r;have A:=Pn (i:=s) (j:=r) (by omega);have a8:s<=(s+r)/2:=by omega
 have a9:(s+r)/2<r:=by omega
 generalize hq:(s+r)/2=q at A a8 a9;have a0:=zg (a:=V) (b:=m) (by omega);have a1:=Xn (a:=V+m) (by omega) (by omega);have a2:=xe (a:=V+m-1) (b:=q) (by omega) (by omega);unfold Xk;simp[a7,A,lenOf,y];rw[a0,a1,a2];refine⟨by omega,by omega, ?_⟩;refine Xo a3 rfl (cg R (V+m-1-q)) (cg R q) ?_ ?_ (al _ (by omega)) (al q (by omega)) (W _ (by omega)) (W q (by omega)) (λc hc=> ?_);simp[A,y];rw[a0,a1,a2];exact getD_some (by omega);simp[A];exact getD_some (by omega);simp[A];refine rV (λbx=> ?_) (λb0=> ?_);rw[CU (by omega)];have ab:o.lt (cg R (V+m-1-q)) (cg R q)=false:=by
  cases h:o.lt (cg R (V+m-1-q)) (cg R q);rfl;have:=hc.2 h;omega
 refine⟨⟨q+1,r,rfl,by omega,by omega,a6,λk P C=> ?_,ap⟩, ?_⟩;have O:=w k q (by omega) (by omega) (by omega);have M:=u (V+m-1-q) (V+m-1-k) (by omega) (by omega) (by omega);have L:=Q.nt _ _ _ (W _ (by omega)) (W _ (by omega)) (W q (by omega)) M ab;exact Q.nt _ _ _ (W _ (by omega)) (W q (by omega)) (W k (by omega)) L O;show(r:Int).toNat-((q+1:Nat):Int).toNat<r-s;omega;have ab:o.lt (cg R (V+m-1-q)) (cg R q)=true:=hc.1 (by omega);refine⟨⟨s,q,rfl,by omega,by omega,by omega,an,λk P C=> ?_⟩, ?_⟩;cases h:o.lt (cg R (V+m-1-k)) (cg R k);have O:=w q k (by omega) (by omega) (by omega);have M:=u (V+m-1-k) (V+m-1-q) (by omega) (by omega) (by omega);have L:=Q.nt _ _ _ (W _ (by omega)) (W _ (by omega)) (W k (by omega)) M h;have z:=Q.nt _ _ _ (W _ (by omega)) (W k (by omega)) (W q (by omega)) L O;rw[ab] at z;cases z;rfl;show((q:Nat):Int).toNat-(s:Int).toNat<r-s;omega;have bb:s=r:=by omega
 subst bb;simp;refine azB Q (a:=v) (m:=m) (b:=b) (s:=s) (mid:=V) (e1:=V+m-s) ⟨rfl,rfl,rfl,rfl, ?_, ?_⟩ rfl rfl (by omega) (by omega) (by omega) (by omega) hb (by omega) (by omega) (by omega) (by omega) (by omega) af sA sB (λi j P C B h4=> ?_) (λi j P C B h4=> ?_) a4;simp[y];simp[y];rw[zg (by omega),xe (by omega) (by omega)];have bd:lo<s:=by
  rcases l6 with h|h<;>omega
 have p:=an (s-1) (by omega) (by omega);rw[show V+m-1-(s-1)=V+m-s by omega] at p;have O:=w i (s-1) (by omega) (by omega) (by omega);have M:=u (V+m-s) j (by omega) (by omega) (by omega);have L:=Q.nt _ _ _ (W j (by omega)) (W _ (by omega)) (W (s-1) (by omega)) M p;exact Q.nt _ _ _ (W j (by omega)) (W (s-1) (by omega)) (W i (by omega)) L O;have bd:s<hi:=by
  rcases l7 with h|h<;>omega
 have p:=ap s (by omega) (by omega);cases h:o.lt (cg R j) (cg R i);have O:=w s i (by omega) (by omega) (by omega);have M:=u j (V+m-1-s) (by omega) (by omega) (by omega);have L:=Q.nt _ _ _ (W _ (by omega)) (W j (by omega)) (W i (by omega)) M h;have z:=Q.nt _ _ _ (W _ (by omega)) (W i (by omega)) (W s (by omega)) L O;rw[p] at z;cases z;exact h
def azF{a m b:Int}:lJ (X+4) A [a,m,b] R=if decide (0<=a)&&decide (a<m)&&decide (m<b)&&decide (b<=Y R)&&decide (b-a<((X+1:Nat):Int))&&R.all A.ok&&vK A.lt (aX R a.toNat m.toNat)&&vK A.lt (aX R m.toNat b.toNat) then U (R.take a.toNat++(bD A.lt (aX R a.toNat b.toNat)++R.drop b.toNat)) else none:=rfl
set_option maxHeartbeats 4000000 in
def aqN (W:CS K d) (V:kW o.lt (λx=>o.ok x=J)):Pf K e g o (N+4) 3 (Xl e g f l N o d):=by
 rintro p _ B aC h A z ⟨y,n,w,rfl,R,Q⟩ P v D u;obtain⟨a,m,b,rfl⟩:=AZ v;obtain⟨_,X⟩:=zM D;clear D;rw[azF] at X;split at X;rename_i C;simp only[aDc,decide_eq_true_eq,aDr,aqs] at C;obtain⟨⟨⟨⟨⟨⟨⟨t,c⟩,ab⟩,gC⟩,af⟩,O⟩,M⟩,L⟩:=C;obtain⟨a,rfl⟩:=zh t;obtain⟨m,rfl⟩:=zh (a:=m) (by omega);obtain⟨b,rfl⟩:=zh (a:=b) (by omega);simp only[aDh,aEa] at X M L;have H:b<=Y B:=by omega
 refine w7 ⟨K,g,o,e,.slice y n w,aC⟩ (A▸z) u _ _ _ ?_;unfold Xl;have F:=Pn (i:=a) (j:=b) (by omega);obtain⟨G,s⟩:∃G,G=(a+b)/2:=⟨_,rfl⟩;rw[<-s] at F;simp[xe (a:=m) (b:=a) (by omega) (by omega),xe (a:=b) (b:=m) (by omega) (by omega),F];refine rV (λr=> ?_) (λr=>rV (λq=> ?_) (λq=>rV (λk=> ?_) (λk=> ?_)));exact azD W V R Q P O (by omega) (by omega) H L X.symm;exact azE W V R Q P O (by omega) (by omega) H M X.symm;refine aqM W V R Q P O (lo:=G+m-b) (hi:=G) (by omega) (by omega) H (by omega) (by omega) M L X.symm (by omega) (by omega) (by omega) (by omega) (by omega) (by omega) (by omega) ?_;simp[F];rw[zg (by omega),xe (by omega) (by omega)];refine aqM W V R Q P O (lo:=a) (hi:=m) (by omega) (by omega) H (by omega) (by omega) M L X.symm (by omega) (by omega) (by omega) (by omega) (by omega) (by omega) (by omega) ?_;simp;cases X
end
end
section
attribute[local simp] IE.den BE.den RE.rv RE.den fQ ac.rv ac.ext ac.add SV.xv vp HG HH HI AX AY LE.rows mI jE
attribute[local congr] HF
section
variable{lt:aF->aF->Bool}
inductive jR(lt:List RV->List RV->Bool)(s:Nat):List (List RV)->List (List RV)->Prop
 |nil:jR lt s [] []
 |last (X:List (List RV)):1<=Y X->Y X<=s->jR lt s X (bD lt X)
 |cons (X R R':List (List RV)):Y X=s->jR lt s R R'->jR lt s (X++R) (bD lt X++R')
inductive vq(lt:List RV->List RV->Bool)(s:Nat):List (List RV)->List (List RV)->Prop
 |nil:vq lt s [] []
 |snoc (A A' X:List (List RV)):Y X=s->vq lt s A A'->vq lt s (A++X) (A'++bD lt X)
def vq.iG(h:vq lt X R H):∀{W Q:am},jR lt X W Q->jR lt X (R++W) (H++Q):=by
 induction h with
 |nil=>intro W Q P;exact P
 |snoc R H V O _ N=>
  intro W Q P;have:=N (.cons V W Q O P);simpa using this
def vq.len(h:vq lt X R H):Y H=Y R:=by
 induction h with
 |nil=>rfl
 |snoc R H W Q _ V=>simp[V,nN]
def jR.len(h:jR lt X R H):Y H=Y R:=by
 induction h with
 |nil=>rfl
 |last W _ _=>simp[nN]
 |cons W V P O _ Q=>simp[Q,nN]
def vq.mem(h:vq lt X R H):∀x∈H,x∈R:=by
 induction h with
 |nil=>simp
 |snoc R H W V _ Q=>
  intro x V;rcases aDo.1 V with h|h;simp[Q x h];simp[HB h]
def jR.mem(h:jR lt X R H):∀x∈H,x∈R:=by
 induction h with
 |nil=>simp
 |last W _ _=>intro x Q;exact HB Q
 |cons W V O Q _ P=>
  intro x Q;rcases aDo.1 Q with h|h;simp[HB h];simp[P x h]
def jR.two(F:1<=X)(h:jR lt X R H)(O:2*X<=Y R):∃W V Q P,R=W++(V++Q)/\H=bD lt W++(bD lt V++P)/\Y W=X/\Y V=X/\jR lt X Q P:=by
 cases h with
 |nil=>simp at O;omega
 |last _ M L=>omega
 |cons W R H N h=>
  simp only[aDs] at O;cases h with
  |nil=>simp at O;omega
  |last _ M L=>exact⟨W,R,[],[],by simp,by simp,N,by omega,.nil⟩
  |cons V Q P G h=>exact⟨W,V,Q,P,rfl,rfl,N,G,h⟩
def jR.one(h:jR lt X R H)(P:X<Y R)(O:Y R<2*X):∃W V,R=W++V/\H=bD lt W++bD lt V/\Y W=X:=by
 cases h with
 |nil=>simp at P
 |last _ P O=>omega
 |cons W R H N h=>
  simp only[aDs] at P O;cases h with
  |nil=>simp at P;omega
  |last _ P O=>exact⟨W,R,rfl,rfl,N⟩
  |cons V Q M L h=>simp only[aDs] at O;omega
def jR.short(h:jR lt X R H)(P:Y R<=X):H=bD lt R:=by
 cases h with
 |nil=>rfl
 |last _ N M=>rfl
 |cons W R H L h=>
  simp only[aDs] at P;have V:R=[]:=aDI (by omega);have Q:=h.len;rw[V] at Q;have O:H=[]:=aDI (by simpa using Q);rw[V,O];simp
def jR.afO(W:Y R<=X):jR lt X R (bD lt R):=by
 cases R with
 |nil=>exact .nil
 |cons x r=>exact .last _ (by simp) W
end
def aqO{o:be}{P X Q:am}{a b:Int}(W:a=Y P)(V:b=Y P+Y X)(R:(P++(X++Q)).length<=1099511627776)(O:∀z∈P++(X++Q),o.ok z=J):
  nL 2 o [a,b] (P++(X++Q))=U (P++(bD o.lt X++Q)):=by
 subst W;subst V;unfold nL;rw[if_pos R];simp only[lJ];have N:((Y P:Int)).toNat=Y P:=rfl;have M:((Y P:Int)+Y X).toNat=Y P+Y X:=by omega
 rw[N,M];have L:(P++(X++Q)).take (Y P)=P:=by simp
 have H:aX (P++(X++Q)) (Y P) (Y P+Y X)=X:=Pj P X _;have G:(P++(X++Q)).drop (Y P+Y X)=Q:=by
  have:P++(X++Q)=(P++X)++Q:=by simp
  rw[this,aFC (by simp)]
 rw[L,H,G,if_pos];simp only[aDc,decide_eq_true_eq,aDr,aDs];exact⟨⟨⟨by omega,by omega⟩,by omega⟩,O⟩
section
variable{K:kz}{e g l f:Nat}{o:be}
set_option maxHeartbeats 4000000 in
def aqP (j:kW o.lt (λx=>o.ok x=J)):Xg K e g o (λns H=>if ns=[]/\H.length<X then fU o J H else Z) 0 (Xm e g l f X o):=by
 rintro p _ H aC ns hP bg ⟨D,n,C,rfl,a8,hn⟩ hT hN B bk;simp only at B;split at B;rename_i G;obtain⟨rfl,b2⟩:=G;have b3:=YV B;have bl:(∀x∈H,o.ok x=J)/\aC=bD o.lt H:=by
  cases o with
  |cw k o zs=>simp[fU] at B
  |_=>
   simp only[fU] at B;split at B;rename_i hq;simp only[aDc,aDr] at hq;exact⟨hq.2.1,(aDQ B).symm⟩;cases B
 obtain⟨an,bo⟩:=bl;clear B;refine w7 ⟨K,g,o,e,.slice D n C,aC⟩ (hP▸bg) bk _ _ _ ?_;unfold Xm;refine w8 (λM=>∃(A O R:am),M=[.r (.mk (.slice D n C) (O++R)),.i ((A.length+20:Nat):Int),.i A.length]/\H=A++R/\vq o.lt 20 A O) (λM=>match M with|[_,_,.i a]=>n-a.toNat|_=>0) ⟨[],[],H,by simp,rfl,.nil⟩ ?_;rintro _ ⟨A,O,R,rfl,F,y⟩;have br:=y.len;have ap:A.length+R.length=n:=by rw[<-a8,F];simp
 have d:∀z∈O++R,o.ok z=true:=λz L=>an z (by
  rw[F];rcases aDo.1 L with h|h;simp[y.mem z h];simp[h])
 by_cases bs:A.length+20<=n;obtain⟨W,c,rfl,q⟩:∃W c,R=W++c/\W.length=20:=⟨R.take 20,R.drop 20,(aEI _ _).symm,by simp;omega⟩;have dU:=aqO (o:=o) (P:=O) (X:=W) (Q:=c) (a:=A.length) (b:=((A.length+20:Nat):Int)) (by omega) (by omega) (by simp at ap⊢;omega) d;have G:((A.length+20:Nat):Int)<=n:=by omega
 have a0:=zg (a:=A.length+20) (b:=20) (by omega);have ab:HE (U ⟨0,λM=>∃(A O R:am),M=[.r (.mk (.slice D n C) (O++R)),.i ((A.length+20:Nat):Int),.i A.length]/\H=A++R/\vq o.lt 20 A O,λM=>match M with|[_,_,.i a]=>n-a.toNat|_=>0,n-A.length⟩) [.r (.mk (.slice D n C) (O++(bD o.lt W++c))),.i (ay .add I ((A.length+20:Nat):Int) 20),.i ((A.length+20:Nat):Int)]:=by
  refine⟨⟨A++W,O++bD o.lt W,c, ?_,by rw[F];simp,.snoc A O W q y⟩, ?_⟩;rw[show((20:Int))=((20:Nat):Int) from rfl,a0];simp[q];show n-((A.length+20:Nat):Int).toNat<n-A.length;omega
 generalize L:((A.length+20:Nat):Int)=z at dU G ab⊢;simp[lenOf,G];exact⟨_,dU,ab⟩;have G:¬((A.length+20:Nat):Int)<=n:=by omega
 have dU:=aqO (o:=o) (P:=O) (X:=R) (Q:=[]) (a:=A.length) (b:=n) (by omega) (by omega) (by simp;omega) (by simpa using d);simp only[aEO] at dU;generalize L:((A.length+20:Nat):Int)=z at G⊢;have hB:jR o.lt 20 H (O++bD o.lt R):=by rw[F];exact y.iG (.afO (by omega))
 simp[lenOf,G];refine⟨_,dU, ?_⟩;clear dU;generalize b4:O++bD o.lt R=bt at hB⊢;have b5:∀{v:am}{s:Nat},jR o.lt s H v->∀z∈v,o.ok z=true:=λh z L=>an z (h.mem z L)
 refine w8 (λM=>∃(s:Nat)(v:am),M=[.r (.mk (.slice D n C) v),.i s]/\20<=s/\s<=2*1099511627776/\jR o.lt s H v) (λM=>match M with|[_,.i s]=>4398046511104-s.toNat|_=>0) ⟨20,bt,rfl,by omega,by omega,hB⟩ ?_;rintro _ ⟨s,v,rfl,b6,b7,a9⟩;by_cases bb:s<n;have a3:ay .mul I 2 (s:Int)=((2*s:Nat):Int):=by simp only[ay];rw[Ph (by omega) (by omega)];omega
 have a4:ay .mul I (s:Int) 2=((2*s:Nat):Int):=by simp only[ay];rw[Ph (by omega) (by omega)];omega
 have a5:∀a1,jR o.lt (2*s) H a1->HE (U ⟨1,λM=>∃(s:Nat)(v:am),M=[.r (.mk (.slice D n C) v),.i s]/\20<=s/\s<=2*1099511627776/\jR o.lt s H v,λM=>match M with|[_,.i s]=>4398046511104-s.toNat|_=>0,4398046511104-s⟩) [.r (.mk (.slice D n C) a1),.i ((2*s:Nat):Int)]:=λa1 h'=>⟨⟨2*s,a1,rfl,by omega,by omega,h'⟩,show 4398046511104-((2*s:Nat):Int).toNat<4398046511104-s by omega⟩
 generalize bd:((2*s:Nat):Int)=w at a3 a4 a5;simp[bb,lenOf];refine w8 (λM=>∃(A O R u:am),M=[.r (.mk (.slice D n C) (O++u)),.i ((A.length+2*s:Nat):Int),.i A.length]/\H=A++R/\vq o.lt (2*s) A O/\jR o.lt s R u) (λM=>match M with|[_,_,.i a]=>n-a.toNat|_=>0) ⟨[],[],H,v,by simp[a3,<-bd],rfl,.nil,a9⟩ ?_;rintro _ ⟨A,O,R,u,rfl,F,y,hR⟩;have br:=y.len;have bf:=hR.len;have ap:A.length+R.length=n:=by rw[<-a8,F];simp
 have d:∀z∈O++u,o.ok z=true:=λz L=>an z (by
  rw[F];rcases aDo.1 L with h|h;simp[y.mem z h];simp[hR.mem z h])
 have a2:∀z∈R,o.ok z=true:=λz L=>an z (by rw[F];simp[L])
 have has:=zg (a:=A.length) (b:=s) (by omega);by_cases bs:A.length+2*s<=n;obtain⟨W,V,Q,Q',rfl,rfl,q,hy,hq⟩:=hR.two (by omega) (by omega);have bx:(bD o.lt W).length=s:=by rw[nN,q]
 have b0:(bD o.lt V).length=s:=by rw[nN,hy]
 have af:∀z∈W,o.ok z=true:=λz L=>a2 z (by simp[L])
 have ag:∀z∈V,o.ok z=true:=λz L=>a2 z (by simp[L])
 have t:=Xp (o:=o) (N:=X) (P:=O) (X:=bD o.lt W) (Y:=bD o.lt V) (Q:=Q') (a:=A.length) (m:=((A.length+s:Nat):Int)) (b:=((A.length+2*s:Nat):Int)) (by omega) (by omega) (by omega) (by omega) (by omega) (by omega) (by simp only[aDs] at bf ap⊢;omega) d (HA j af) (HA j ag);rw[aqo j af ag] at t;have G:((A.length+2*s:Nat):Int)<=n:=by omega
 have a0:=zg (a:=A.length+2*s) (b:=2*s) (by omega);rw[bd] at a0;have ab:HE (U ⟨2,λM=>∃(A O R u:am),M=[.r (.mk (.slice D n C) (O++u)),.i ((A.length+2*s:Nat):Int),.i A.length]/\H=A++R/\vq o.lt (2*s) A O/\jR o.lt s R u,λM=>match M with|[_,_,.i a]=>n-a.toNat|_=>0,n-A.length⟩) [.r (.mk (.slice D n C) (O++(bD o.lt (W++V)++Q'))),.i (ay .add I ((A.length+2*s:Nat):Int) w),.i ((A.length+2*s:Nat):Int)]:=by
  refine⟨⟨A++(W++V),O++bD o.lt (W++V),Q,Q', ?_,by rw[F];simp,.snoc A O (W++V) (by simp;omega) y,hq⟩, ?_⟩;rw[a0];simp[q,hy];omega;show n-((A.length+2*s:Nat):Int).toNat<n-A.length;omega
 generalize L:((A.length+2*s:Nat):Int)=z at t G ab⊢;simp[lenOf,G,a3,has];exact⟨_,by simpa using t,ab⟩;have G:¬((A.length+2*s:Nat):Int)<=n:=by omega
 generalize L:((A.length+2*s:Nat):Int)=z at G⊢;by_cases b8:A.length+s<n;obtain⟨W,V,rfl,rfl,q⟩:=hR.one (by omega) (by omega);simp only[aDs] at ap bf;have bx:(bD o.lt W).length=s:=by rw[nN,q]
 have b0:(bD o.lt V).length=V.length:=nN;have af:∀z∈W,o.ok z=true:=λz L=>a2 z (by simp[L])
 have ag:∀z∈V,o.ok z=true:=λz L=>a2 z (by simp[L])
 have t:=Xp (o:=o) (N:=X) (P:=O) (X:=bD o.lt W) (Y:=bD o.lt V) (Q:=[]) (a:=A.length) (m:=((A.length+s:Nat):Int)) (b:=n) (by omega) (by omega) (by omega) (by omega) (by omega) (by omega) (by simp only[aDs,aFm];omega) (by simpa using d) (HA j af) (HA j ag);rw[aqo j af ag] at t;simp only[aEO] at t;have al:((A.length+s:Nat):Int)<n:=by omega
 have a6:jR o.lt (2*s) H (O++bD o.lt (W++V)):=by rw[F];exact y.iG (.afO (by simp;omega))
 generalize b1:((A.length+s:Nat):Int)=z3 at has t al;simp[lenOf,G,has,al,a4];exact⟨_,t,a5 _ a6⟩;have al:¬((A.length+s:Nat):Int)<n:=by omega
 have a7:=hR.short (by omega);have a6:jR o.lt (2*s) H (O++u):=by rw[F,a7];exact y.iG (.afO (by omega))
 generalize b1:((A.length+s:Nat):Int)=z3 at has al;simp[lenOf,G,has,al,a4];exact a5 _ a6;have a7:=a9.short (by omega);simp[bb,lenOf];exact⟨3,rfl,by rw[a7,bo];rfl⟩;cases B
end
end
