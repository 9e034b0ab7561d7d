/- Part 12 of the proof; the last part says what is shown. -/
import Derived.Test.YtieaiocljdpebaaGreatDoorQ4
import Derived.Test.YtieaiocljdpebaaGreatDoorProg
import Derived.ChangeKeysEq
import Derived.Laws.StructEq
import Derived.MapKept
import Derived.KernelRfl
set_option linter.all false
open Bool renaming and_eq_true->axI,not_eq_true'->ax0,false_eq_true->ax3,or_eq_true->ayb,and_assoc->aAX
open List renaming getElem?_append_left->axL,getD_eq_getElem?_getD->axN,getElem?_append_right->axP,map_cons->axV,replicate->axW,all_eq_true->axU,mem_of_getElem?->ax4,length_eq_one_iff->aye,length_eq_zero_iff->ayl,range'->ay5,length_drop->ay9,length_take->azj,range_eq_range'->azz,drop_drop->azA,range'_succ->azV
open Option.some renaming injEq->axM
open Option renaming isSome_iff_exists->ax1
open Array renaming ext'->ayF
open List.cons renaming injEq->ayH
namespace Go.Proofs.YtieaiocljdpebaaGreatDoor.Y
open Go.RowKit
noncomputable section
variable{X:TypeId}{I:TypeInfo}{W C y:Nat}{F:List CT}{M:Bool}
section
def qF:Option TypeDesc->Bool
 |some (.struct _)|some (.array _ _)=>true
 |_=>false
def sa(P:Program)(t:TypeId)(Z:List Value):Value:=if qF (P.underlying t) then .agg Z.toArray else Z.getD 0 undef
def Mn(P:Program)(eB:TypeId->List CT->Bool):Nat->List Field->List CT->Bool
 |_,[],ab=>ab.isEmpty
 |Z,f::X,ab=>f.name != "_"&&f.offset==Z&&(P.info? f.type).isSome&&decide (P.cellsOf f.type<=ab.length)&&eB f.type (ab.take (P.cellsOf f.type))&&Mn P eB (Z+P.cellsOf f.type) X (ab.drop (P.cellsOf f.type))
def Mo(eB:List CT->Bool)(c:Nat):Nat->List CT->Bool
 |0,ab=>ab.isEmpty
 |n+1,ab=>decide (c<=ab.length)&&eB (ab.take c)&&Mo eB c n (ab.drop c)
def qG(P:Program):Nat->TypeId->List CT->Bool
 |0,_,_=>false
 |d+1,t,ab=>match P.underlying t with
  |some .bool=>(match ab with
   |[.bool]=>true
   |_=>false)
  |some (.int k)=>(match ab with
   |[.int Z]=>decide (k=Z)
   |_=>false)
  |some .string=>(match ab with
   |[.aq _ .str]=>true
   |_=>false)
  |some (.struct X)=> !P.stoodInHeld t&&Mn P (qG P d) 0 X.toList ab
  |some (.array n e)=>(P.info? e).isSome&&Mo (qG P d e) (P.cellsOf e) n ab
  |_=>false
def sc:∀{Z:List CT}{X:List Value},iv Z X->X.length=Z.length
 |[],[],_=>rfl
 |[],_::_,h=>h.elim
 |_::_,[],h=>h.elim
 |_::_,_::_,h=>by simp[sc h.2]
def aa6:∀{Z:List CT}{X:List Value}(n:Nat),iv Z X->iv (Z.take n) (X.take n)/\iv (Z.drop n) (X.drop n)
 |[],[],n,_=>by simp[iv]
 |[],_::_,n,h=>h.elim
 |_::_,[],n,h=>h.elim
 |_::_,_::_,0,h=>⟨trivial,h⟩
 |_::_,_::_,n+1,h=>by
  obtain⟨a,b⟩:=aa6 n h.2;exact⟨⟨h.1,a⟩,b⟩
def akJ:∀{Z X:List Value}{r:Bool}(n:Nat),gH Z X=some r->∃a b,gH (Z.take n) (X.take n)=some a/\gH (Z.drop n) (X.drop n)=some b/\r=(a&&b)
 |[],[],r,n,h=>by simp[gH] at h;subst h;exact⟨true,true,by simp[gH],by simp[gH],rfl⟩
 |[],_::_,r,n,h=>by simp[gH] at h
 |_::_,[],r,n,h=>by simp[gH] at h
 |x::Z,y::X,r,0,h=>⟨true,r,rfl,h,by simp⟩
 |x::Z,y::X,r,n+1,h=>by
  simp only[gH] at h;split at h;rename_i a b W V;cases h;obtain⟨c,d,U,R,rfl⟩:=akJ n V;exact⟨a&&c,d,by simp[gH,W,U],by simpa using R,by simp[aAX]⟩;cases h
section
variable{P:Program}
def akK(w:World)(O:P.info? X=some I){Z:List Value}(h:qF (P.underlying X)=true\/W<Z.length/\P.cellsOf X=1)(N:(P.underlying X).isSome=true):(part X Z.toArray W).run P w=.ok (sa P X ((Z.drop W).take (P.cellsOf X))) w:=by
 obtain⟨d,U⟩:=ax1.1 N;unfold sa;by_cases V:qF (P.underlying X)=true;rw[if_pos V];have:(Z.toArray.extract W (W+P.cellsOf X))=((Z.drop W).take (P.cellsOf X)).toArray:=by
  apply ayF;simp[List.extract]
 rw[U] at V;unfold qF at V;split at V;rename_i R;cases R;simp[part,isAgg,run_underlying U,run_sizeOf w O];rename_i R;cases R;simp[part,isAgg,run_underlying U,run_sizeOf w O];cases V;rw[if_neg V];obtain⟨Q,M⟩:=h.resolve_left V;have J:Z.toArray[W]?=some Z[W]:=by simp[Q]
 have L:((Z.drop W).take (P.cellsOf X)).getD 0 undef=Z[W]:=by rw[M];simp[axN,Q]
 rw[L];rw[U] at V;cases d<;>first|(exact absurd rfl V)|simp[part,isAgg,run_underlying U,Q]
def asN(h:qG P W X F=true):(P.underlying X).isSome=true/\(qF (P.underlying X)=true\/F.length=1):=by
 cases W with
 |zero=>simp[qG] at h
 |succ W=>
  simp only[qG] at h;split at h;rename_i Z;rw[Z];split at h;exact⟨rfl,.inr rfl⟩;cases h;rename_i Z;rw[Z];split at h;exact⟨rfl,.inr rfl⟩;cases h;rename_i Z;rw[Z];split at h;exact⟨rfl,.inr rfl⟩;cases h;rename_i Z;rw[Z];exact⟨rfl,.inl rfl⟩;rename_i Z;rw[Z];exact⟨rfl,.inl rfl⟩;cases h
def S8(P:Program)(W m:Nat):Prop:=∀(t:TypeId)(ab:List CT)(Z X:List Value)(r:Bool)(w:World),qG P m t ab=true->iv ab Z->iv ab X->gH Z X=some r->(Op.equalIn W t (sa P t Z) (sa P t X)).run P w=.ok r w
def akL(D:S8 P W C)(w:World){V Y:List Value}(R:(P.info? X).isSome=true)(p:P.cellsOf X<=F.length)(N:qG P C X (F.take (P.cellsOf X))=true)
  (L:iv F (V.drop y))(J:iv F (Y.drop y))(B:gH (V.drop y) (Y.drop y)=some M):
  ∃a b q Q,(part X V.toArray y).run P w=.ok a w/\(part X Y.toArray y).run P w=.ok b w/\(Op.equalIn W X a b).run P w=.ok q w/\gH (V.drop (y+P.cellsOf X)) (Y.drop (y+P.cellsOf X))=some Q/\M=(q&&Q)/\
   iv (F.drop (P.cellsOf X)) (V.drop (y+P.cellsOf X))/\iv (F.drop (P.cellsOf X)) (Y.drop (y+P.cellsOf X)):=by
 obtain⟨i,R⟩:=ax1.1 R;obtain⟨I,U⟩:=asN N;obtain⟨A,H⟩:=aa6 (P.cellsOf X) L;obtain⟨z,G⟩:=aa6 (P.cellsOf X) J;obtain⟨q,Q,x,O,v⟩:=akJ (P.cellsOf X) B;have u:=sc L;have t:=sc J;have E:∀Z:List Value,(Z.drop y).length=F.length->qF (P.underlying X)=true\/y<Z.length/\P.cellsOf X=1:=by
  intro Z s;rcases U with U|U;exact .inl U;right;simp only[azj,ay9] at U s;omega
 rw[azA] at H G O;exact⟨_,_,q,Q,akK w R (E V u) I,akK w R (E Y t) I,D X _ _ _ q w N A z x,by rw[<-azA] at O⊢;simpa using O,v,H,G⟩
def akM{O m:Nat}(N:S8 P O m)(X Y:List Value):∀(U:List Field)(Z:Nat)(ab:List CT)(r:Bool)(w:World),Mn P (qG P m) Z U ab=true->iv ab (X.drop Z)->iv ab (Y.drop Z)->gH (X.drop Z) (Y.drop Z)=some r->
  (Op.eqFields O X.toArray Y.toArray U).run P w=.ok r w
 |[],Z,ab,r,w,W,R,Q,V=>by
  simp only[Mn,List.isEmpty_iff] at W;subst W;have:=sc R;have:=sc Q;rw[ayl.1 ‹(X.drop Z).length=_›,ayl.1 ‹(Y.drop Z).length=_›] at V;simp[gH] at V;subst V;simp[Op.eqFields]
 |f::U,Z,ab,r,w,W,R,Q,V=>by
  simp only[Mn,axI,bne_iff_ne,beq_iff_eq,decide_eq_true_eq] at W;obtain⟨⟨⟨⟨⟨M,L⟩,J⟩,I⟩,H⟩,G⟩:=W;obtain⟨a,b,q,F,E,D,C,B,rfl,A,z⟩:=akL N w J I H R Q V;have y:=akM N X Y U _ _ F w G A z B;simp only[Op.eqFields,M,ne_eq,not_false_eq_true,if_true,Sem.run_bind,L,E,D,C,Result.andThen_ok];cases q;simp;simpa using y
def akN{R m:Nat}(Q:S8 P R m){e:TypeId}(O:(P.info? e).isSome=true)(X Y:List Value):∀(n j:Nat)(ab:List CT)(r:Bool)(w:World),Mo (qG P m e) (P.cellsOf e) n ab=true->iv ab (X.drop (j*P.cellsOf e))->iv ab (Y.drop (j*P.cellsOf e))->gH (X.drop (j*P.cellsOf e)) (Y.drop (j*P.cellsOf e))=some r->
  (Op.eqItems R e (P.cellsOf e) X.toArray Y.toArray (ay5 j n)).run P w=.ok r w
 |0,j,ab,r,w,Z,V,U,W=>by
  simp only[Mo,List.isEmpty_iff] at Z;subst Z;have:=sc V;have:=sc U;rw[ayl.1 ‹(X.drop _).length=_›,ayl.1 ‹(Y.drop _).length=_›] at W;simp[gH] at W;subst W;simp[Op.eqItems]
 |n+1,j,ab,r,w,Z,V,U,W=>by
  simp only[Mo,axI,decide_eq_true_eq] at Z;obtain⟨⟨J,I⟩,H⟩:=Z;obtain⟨a,b,q,G,F,E,D,N,rfl,M,L⟩:=akL Q w O J I V U W;have C:j*P.cellsOf e+P.cellsOf e=(j+1)*P.cellsOf e:=by rw[Nat.succ_mul]
  rw[C] at N M L;have B:=akN Q O X Y n (j+1) _ G w H M L N;rw[azV];simp only[Op.eqItems,Sem.run_bind,F,E,D,Result.andThen_ok];cases q;simp;simpa using B
def aa7(d:Nat):∀m,S8 P (d+m) m
 |0=>λt ab M L r w h=>by simp[qG] at h
 |m+1=>by
  intro t ab M L r w Z W V U;have J:=aa7 d m;simp only[qG] at Z;split at Z;rename_i X;split at Z;obtain⟨x,rfl⟩:=aye.1 (sc W);obtain⟨y,rfl⟩:=aye.1 (sc V);have Q:=W.1;have O:=V.1;cases x<;>simp only[yv] at Q;cases y<;>simp only[yv] at O;simp[gH,yu] at U;subst U;simp[sa,X,qF,Op.equalIn,run_underlying X];cases Z;rename_i k X;split at Z;obtain⟨x,rfl⟩:=aye.1 (sc W);obtain⟨y,rfl⟩:=aye.1 (sc V);have Q:=W.1;have O:=V.1;cases x<;>simp only[yv] at Q;cases y<;>simp only[yv] at O;subst Q O;simp[gH,yu] at U;subst U;simp[sa,X,qF,Op.equalIn,run_underlying X];cases Z;rename_i X;split at Z;obtain⟨x,rfl⟩:=aye.1 (sc W);obtain⟨y,rfl⟩:=aye.1 (sc V);have Q:=W.1;have O:=V.1;cases x<;>simp only[yv] at Q;cases y<;>simp only[yv] at O;simp[gH,yu] at U;subst U;simp[sa,X,qF,Op.equalIn,run_underlying X,beq_toListBytes];cases Z;rename_i I X;simp only[axI,ax0] at Z;have H:P.fieldsOf t=I:=by simp[Program.fieldsOf,X]
  have N:∀R:List Value,sa P t R=.agg R.toArray:=λR=>by simp[sa,X,qF]
  rw[N,N,show d+(m+1)=(d+m)+1 from rfl,run_equalIn_struct w (d+m) t _ _ (by rw[H];exact X) Z.1,H];exact akM J M L I.toList 0 ab r w Z.2 W V U;rename_i n e X;simp only[axI] at Z;obtain⟨i,G⟩:=ax1.1 Z.1;have N:∀R:List Value,sa P t R=.agg R.toArray:=λR=>by simp[sa,X,qF]
  rw[N,N,show d+(m+1)=(d+m)+1 from rfl,run_equalIn_array w (d+m) _ _ X G,azz];exact akN J Z.1 M L n 0 ab r w Z.2 (by simpa using W) (by simpa using V) (by simpa using U);cases Z
def aa8(P:Program)(t:TypeId)(Z:TI):Bool:=qF (P.underlying t)&&qG P 20 t Z.ab&& !P.eqGuardType P.depth t
def asO{V:TI}(h:aa8 P X V=true):∀(Z W:List Value)(r:Bool)(x y:Operand)(w:World),iv V.ab Z->iv V.ab W->gH Z W=some r->
  (do eqGuard .eql X x y (.agg Z.toArray) (.agg W.toArray);binOp .eql X (.agg Z.toArray) (.agg W.toArray)).run P w=.ok (.bool r) w/\
  (do eqGuard .neq X x y (.agg Z.toArray) (.agg W.toArray);binOp .neq X (.agg Z.toArray) (.agg W.toArray)).run P w=.ok (.bool !r) w:=by
 intro Z W r x y w R Q O;simp only[aa8,axI,ax0] at h;have:=aa7 (P:=P) 9980 20 X V.ab Z W r w h.1.2 R Q O;simp only[sa,h.1.1,if_true] at this;have U:(Op.equal X (.agg Z.toArray) (.agg W.toArray)).run P w=.ok r w:=this;constructor;rw[Sem.run_bind];simp[eqGuard,h.2,binOp,U];rw[Sem.run_bind];simp[eqGuard,h.2,binOp,U]
end
end
variable{O:List Int}
section
section
variable{P:Program}
def asP{ag:Bool}(Z:O.length=W)(X:ag=false->W=1):sH (ek ag O)=O:=by
 cases ag with
 |false=>
  have:=X rfl;subst this;obtain⟨x,rfl⟩:=aye.1 Z;rfl
 |true=>simp[ek,sH,Function.comp_def,bg]
def asQ(R:P.underlying X=some (.int .i64)):pV P X 1 false:=by
 refine⟨λ_=>rfl,λl Z W O N=>⟨λb=>MapKept.run_checkKey R (by trivial) b 9999,MapKept.run_findKey R ?_⟩⟩;obtain⟨x,rfl⟩:=aye.1 O;have:∀(Z:List MapEntry)(i:Nat),(∀e∈Z,∃V:List Int,V.length=1/\e.key=ek false V)->Instr.findNow (.int .i64) (ek false [x]) Z i=some (kH [x] Z i):=by
  intro Z;induction Z with
  |nil=>intro i _;rfl
  |cons e Z M=>
   intro i Q;obtain⟨V,L,J⟩:=Q e (by simp);obtain⟨y,rfl⟩:=aye.1 L;simp only[Instr.findNow,J,kH];simp only[ek,ax3,if_false,List.headD_cons,Instr.sameNow,if_true,sH,ayH,and_true];by_cases U:x=y;subst U;simp;have:¬y=x:=λe=>U e.symm
   simp only[this,if_false,show(x==y)=false by simpa using U];exact M (i+1) (λe I=>Q e (by simp[I]))
 exact this Z 0 N
def asR(d:TypeDesc)(Z:Array Value)(v:Value):Instr.sameNow d (.agg Z) v=none:=by
 cases d<;>rfl
def akO:∀(l Z:List Int),l.length=Z.length->gH (l.map (Value.int .i64)) (Z.map (Value.int .i64))=some (l==Z)
 |[],[],_=>rfl
 |[],_::_,h=>by simp at h
 |_::_,[],h=>by simp at h
 |x::X,y::W,h=>by
  have V:=akO X W (by simpa using h);simp only[axV,gH,yu,V];rfl
def aa9:∀(l:List Int),iv (axW l.length (.int .i64)) (l.map (Value.int .i64))
 |[]=>trivial
 |x::Z=>⟨rfl,aa9 Z⟩
def akP(Z:P.underlying X=some (.int .i64)){l:List Int}{off:Nat}(V:off<l.length)(W:World):∃a,(part X (l.map (Value.int .i64)).toArray off).run P W=.ok (.int .i64 a) W:=by
 refine⟨l[off],run_part_plain W (by simp[Program.plainKey,Z]) ?_⟩;simp[V]
def asS{e:TypeId}(Q:P.underlying X=some (.array W e))(U:P.underlying e=some (.int .i64))(N:P.info? e=some I)(M:P.cellsOf e=1)(L:O.length=W)(b:Bool)(m:Nat)(Z:World):(Instr.checkKey b (m+2) X (ek true O)).run P Z=.ok () Z:=by
 rw[show m+2=(m+1)+1 from rfl,Instr.checkKey];simp only[Sem.run_bind,cW.eM Q,Result.andThen_ok,ek,if_true];simp only[Std.Legacy.Range.forIn_eq_forIn_range',Std.Legacy.Range.size,Nat.sub_zero,Nat.add_one_sub_one,Nat.div_one];have V:∀j∈ay5 0 W,j<W:=λj J=>by simpa[List.mem_range'] using J
 generalize ay5 0 W=R at V;induction R with
 |nil=>simp
 |cons j R H=>
  obtain⟨a,G⟩:=akP U (l:=O) (off:=j*P.cellsOf e) (by rw[M,L,Nat.mul_one];exact V j (by simp)) Z;have F:=MapKept.run_checkKey (w:=Z) (k:=.int .i64 a) U (by trivial) b m;simp only[List.forIn_cons,Sem.run_bind,run_sizeOf Z N,Result.andThen_ok,G,F,Sem.run_pure];exact H (λy E=>V y (by simp[E]))
def asT{V:Array Field}(Q:P.underlying X=some (.struct V))(U:∀f∈V.toList,f.name≠ "_"/\P.underlying f.type=some (.int .i64)/\f.offset<W)(N:O.length=W)(b:Bool)(m:Nat)(Z:World):(Instr.checkKey b (m+2) X (ek true O)).run P Z=.ok () Z:=by
 rw[show m+2=(m+1)+1 from rfl,Instr.checkKey];simp only[Sem.run_bind,cW.eM Q,Result.andThen_ok,ek,if_true];rw[<-Array.forIn_toList];generalize V.toList=L at U;induction L with
 |nil=>simp
 |cons f L M=>
  obtain⟨J,R,I⟩:=U f (by simp);obtain⟨a,H⟩:=akP R (l:=O) (off:=f.offset) (by rw[N];exact I) Z;have G:=MapKept.run_checkKey (w:=Z) (k:=.int .i64 a) R (by trivial) b m;simp only[List.forIn_cons,Sem.run_bind,J,ne_eq,not_false_eq_true,if_true,Result.andThen_ok,H,G,Sem.run_pure];exact M (λy F=>U y (by simp[F]))
def akQ{d:TypeDesc}(N:P.underlying X=some d)(I:qF (P.underlying X)=true)(H:qG P 20 X (axW W (.int .i64))=true)
  (G:∀(l:List Int)(b:Bool)(Z:World),l.length=W->(Instr.checkKey b 10000 X (ek true l)).run P Z=.ok () Z):pV P X W true:=by
 refine⟨λh=>(by cases h),λl V Z R F=>⟨λb=> ?_, ?_⟩⟩;exact G l b Z R;have E:∀l:List Int,ek true l=.agg (l.map (Value.int .i64)).toArray:=λl=>rfl
 have D:∀(V:List MapEntry)(i:Nat),(∀e∈V,∃U:List Int,U.length=W/\e.key=ek true U)->(Instr.findAsking X (ek true l) V i).run P Z=.ok (kH l V i) Z:=by
  intro V;induction V with
  |nil=>intro i _;rfl
  |cons e V C=>
   intro i M;obtain⟨U,Q,L⟩:=M e (by simp);have J:=aa7 (P:=P) 9980 20 X (axW W (.int .i64)) (l.map (Value.int .i64)) (U.map (Value.int .i64)) (l==U) Z H (by rw[<-R];exact aa9 l) (by rw[<-Q];exact aa9 U) (akO l U (by rw[R,Q]));simp only[sa,I,if_true] at J;have B:(Op.equal X (ek true l) e.key).run P Z=.ok (l==U) Z:=by rw[L];exact J
   simp only[Instr.findAsking,Sem.run_bind,B,Result.andThen_ok];simp only[kH,L,asP (ag:=true) Q (by simp)];by_cases O:U=l;rw[O];simp;have A:(l==U)=false:=by
    cases z:l==U;rfl;exact absurd (eq_of_beq z).symm O
   simp only[O,A,ax3,if_false];exact C (i+1) (λe y=>M e (by simp[y]))
 have x:=D V 0 F;cases V with
 |nil=>simp[Instr.findKey,cW.eM N,Instr.findNow,kH,Result.andThen]
 |cons e V=>
  have:Instr.findNow d (ek true l) (e::V) 0=none:=by simp only[Instr.findNow,E,asR]
  simp only[Instr.findKey,Sem.run_bind,cW.eM N,Result.andThen_ok,this];exact x
end
end
section
set_option maxRecDepth 100000
abbrev ri(n:Nat):List CT:=axW n (.int .i64)
abbrev am:Option TI:=some ⟨.one,[.aq .nilFunc .aq],false⟩
abbrev vJ:Option TI:=some ⟨(.struct [(0,3),(1,3),(2,3)]),[.int .i64,.int .i64,.int .i64],true⟩
abbrev zY:Option TI:=some ⟨.one,[.aq (.pointer none) .aq],false⟩
abbrev Cg:Option TI:=some ⟨(.struct [(0,3),(1,3)]),[.int .i64,.int .i64],true⟩
abbrev S9:Option TI:=some ⟨.one,[.int .i64],false⟩
abbrev Ta:Option TI:=some ⟨.one,[.int .u8],false⟩
abbrev Tb:Option TI:=some ⟨.one,[.int .u64],false⟩
abbrev Tc:Option TI:=some ⟨(.struct [(0,3),(1,3),(2,3),(3,3)]),ri 4,true⟩
abbrev ti8:Option TI:=some ⟨.str,[.aq (.string ⟨#[]⟩) .str],false⟩
abbrev ti9:Option TI:=some ⟨.one,[.int .i32],false⟩
abbrev abc:Option TI:=some ⟨(.struct [(0,63),(2,63)]),ri 4,true⟩
abbrev akR:Option TI:=some ⟨(.struct [(0,2),(1,3),(2,4),(3,6)]),[.int .i64,.int .i64,.bool,.int .u8],true⟩
abbrev akS:Option TI:=some ⟨(.struct [(0,9),(1,12)]),[.aq (.string ⟨#[]⟩) .str,.int .u64],false⟩
abbrev akT:Option TI:=some ⟨(.struct [(0,17)]),[.aq (.pointer none) .aq],false⟩
abbrev akU:Option TI:=some ⟨(.struct [(0,3),(1,25),(2,26),(3,27)]),[.int .i64,.aq (.slice none 0 0) (.sl 175),.aq (.slice none 0 0) (.sl 312),.aq (.slice none 0 0) (.sl 314)],false⟩
abbrev akV:Option TI:=some ⟨(.struct [(0,3),(1,3),(2,23),(5,24),(6,29),(10,30)]),ri 5++[.aq (.slice none 0 0) (.sl 173),.int .i64,.aq (.slice none 0 0) (.sl 175),.aq (.slice none 0 0) (.sl 312),.aq (.slice none 0 0) (.sl 314),.aq (.slice none 0 0) (.sl 90)],false⟩
abbrev akW:Option TI:=some ⟨(.struct [(0,33)]),[.aq (.slice none 0 0) (.sl 73)],false⟩
abbrev akX:Option TI:=some ⟨(.struct [(0,3),(1,37),(2,38),(3,38),(4,39),(5,42)]),[.int .i64,.aq (.slice none 0 0) (.sl 4),.aq (.slice none 0 0) (.sl 71),.aq (.slice none 0 0) (.sl 71),.aq (.slice none 0 0) (.sl 82),.aq (.slice none 0 0) (.sl 65)],false⟩
abbrev akY:Option TI:=some ⟨(.struct [(0,3),(1,3),(2,3),(3,69)]),ri 13,true⟩
abbrev akZ:Option TI:=some ⟨(.struct [(0,65),(4,3),(5,3),(6,3),(7,3)]),ri 8,true⟩
abbrev ak0:Option TI:=some ⟨(.struct [(0,9),(1,3),(2,3),(3,3),(4,3),(5,3),(6,77),(9,77),(12,77),(15,3),(16,3)]),[.aq (.string ⟨#[]⟩) .str]++ri 16,true⟩
abbrev ak1:Option TI:=some ⟨(.struct [(0,3),(1,3),(2,3),(3,3),(4,3),(5,3),(6,3),(7,3),(8,3),(9,3),(10,88),(12,88)]),ri 14,true⟩
abbrev ak2:Option TI:=some ⟨(.struct [(0,3),(1,3),(2,3),(3,4)]),[.int .i64,.int .i64,.int .i64,.bool],true⟩
abbrev ak3:Option TI:=some ⟨(.struct [(0,3),(1,4),(2,79),(19,71),(32,82)]),[.int .i64,.bool,.aq (.string ⟨#[]⟩) .str]++ri 29++[.aq (.slice none 0 0) (.sl 96)],false⟩
abbrev ak4:Option TI:=some ⟨(.struct [(0,79)]),[.aq (.string ⟨#[]⟩) .str]++ri 16,true⟩
abbrev ak5:Option TI:=some ⟨(.struct [(0,163),(1,3),(2,3),(3,3)]),[.aq .nilFunc .aq,.int .i64,.int .i64,.int .i64],false⟩
abbrev ak6:Option TI:=some ⟨(.struct [(0,9),(1,3),(2,3),(3,3)]),[.aq (.string ⟨#[]⟩) .str,.int .i64,.int .i64,.int .i64],true⟩
abbrev ak7:Option TI:=some ⟨(.struct [(0,4),(1,4),(2,4),(3,3),(4,3),(5,3)]),[.bool,.bool,.bool,.int .i64,.int .i64,.int .i64],true⟩
abbrev ak8:Option TI:=some ⟨(.struct [(0,90),(14,96)]),ri 17++[.bool],true⟩
abbrev ak9:Option TI:=some ⟨(.struct [(0,328),(1,4),(2,307),(3,4),(4,329)]),[.aq .nilFunc .aq,.bool,.aq .nilFunc .aq,.bool,.aq .nilFunc .aq],false⟩
abbrev ala:Option TI:=some ⟨(.struct [(0,356),(8,357),(12,358)]),ri 12++[.aq .nilFunc .aq],false⟩
abbrev alb:Option TI:=some ⟨(.struct [(0,71),(13,90),(27,96)]),ri 30++[.bool],true⟩
abbrev alc:Option TI:=some ⟨(.struct [(0,96),(4,3)]),[.int .i64,.int .i64,.int .i64,.bool,.int .i64],true⟩
abbrev ald:Option TI:=some ⟨(.struct [(0,17),(1,17),(2,17),(3,9)]),[.aq (.pointer none) .aq,.aq (.pointer none) .aq,.aq (.pointer none) .aq,.aq (.string ⟨#[]⟩) .str],false⟩
abbrev ale:Option TI:=some ⟨(.struct [(0,426)]),[],false⟩
abbrev alf:Option TI:=some ⟨(.struct [(0,12),(1,12),(2,287),(3,430),(4,5),(5,5),(6,431),(7,432),(8,433),(9,434),(10,435)]),[.int .u64,.int .u64,.int .u32,.int .u8,.int .u8,.int .u8,.int .u8,.aq .nilFunc .aq,.aq (.pointer none) .aq,.int .i32,.int .i32],false⟩
abbrev bq:Option (List TypeId):=some [4]
abbrev bS:Option (List TypeId):=some []
abbrev ce:Option (List TypeId):=some [3]
abbrev nP:Option (List TypeId):=some [45]
abbrev sd:Option (List TypeId):=some [3,3,3]
abbrev t6:Option (List TypeId):=some [3,3]
abbrev vK:Option (List TypeId):=some [65,45]
abbrev vL:Option (List TypeId):=some [65]
abbrev xS:Option (List TypeId):=some [368]
abbrev zZ:Option (List TypeId):=some [82]
abbrev z6:Option (List TypeId):=some [65,65]
abbrev Ch:Option (List TypeId):=some [4,45]
abbrev Ci:Option (List TypeId):=some [3,45]
abbrev EH:Option (List TypeId):=some [30]
abbrev EI:Option (List TypeId):=some [32,35,36,44]
abbrev EJ:Option (List TypeId):=some [79]
abbrev EK:Option (List TypeId):=some [90,96]
abbrev EL:Option (List TypeId):=some [30,3,3,3,234]
abbrev IG:Option (List TypeId):=some [166]
abbrev II:Option (List TypeId):=some [3,4]
abbrev IJ:Option (List TypeId):=some [29]
abbrev IK:Option (List TypeId):=some [167,3]
abbrev IL:Option (List TypeId):=some [90]
abbrev IM:Option (List TypeId):=some [121,3,3,123]
abbrev IN:Option (List TypeId):=some [30,3,3,234]
abbrev IP:Option (List TypeId):=some [196,3,3,274]
def TT:List (List (Option TI)):=[
[none,am,S9,S9,some ⟨.one,[.bool],false⟩,Ta,Ta,akR,akR,ti8,ti8,ti8,Tb,akS,akS,zY],
 [zY,zY,akT,akT,some ⟨.dV,[.aq .nilIface .aq],false⟩,ti9,vJ,vJ,some ⟨(.slice 173),[.aq (.slice none 0 0) (.sl 173)],false⟩,some ⟨(.slice 175),[.aq (.slice none 0 0) (.sl 175)],false⟩,some ⟨(.slice 312),[.aq (.slice none 0 0) (.sl 312)],false⟩,some ⟨(.slice 314),[.aq (.slice none 0 0) (.sl 314)],false⟩,akU,akU,some ⟨(.slice 90),[.aq (.slice none 0 0) (.sl 90)],false⟩,akV],
 [akV,some ⟨(.slice 73),[.aq (.slice none 0 0) (.sl 73)],false⟩,akW,akW,some ⟨(.slice 79),[.aq (.slice none 0 0) (.sl 79)],false⟩,some ⟨(.slice 4),[.aq (.slice none 0 0) (.sl 4)],false⟩,some ⟨(.slice 71),[.aq (.slice none 0 0) (.sl 71)],false⟩,some ⟨(.slice 82),[.aq (.slice none 0 0) (.sl 82)],false⟩,am,am,some ⟨(.slice 65),[.aq (.slice none 0 0) (.sl 65)],false⟩,akX,akX,S9,none,am],
 [am,am,some ⟨(.slice 98),[.aq (.slice none 0 0) (.sl 98)],false⟩,none,am,none,am,am,am,am,am,some ⟨(.slice 142),[.aq (.slice none 0 0) (.sl 142)],false⟩,none,am,Cg,Cg],
 [abc,abc,am,Cg,Cg,some ⟨(.arr 5 68),ri 10,true⟩,akY,akY,akZ,akZ,none,am,am,some ⟨(.arr 3 3),[.int .i64,.int .i64,.int .i64],true⟩,ak0,ak0],
 [am,am,some ⟨(.slice 96),[.aq (.slice none 0 0) (.sl 96)],false⟩,am,am,am,am,Cg,Cg,ak1,ak1,am,am,none,am,ak2],
 [ak2,vJ,vJ,am,am,zY,am,am,am,am,am,am,am,am,am,am],
 [some ⟨(.map 118 4 3 true),[.aq (.map none) .aq],false⟩,am,am,am,ak3,ak3,vJ,am,am,some ⟨(.slice 118),[.aq (.slice none 0 0) (.sl 118)],false⟩,am,am,am,am,am,am],
 [am,some ⟨(.slice 202),[.aq (.slice none 0 0) (.sl 202)],false⟩,none,am,am,am,am,some ⟨(.slice 3),[.aq (.slice none 0 0) (.sl 3)],false⟩,none,am,some ⟨(.map 3 4 1 false),[.aq (.map none) .aq],false⟩,am,am,some ⟨(.map 142 4 2 true),[.aq (.map none) .aq],false⟩,some ⟨(.arr 2 3),[.int .i64,.int .i64],true⟩,abc],
 [am,am,am,am,am,am,am,am,am,am,am,am,am,none,am,none],
 [am,ak4,ak4,am,ak5,ak5,zY,zY,am,some ⟨(.arr 7 165),(axW 7 [.aq .nilFunc .aq,.int .i64,.int .i64,.int .i64]).flatten,false⟩,am,some ⟨(.slice 165),[.aq (.slice none 0 0) (.sl 165)],false⟩,ak6,ak6,vJ,vJ],
 [none,am,am,am,am,am,am,am,none,am,am,am,am,am,am,am],
 [am,am,am,am,some ⟨(.slice 200),[.aq (.slice none 0 0) (.sl 200)],false⟩,none,am,Cg,Cg,vJ,vJ,am,am,Tb,am,am],
 [am,am,am,am,am,am,am,am,am,am,am,am,am,am,am,am],
 [am,am,none,am,vJ,vJ,none,am,am,am,am,none,am,am,none,some ⟨(.map 3 237 1 false),[.aq (.map none) .aq],false⟩],
 [am,am,am,am,ak7,ak7,some ⟨(.arr 10 245),(axW 10 [.bool,.bool,.bool,.int .i64,.int .i64,.int .i64]).flatten,true⟩,am,some ⟨(.arr 2 88),ri 4,true⟩,some ⟨(.slice 248),[.aq (.slice none 0 0) (.sl 248)],false⟩,some ⟨(.slice 258),[.aq (.slice none 0 0) (.sl 258)],false⟩,none,am,am,am,am],
 [some ⟨(.arr 5 4),[.bool,.bool,.bool,.bool,.bool],true⟩,ak8,ak8,some ⟨(.arr 2 135),[.aq (.slice none 0 0) (.sl 3),.aq (.slice none 0 0) (.sl 3)],false⟩,some ⟨(.arr 10 259),.replicate 20 (.aq (.slice none 0 0) (.sl 3)),false⟩,am,am,am,am,am,am,am,am,am,am,am],
 [some ⟨(.map 3 96 1 false),[.aq (.map none) .aq],false⟩,am,am,am,some ⟨(.arr 2 42),[.aq (.slice none 0 0) (.sl 65),.aq (.slice none 0 0) (.sl 65)],false⟩,some ⟨(.arr 5 276),.replicate 10 (.aq (.slice none 0 0) (.sl 65)),false⟩,am,S9,none,am,am,am,none,am,am,some ⟨.one,[.int .u32],false⟩],
 [am,Tb,am,am,am,am,am,am,am,am,none,am,am,some ⟨(.arr 8 142),ri 16,true⟩,am,am],
 [am,am,am,am,am,am,am,Tc,Tc,Tc,Tc,am,am,am,none,am],
 [am,am,am,am,am,am,some ⟨(.map 3 331 1 false),[.aq (.map none) .aq],false⟩,am,am,am,ak9,ak9,am,am,some ⟨(.map 3 40 1 false),[.aq (.map none) .aq],false⟩,am],
 [Tb,am,am,am,am,am,am,am,am,am,am,am,am,am,am,am],
 [am,am,am,am,some ⟨(.arr 4 142),ri 8,true⟩,some ⟨(.arr 2 142),ri 4,true⟩,am,ala,ala,none,some ⟨(.map 3 360 1 false),[.aq (.map none) .aq],false⟩,am,am,some ⟨(.arr 4 3),ri 4,true⟩,alb,alb],
 [zY,am,am,am,am,am,am,none,am,am,am,am,none,am,zY,am],
 [am,am,am,am,am,am,am,some ⟨(.slice 393),[.aq (.slice none 0 0) (.sl 393)],false⟩,alc,alc,am,am,am,am,am,am],
 [am,am,am,am,am,am,am,am,am,am,am,am,am,am,am,am],
 [am,am,am,am,am,am,am,am,ald,ald,some ⟨(.arr 0 16),[],true⟩,ale,ale,am,Ta,Ta],
 [am,zY,ti9,ti9,alf,alf,none]]
def SG:List (List (Option (List TypeId))):=[
[none,none,bS,bq,bq,bq,bq,bq,bq,bq,bq,bq,bq,some [44,45],some [44,45],bq],
 [some [50,45],some [50,45],Ch,Ch,bq,some [44,45],some [44,45],some [59,45],Ch,vK,Ch,vK,bq,bq,bq,Ch],
 [some [32,36,38,39],bq,bS,bS,bS,nP,bS,some [44],nP,bq,some [44,45],bq,bq,bq,bS,some [44]],
 [some [114],bS,bS,bS,ce,nP,some [50],Ch,some [59],some [42],some [129,45],bq,bq,bS,bS,some [135,45]],
 [some [135],nP,bq,bq,bq,bq,bq,some [149],vK,bq,nP,nP,some [155],some [30,45],some [82,45],bq],
 [some [169],nP,bq,nP,bq,nP,some [37],some [38],zZ,some [71,45],vK,nP,bq,bq,nP,nP],
 [some [71,45],vL,bq,bS,ce,bq,bq,bq,some [196,45],some [42],some [129,45],bS,ce,ce,ce,bq],
 [vK,EH,some [196,45],some [96],bq,bq,bq,bq,bq,bq,vK,bq,bq,bq,some [129],bq],
 [bq,vL,ce,bq,bS,vK,bq,bq,bq,bS,Ci,some [229,45],bS,ce,Ci,some [90,45]],
 [some [239],IG,IG,IG,IG,IG,IG,bS,bS,some [23],bq,some [250,4],some [254],vL,vL,bq],
 [bq,bq,bq,bq,nP,bq,bq,nP,bq,some [30,45],bq,some [71,45],vK,ce,bq,some [196]],
 [some [270],some [272],ce,bq,bq,bq,bS,bS,bS,some [3,279],bS,bq,ce,II,ce,ce],
 [bq,bq,vK,vK,EH,EH,some [196],some [196],some [71,45],zZ,bq,vL,t6,bq,Ch,ce],
 [ce,bS,nP,II,ce,some [237],ce,ce,some [237],zZ,bS,bq,ce,ce,EH,bS],
 [ce,bq,bS,some [71,45],ce,ce,ce,nP,Ci,bq,bq,bq,bq,some [38,4],vL,vK],
 [bq,bq,some [196],bS,bS,some [326],bq,bq,some [229],ce,bq,bq,ce,bS,some [205],some [289]],
 [ce,ce,some [63],EH,ce,some [229,45],ce,some [229],ce,bq,bq,some [71],zZ,Ci,ce,bq],
 [ce,bS,bS,some [205],some [205],zZ,zZ,zZ,some [353],ce,bq,bS,bq,some [362],bS,bq],
 [bq,bq,bq,bq,bq,vL,some [256],ce,vL,some [63,4],ce,some [196],bS,ce,ce,ce],
 [ce,ce,ce,ce,ce,ce,some [3,3,45],t6,bq,some [3,3,45],ce,some [3,3,45],bq,ce,II,ce],
 [bS,some [389],bS,ce,bS,II,bS,bS,some [3,279],bS,bq,ce,II,bS,bS,bS],
 [bS,bS,bS,bS,bS,bS,ce,ce,bq,bS,bS,bS,some [3,279],bS,bq,ce],
 [II,Ci,some [3,3,45],Ci,Ci,none,bS,bS,bS,Ci,bS,ce,ce,bS,bS,bS],
 [bS,ce,ce,ce,bq,bS,bS,t6,some [3,3,45],t6,bS,bS,none,none,none,none],
 [none,none,none,none,none,none,none,none,none,none,none,none,none,none,none,none],
 [none,bS]]
def PT:List (List (Option (List TypeId))):=[
[none,none,bS,some [32,35,36,3,37,38,39],EI,some [32,35,36,44,37],some [32,35,36,44,37],some [32,35,36,44,37,37],some [32,35,36,44,5],some [32,35,36,3,37,38,39,5,5],some [32,35,36,44,36],bS,some [32,35,36,38,39],some [32,35,36,3,37,38,39],some [32,35,36,3,37,38,39],some [44,44]],
 [EI,EI,EI,EI,some [50,50],some [32,35,36,44,37],some [32,35,36,44,37],some [32,3],z6,some [73,3],z6,some [71,79],some [59,3,3],some [32,79,3,3,82],some [50,3,3],some [79,79]],
 [bS,some [32],none,some [20,101],nP,some [32],some [32,36,3,37,38,39],some [32,36,3,37,38,39],some [32],some [32,36,3,37,38,39],some [32,36,3,37,38,39],some [37,37],some [38,38],some [39,39],none,EI],
 [some [36,37,38,39],some [32,36,44,117,112],some [32,35,36,44,112],some [121,123],some [118,118],EI,some [32,36,44,3],z6,some [32,3],some [36,38],some [32,35,3,42,42,59],some [129,3],some [59,42,3],none,bq,some [32,3]],
 [some [3,59],some [32,3],some [143],some [143,143,145],some [63,63],vL,sd,some [73,3],z6,some [63,63],some [71],EJ,some [71,79],some [32,3,3],some [32,3,79],none],
 [bS,IJ,sd,some [23],some [90,3,3],some [32,3,3,82],some [37],some [38],zZ,some [32,3,3,71,82],some [32,3,3,71,79,82],IJ,some [32],some [32,36],some [71],some [32,3,3,82]],
 [some [32,3,3,4,71,82],some [32,79,3,3,4,71,82],some [82,82],none,some [82,193],none,some [82,96],some [32,44,90],some [32,3,3,71,36,82],some [36,38],some [32,35,3,42,42,59],some [121,3,3,3,123],some [205],some [135],t6,some [32,36,44]],
 [some [73,3],some [32,3,3],some [32,3,3,71,36,82],some [82,3],some [32,79,90,96],some [196,3],some [32,44,90],vL,some [63,63],some [32,3,3,3],some [71,79],sd,some [42,3],some [59,3],some [3,42,42,59],z6],
 [z6,some [32],none,some [3,135],none,some [65,3,3],sd,some [9],some [3,3,135],none,t6,t6,some [30,234],some [90,90],some [88,88],some [32,3]],
 [bS,IK,IK,IK,IK,IK,IK,none,IJ,some [23],some [3,4,3,3],some [30,82],some [71,250],ce,some [65,42],sd],
 [IJ,IJ,IJ,sd,some [23],some [90,3],IL,EJ,sd,some [32,3,3],some [30,82],some [32,3,3,71,82],some [32,3,3,71,79,82],some [82,96],some [32,36],some [270,274]],
 [some [32,3,3,71,36,272],zZ,some [200,200],vL,some [42,146],z6,IM,IM,IM,IM,IM,IM,some [121,3,3,3,123],some [121,3,3,3,123],some [287],some [289]],
 [ce,some [73],some [73,3],z6,EH,some [32,3,3],some [196,196],some [32,36,90,71,96],some [71,90,96],some [23,90,79],some [63],sd,some [71,3,79],some [59,3,3],z6,some [5]],
 [none,some [30,3,234],some [88],some [30,3,305],some [90,3],some [307],EJ,EJ,ce,some [23,90,79],Ch,sd,some [29,3],some [135],EH,some [30,234]],
 [some [90,90],EK,none,some [71,90,96],some [29,3],t6,ce,some [88],some [88,88],some [9],sd,some [77,3],EK,some [30,71,82],some [30,71,79,82],some [65,3,3]],
 [some [36,322],EJ,some [270],some [196,274],none,bS,none,none,some [68,3],some [29,90],none,none,some [42,146],some [121,3,3,3,123],ce,some [382]],
 [some [121,3,166,123],some [121,3,3,3,166,123],some [63,63],some [30,90],IL,t6,some [229,229],some [68,3],some [29,90],some [3,3,3,3,3,3],EK,some [71,3,3],some [23,90,3],t6,ce,some [63,63]],
 [some [9,5],IN,EL,some [205,205],ce,none,none,some [353],some [23,90,3],some [3,290],none,EL,sd,bS,none,some [88]],
 [some [88,88],some [88,88],some [5],some [5],sd,ce,IL,some [79,3],some [71,79,3],some [63,3],some [36,322],some [196,270],some [196,3,3,3,274],EK,IL,EJ],
 [EK,EJ,EK,IL,IL,EK,some [29,3,88],some [121,3,3,166,123],some [90,90],ce,ce,some [29,3,88],sd,some [23,90,3],some [23,3,3,3,3],some [9,5]],
 [EL,some [205,205],some [391,395],some [393,393],none,some [3,3,3,3],IN,IN,IN,IN,IN,EL,EL,xS,xS,xS],
 [xS,xS,xS,xS,xS,xS,t6,ce,some [5],IP,IP,IP,IP,IP,IP,some [196,3,3,3,274]],
 [some [196,3,3,3,274],some [29,3],some [88,3],some [29,3],some [229,229],none,EL,none,some [391,3,395],some [229,229],EL,some [30,3,166,234],some [30,3,3,3,166,234],xS,some [368,135],some [368,3]],
 [some [196,3,3,3,274],some [196,3,166,274],some [196,3,3,3,166,274],t6,some [229],some [391,3,3,395],some [391,3,3,3,395],some [30,3,3,166,234],ce,some [196,3,3,166,274],some [391,3,3,3,395],some [391,3,3,3,395],none,none,none,none],
 [none,none,none,none,none,none,none,none,none,none,none,none,none,none,none,none],
 [none,bS]]
def alg:TD->Bool
 |.map k _ n Z=>(k==3&&n==1&& !Z)||(k==142&&n==2&&Z)||(k==118&&n==3&&Z)
 |_=>true
def asU:pV Tryz.prog 3 1 false:=asQ (by kernel_rfl)
def asV:pV Tryz.prog 142 2 true:=by
 have Z:Tryz.prog.underlying 142=some (.array 2 3):=by kernel_rfl
 obtain⟨i,X⟩:∃i,Tryz.prog.info? 3=some i:=ax1.1 (by kernel_rfl);exact akQ Z (by kernel_rfl) (by kernel_rfl) (λl b W V=>asS Z (by kernel_rfl) X (by kernel_rfl) V b 9998 W)
def alh(P:Program)(k n:Nat):Bool:=match P.underlying k with
 |some (.struct Z)=>Z.toList.all λf=>f.name != "_"&&(match P.underlying f.type with
  |some (.int .i64)=>true
  |_=>false)&&decide (f.offset<n)
 |_=>false
def asW{P:Program}(h:alh P W C=true)(U:qF (P.underlying W)=true)(R:qG P 20 W (axW C (.int .i64))=true):pV P W C true:=by
 unfold alh at h;split at h;rename_i N X;refine akQ X U R (λl b Z Q=>asT X (λf O=> ?_) Q b 9998 Z);have:=axU.1 h f O;simp only[axI,bne_iff_ne,ne_eq,decide_eq_true_eq] at this;refine⟨this.1.1, ?_,this.2⟩;have V:=this.1.2;split at V;assumption;cases V;cases h
def asX:pV Tryz.prog 118 3 true:=asW (by kernel_rfl) (by kernel_rfl) (by kernel_rfl)
def asY:AI (λt Z=>Wb Tryz.prog t Z&&(!Z.eq||aa8 Tryz.prog t Z)&&alg Z.d) 0 TT=true:=by kernel_rfl
def Td:AI (λg _=>aay Tryz.prog g) 0 SG=true:=by kernel_rfl
def IQ:fK Tryz.prog (look TT):=by
 intro t V h;have:=ae8 asY h;simp only[axI,ayb,ax0] at this;refine apC this.1.1 (λX=>asO (this.1.2.resolve_left (by rw[X];simp))) (λk e n U W=> ?_);have Z:=this.2;rw[W] at Z;simp only[alg,ayb,axI,beq_iff_eq,ax0] at Z;rcases Z with(⟨⟨rfl,rfl⟩,rfl⟩|⟨⟨rfl,rfl⟩,rfl⟩)|⟨⟨rfl,rfl⟩,rfl⟩;exact asU;exact asV;exact asX
def Te:Tryz.prog.follows .mixedOrders=true:=by kernel_rfl
end
variable{U:FuncId}{L:Func}{J:Code}{H:List Nat}{V:List (Nat×Nat×dA)}{Z:List (FuncId×FuncId×TypeId×aI×Bool)}{R:List (Nat×Nat)}{B:Bool}{N:Option TypeId}{Q:List LK}{G:List SV}{A:T}{E:List RK}
def GL:List (Nat×Nat×Nat):=[(0,0,6),(1,1,2),(2,2,2)]
def GLK:List RK:=[.sl 245,.sl 259,.sl 142]
def GW(W:World):Prop:=∃Z,Kq (look TT) GL GLK lX W Z
def GW.grow{W Z:World}(X:Below W.heap.size W Z)(h:GW W):GW Z:=by
 obtain⟨V,U,R,Q,P⟩:=h;exact⟨V,U,R,λk e O N M=>(Q k e O N M).grow X,P⟩
def se(Z:List (FuncId×FuncId×TypeId×aI×Bool)):Prop:=∀x∈Z,lQ Tryz.prog (look TT) x.1 x.2.1 x.2.2.1 x.2.2.2.1 x.2.2.2.2
def GZ(z:Bool)(W:World):Prop:=z=true->GW W
def GZ.grow{z:Bool}{W Z:World}(X:Below W.heap.size W Z)(h:GZ z W):GZ z Z:=λe=>(h e).grow X
abbrev oN(z:Bool)(f:FuncId)(F:List XV->Option aT):Prop:=Dh Tryz.prog (look TT) (look PT) (look SG) (GZ z) f F
def ali:∀{Z:List LK},mq Z=true->∀(k:Nat)(t:TypeId),(gt Z)[k]?≠some (.own t)
 |[],_,k,t=>by simp[gt]
 |x::Z,h,k,t=>by
  simp only[mq,axI] at h;have X:=ali h.2;cases x with
  |int _=>exact X k t
  |bool=>exact X k t
  |ref e=>
   cases k with
   |zero=>
    intro W;simp[gt] at W;subst W;simp[CH] at h
   |succ k=>simpa[gt] using X k t
def EM(g:Bool):List (Nat×Nat×Nat):=if g then GL else[]
def pH(g:Bool):List RK:=if g then GLK else[]
def alj{z:Bool}(g:Bool)(Z:g=true->z=true)(W:World)(h:GZ z W):∃X,Kq (look TT) (EM g) (pH g) (fU g) W X:=by
 cases g with
 |true=>exact h (Z rfl)
 |false=>exact⟨[],rfl,λk v U h=>by simp[fU] at h,λk e R h=>by simp[pH] at h,λQ x V=>by simp[EM] at V⟩
def asZ{z:Bool}{aQ:kn}(af:∀U,oN z U (aQ U))(hf:Tryz.prog.funcs[U]?=some L)(hb:L.body=some J)(hi:H.all (aay Tryz.prog)=true)(ag:se Z)
  {m s:List TypeId}{j:List LK}{l:List SV}{F:List XV->Option aT}
  (al:look PT U=some m)(an:look SG U=some s)(a0:fb (look TT) m=some Q)(a1:fb (look TT) s=some j)
  (a6:mq Q=true)(hl:gP (look TT) m G=some l)(a2:pi 0 0 (pH B).length Q l=true)(bp:E=pH B++gt Q)(hq:B=false\/rf j=true)
  (a7:((⟨[],[],0,0,[],0,0,[]⟩:S).bE Q).2.ni=C)(a8:((⟨[],[],0,0,[],0,0,[]⟩:S).bE Q).2.nb=y)
  (a3:WJ (mA Tryz.prog TT SG (EM B) H V Z M R) N W U J L.ntmps L.results.toList G ⟨[],[],C,y,E,0,0,[]⟩=A)
  (a9:∀q,N=some q->(∃d,qR J=some d/\oa Tryz.prog d.g q)/\∀D v,F D≠some (.aW v))
  (hc:A.eB (look TT) (look PT) (look SG) s C y E []=true)(hF:∀D o,cV Q D->F D=some o->rg aQ A (de (fU B) D) [] o)(hz:B=true->z=true):oN z U F:=by
 have e:∀u D,cV Q D->(de u D).i.length=C:=λu D x=>by
  have a:=(uB Q D ⟨[],[],0,0,[],0,0,[]⟩ ⟨[],[],[],[]⟩ x rfl rfl rfl).1;have h2:=(AL (O:=⟨[],[],[],[]⟩) x).1;have h3:=(AL (O:=⟨[],[],u,[]⟩) x).1;rw[<-a7,<-a,de,h3,h2]
 have e2:∀u D,cV Q D->(de u D).b.length=y:=λu D x=>by
  have a:=(uB Q D ⟨[],[],0,0,[],0,0,[]⟩ ⟨[],[],[],[]⟩ x rfl rfl rfl).2.1;have h2:=(AL (O:=⟨[],[],[],[]⟩) x).2.1;have h3:=(AL (O:=⟨[],[],u,[]⟩) x).2.1;rw[<-a8,<-a,de,h3,h2]
 have e3:∀D,cV Q D->(de (fU B) D).r.length=E.length:=λD x=>by rw[bp];exact Kh x (by cases B<;>rfl)
 have e4:∀(k:Nat)(A:TypeId),E[k]?≠some (.own A):=by
  rw[bp];intro k A p;by_cases a4:k<(pH B).length;rw[axL a4] at p;cases B with
  |false=>simp[pH] at a4
  |true=>rcases k with _|_|_|k<;>simp[pH,GLK] at p
  rw[axP (by omega)] at p;exact ali a6 _ A p
 have e5:fU B=[]\/rf j=true:=hq.imp (λh=>by subst h;rfl) id;have a5:∀D o,cV Q D->F D=some o->∃X,run (look TT) (look PT) (look SG) aQ s X A (de (fU B) D) E []=some o:=λD o x ho=>by
  obtain⟨X,hN⟩:=hF D o x ho;exact⟨X,qa X A _ E [] [] [] o hN (by rw[e _ D x,e2 _ D x];exact hc) (e3 D x) wE.nil⟩
 cases N with
 |none=>exact apW (cf:=mA Tryz.prog TT SG (EM B) H V Z M R) (glk:=pH B) (glv:=fU B) (λw P ac=>Oq IQ Td hi Te ac ag) rfl af (λ_ _ hB h=>h.grow hB) hf hb al an a0 a1 hl (by cases B<;>exact a2) bp e4 (by cases B<;>rfl) e5 e e2 (λI h=>alj B hz I h) ((aqf _ _ _ _ _ _ _ _).symm.trans a3) a5
 |some q=>
  obtain⟨⟨d,hd,bi⟩,bb⟩:=a9 q rfl;exact apX (cf:=mA Tryz.prog TT SG (EM B) H V Z M R) (glk:=pH B) (glv:=fU B) (λw P ac=>Oq IQ Td hi Te ac ag) rfl af (λ_ _ hB h=>h.grow hB) hf hb hd bi al an a0 a1 hl (by cases B<;>exact a2) bp e4 (by cases B<;>rfl) e5 e e2 (λI h=>alj B hz I h) ((aqg _ _ _ _ _ _ _ _ _).symm.trans a3) bb a5
def abe{z:Bool}(f:FuncId):oN z f (λ_=>none):=λ_ _ _ _ _ _ _ _ _ _ _ h=>by cases h
variable{x:Ty}{D:List XV}
def bL(f:FuncId)(g d:Bool)(t:T):Prop:=∀(z:Bool),(g=true->z=true)->∀(aQ:kn),(∀g,oN z g (aQ g))->∀n,oN z f (λZ=>uM d (exec aQ n t (de (fU g) Z) []))
def as0(s:Tryz.prog.funcs[U]?=some L)(r:L.body=some J)(q:H.all (aay Tryz.prog)=true)(p:se Z)
  {I D:List TypeId}{x:List LK}{l:List SV}
  (k:look PT U=some I)(j:look SG U=some D)(i:fb (look TT) I=some Q)(e:fb (look TT) D=some x)
  (b:mq Q=true)(a:gP (look TT) I G=some l)(ac:pi 0 0 (pH B).length Q l=true)(bp:E=pH B++gt Q)(hq:B=false\/rf x=true)
  (af:((⟨[],[],0,0,[],0,0,[]⟩:S).bE Q).2.ni=C)(ag:((⟨[],[],0,0,[],0,0,[]⟩:S).bE Q).2.nb=y)
  (al:∀O,N=some O->∃d,qR J=some d/\oa Tryz.prog d.g O)
  (ht:WJ (mA Tryz.prog TT SG (EM B) H V Z M R) N W U J L.ntmps L.results.toList G ⟨[],[],C,y,E,0,0,[]⟩=A)
  (hc:A.eB (look TT) (look PT) (look SG) D C y E []=true):bL U B N.isSome A:=
 λz hz aQ an m=>asZ (F:=λP=>uM N.isSome (exec aQ m A (de (fU B) P) [])) an s r q p k j i e b a ac bp hq af ag ht
  (λO w=>⟨al O w,λP v h=>by
   subst w;simp only[Option.isSome_some] at h;cases X:exec aQ m A (de (fU B) P) [] with
   |none=>rw[X] at h;cases h
   |some o=>rw[X] at h;cases o<;>simp[uM] at h⟩) hc (λP o _ h=>by
   cases X:exec aQ m A (de (fU B) P) [] with
   |none=>simp only[X,uM] at h;cases h
   |some u=>
    simp only[X] at h;have:o=u:=by
     cases u with
     |ret ys=>simp only[uM,axM] at h;exact h.symm
     |aW v=>
      simp only[uM] at h;split at h;cases h;cases h;rfl
    subst this;exact⟨m,X⟩) hz
def Tf:List CT->Nat->Nat->Nat->List SV×Nat×Nat×Nat
 |[],a,b,c=>([],a,b,c)
 |.int k::l,a,b,c=>let r:=Tf l (a+1) b c;(.int k (.v a)::r.1,r.2)
 |.bool::l,a,b,c=>let r:=Tf l a (b+1) c;(.bool (.v b)::r.1,r.2)
 |.aq _ _::l,a,b,c=>let r:=Tf l a b (c+1);(.ref (.v c)::r.1,r.2)
def mkA:List TypeId->Nat->Nat->Nat->List SV
 |[],_,_,_=>[]
 |t::X,a,b,c=>match look TT t with
  |some Z=>let r:=Tf Z.ab a b c;(if Z.d.isAgg then .agg r.1 else r.1.headD .any)::mkA X r.2.1 r.2.2.1 r.2.2.2
  |none=>[]
def pkF(f:FuncId):List LK:=(fb (look TT) ((look PT f).getD [])).getD []
abbrev Tg:S:=⟨[],[],0,0,[],0,0,[]⟩
def tk{Z X:List TypeId}{P:List LK}(M:Tryz.prog.funcs[U]?=some L)(loops:List (Nat×Nat×dA):=[])(inl:List Nat:=[])(srts:List (FuncId×FuncId×TypeId×aI×Bool):=[])(ml:Bool:=false)(chs:List (Nat×Nat):=[])(g:Bool:=false)(dT:Option TypeId:=none)(n:Nat:=300)
  (O:List SV:=mkA ((look PT U).getD []) 0 0 (pH g).length)(W:Nat:=(Tg.bE (pkF U)).2.ni)(V:Nat:=(Tg.bE (pkF U)).2.nb)(R:List RK:=pH g++gt (pkF U))
  (hsr:se srts:=by exact λx J=>by cases J)(hdc:∀N,dT=some N->∃d,qR (L.body.getD .skip)=some d/\oa Tryz.prog d.g N:=by exact λ_ h=>by cases h)
  (I:L.body=some (L.body.getD .skip):=by rfl)(H:inl.all (aay Tryz.prog)=true:=by kernel_rfl)
  (F:look PT U=some Z:=by exact rfl)(E:look SG U=some X:=by exact rfl)(D:fb (look TT) Z=some Q:=by exact rfl)(C:fb (look TT) X=some P:=by exact rfl)
  (B:mq Q=true:=by exact rfl)(z:gP (look TT) Z O=some G:=by exact rfl)(y:pi 0 0 (pH g).length Q G=true:=by exact rfl)(bp:R=pH g++gt Q:=by exact rfl)(w:g=false\/rf P=true:=by first|exact .inl rfl|exact .inr rfl)
  (v:(Tg.bE Q).2.ni=W:=by exact rfl)(u:(Tg.bE Q).2.nb=V:=by exact rfl)
  (s:WJ (mA Tryz.prog TT SG (EM g) inl loops srts ml chs) dT n U (L.body.getD .skip) L.ntmps L.results.toList O ⟨[],[],W,V,R,0,0,[]⟩=A:=by kernel_rfl)
  (r:A.eB (look TT) (look PT) (look SG) X W V R []=true:=by kernel_rfl):bL U g dT.isSome A:=
 as0 M I H hsr F E D C B z y bp w v u hdc s r
structure abg(tb:fW)(z:Bool):Prop where
 tree:∀f fn,tb.tree f=some fn->bL f fn.g fn.d fn.t
 laid:∀f fn,tb.tree f=some fn->fn.g=true->z=true
 nf:∀f,oN z f (tb.nf f)
def oN.or{z:Bool}{F G:List XV->Option aT}(h:oN z U F)(k:oN z U G):oN z U (λX=>match F X with|some o=>some o|none=>G X):=by
 intro R Q P O N M L J W X o Z;simp only at Z;cases V:F W with
 |some I=>rw[V] at Z;simp only[axM] at Z;subst Z;exact h R Q P O N M L J W X I V
 |none=>rw[V] at Z;exact k R Q P O N M L J W X o Z
def Th{W:fW}{z:Bool}(Z:abg W z):∀n f,oN z f (W.aQ n f)
 |0,f=>Z.nf f
 |n+1,f=>by
  cases V:W.tree f with
  |none=>
   have:=oN.or (Z.nf f) (abe f);intro U R Q P O N M L J I o X;simp only[fW.aQ,V] at X;exact this U R Q P O N M L J I o X
  |some t=>
   have:=oN.or (Z.nf f) (Z.tree f t V z (Z.laid f t V) (W.aQ n) (Th Z n) n);intro U R Q P O N M L J I o X;simp only[fW.aQ,V] at X;exact this U R Q P O N M L J I o X
def Ti(h:(qR J).map DI.g=some U)(k:oa Tryz.prog U X):∃d,qR J=some d/\oa Tryz.prog d.g X:=by
 cases Z:qR J with
 |none=>rw[Z] at h;cases h
 |some d=>rw[Z] at h;cases h;exact⟨d,rfl,k⟩
def Tj:∀Z:List XV,wB Z Z
 |[]=>trivial
 |x::Z=>⟨by cases x with
  |i n=>rfl
  |b n=>rfl
  |r v=>exact bW.refl v,Tj Z⟩
def Tk{W:World}(h:∀e,LK.ref e∉Q):uK x W Q D:=λq e X Z _=>(h e (ax4 Z)).elim
def alm(h:∀e,LK.ref e∉Q):¬uJ x Q D W:=λ⟨q,e,X,Z,_,_⟩=>h e (ax4 Z)
def qH:List (FuncId×FuncId×TypeId×aI×Bool):=[(51,52,118,.lex [0,1,2] false,false),(140,141,90,.ratio 10 11,true),(223,224,90,.lex [0] false,false),(243,178,200,.lex [1,0] false,false),(322,323,393,.lex [4] true,true)]
end
end Go.Proofs.YtieaiocljdpebaaGreatDoor.Y
