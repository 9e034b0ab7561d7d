/- Part 13 of the proof; the last part says what is shown. -/
import Derived.Test.YtieaiocljdpebaaGreatDoorQ4
import Derived.Test.YtieaiocljdpebaaGreatDoorProg
import Derived.ChangeKeysEq
import Derived.Laws.StructEq
import Derived.MapKept
import Derived.KernelRfl
set_option linter.all false
open Bool renaming and_eq_true->ayz,not_eq_true'->ayS,false_eq_true->ayV,or_eq_true->ay2,and_assoc->aBR
open List renaming getD_eq_getElem?_getD->ayC,getElem?_append_left->ayD,getElem?_append_right->ayG,replicate->ayJ,all_eq_true->ayM,map_cons->ayO,mem_of_getElem?->ayW,length_eq_one_iff->ay5,length_eq_zero_iff->azw,range'->azW,length_drop->az2,length_take->az6,range_eq_range'->aAo,drop_drop->aAr,range'_succ->aAI
open Option.some renaming injEq->ayE
open Nat renaming mul_one->aCj
open Option renaming isSome_iff_exists->ayT
open Array renaming ext'->azv
open List.cons renaming injEq->azK
namespace Go.Proofs.YtieaiocljdpebaaGreatDoor.Y
open Go.RowKit
noncomputable section
variable{X:TypeId}{I:TypeInfo}{W C z:Nat}{F:List CT}{R:Bool}
section
def ql:Option TypeDesc->Bool
 |some (.struct _)|some (.array _ _)=>true
 |_=>false
def rO(P:Program)(t:TypeId)(Z:List Value):Value:=if ql (P.underlying t) then .agg Z.toArray else Z.getD 0 undef
def L6(P:Program)(dY:TypeId->List CT->Bool):Nat->List Field->List CT->Bool
 |_,[],ae=>ae.isEmpty
 |Z,f::X,ae=>f.name != "_"&&f.offset==Z&&(P.info? f.type).isSome&&decide (P.cellsOf f.type<=ae.length)&&dY f.type (ae.take (P.cellsOf f.type))&&L6 P dY (Z+P.cellsOf f.type) X (ae.drop (P.cellsOf f.type))
def L7(dY:List CT->Bool)(c:Nat):Nat->List CT->Bool
 |0,ae=>ae.isEmpty
 |n+1,ae=>decide (c<=ae.length)&&dY (ae.take c)&&L7 dY c n (ae.drop c)
def qm(P:Program):Nat->TypeId->List CT->Bool
 |0,_,_=>false
 |d+1,t,ae=>match P.underlying t with
  |some .bool=>(match ae with
   |[.bool]=>true
   |_=>false)
  |some (.int k)=>(match ae with
   |[.int Z]=>decide (k=Z)
   |_=>false)
  |some .string=>(match ae with
   |[.ax _ .str]=>true
   |_=>false)
  |some (.struct X)=> !P.stoodInHeld t&&L6 P (qm P d) 0 X.toList ae
  |some (.array n e)=>(P.info? e).isSome&&L7 (qm P d e) (P.cellsOf e) n ae
  |_=>false
def rP:∀{Z:List CT}{X:List Value},ij Z X->X.length=Z.length
 |[],[],_=>rfl
 |[],_::_,h=>h.elim
 |_::_,[],h=>h.elim
 |_::_,_::_,h=>by simp[rP h.2]
def aby:∀{Z:List CT}{X:List Value}(n:Nat),ij Z X->ij (Z.take n) (X.take n)/\ij (Z.drop n) (X.drop n)
 |[],[],n,_=>by simp[ij]
 |[],_::_,n,h=>h.elim
 |_::_,[],n,h=>h.elim
 |_::_,_::_,0,h=>⟨trivial,h⟩
 |_::_,_::_,n+1,h=>by
  obtain⟨a,b⟩:=aby n h.2;exact⟨⟨h.1,a⟩,b⟩
def ala:∀{Z X:List Value}{r:Bool}(n:Nat),gh Z X=some r->∃a b,gh (Z.take n) (X.take n)=some a/\gh (Z.drop n) (X.drop n)=some b/\r=(a&&b)
 |[],[],r,n,h=>by simp[gh] at h;subst h;exact⟨true,true,by simp[gh],by simp[gh],rfl⟩
 |[],_::_,r,n,h=>by simp[gh] at h
 |_::_,[],r,n,h=>by simp[gh] at h
 |x::Z,y::X,r,0,h=>⟨true,r,rfl,h,by simp⟩
 |x::Z,y::X,r,n+1,h=>by
  simp only[gh] at h;split at h;rename_i a b W V;cases h;obtain⟨c,d,U,R,rfl⟩:=ala n V;exact⟨a&&c,d,by simp[gh,W,U],by simpa using R,by simp[aBR]⟩;cases h
section
variable{P:Program}
def alb(w:World)(O:P.info? X=some I){Z:List Value}(h:ql (P.underlying X)=true\/W<Z.length/\P.cellsOf X=1)(N:(P.underlying X).isSome=true):(part X Z.toArray W).run P w=.ok (rO P X ((Z.drop W).take (P.cellsOf X))) w:=by
 obtain⟨d,U⟩:=ayT.1 N;unfold rO;by_cases V:ql (P.underlying X)=true;rw[if_pos V];have:(Z.toArray.extract W (W+P.cellsOf X))=((Z.drop W).take (P.cellsOf X)).toArray:=by
  apply azv;simp[List.extract]
 rw[U] at V;unfold ql at V;split at V;rename_i R;cases R;simp[part,isAgg,run_underlying U,run_sizeOf w O];rename_i R;cases R;simp[part,isAgg,run_underlying U,run_sizeOf w O];cases V;rw[if_neg V];obtain⟨Q,M⟩:=h.resolve_left V;have J:Z.toArray[W]?=some Z[W]:=by simp[Q]
 have L:((Z.drop W).take (P.cellsOf X)).getD 0 undef=Z[W]:=by rw[M];simp[ayC,Q]
 rw[L];rw[U] at V;cases d<;>first|(exact absurd rfl V)|simp[part,isAgg,run_underlying U,Q]
def atw(h:qm P W X F=true):(P.underlying X).isSome=true/\(ql (P.underlying X)=true\/F.length=1):=by
 cases W with
 |zero=>simp[qm] at h
 |succ W=>
  simp only[qm] at h;split at h;rename_i Z;rw[Z];split at h;exact⟨rfl,.inr rfl⟩;cases h;rename_i Z;rw[Z];split at h;exact⟨rfl,.inr rfl⟩;cases h;rename_i Z;rw[Z];split at h;exact⟨rfl,.inr rfl⟩;cases h;rename_i Z;rw[Z];exact⟨rfl,.inl rfl⟩;rename_i Z;rw[Z];exact⟨rfl,.inl rfl⟩;cases h
def S4(P:Program)(W m:Nat):Prop:=∀(t:TypeId)(ae:List CT)(Z X:List Value)(r:Bool)(w:World),qm P m t ae=true->ij ae Z->ij ae X->gh Z X=some r->(Op.equalIn W t (rO P t Z) (rO P t X)).run P w=.ok r w
def alc(D:S4 P W C)(w:World){V Y:List Value}(Q:(P.info? X).isSome=true)(p:P.cellsOf X<=F.length)(M:qm P C X (F.take (P.cellsOf X))=true)
  (L:ij F (V.drop z))(J:ij F (Y.drop z))(B:gh (V.drop z) (Y.drop z)=some R):
  ∃a b q O,(part X V.toArray z).run P w=.ok a w/\(part X Y.toArray z).run P w=.ok b w/\(Op.equalIn W X a b).run P w=.ok q w/\gh (V.drop (z+P.cellsOf X)) (Y.drop (z+P.cellsOf X))=some O/\R=(q&&O)/\
   ij (F.drop (P.cellsOf X)) (V.drop (z+P.cellsOf X))/\ij (F.drop (P.cellsOf X)) (Y.drop (z+P.cellsOf X)):=by
 obtain⟨i,Q⟩:=ayT.1 Q;obtain⟨I,U⟩:=atw M;obtain⟨A,H⟩:=aby (P.cellsOf X) L;obtain⟨y,G⟩:=aby (P.cellsOf X) J;obtain⟨q,O,x,N,v⟩:=ala (P.cellsOf X) B;have u:=rP L;have t:=rP J;have E:∀Z:List Value,(Z.drop z).length=F.length->ql (P.underlying X)=true\/z<Z.length/\P.cellsOf X=1:=by
  intro Z s;rcases U with U|U;exact .inl U;right;simp only[az6,az2] at U s;omega
 rw[aAr] at H G N;exact⟨_,_,q,O,alb w Q (E V u) I,alb w Q (E Y t) I,D X _ _ _ q w M A y x,by rw[<-aAr] at N⊢;simpa using N,v,H,G⟩
def ald{O m:Nat}(N:S4 P O m)(X Y:List Value):∀(U:List Field)(Z:Nat)(ae:List CT)(r:Bool)(w:World),L6 P (qm P m) Z U ae=true->ij ae (X.drop Z)->ij ae (Y.drop Z)->gh (X.drop Z) (Y.drop Z)=some r->
  (Op.eqFields O X.toArray Y.toArray U).run P w=.ok r w
 |[],Z,ae,r,w,W,R,Q,V=>by
  simp only[L6,List.isEmpty_iff] at W;subst W;have:=rP R;have:=rP Q;rw[azw.1 ‹(X.drop Z).length=_›,azw.1 ‹(Y.drop Z).length=_›] at V;simp[gh] at V;subst V;simp[Op.eqFields]
 |f::U,Z,ae,r,w,W,R,Q,V=>by
  simp only[L6,ayz,bne_iff_ne,beq_iff_eq,decide_eq_true_eq] at W;obtain⟨⟨⟨⟨⟨M,L⟩,J⟩,I⟩,H⟩,G⟩:=W;obtain⟨a,b,q,F,E,D,C,B,rfl,A,z⟩:=alc N w J I H R Q V;have y:=ald N X Y U _ _ F w G A z B;simp only[Op.eqFields,M,ne_eq,not_false_eq_true,if_true,Sem.run_bind,L,E,D,C,Result.andThen_ok];cases q;simp;simpa using y
def ale{R m:Nat}(Q:S4 P R m){e:TypeId}(O:(P.info? e).isSome=true)(X Y:List Value):∀(n j:Nat)(ae:List CT)(r:Bool)(w:World),L7 (qm P m e) (P.cellsOf e) n ae=true->ij ae (X.drop (j*P.cellsOf e))->ij ae (Y.drop (j*P.cellsOf e))->gh (X.drop (j*P.cellsOf e)) (Y.drop (j*P.cellsOf e))=some r->
  (Op.eqItems R e (P.cellsOf e) X.toArray Y.toArray (azW j n)).run P w=.ok r w
 |0,j,ae,r,w,Z,V,U,W=>by
  simp only[L7,List.isEmpty_iff] at Z;subst Z;have:=rP V;have:=rP U;rw[azw.1 ‹(X.drop _).length=_›,azw.1 ‹(Y.drop _).length=_›] at W;simp[gh] at W;subst W;simp[Op.eqItems]
 |n+1,j,ae,r,w,Z,V,U,W=>by
  simp only[L7,ayz,decide_eq_true_eq] at Z;obtain⟨⟨J,I⟩,H⟩:=Z;obtain⟨a,b,q,G,F,E,D,N,rfl,M,L⟩:=alc Q w O J I V U W;have C:j*P.cellsOf e+P.cellsOf e=(j+1)*P.cellsOf e:=by rw[Nat.succ_mul]
  rw[C] at N M L;have B:=ale Q O X Y n (j+1) _ G w H M L N;rw[aAI];simp only[Op.eqItems,Sem.run_bind,F,E,D,Result.andThen_ok];cases q;simp;simpa using B
def abz(d:Nat):∀m,S4 P (d+m) m
 |0=>λt ae M L r w h=>by simp[qm] at h
 |m+1=>by
  intro t ae M L r w Z W V U;have J:=abz d m;simp only[qm] at Z;split at Z;rename_i X;split at Z;obtain⟨x,rfl⟩:=ay5.1 (rP W);obtain⟨y,rfl⟩:=ay5.1 (rP V);have Q:=W.1;have O:=V.1;cases x<;>simp only[xY] at Q;cases y<;>simp only[xY] at O;simp[gh,xX] at U;subst U;simp[rO,X,ql,Op.equalIn,run_underlying X];cases Z;rename_i k X;split at Z;obtain⟨x,rfl⟩:=ay5.1 (rP W);obtain⟨y,rfl⟩:=ay5.1 (rP V);have Q:=W.1;have O:=V.1;cases x<;>simp only[xY] at Q;cases y<;>simp only[xY] at O;subst Q O;simp[gh,xX] at U;subst U;simp[rO,X,ql,Op.equalIn,run_underlying X];cases Z;rename_i X;split at Z;obtain⟨x,rfl⟩:=ay5.1 (rP W);obtain⟨y,rfl⟩:=ay5.1 (rP V);have Q:=W.1;have O:=V.1;cases x<;>simp only[xY] at Q;cases y<;>simp only[xY] at O;simp[gh,xX] at U;subst U;simp[rO,X,ql,Op.equalIn,run_underlying X,beq_toListBytes];cases Z;rename_i I X;simp only[ayz,ayS] at Z;have H:P.fieldsOf t=I:=by simp[Program.fieldsOf,X]
  have N:∀R:List Value,rO P t R=.agg R.toArray:=λR=>by simp[rO,X,ql]
  rw[N,N,show d+(m+1)=(d+m)+1 from rfl,run_equalIn_struct w (d+m) t _ _ (by rw[H];exact X) Z.1,H];exact ald J M L I.toList 0 ae r w Z.2 W V U;rename_i n e X;simp only[ayz] at Z;obtain⟨i,G⟩:=ayT.1 Z.1;have N:∀R:List Value,rO P t R=.agg R.toArray:=λR=>by simp[rO,X,ql]
  rw[N,N,show d+(m+1)=(d+m)+1 from rfl,run_equalIn_array w (d+m) _ _ X G,aAo];exact ale J Z.1 M L n 0 ae r w Z.2 (by simpa using W) (by simpa using V) (by simpa using U);cases Z
def abA(P:Program)(t:TypeId)(Z:TI):Bool:=ql (P.underlying t)&&qm P 20 t Z.ae&& !P.eqGuardType P.depth t
def atx{V:TI}(h:abA P X V=true):∀(Z W:List Value)(r:Bool)(x y:Operand)(w:World),ij V.ae Z->ij V.ae W->gh Z W=some r->
  (do eqGuard .eql X x y (.agg Z.toArray) (.agg W.toArray);binOp .eql X (.agg Z.toArray) (.agg W.toArray)).run P w=.ok (.bool r) w/\
  (do eqGuard .neq X x y (.agg Z.toArray) (.agg W.toArray);binOp .neq X (.agg Z.toArray) (.agg W.toArray)).run P w=.ok (.bool !r) w:=by
 intro Z W r x y w R Q O;simp only[abA,ayz,ayS] at h;have:=abz (P:=P) 9980 20 X V.ae Z W r w h.1.2 R Q O;simp only[rO,h.1.1,if_true] at this;have U:(Op.equal X (.agg Z.toArray) (.agg W.toArray)).run P w=.ok r w:=this;constructor;rw[Sem.run_bind];simp[eqGuard,h.2,binOp,U];rw[Sem.run_bind];simp[eqGuard,h.2,binOp,U]
end
end
variable{N:List Int}
section
section
variable{P:Program}
def aty{ag:Bool}(Z:N.length=W)(X:ag=false->W=1):sn (dX ag N)=N:=by
 cases ag with
 |false=>
  have:=X rfl;subst this;obtain⟨x,rfl⟩:=ay5.1 Z;rfl
 |true=>simp[dX,sn,Function.comp_def,bc]
def atz(R:P.underlying X=some (.int .i64)):pD P X 1 false:=by
 refine⟨λ_=>rfl,λl Z W O N=>⟨λb=>MapKept.run_checkKey R (by trivial) b 9999,MapKept.run_findKey R ?_⟩⟩;obtain⟨x,rfl⟩:=ay5.1 O;have:∀(Z:List MapEntry)(i:Nat),(∀e∈Z,∃V:List Int,V.length=1/\e.key=dX false V)->Instr.findNow (.int .i64) (dX false [x]) Z i=some (kf [x] Z i):=by
  intro Z;induction Z with
  |nil=>intro i _;rfl
  |cons e Z M=>
   intro i Q;obtain⟨V,L,J⟩:=Q e (by simp);obtain⟨y,rfl⟩:=ay5.1 L;simp only[Instr.findNow,J,kf];simp only[dX,ayV,if_false,List.headD_cons,Instr.sameNow,if_true,sn,azK,and_true];by_cases U:x=y;subst U;simp;have:¬y=x:=λe=>U e.symm
   simp only[this,if_false,show(x==y)=false by simpa using U];exact M (i+1) (λe I=>Q e (by simp[I]))
 exact this Z 0 N
def atA(d:TypeDesc)(Z:Array Value)(v:Value):Instr.sameNow d (.agg Z) v=none:=by
 cases d<;>rfl
def alf:∀(l Z:List Int),l.length=Z.length->gh (l.map (Value.int .i64)) (Z.map (Value.int .i64))=some (l==Z)
 |[],[],_=>rfl
 |[],_::_,h=>by simp at h
 |_::_,[],h=>by simp at h
 |x::X,y::W,h=>by
  have V:=alf X W (by simpa using h);simp only[ayO,gh,xX,V];rfl
def abB:∀(l:List Int),ij (ayJ l.length (.int .i64)) (l.map (Value.int .i64))
 |[]=>trivial
 |x::Z=>⟨rfl,abB Z⟩
def alg(Z:P.underlying X=some (.int .i64)){l:List Int}{off:Nat}(V:off<l.length)(W:World):∃a,(part X (l.map (Value.int .i64)).toArray off).run P W=.ok (.int .i64 a) W:=by
 refine⟨l[off],run_part_plain W (by simp[Program.plainKey,Z]) ?_⟩;simp[V]
def atB{e:TypeId}(Q:P.underlying X=some (.array W e))(U:P.underlying e=some (.int .i64))(O:P.info? e=some I)(M:P.cellsOf e=1)(L:N.length=W)(b:Bool)(m:Nat)(Z:World):(Instr.checkKey b (m+2) X (dX true N)).run P Z=.ok () Z:=by
 rw[show m+2=(m+1)+1 from rfl,Instr.checkKey];simp only[Sem.run_bind,cS.eE Q,Result.andThen_ok,dX,if_true];simp only[Std.Legacy.Range.forIn_eq_forIn_range',Std.Legacy.Range.size,Nat.sub_zero,Nat.add_one_sub_one,Nat.div_one];have V:∀j∈azW 0 W,j<W:=λj J=>by simpa[List.mem_range'] using J
 generalize azW 0 W=R at V;induction R with
 |nil=>simp
 |cons j R H=>
  obtain⟨a,G⟩:=alg U (l:=N) (off:=j*P.cellsOf e) (by rw[M,L,aCj];exact V j (by simp)) Z;have F:=MapKept.run_checkKey (w:=Z) (k:=.int .i64 a) U (by trivial) b m;simp only[List.forIn_cons,Sem.run_bind,run_sizeOf Z O,Result.andThen_ok,G,F,Sem.run_pure];exact H (λy E=>V y (by simp[E]))
def atC{V:Array Field}(Q:P.underlying X=some (.struct V))(U:∀f∈V.toList,f.name≠ "_"/\P.underlying f.type=some (.int .i64)/\f.offset<W)(O:N.length=W)(b:Bool)(m:Nat)(Z:World):(Instr.checkKey b (m+2) X (dX true N)).run P Z=.ok () Z:=by
 rw[show m+2=(m+1)+1 from rfl,Instr.checkKey];simp only[Sem.run_bind,cS.eE Q,Result.andThen_ok,dX,if_true];rw[<-Array.forIn_toList];generalize V.toList=L at U;induction L with
 |nil=>simp
 |cons f L M=>
  obtain⟨J,R,I⟩:=U f (by simp);obtain⟨a,H⟩:=alg R (l:=N) (off:=f.offset) (by rw[O];exact I) Z;have G:=MapKept.run_checkKey (w:=Z) (k:=.int .i64 a) R (by trivial) b m;simp only[List.forIn_cons,Sem.run_bind,J,ne_eq,not_false_eq_true,if_true,Result.andThen_ok,H,G,Sem.run_pure];exact M (λy F=>U y (by simp[F]))
def alh{d:TypeDesc}(N:P.underlying X=some d)(I:ql (P.underlying X)=true)(H:qm P 20 X (ayJ W (.int .i64))=true)
  (G:∀(l:List Int)(b:Bool)(Z:World),l.length=W->(Instr.checkKey b 10000 X (dX true l)).run P Z=.ok () Z):pD P X W true:=by
 refine⟨λh=>(by cases h),λl V Z R F=>⟨λb=> ?_, ?_⟩⟩;exact G l b Z R;have E:∀l:List Int,dX true l=.agg (l.map (Value.int .i64)).toArray:=λl=>rfl
 have D:∀(V:List MapEntry)(i:Nat),(∀e∈V,∃U:List Int,U.length=W/\e.key=dX true U)->(Instr.findAsking X (dX true l) V i).run P Z=.ok (kf l V i) Z:=by
  intro V;induction V with
  |nil=>intro i _;rfl
  |cons e V C=>
   intro i M;obtain⟨U,Q,L⟩:=M e (by simp);have J:=abz (P:=P) 9980 20 X (ayJ W (.int .i64)) (l.map (Value.int .i64)) (U.map (Value.int .i64)) (l==U) Z H (by rw[<-R];exact abB l) (by rw[<-Q];exact abB U) (alf l U (by rw[R,Q]));simp only[rO,I,if_true] at J;have B:(Op.equal X (dX true l) e.key).run P Z=.ok (l==U) Z:=by rw[L];exact J
   simp only[Instr.findAsking,Sem.run_bind,B,Result.andThen_ok];simp only[kf,L,aty (ag:=true) Q (by simp)];by_cases O:U=l;rw[O];simp;have A:(l==U)=false:=by
    cases z:l==U;rfl;exact absurd (eq_of_beq z).symm O
   simp only[O,A,ayV,if_false];exact C (i+1) (λe y=>M e (by simp[y]))
 have x:=D V 0 F;cases V with
 |nil=>simp[Instr.findKey,cS.eE N,Instr.findNow,kf,Result.andThen]
 |cons e V=>
  have:Instr.findNow d (dX true l) (e::V) 0=none:=by simp only[Instr.findNow,E,atA]
  simp only[Instr.findKey,Sem.run_bind,cS.eE N,Result.andThen_ok,this];exact x
end
end
section
set_option maxRecDepth 100000
abbrev ri(n:Nat):List CT:=ayJ n (.int .i64)
abbrev aq:Option TI:=some ⟨.one,[.ax .nilFunc .ax],false⟩
abbrev vl:Option TI:=some ⟨(.struct [(0,3),(1,3),(2,3)]),[.int .i64,.int .i64,.int .i64],true⟩
abbrev zD:Option TI:=some ⟨.one,[.ax (.pointer none) .ax],false⟩
abbrev BZ:Option TI:=some ⟨(.struct [(0,3),(1,3)]),[.int .i64,.int .i64],true⟩
abbrev S5:Option TI:=some ⟨.one,[.int .i64],false⟩
abbrev S7:Option TI:=some ⟨.one,[.int .u8],false⟩
abbrev S8:Option TI:=some ⟨.one,[.int .u64],false⟩
abbrev S9:Option TI:=some ⟨(.struct [(0,3),(1,3),(2,3),(3,3)]),ri 4,true⟩
abbrev ti8:Option TI:=some ⟨.str,[.ax (.string ⟨#[]⟩) .str],false⟩
abbrev ti9:Option TI:=some ⟨.one,[.int .i32],false⟩
abbrev abE:Option TI:=some ⟨(.struct [(0,63),(2,63)]),ri 4,true⟩
abbrev ali:Option TI:=some ⟨(.struct [(0,2),(1,3),(2,4),(3,6)]),[.int .i64,.int .i64,.bool,.int .u8],true⟩
abbrev alj:Option TI:=some ⟨(.struct [(0,9),(1,12)]),[.ax (.string ⟨#[]⟩) .str,.int .u64],false⟩
abbrev alk:Option TI:=some ⟨(.struct [(0,17)]),[.ax (.pointer none) .ax],false⟩
abbrev alm:Option TI:=some ⟨(.struct [(0,3),(1,25),(2,26),(3,27)]),[.int .i64,.ax (.slice none 0 0) (.sl 175),.ax (.slice none 0 0) (.sl 312),.ax (.slice none 0 0) (.sl 314)],false⟩
abbrev aln:Option TI:=some ⟨(.struct [(0,3),(1,3),(2,23),(5,24),(6,29),(10,30)]),ri 5++[.ax (.slice none 0 0) (.sl 173),.int .i64,.ax (.slice none 0 0) (.sl 175),.ax (.slice none 0 0) (.sl 312),.ax (.slice none 0 0) (.sl 314),.ax (.slice none 0 0) (.sl 90)],false⟩
abbrev alo:Option TI:=some ⟨(.struct [(0,33)]),[.ax (.slice none 0 0) (.sl 73)],false⟩
abbrev alp:Option TI:=some ⟨(.struct [(0,3),(1,37),(2,38),(3,38),(4,39),(5,42)]),[.int .i64,.ax (.slice none 0 0) (.sl 4),.ax (.slice none 0 0) (.sl 71),.ax (.slice none 0 0) (.sl 71),.ax (.slice none 0 0) (.sl 82),.ax (.slice none 0 0) (.sl 65)],false⟩
abbrev alq:Option TI:=some ⟨(.struct [(0,3),(1,3),(2,3),(3,69)]),ri 13,true⟩
abbrev alr:Option TI:=some ⟨(.struct [(0,65),(4,3),(5,3),(6,3),(7,3)]),ri 8,true⟩
abbrev als:Option TI:=some ⟨(.struct [(0,9),(1,3),(2,3),(3,3),(4,3),(5,3),(6,77),(9,77),(12,77),(15,3),(16,3)]),[.ax (.string ⟨#[]⟩) .str]++ri 16,true⟩
abbrev alu:Option TI:=some ⟨(.struct [(0,3),(1,3),(2,3),(3,3),(4,3),(5,3),(6,3),(7,3),(8,3),(9,3),(10,88),(12,88)]),ri 14,true⟩
abbrev alv:Option TI:=some ⟨(.struct [(0,3),(1,3),(2,3),(3,4)]),[.int .i64,.int .i64,.int .i64,.bool],true⟩
abbrev alw:Option TI:=some ⟨(.struct [(0,3),(1,4),(2,79),(19,71),(32,82)]),[.int .i64,.bool,.ax (.string ⟨#[]⟩) .str]++ri 29++[.ax (.slice none 0 0) (.sl 96)],false⟩
abbrev alx:Option TI:=some ⟨(.struct [(0,79)]),[.ax (.string ⟨#[]⟩) .str]++ri 16,true⟩
abbrev aly:Option TI:=some ⟨(.struct [(0,163),(1,3),(2,3),(3,3)]),[.ax .nilFunc .ax,.int .i64,.int .i64,.int .i64],false⟩
abbrev alz:Option TI:=some ⟨(.struct [(0,9),(1,3),(2,3),(3,3)]),[.ax (.string ⟨#[]⟩) .str,.int .i64,.int .i64,.int .i64],true⟩
abbrev alA:Option TI:=some ⟨(.struct [(0,4),(1,4),(2,4),(3,3),(4,3),(5,3)]),[.bool,.bool,.bool,.int .i64,.int .i64,.int .i64],true⟩
abbrev alB:Option TI:=some ⟨(.struct [(0,90),(14,96)]),ri 17++[.bool],true⟩
abbrev alC:Option TI:=some ⟨(.struct [(0,328),(1,4),(2,307),(3,4),(4,329)]),[.ax .nilFunc .ax,.bool,.ax .nilFunc .ax,.bool,.ax .nilFunc .ax],false⟩
abbrev alD:Option TI:=some ⟨(.struct [(0,356),(8,357),(12,358)]),ri 12++[.ax .nilFunc .ax],false⟩
abbrev alE:Option TI:=some ⟨(.struct [(0,71),(13,90),(27,96)]),ri 30++[.bool],true⟩
abbrev alF:Option TI:=some ⟨(.struct [(0,96),(4,3)]),[.int .i64,.int .i64,.int .i64,.bool,.int .i64],true⟩
abbrev alG:Option TI:=some ⟨(.struct [(0,17),(1,17),(2,17),(3,9)]),[.ax (.pointer none) .ax,.ax (.pointer none) .ax,.ax (.pointer none) .ax,.ax (.string ⟨#[]⟩) .str],false⟩
abbrev alH:Option TI:=some ⟨(.struct [(0,426)]),[],false⟩
abbrev alI:Option TI:=some ⟨(.struct [(0,12),(1,12),(2,287),(3,430),(4,5),(5,5),(6,431),(7,432),(8,433),(9,434),(10,435)]),[.int .u64,.int .u64,.int .u32,.int .u8,.int .u8,.int .u8,.int .u8,.ax .nilFunc .ax,.ax (.pointer none) .ax,.int .i32,.int .i32],false⟩
abbrev bm:Option (List TypeId):=some [4]
abbrev bR:Option (List TypeId):=some []
abbrev ce:Option (List TypeId):=some [3]
abbrev mZ:Option (List TypeId):=some [45]
abbrev rQ:Option (List TypeId):=some [3,3,3]
abbrev tL:Option (List TypeId):=some [3,3]
abbrev vn:Option (List TypeId):=some [65,45]
abbrev vo:Option (List TypeId):=some [65]
abbrev xA:Option (List TypeId):=some [368]
abbrev zE:Option (List TypeId):=some [82]
abbrev zF:Option (List TypeId):=some [65,65]
abbrev B3:Option (List TypeId):=some [4,45]
abbrev B4:Option (List TypeId):=some [3,45]
abbrev Ek:Option (List TypeId):=some [30]
abbrev El:Option (List TypeId):=some [32,35,36,44]
abbrev Em:Option (List TypeId):=some [79]
abbrev En:Option (List TypeId):=some [90,96]
abbrev Eo:Option (List TypeId):=some [30,3,3,3,234]
abbrev Ij:Option (List TypeId):=some [166]
abbrev Ik:Option (List TypeId):=some [3,4]
abbrev Il:Option (List TypeId):=some [29]
abbrev Im:Option (List TypeId):=some [167,3]
abbrev In:Option (List TypeId):=some [90]
abbrev Io:Option (List TypeId):=some [121,3,3,123]
abbrev Ip:Option (List TypeId):=some [30,3,3,234]
abbrev Iq:Option (List TypeId):=some [196,3,3,274]
def TT:List (List (Option TI)):=[
[none,aq,S5,S5,some ⟨.one,[.bool],false⟩,S7,S7,ali,ali,ti8,ti8,ti8,S8,alj,alj,zD],
 [zD,zD,alk,alk,some ⟨.dD,[.ax .nilIface .ax],false⟩,ti9,vl,vl,some ⟨(.slice 173),[.ax (.slice none 0 0) (.sl 173)],false⟩,some ⟨(.slice 175),[.ax (.slice none 0 0) (.sl 175)],false⟩,some ⟨(.slice 312),[.ax (.slice none 0 0) (.sl 312)],false⟩,some ⟨(.slice 314),[.ax (.slice none 0 0) (.sl 314)],false⟩,alm,alm,some ⟨(.slice 90),[.ax (.slice none 0 0) (.sl 90)],false⟩,aln],
 [aln,some ⟨(.slice 73),[.ax (.slice none 0 0) (.sl 73)],false⟩,alo,alo,some ⟨(.slice 79),[.ax (.slice none 0 0) (.sl 79)],false⟩,some ⟨(.slice 4),[.ax (.slice none 0 0) (.sl 4)],false⟩,some ⟨(.slice 71),[.ax (.slice none 0 0) (.sl 71)],false⟩,some ⟨(.slice 82),[.ax (.slice none 0 0) (.sl 82)],false⟩,aq,aq,some ⟨(.slice 65),[.ax (.slice none 0 0) (.sl 65)],false⟩,alp,alp,S5,none,aq],
 [aq,aq,some ⟨(.slice 98),[.ax (.slice none 0 0) (.sl 98)],false⟩,none,aq,none,aq,aq,aq,aq,aq,some ⟨(.slice 142),[.ax (.slice none 0 0) (.sl 142)],false⟩,none,aq,BZ,BZ],
 [abE,abE,aq,BZ,BZ,some ⟨(.arr 5 68),ri 10,true⟩,alq,alq,alr,alr,none,aq,aq,some ⟨(.arr 3 3),[.int .i64,.int .i64,.int .i64],true⟩,als,als],
 [aq,aq,some ⟨(.slice 96),[.ax (.slice none 0 0) (.sl 96)],false⟩,aq,aq,aq,aq,BZ,BZ,alu,alu,aq,aq,none,aq,alv],
 [alv,vl,vl,aq,aq,zD,aq,aq,aq,aq,aq,aq,aq,aq,aq,aq],
 [some ⟨(.map 118 4 3 true),[.ax (.map none) .ax],false⟩,aq,aq,aq,alw,alw,vl,aq,aq,some ⟨(.slice 118),[.ax (.slice none 0 0) (.sl 118)],false⟩,aq,aq,aq,aq,aq,aq],
 [aq,some ⟨(.slice 202),[.ax (.slice none 0 0) (.sl 202)],false⟩,none,aq,aq,aq,aq,some ⟨(.slice 3),[.ax (.slice none 0 0) (.sl 3)],false⟩,none,aq,some ⟨(.map 3 4 1 false),[.ax (.map none) .ax],false⟩,aq,aq,some ⟨(.map 142 4 2 true),[.ax (.map none) .ax],false⟩,some ⟨(.arr 2 3),[.int .i64,.int .i64],true⟩,abE],
 [aq,aq,aq,aq,aq,aq,aq,aq,aq,aq,aq,aq,aq,none,aq,none],
 [aq,alx,alx,aq,aly,aly,zD,zD,aq,some ⟨(.arr 7 165),(ayJ 7 [.ax .nilFunc .ax,.int .i64,.int .i64,.int .i64]).flatten,false⟩,aq,some ⟨(.slice 165),[.ax (.slice none 0 0) (.sl 165)],false⟩,alz,alz,vl,vl],
 [none,aq,aq,aq,aq,aq,aq,aq,none,aq,aq,aq,aq,aq,aq,aq],
 [aq,aq,aq,aq,some ⟨(.slice 200),[.ax (.slice none 0 0) (.sl 200)],false⟩,none,aq,BZ,BZ,vl,vl,aq,aq,S8,aq,aq],
 [aq,aq,aq,aq,aq,aq,aq,aq,aq,aq,aq,aq,aq,aq,aq,aq],
 [aq,aq,none,aq,vl,vl,none,aq,aq,aq,aq,none,aq,aq,none,some ⟨(.map 3 237 1 false),[.ax (.map none) .ax],false⟩],
 [aq,aq,aq,aq,alA,alA,some ⟨(.arr 10 245),(ayJ 10 [.bool,.bool,.bool,.int .i64,.int .i64,.int .i64]).flatten,true⟩,aq,some ⟨(.arr 2 88),ri 4,true⟩,some ⟨(.slice 248),[.ax (.slice none 0 0) (.sl 248)],false⟩,some ⟨(.slice 258),[.ax (.slice none 0 0) (.sl 258)],false⟩,none,aq,aq,aq,aq],
 [some ⟨(.arr 5 4),[.bool,.bool,.bool,.bool,.bool],true⟩,alB,alB,some ⟨(.arr 2 135),[.ax (.slice none 0 0) (.sl 3),.ax (.slice none 0 0) (.sl 3)],false⟩,some ⟨(.arr 10 259),.replicate 20 (.ax (.slice none 0 0) (.sl 3)),false⟩,aq,aq,aq,aq,aq,aq,aq,aq,aq,aq,aq],
 [some ⟨(.map 3 96 1 false),[.ax (.map none) .ax],false⟩,aq,aq,aq,some ⟨(.arr 2 42),[.ax (.slice none 0 0) (.sl 65),.ax (.slice none 0 0) (.sl 65)],false⟩,some ⟨(.arr 5 276),.replicate 10 (.ax (.slice none 0 0) (.sl 65)),false⟩,aq,S5,none,aq,aq,aq,none,aq,aq,some ⟨.one,[.int .u32],false⟩],
 [aq,S8,aq,aq,aq,aq,aq,aq,aq,aq,none,aq,aq,some ⟨(.arr 8 142),ri 16,true⟩,aq,aq],
 [aq,aq,aq,aq,aq,aq,aq,S9,S9,S9,S9,aq,aq,aq,none,aq],
 [aq,aq,aq,aq,aq,aq,some ⟨(.map 3 331 1 false),[.ax (.map none) .ax],false⟩,aq,aq,aq,alC,alC,aq,aq,some ⟨(.map 3 40 1 false),[.ax (.map none) .ax],false⟩,aq],
 [S8,aq,aq,aq,aq,aq,aq,aq,aq,aq,aq,aq,aq,aq,aq,aq],
 [aq,aq,aq,aq,some ⟨(.arr 4 142),ri 8,true⟩,some ⟨(.arr 2 142),ri 4,true⟩,aq,alD,alD,none,some ⟨(.map 3 360 1 false),[.ax (.map none) .ax],false⟩,aq,aq,some ⟨(.arr 4 3),ri 4,true⟩,alE,alE],
 [zD,aq,aq,aq,aq,aq,aq,none,aq,aq,aq,aq,none,aq,zD,aq],
 [aq,aq,aq,aq,aq,aq,aq,some ⟨(.slice 393),[.ax (.slice none 0 0) (.sl 393)],false⟩,alF,alF,aq,aq,aq,aq,aq,aq],
 [aq,aq,aq,aq,aq,aq,aq,aq,aq,aq,aq,aq,aq,aq,aq,aq],
 [aq,aq,aq,aq,aq,aq,aq,aq,alG,alG,some ⟨(.arr 0 16),[],true⟩,alH,alH,aq,S7,S7],
 [aq,zD,ti9,ti9,alI,alI,none]]
def SG:List (List (Option (List TypeId))):=[
[none,none,bR,bm,bm,bm,bm,bm,bm,bm,bm,bm,bm,some [44,45],some [44,45],bm],
 [some [50,45],some [50,45],B3,B3,bm,some [44,45],some [44,45],some [59,45],B3,vn,B3,vn,bm,bm,bm,B3],
 [some [32,36,38,39],bm,bR,bR,bR,mZ,bR,some [44],mZ,bm,some [44,45],bm,bm,bm,bR,some [44]],
 [some [114],bR,bR,bR,ce,mZ,some [50],B3,some [59],some [42],some [129,45],bm,bm,bR,bR,some [135,45]],
 [some [135],mZ,bm,bm,bm,bm,bm,some [149],vn,bm,mZ,mZ,some [155],some [30,45],some [82,45],bm],
 [some [169],mZ,bm,mZ,bm,mZ,some [37],some [38],zE,some [71,45],vn,mZ,bm,bm,mZ,mZ],
 [some [71,45],vo,bm,bR,ce,bm,bm,bm,some [196,45],some [42],some [129,45],bR,ce,ce,ce,bm],
 [vn,Ek,some [196,45],some [96],bm,bm,bm,bm,bm,bm,vn,bm,bm,bm,some [129],bm],
 [bm,vo,ce,bm,bR,vn,bm,bm,bm,bR,B4,some [229,45],bR,ce,B4,some [90,45]],
 [some [239],Ij,Ij,Ij,Ij,Ij,Ij,bR,bR,some [23],bm,some [250,4],some [254],vo,vo,bm],
 [bm,bm,bm,bm,mZ,bm,bm,mZ,bm,some [30,45],bm,some [71,45],vn,ce,bm,some [196]],
 [some [270],some [272],ce,bm,bm,bm,bR,bR,bR,some [3,279],bR,bm,ce,Ik,ce,ce],
 [bm,bm,vn,vn,Ek,Ek,some [196],some [196],some [71,45],zE,bm,vo,tL,bm,B3,ce],
 [ce,bR,mZ,Ik,ce,some [237],ce,ce,some [237],zE,bR,bm,ce,ce,Ek,bR],
 [ce,bm,bR,some [71,45],ce,ce,ce,mZ,B4,bm,bm,bm,bm,some [38,4],vo,vn],
 [bm,bm,some [196],bR,bR,some [326],bm,bm,some [229],ce,bm,bm,ce,bR,some [205],some [289]],
 [ce,ce,some [63],Ek,ce,some [229,45],ce,some [229],ce,bm,bm,some [71],zE,B4,ce,bm],
 [ce,bR,bR,some [205],some [205],zE,zE,zE,some [353],ce,bm,bR,bm,some [362],bR,bm],
 [bm,bm,bm,bm,bm,vo,some [256],ce,vo,some [63,4],ce,some [196],bR,ce,ce,ce],
 [ce,ce,ce,ce,ce,ce,some [3,3,45],tL,bm,some [3,3,45],ce,some [3,3,45],bm,ce,Ik,ce],
 [bR,some [389],bR,ce,bR,Ik,bR,bR,some [3,279],bR,bm,ce,Ik,bR,bR,bR],
 [bR,bR,bR,bR,bR,bR,ce,ce,bm,bR,bR,bR,some [3,279],bR,bm,ce],
 [Ik,B4,some [3,3,45],B4,B4,none,bR,bR,bR,B4,bR,ce,ce,bR,bR,bR],
 [bR,ce,ce,ce,bm,bR,bR,tL,some [3,3,45],tL,bR,bR,none,none,none,none],
 [none,none,none,none,none,none,none,none,none,none,none,none,none,none,none,none],
 [none,bR]]
def PT:List (List (Option (List TypeId))):=[
[none,none,bR,some [32,35,36,3,37,38,39],El,some [32,35,36,44,37],some [32,35,36,44,37],some [32,35,36,44,37,37],some [32,35,36,44,5],some [32,35,36,3,37,38,39,5,5],some [32,35,36,44,36],bR,some [32,35,36,38,39],some [32,35,36,3,37,38,39],some [32,35,36,3,37,38,39],some [44,44]],
 [El,El,El,El,some [50,50],some [32,35,36,44,37],some [32,35,36,44,37],some [32,3],zF,some [73,3],zF,some [71,79],some [59,3,3],some [32,79,3,3,82],some [50,3,3],some [79,79]],
 [bR,some [32],none,some [20,101],mZ,some [32],some [32,36,3,37,38,39],some [32,36,3,37,38,39],some [32],some [32,36,3,37,38,39],some [32,36,3,37,38,39],some [37,37],some [38,38],some [39,39],none,El],
 [some [36,37,38,39],some [32,36,44,117,112],some [32,35,36,44,112],some [121,123],some [118,118],El,some [32,36,44,3],zF,some [32,3],some [36,38],some [32,35,3,42,42,59],some [129,3],some [59,42,3],none,bm,some [32,3]],
 [some [3,59],some [32,3],some [143],some [143,143,145],some [63,63],vo,rQ,some [73,3],zF,some [63,63],some [71],Em,some [71,79],some [32,3,3],some [32,3,79],none],
 [bR,Il,rQ,some [23],some [90,3,3],some [32,3,3,82],some [37],some [38],zE,some [32,3,3,71,82],some [32,3,3,71,79,82],Il,some [32],some [32,36],some [71],some [32,3,3,82]],
 [some [32,3,3,4,71,82],some [32,79,3,3,4,71,82],some [82,82],none,some [82,193],none,some [82,96],some [32,44,90],some [32,3,3,71,36,82],some [36,38],some [32,35,3,42,42,59],some [121,3,3,3,123],some [205],some [135],tL,some [32,36,44]],
 [some [73,3],some [32,3,3],some [32,3,3,71,36,82],some [82,3],some [32,79,90,96],some [196,3],some [32,44,90],vo,some [63,63],some [32,3,3,3],some [71,79],rQ,some [42,3],some [59,3],some [3,42,42,59],zF],
 [zF,some [32],none,some [3,135],none,some [65,3,3],rQ,some [9],some [3,3,135],none,tL,tL,some [30,234],some [90,90],some [88,88],some [32,3]],
 [bR,Im,Im,Im,Im,Im,Im,none,Il,some [23],some [3,4,3,3],some [30,82],some [71,250],ce,some [65,42],rQ],
 [Il,Il,Il,rQ,some [23],some [90,3],In,Em,rQ,some [32,3,3],some [30,82],some [32,3,3,71,82],some [32,3,3,71,79,82],some [82,96],some [32,36],some [270,274]],
 [some [32,3,3,71,36,272],zE,some [200,200],vo,some [42,146],zF,Io,Io,Io,Io,Io,Io,some [121,3,3,3,123],some [121,3,3,3,123],some [287],some [289]],
 [ce,some [73],some [73,3],zF,Ek,some [32,3,3],some [196,196],some [32,36,90,71,96],some [71,90,96],some [23,90,79],some [63],rQ,some [71,3,79],some [59,3,3],zF,some [5]],
 [none,some [30,3,234],some [88],some [30,3,305],some [90,3],some [307],Em,Em,ce,some [23,90,79],B3,rQ,some [29,3],some [135],Ek,some [30,234]],
 [some [90,90],En,none,some [71,90,96],some [29,3],tL,ce,some [88],some [88,88],some [9],rQ,some [77,3],En,some [30,71,82],some [30,71,79,82],some [65,3,3]],
 [some [36,322],Em,some [270],some [196,274],none,bR,none,none,some [68,3],some [29,90],none,none,some [42,146],some [121,3,3,3,123],ce,some [382]],
 [some [121,3,166,123],some [121,3,3,3,166,123],some [63,63],some [30,90],In,tL,some [229,229],some [68,3],some [29,90],some [3,3,3,3,3,3],En,some [71,3,3],some [23,90,3],tL,ce,some [63,63]],
 [some [9,5],Ip,Eo,some [205,205],ce,none,none,some [353],some [23,90,3],some [3,290],none,Eo,rQ,bR,none,some [88]],
 [some [88,88],some [88,88],some [5],some [5],rQ,ce,In,some [79,3],some [71,79,3],some [63,3],some [36,322],some [196,270],some [196,3,3,3,274],En,In,Em],
 [En,Em,En,In,In,En,some [29,3,88],some [121,3,3,166,123],some [90,90],ce,ce,some [29,3,88],rQ,some [23,90,3],some [23,3,3,3,3],some [9,5]],
 [Eo,some [205,205],some [391,395],some [393,393],none,some [3,3,3,3],Ip,Ip,Ip,Ip,Ip,Eo,Eo,xA,xA,xA],
 [xA,xA,xA,xA,xA,xA,tL,ce,some [5],Iq,Iq,Iq,Iq,Iq,Iq,some [196,3,3,3,274]],
 [some [196,3,3,3,274],some [29,3],some [88,3],some [29,3],some [229,229],none,Eo,none,some [391,3,395],some [229,229],Eo,some [30,3,166,234],some [30,3,3,3,166,234],xA,some [368,135],some [368,3]],
 [some [196,3,3,3,274],some [196,3,166,274],some [196,3,3,3,166,274],tL,some [229],some [391,3,3,395],some [391,3,3,3,395],some [30,3,3,166,234],ce,some [196,3,3,166,274],some [391,3,3,3,395],some [391,3,3,3,395],none,none,none,none],
 [none,none,none,none,none,none,none,none,none,none,none,none,none,none,none,none],
 [none,bR]]
def alJ:TD->Bool
 |.map k _ n Z=>(k==3&&n==1&& !Z)||(k==142&&n==2&&Z)||(k==118&&n==3&&Z)
 |_=>true
def atD:pD Tryz.prog 3 1 false:=atz (by kernel_rfl)
def atE:pD Tryz.prog 142 2 true:=by
 have Z:Tryz.prog.underlying 142=some (.array 2 3):=by kernel_rfl
 obtain⟨i,X⟩:∃i,Tryz.prog.info? 3=some i:=ayT.1 (by kernel_rfl);exact alh Z (by kernel_rfl) (by kernel_rfl) (λl b W V=>atB Z (by kernel_rfl) X (by kernel_rfl) V b 9998 W)
def alK(P:Program)(k n:Nat):Bool:=match P.underlying k with
 |some (.struct Z)=>Z.toList.all λf=>f.name != "_"&&(match P.underlying f.type with
  |some (.int .i64)=>true
  |_=>false)&&decide (f.offset<n)
 |_=>false
def atF{P:Program}(h:alK P W C=true)(U:ql (P.underlying W)=true)(R:qm P 20 W (ayJ C (.int .i64))=true):pD P W C true:=by
 unfold alK at h;split at h;rename_i N X;refine alh X U R (λl b Z Q=>atC X (λf O=> ?_) Q b 9998 Z);have:=ayM.1 h f O;simp only[ayz,bne_iff_ne,ne_eq,decide_eq_true_eq] at this;refine⟨this.1.1, ?_,this.2⟩;have V:=this.1.2;split at V;assumption;cases V;cases h
def atG:pD Tryz.prog 118 3 true:=atF (by kernel_rfl) (by kernel_rfl) (by kernel_rfl)
def atH:An (λt Z=>Wj Tryz.prog t Z&&(!Z.eq||abA Tryz.prog t Z)&&alJ Z.d) 0 TT=true:=by kernel_rfl
def Ta:An (λg _=>qK Tryz.prog g) 0 SG=true:=by kernel_rfl
def Ir:fz Tryz.prog (look TT):=by
 intro t V h;have:=afJ atH h;simp only[ayz,ay2,ayS] at this;refine ap8 this.1.1 (λX=>atx (this.1.2.resolve_left (by rw[X];simp))) (λk e n U W=> ?_);have Z:=this.2;rw[W] at Z;simp only[alJ,ay2,ayz,beq_iff_eq,ayS] at Z;rcases Z with(⟨⟨rfl,rfl⟩,rfl⟩|⟨⟨rfl,rfl⟩,rfl⟩)|⟨⟨rfl,rfl⟩,rfl⟩;exact atD;exact atE;exact atG
def Tb:Tryz.prog.follows .mixedOrders=true:=by kernel_rfl
end
variable{U:FuncId}{L:Func}{J:Code}{H:List Nat}{V:List (Nat×Nat×dq)}{Z:List (FuncId×FuncId×TypeId×aU×Bool)}{B:Bool}{Q:List (Nat×Nat)}{M:Option TypeId}{O:List LK}{G:List SV}{A:T}{E:List RK}
def GL:List (Nat×Nat×Nat):=[(0,0,6),(1,1,2),(2,2,2)]
def GLK:List RK:=[.sl 245,.sl 259,.sl 142]
def GW(W:World):Prop:=∃Z,J2 (look TT) GL GLK oE W Z
def GW.grow{W Z:World}(X:Below W.heap.size W Z)(h:GW W):GW Z:=by
 obtain⟨V,U,R,Q,P⟩:=h;exact⟨V,U,R,λk e O N M=>(Q k e O N M).grow X,P⟩
def qn(Z:List (FuncId×FuncId×TypeId×aU×Bool)):Prop:=∀x∈Z,jm Tryz.prog (look TT) x.1 x.2.1 x.2.2.1 x.2.2.2.1 x.2.2.2.2
def GZ(z:Bool)(W:World):Prop:=z=true->GW W
def GZ.grow{z:Bool}{W Z:World}(X:Below W.heap.size W Z)(h:GZ z W):GZ z Z:=λe=>(h e).grow X
abbrev nZ(z:Bool)(f:FuncId)(F:List XV->Option aQ):Prop:=C4 Tryz.prog (look TT) (look PT) (look SG) (GZ z) f F
def alL:∀{Z:List LK},lO Z=true->∀(k:Nat)(t:TypeId),(f8 Z)[k]?≠some (.own t)
 |[],_,k,t=>by simp[f8]
 |x::Z,h,k,t=>by
  simp only[lO,ayz] at h;have X:=alL h.2;cases x with
  |int _=>exact X k t
  |bool=>exact X k t
  |ref e=>
   cases k with
   |zero=>
    intro W;simp[f8] at W;subst W;simp[Cu] at h
   |succ k=>simpa[f8] using X k t
def Ep(g:Bool):List (Nat×Nat×Nat):=if g then GL else[]
def pf(g:Bool):List RK:=if g then GLK else[]
def alM(g:Bool)(Z:g=true->R=true)(W:World)(h:GZ R W):∃X,J2 (look TT) (Ep g) (pf g) (iH g) W X:=by
 cases g with
 |true=>exact h (Z rfl)
 |false=>exact⟨[],rfl,λk v U h=>by simp[iH] at h,λk e Q h=>by simp[pf] at h,λP x V=>by simp[Ep] at V⟩
def atI{aO:jQ}(af:∀U,nZ R U (aO U))(hf:Tryz.prog.funcs[U]?=some L)(hb:L.body=some J)(hi:H.all (qK Tryz.prog)=true)(ag:qn Z){g:Bool}
  {q x:List TypeId}{p:List LK}{l:List SV}{F:List XV->Option aQ}
  (al:look PT U=some q)(an:look SG U=some x)(a0:eV (look TT) q=some O)(a1:eV (look TT) x=some p)
  (a6:lO O=true)(hl:gw (look TT) q G=some l)(a2:oC 0 0 (pf g).length O l=true)(bA:E=pf g++f8 O)(hq:g=false\/qN p=true)
  (a7:((⟨[],[],0,0,[],0,0,[]⟩:S).bB O).2.ni=C)(a8:((⟨[],[],0,0,[],0,0,[]⟩:S).bB O).2.nb=z)
  (a3:WN (lY Tryz.prog TT SG (Ep g) H V Z B Q) M W U J L.ntmps L.results.toList G ⟨[],[],C,z,E,0,0,[]⟩=A)
  (a9:∀u,M=some u->(∃d,qC J=some d/\nC Tryz.prog d.g u)/\∀I v,F I≠some (.aR v))
  (hc:A.dY (look TT) (look PT) (look SG) x C z E []=true)(hF:∀I o,cR O I->F I=some o->qP aO A (dB (iH g) I) [] o)(hz:g=true->R=true):nZ R U F:=by
 have m:∀y I,cR O I->(dB y I).i.length=C:=λy I D=>by
  have j:=(ul O I ⟨[],[],0,0,[],0,0,[]⟩ ⟨[],[],[],[]⟩ D rfl rfl rfl).1;have e:=(Aq (O:=⟨[],[],[],[]⟩) D).1;have a:=(Aq (O:=⟨[],[],y,[]⟩) D).1;rw[<-a7,<-j,dB,a,e]
 have e2:∀y I,cR O I->(dB y I).b.length=z:=λy I D=>by
  have j:=(ul O I ⟨[],[],0,0,[],0,0,[]⟩ ⟨[],[],[],[]⟩ D rfl rfl rfl).2.1;have e:=(Aq (O:=⟨[],[],[],[]⟩) D).2.1;have a:=(Aq (O:=⟨[],[],y,[]⟩) D).2.1;rw[<-a8,<-j,dB,a,e]
 have e3:∀I,cR O I->(dB (iH g) I).r.length=E.length:=λI D=>by rw[bA];exact JV D (by cases g<;>rfl)
 have e4:∀(k:Nat)(A:TypeId),E[k]?≠some (.own A):=by
  rw[bA];intro k A s;by_cases a4:k<(pf g).length;rw[ayD a4] at s;cases g with
  |false=>simp[pf] at a4
  |true=>rcases k with _|_|_|k<;>simp[pf,GLK] at s
  rw[ayG (by omega)] at s;exact alL a6 _ A s
 have e5:iH g=[]\/qN p=true:=hq.imp (λh=>by subst h;rfl) id;have a5:∀I o,cR O I->F I=some o->∃N,run (look TT) (look PT) (look SG) aO x N A (dB (iH g) I) E []=some o:=λI o D ho=>by
  obtain⟨N,hN⟩:=hF I o D ho;exact⟨N,pK N A _ E [] [] [] o hN (by rw[m _ I D,e2 _ I D];exact hc) (e3 I D) wc.nil⟩
 cases M with
 |none=>exact aqx (cf:=lY Tryz.prog TT SG (Ep g) H V Z B Q) (glk:=pf g) (glv:=iH g) (λw X ab=>N8 Ir Ta hi Tb ab ag) rfl af (λ_ _ hB h=>h.grow hB) hf hb al an a0 a1 hl (by cases g<;>exact a2) bA e4 (by cases g<;>rfl) e5 m e2 (λP h=>alM g hz P h) ((aqQ _ _ _ _ _ _ _ _).symm.trans a3) a5
 |some u=>
  obtain⟨⟨d,hd,bZ⟩,bb⟩:=a9 u rfl;exact aqy (cf:=lY Tryz.prog TT SG (Ep g) H V Z B Q) (glk:=pf g) (glv:=iH g) (λw X ab=>N8 Ir Ta hi Tb ab ag) rfl af (λ_ _ hB h=>h.grow hB) hf hb hd bZ al an a0 a1 hl (by cases g<;>exact a2) bA e4 (by cases g<;>rfl) e5 m e2 (λP h=>alM g hz P h) ((aqR _ _ _ _ _ _ _ _ _).symm.trans a3) bb a5
def abG(f:FuncId):nZ R f (λ_=>none):=λ_ _ _ _ _ _ _ _ _ _ _ h=>by cases h
variable{y:Ty}{D:List XV}
def bL(f:FuncId)(g d:Bool)(t:T):Prop:=∀(z:Bool),(g=true->z=true)->∀(aO:jQ),(∀g,nZ z g (aO g))->∀n,nZ z f (λZ=>uy d (exec aO n t (dB (iH g) Z) []))
def atJ(s:Tryz.prog.funcs[U]?=some L)(r:L.body=some J)(q:H.all (qK Tryz.prog)=true)(p:qn Z)
  {D y:List TypeId}{x:List LK}{l:List SV}
  (k:look PT U=some D)(j:look SG U=some y)(i:eV (look TT) D=some O)(e:eV (look TT) y=some x)
  (b:lO O=true)(a:gw (look TT) D G=some l)(ab:oC 0 0 (pf B).length O l=true)(bA:E=pf B++f8 O)(hq:B=false\/qN x=true)
  (af:((⟨[],[],0,0,[],0,0,[]⟩:S).bB O).2.ni=C)(ag:((⟨[],[],0,0,[],0,0,[]⟩:S).bB O).2.nb=z)
  (al:∀I,M=some I->∃d,qC J=some d/\nC Tryz.prog d.g I)
  (ht:WN (lY Tryz.prog TT SG (Ep B) H V Z R Q) M W U J L.ntmps L.results.toList G ⟨[],[],C,z,E,0,0,[]⟩=A)
  (hc:A.dY (look TT) (look PT) (look SG) y C z E []=true):bL U B M.isSome A:=
 λX hz aO an m=>atI (F:=λN=>uy M.isSome (exec aO m A (dB (iH B) N) [])) an s r q p k j i e b a ab bA hq af ag ht
  (λI w=>⟨al I w,λN v h=>by
   subst w;simp only[Option.isSome_some] at h;cases P:exec aO m A (dB (iH B) N) [] with
   |none=>rw[P] at h;cases h
   |some o=>rw[P] at h;cases o<;>simp[uy] at h⟩) hc (λN o _ h=>by
   cases P:exec aO m A (dB (iH B) N) [] with
   |none=>simp only[P,uy] at h;cases h
   |some u=>
    simp only[P] at h;have:o=u:=by
     cases u with
     |ret ys=>simp only[uy,ayE] at h;exact h.symm
     |aR v=>
      simp only[uy] at h;split at h;cases h;cases h;rfl
    subst this;exact⟨m,P⟩) hz
def Tc:List CT->Nat->Nat->Nat->List SV×Nat×Nat×Nat
 |[],a,b,c=>([],a,b,c)
 |.int k::l,a,b,c=>let r:=Tc l (a+1) b c;(.int k (.v a)::r.1,r.2)
 |.bool::l,a,b,c=>let r:=Tc l a (b+1) c;(.bool (.v b)::r.1,r.2)
 |.ax _ _::l,a,b,c=>let r:=Tc l a b (c+1);(.ref (.v c)::r.1,r.2)
def mkA:List TypeId->Nat->Nat->Nat->List SV
 |[],_,_,_=>[]
 |t::X,a,b,c=>match look TT t with
  |some Z=>let r:=Tc Z.ae a b c;(if Z.d.isAgg then .agg r.1 else r.1.headD .any)::mkA X r.2.1 r.2.2.1 r.2.2.2
  |none=>[]
def pkF(f:FuncId):List LK:=(eV (look TT) ((look PT f).getD [])).getD []
abbrev Td:S:=⟨[],[],0,0,[],0,0,[]⟩
def tk{Z X:List TypeId}{Q:List LK}(M:Tryz.prog.funcs[U]?=some L)(loops:List (Nat×Nat×dq):=[])(inl:List Nat:=[])(srts:List (FuncId×FuncId×TypeId×aU×Bool):=[])(kX:Bool:=false)(chs:List (Nat×Nat):=[])(g:Bool:=false)(dT:Option TypeId:=none)(n:Nat:=300)
  (P:List SV:=mkA ((look PT U).getD []) 0 0 (pf g).length)(W:Nat:=(Td.bB (pkF U)).2.ni)(V:Nat:=(Td.bB (pkF U)).2.nb)(R:List RK:=pf g++f8 (pkF U))
  (hsr:qn srts:=by exact λx J=>by cases J)(hdc:∀N,dT=some N->∃d,qC (L.body.getD .skip)=some d/\nC Tryz.prog d.g N:=by exact λ_ h=>by cases h)
  (I:L.body=some (L.body.getD .skip):=by rfl)(H:inl.all (qK Tryz.prog)=true:=by kernel_rfl)
  (F:look PT U=some Z:=by exact rfl)(E:look SG U=some X:=by exact rfl)(D:eV (look TT) Z=some O:=by exact rfl)(C:eV (look TT) X=some Q:=by exact rfl)
  (B:lO O=true:=by exact rfl)(z:gw (look TT) Z P=some G:=by exact rfl)(y:oC 0 0 (pf g).length O G=true:=by exact rfl)(bA:R=pf g++f8 O:=by exact rfl)(w:g=false\/qN Q=true:=by first|exact .inl rfl|exact .inr rfl)
  (v:(Td.bB O).2.ni=W:=by exact rfl)(u:(Td.bB O).2.nb=V:=by exact rfl)
  (s:WN (lY Tryz.prog TT SG (Ep g) inl loops srts kX chs) dT n U (L.body.getD .skip) L.ntmps L.results.toList P ⟨[],[],W,V,R,0,0,[]⟩=A:=by kernel_rfl)
  (r:A.dY (look TT) (look PT) (look SG) X W V R []=true:=by kernel_rfl):bL U g dT.isSome A:=
 atJ M I H hsr F E D C B z y bA w v u hdc s r
structure abI(tb:gT)(z:Bool):Prop where
 tree:∀f fn,tb.tree f=some fn->bL f fn.g fn.d fn.t
 laid:∀f fn,tb.tree f=some fn->fn.g=true->z=true
 ly:∀f,nZ z f (tb.ly f)
def nZ.or{F G:List XV->Option aQ}(h:nZ R U F)(k:nZ R U G):nZ R U (λX=>match F X with|some o=>some o|none=>G X):=by
 intro Q P O N M L J I W X o Z;simp only at Z;cases V:F W with
 |some H=>rw[V] at Z;simp only[ayE] at Z;subst Z;exact h Q P O N M L J I W X H V
 |none=>rw[V] at Z;exact k Q P O N M L J I W X o Z
def Te{W:gT}{z:Bool}(Z:abI W z):∀n f,nZ z f (W.aO n f)
 |0,f=>Z.ly f
 |n+1,f=>by
  cases V:W.tree f with
  |none=>
   have:=nZ.or (Z.ly f) (abG f);intro U R Q P O N M L J I o X;simp only[gT.aO,V] at X;exact this U R Q P O N M L J I o X
  |some t=>
   have:=nZ.or (Z.ly f) (Z.tree f t V z (Z.laid f t V) (W.aO n) (Te Z n) n);intro U R Q P O N M L J I o X;simp only[gT.aO,V] at X;exact this U R Q P O N M L J I o X
def Tf(h:(qC J).map DI.g=some U)(k:nC Tryz.prog U X):∃d,qC J=some d/\nC Tryz.prog d.g X:=by
 cases Z:qC J with
 |none=>rw[Z] at h;cases h
 |some d=>rw[Z] at h;cases h;exact⟨d,rfl,k⟩
def Tg:∀Z:List XV,jD Z Z
 |[]=>trivial
 |x::Z=>⟨by cases x with
  |i n=>rfl
  |b n=>rfl
  |r v=>exact bj.refl v,Tg Z⟩
def Th{W:World}(h:∀e,LK.ref e∉O):uw y W O D:=λq e X Z _=>(h e (ayW Z)).elim
def alO(h:∀e,LK.ref e∉O):¬uv y O D W:=λ⟨q,e,X,Z,_,_⟩=>h e (ayW Z)
def n7:List (FuncId×FuncId×TypeId×aU×Bool):=[(51,52,118,.lex [0,1,2] false,false),(140,141,90,.ratio 10 11,true),(223,224,90,.lex [0] false,false),(243,178,200,.lex [1,0] false,false),(322,323,393,.lex [4] true,true),(130,130,3,.bN 0 (.lex [] false) [],true)]
end
end Go.Proofs.YtieaiocljdpebaaGreatDoor.Y
