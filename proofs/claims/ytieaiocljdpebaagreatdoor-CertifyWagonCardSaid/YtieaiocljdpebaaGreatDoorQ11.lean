/- Part 11 of the proof; the last part says what is shown. -/
import Derived.Test.YtieaiocljdpebaaGreatDoorQ4
import Derived.Test.YtieaiocljdpebaaGreatDoorProg
import Derived.ChangeKeysEq
import Derived.Laws.StructEq
import Derived.MapKept
import Derived.KernelRfl
set_option linter.defProp false
set_option linter.unusedVariables false
set_option linter.unusedSimpArgs false
set_option linter.unnecessarySimpa false
open Bool renaming and_eq_true→awF,not_eq_true'→awY,false_eq_true→aw0,or_eq_true→aw9,and_assoc→azU
open List renaming getElem?_append_left→awI,getD_eq_getElem?_getD→awK,getElem?_append_right→awM,replicate→awS,map_cons→awT,all_eq_true→awU,length_eq_one_iff→axb,getElem?_take→axc,length_eq_zero_iff→axp,length_take→axJ,length_drop→axW,range'→ax2,range_eq_range'→ayv,drop_drop→ayw,range'_succ→ayU
open Option.some renaming injEq→awJ
open Option renaming isSome_iff_exists→awZ
open Array renaming ext'→axD
open List.cons renaming injEq→axH
namespace Go.Proofs.YtieaiocljdpebaaGreatDoor.Y
open Go.RowKit
noncomputable section
section
def p8:Option TypeDesc->Bool
 |some (.struct _)|some (.array _ _)=>true
 |_=>false
def rB(P:Program)(t:TypeId)(xs:List Value):Value:=if p8 (P.underlying t) then .agg xs.toArray else xs.getD 0 undef
def LM(P:Program)(eG:TypeId->List CT->Bool):Nat->List Field->List CT->Bool
 |_,[],ab=>ab.isEmpty
 |off,f::Z,ab=>f.name != "_"&&f.offset==off&&(P.info? f.type).isSome&&decide (P.cellsOf f.type<=ab.length)&&eG f.type (ab.take (P.cellsOf f.type))&&LM P eG (off+P.cellsOf f.type) Z (ab.drop (P.cellsOf f.type))
def LN(eG:List CT->Bool)(c:Nat):Nat->List CT->Bool
 |0,ab=>ab.isEmpty
 |n+1,ab=>decide (c<=ab.length)&&eG (ab.take c)&&LN eG c n (ab.drop c)
def p9(P:Program):Nat->TypeId->List CT->Bool
 |0,_,_=>false
 |d+1,t,ab=>match P.underlying t with
  |some .bool=>(match ab with
   |[.bool]=>true
   |_=>false)
  |some (.int k)=>(match ab with
   |[.int Z]=>decide (k=Z)
   |_=>false)
  |some .string=>(match ab with
   |[.ar _ .str]=>true
   |_=>false)
  |some (.struct X)=> !P.stoodInHeld t&&LM P (p9 P d) 0 X.toList ab
  |some (.array n e)=>(P.info? e).isSome&&LN (p9 P d e) (P.cellsOf e) n ab
  |_=>false
def rC:∀{cs:List CT}{xs:List Value},gW cs xs->xs.length=cs.length
 |[],[],_=>rfl
 |[],_::_,h=>h.elim
 |_::_,[],h=>h.elim
 |_::_,_::_,h=>by simp[rC h.2]
def aae:∀{cs:List CT}{xs:List Value}(n:Nat),gW cs xs->gW (cs.take n) (xs.take n)/\gW (cs.drop n) (xs.drop n)
 |[],[],n,_=>by simp[gW]
 |[],_::_,n,h=>h.elim
 |_::_,[],n,h=>h.elim
 |_::_,_::_,0,h=>⟨trivial,h⟩
 |_::_,_::_,n+1,h=>by
  obtain⟨a,b⟩:=aae n h.2;exact⟨⟨h.1,a⟩,b⟩
def ajJ:∀{xs ys:List Value}{r:Bool}(n:Nat),gz xs ys=some r->∃a b,gz (xs.take n) (ys.take n)=some a/\gz (xs.drop n) (ys.drop n)=some b/\r=(a&&b)
 |[],[],r,n,h=>by simp[gz] at h;subst h;exact⟨true,true,by simp[gz],by simp[gz],rfl⟩
 |[],_::_,r,n,h=>by simp[gz] at h
 |_::_,[],r,n,h=>by simp[gz] at h
 |x::xs,y::ys,r,0,h=>⟨true,r,rfl,h,by simp⟩
 |x::xs,y::ys,r,n+1,h=>by
  simp only[gz] at h;split at h;rename_i a b Z X;cases h;obtain⟨c,d,W,V,rfl⟩:=ajJ n X;exact⟨a&&c,d,by simp[gz,Z,W],by simpa using V,by simp[azU]⟩;cases h
section
variable{P:Program}
def ajK(w:World){e:TypeId}{i:TypeInfo}(hi:P.info? e=some i){xs:List Value}{off:Nat}(h:p8 (P.underlying e)=true\/off<xs.length/\P.cellsOf e=1)(U:(P.underlying e).isSome=true):(part e xs.toArray off).run P w=.ok (rB P e ((xs.drop off).take (P.cellsOf e))) w:=by
 obtain⟨d,X⟩:=awZ.1 U;unfold rB;by_cases Z:p8 (P.underlying e)=true;rw[if_pos Z];have:(xs.toArray.extract off (off+P.cellsOf e))=((xs.drop off).take (P.cellsOf e)).toArray:=by
  apply axD;simp[List.extract]
 rw[X] at Z;unfold p8 at Z;split at Z;rename_i W;cases W;simp[part,isAgg,run_underlying X,run_sizeOf w hi,this];rename_i W;cases W;simp[part,isAgg,run_underlying X,run_sizeOf w hi,this];cases Z;rw[if_neg Z];obtain⟨V,R⟩:=h.resolve_left Z;have Q:xs.toArray[off]?=some xs[off]:=by simp[V]
 have O:((xs.drop off).take (P.cellsOf e)).getD 0 undef=xs[off]:=by rw[R];simp[awK,axc,V]
 rw[O];rw[X] at Z;cases d<;>first|(exact absurd rfl Z)|simp[part,isAgg,run_underlying X,Q,V]
def aru{m:Nat}{t:TypeId}{ab:List CT}(h:p9 P m t ab=true):(P.underlying t).isSome=true/\(p8 (P.underlying t)=true\/ab.length=1):=by
 cases m with
 |zero=>simp[p9] at h
 |succ m=>
  simp only[p9] at h;split at h;rename_i Z;rw[Z];split at h;exact⟨rfl,.inr rfl⟩;cases h;rename_i Z;rw[Z];split at h;exact⟨rfl,.inr rfl⟩;cases h;rename_i Z;rw[Z];split at h;exact⟨rfl,.inr rfl⟩;cases h;rename_i Z;rw[Z];exact⟨rfl,.inl rfl⟩;rename_i Z;rw[Z];exact⟨rfl,.inl rfl⟩;cases h
def RW(P:Program)(Z m:Nat):Prop:=∀(t:TypeId)(ab:List CT)(xs ys:List Value)(r:Bool)(w:World),p9 P m t ab=true->gW ab xs->gW ab ys->gz xs ys=some r->(Op.equalIn Z t (rB P t xs) (rB P t ys)).run P w=.ok r w
def ajL{R m:Nat}(J:RW P R m)(w:World){e:TypeId}{ab:List CT}{X Y:List Value}{off:Nat}{r:Bool}(hi:(P.info? e).isSome=true)(C:P.cellsOf e<=ab.length)(Q:p9 P m e (ab.take (P.cellsOf e))=true)
  (O:gW ab (X.drop off))(N:gW ab (Y.drop off))(I:gz (X.drop off) (Y.drop off)=some r):
  ∃a b q V,(part e X.toArray off).run P w=.ok a w/\(part e Y.toArray off).run P w=.ok b w/\(Op.equalIn R e a b).run P w=.ok q w/\gz (X.drop (off+P.cellsOf e)) (Y.drop (off+P.cellsOf e))=some V/\r=(q&&V)/\
   gW (ab.drop (P.cellsOf e)) (X.drop (off+P.cellsOf e))/\gW (ab.drop (P.cellsOf e)) (Y.drop (off+P.cellsOf e)):=by
 obtain⟨i,hi⟩:=awZ.1 hi;obtain⟨M,W⟩:=aru Q;obtain⟨H,a2⟩:=aae (P.cellsOf e) O;obtain⟨G,L⟩:=aae (P.cellsOf e) N;obtain⟨q,V,e1,U,F⟩:=ajJ (P.cellsOf e) I;have l1:=rC O;have E:=rC N;have key:∀Z:List Value,(Z.drop off).length=ab.length->p8 (P.underlying e)=true\/off<Z.length/\P.cellsOf e=1:=by
  intro Z D;rcases W with W|W;exact .inl W;right;simp only[axJ,axW] at W D;omega
 rw[ayw] at a2 L U;exact⟨_,_,q,V,ajK w hi (key X l1) M,ajK w hi (key Y E) M,J e _ _ _ q w Q H G e1,by rw[<-ayw] at U⊢;simpa using U,F,a2,L⟩
def ajM{Q m:Nat}(O:RW P Q m)(X Y:List Value):∀(V:List Field)(off:Nat)(ab:List CT)(r:Bool)(w:World),LM P (p9 P m) off V ab=true->gW ab (X.drop off)->gW ab (Y.drop off)->gz (X.drop off) (Y.drop off)=some r->
  (Op.eqFields Q X.toArray Y.toArray V).run P w=.ok r w
 |[],off,ab,r,w,Z,U,R,W=>by
  simp only[LM,List.isEmpty_iff] at Z;subst Z;have:=rC U;have:=rC R;rw[axp.1 ‹(X.drop off).length=_›,axp.1 ‹(Y.drop off).length=_›] at W;simp[gz] at W;subst W;simp[Op.eqFields]
 |f::V,off,ab,r,w,Z,U,R,W=>by
  simp only[LM,awF,bne_iff_ne,beq_iff_eq,decide_eq_true_eq] at Z;obtain⟨⟨⟨⟨⟨n1,n2⟩,n3⟩,n4⟩,N⟩,M⟩:=Z;obtain⟨a,b,q,L,J,I,H,G,rfl,F,E⟩:=ajL O w n3 n4 N U R W;have D:=ajM O X Y V _ _ L w M F E G;simp only[Op.eqFields,n1,ne_eq,not_false_eq_true,if_true,Sem.run_bind,n2,J,I,H,Result.andThen_ok];cases q;simp;simpa using D
def ajN{R m:Nat}(Q:RW P R m){e:TypeId}(hi:(P.info? e).isSome=true)(X Y:List Value):∀(n j:Nat)(ab:List CT)(r:Bool)(w:World),LN (p9 P m e) (P.cellsOf e) n ab=true->gW ab (X.drop (j*P.cellsOf e))->gW ab (Y.drop (j*P.cellsOf e))->gz (X.drop (j*P.cellsOf e)) (Y.drop (j*P.cellsOf e))=some r->
  (Op.eqItems R e (P.cellsOf e) X.toArray Y.toArray (ax2 j n)).run P w=.ok r w
 |0,j,ab,r,w,Z,V,U,W=>by
  simp only[LN,List.isEmpty_iff] at Z;subst Z;have:=rC V;have:=rC U;rw[axp.1 ‹(X.drop _).length=_›,axp.1 ‹(Y.drop _).length=_›] at W;simp[gz] at W;subst W;simp[Op.eqItems]
 |n+1,j,ab,r,w,Z,V,U,W=>by
  simp only[LN,awF,decide_eq_true_eq] at Z;obtain⟨⟨n4,L⟩,J⟩:=Z;obtain⟨a,b,q,I,H,G,F,O,rfl,N,M⟩:=ajL Q w hi n4 L V U W;have e1:j*P.cellsOf e+P.cellsOf e=(j+1)*P.cellsOf e:=by rw[Nat.succ_mul]
  rw[e1] at O N M;have E:=ajN Q hi X Y n (j+1) _ I w J N M O;rw[ayU];simp only[Op.eqItems,Sem.run_bind,H,G,F,Result.andThen_ok];cases q;simp;simpa using E
def aaf(d:Nat):∀m,RW P (d+m) m
 |0=>λt ab xs ys r w h=>by simp[p9] at h
 |m+1=>by
  intro t ab xs ys r w Z W V U;have M:=aaf d m;simp only[p9] at Z;split at Z;rename_i X;split at Z;obtain⟨x,rfl⟩:=axb.1 (rC W);obtain⟨y,rfl⟩:=axb.1 (rC V);have Q:=W.1;have O:=V.1;cases x<;>simp only[xQ] at Q;cases y<;>simp only[xQ] at O;simp[gz,xP] at U;subst U;simp[rB,X,p8,show d+(m+1)=(d+m)+1 from rfl,Op.equalIn,run_underlying X];cases Z;rename_i k X;split at Z;obtain⟨x,rfl⟩:=axb.1 (rC W);obtain⟨y,rfl⟩:=axb.1 (rC V);have Q:=W.1;have O:=V.1;cases x<;>simp only[xQ] at Q;cases y<;>simp only[xQ] at O;subst Q O;simp[gz,xP] at U;subst U;simp[rB,X,p8,show d+(m+1)=(d+m)+1 from rfl,Op.equalIn,run_underlying X];cases Z;rename_i X;split at Z;obtain⟨x,rfl⟩:=axb.1 (rC W);obtain⟨y,rfl⟩:=axb.1 (rC V);have Q:=W.1;have O:=V.1;cases x<;>simp only[xQ] at Q;cases y<;>simp only[xQ] at O;simp[gz,xP] at U;subst U;simp[rB,X,p8,show d+(m+1)=(d+m)+1 from rfl,Op.equalIn,run_underlying X,beq_toListBytes];cases Z;rename_i L X;simp only[awF,awY] at Z;have J:P.fieldsOf t=L:=by simp[Program.fieldsOf,X]
  have N:∀R:List Value,rB P t R=.agg R.toArray:=λR=>by simp[rB,X,p8]
  rw[N,N,show d+(m+1)=(d+m)+1 from rfl,run_equalIn_struct w (d+m) t _ _ (by rw[J];exact X) Z.1,J];exact ajM M xs ys L.toList 0 ab r w Z.2 W V U;rename_i n e X;simp only[awF] at Z;obtain⟨i,hi⟩:=awZ.1 Z.1;have N:∀R:List Value,rB P t R=.agg R.toArray:=λR=>by simp[rB,X,p8]
  rw[N,N,show d+(m+1)=(d+m)+1 from rfl,run_equalIn_array w (d+m) _ _ X hi,ayv];exact ajN M Z.1 xs ys n 0 ab r w Z.2 (by simpa using W) (by simpa using V) (by simpa using U);cases Z
def aag(P:Program)(t:TypeId)(Z:TI):Bool:=p8 (P.underlying t)&&p9 P 20 t Z.ab&& !P.eqGuardType P.depth t
def arv{t:TypeId}{Z:TI}(h:aag P t Z=true):∀(xs ys:List Value)(r:Bool)(x y:Operand)(w:World),gW Z.ab xs->gW Z.ab ys->gz xs ys=some r->
  (do eqGuard .eql t x y (.agg xs.toArray) (.agg ys.toArray);binOp .eql t (.agg xs.toArray) (.agg ys.toArray)).run P w=.ok (.bool r) w/\
  (do eqGuard .neq t x y (.agg xs.toArray) (.agg ys.toArray);binOp .neq t (.agg xs.toArray) (.agg ys.toArray)).run P w=.ok (.bool !r) w:=by
 intro xs ys r x y w W V U;simp only[aag,awF,awY] at h;have:=aaf (P:=P) 9980 20 t Z.ab xs ys r w h.1.2 W V U;simp only[rB,h.1.1,if_true] at this;have X:(Op.equal t (.agg xs.toArray) (.agg ys.toArray)).run P w=.ok r w:=this;constructor;rw[Sem.run_bind];simp[eqGuard,h.2,binOp,X];rw[Sem.run_bind];simp[eqGuard,h.2,binOp,X]
end
end
section
section
variable{P:Program}
def arw{ag:Bool}{l:List Int}{n:Nat}(Z:l.length=n)(X:ag=false->n=1):rZ (ee ag l)=l:=by
 cases ag with
 |false=>
  have:=X rfl;subst this;obtain⟨x,rfl⟩:=axb.1 Z;rfl
 |true=>simp[ee,rZ,Function.comp_def,ba]
def arx{k:TypeId}(V:P.underlying k=some (.int .i64)):pj P k 1 false:=by
 refine⟨λ_=>rfl,λl es W R Q=>⟨λb=>MapKept.run_checkKey V (by trivial) b 9999,MapKept.run_findKey V ?_⟩⟩;obtain⟨x,rfl⟩:=axb.1 R;have:∀(es:List MapEntry)(i:Nat),(∀e∈es,∃X:List Int,X.length=1/\e.key=ee false X)->Instr.findNow (.int .i64) (ee false [x]) es i=some (kA [x] es i):=by
  intro es;induction es with
  |nil=>intro i _;rfl
  |cons e es O=>
   intro i U;obtain⟨X,N,M⟩:=U e (by simp);obtain⟨y,rfl⟩:=axb.1 N;simp only[Instr.findNow,M,kA];simp only[ee,aw0,if_false,List.headD_cons,Instr.sameNow,if_true,rZ,axH,and_true];by_cases Z:x=y;subst Z;simp;have:¬y=x:=λe=>Z e.symm
   simp only[this,if_false,beq_iff_eq,Z,show(x==y)=false by simpa using Z];exact O (i+1) (λe L=>U e (by simp[L]))
 exact this es 0 Q
def ary(d:TypeDesc)(cs:Array Value)(v:Value):Instr.sameNow d (.agg cs) v=none:=by
 cases d<;>rfl
def ajO:∀(l Z:List Int),l.length=Z.length->gz (l.map (Value.int .i64)) (Z.map (Value.int .i64))=some (l==Z)
 |[],[],_=>rfl
 |[],_::_,h=>by simp at h
 |_::_,[],h=>by simp at h
 |x::xs,y::ys,h=>by
  have X:=ajO xs ys (by simpa using h);simp only[awT,gz,xP,X];rfl
def aah:∀(l:List Int),gW (awS l.length (.int .i64)) (l.map (Value.int .i64))
 |[]=>trivial
 |x::xs=>⟨rfl,aah xs⟩
def ajP{e:TypeId}(Z:P.underlying e=some (.int .i64)){l:List Int}{off:Nat}(X:off<l.length)(W:World):∃a,(part e (l.map (Value.int .i64)).toArray off).run P W=.ok (.int .i64 a) W:=by
 refine⟨l[off],run_part_plain W (by simp[Program.plainKey,Z]) ?_⟩;simp[X]
def arz{k e:TypeId}{n:Nat}{i:TypeInfo}(U:P.underlying k=some (.array n e))(X:P.underlying e=some (.int .i64))(hi:P.info? e=some i)(R:P.cellsOf e=1){l:List Int}(Q:l.length=n)(b:Bool)(m:Nat)(W:World):(Instr.checkKey b (m+2) k (ee true l)).run P W=.ok () W:=by
 rw[show m+2=(m+1)+1 from rfl,Instr.checkKey];simp only[Sem.run_bind,cS.eF U,Result.andThen_ok,ee,if_true];simp only[Std.Legacy.Range.forIn_eq_forIn_range',Std.Legacy.Range.size,Nat.sub_zero,Nat.add_one_sub_one,Nat.div_one];have Z:∀j∈ax2 0 n,j<n:=λj O=>by simpa[List.mem_range'] using O
 generalize ax2 0 n=V at Z;induction V with
 |nil=>simp
 |cons j V N=>
  obtain⟨a,M⟩:=ajP X (l:=l) (off:=j*P.cellsOf e) (by rw[R,Q,Nat.mul_one];exact Z j (by simp)) W;have L:=MapKept.run_checkKey (w:=W) (k:=.int .i64 a) X (by trivial) b m;simp only[List.forIn_cons,Sem.run_bind,run_sizeOf W hi,Result.andThen_ok,M,L,Sem.run_pure];exact N (λy J=>Z y (by simp[J]))
def arA{k:TypeId}{n:Nat}{Z:Array Field}(U:P.underlying k=some (.struct Z))(X:∀f∈Z.toList,f.name≠ "_"/\P.underlying f.type=some (.int .i64)/\f.offset<n){l:List Int}(R:l.length=n)(b:Bool)(m:Nat)(W:World):(Instr.checkKey b (m+2) k (ee true l)).run P W=.ok () W:=by
 rw[show m+2=(m+1)+1 from rfl,Instr.checkKey];simp only[Sem.run_bind,cS.eF U,Result.andThen_ok,ee,if_true];rw[<-Array.forIn_toList];generalize Z.toList=L at X;induction L with
 |nil=>simp
 |cons f L Q=>
  obtain⟨O,V,N⟩:=X f (by simp);obtain⟨a,M⟩:=ajP V (l:=l) (off:=f.offset) (by rw[R];exact N) W;have J:=MapKept.run_checkKey (w:=W) (k:=.int .i64 a) V (by trivial) b m;simp only[List.forIn_cons,Sem.run_bind,O,ne_eq,not_false_eq_true,if_true,Result.andThen_ok,M,J,Sem.run_pure];exact Q (λy I=>X y (by simp[I]))
def ajQ{k:TypeId}{n:Nat}{d:TypeDesc}(R:P.underlying k=some d)(M:p8 (P.underlying k)=true)(L:p9 P 20 k (awS n (.int .i64))=true)
  (J:∀(l:List Int)(b:Bool)(W:World),l.length=n->(Instr.checkKey b 10000 k (ee true l)).run P W=.ok () W):pj P k n true:=by
 refine⟨λh=>(by cases h),λl es W X I=>⟨λb=> ?_, ?_⟩⟩;exact J l b W X;have H:∀l:List Int,ee true l=.agg (l.map (Value.int .i64)).toArray:=λl=>rfl
 have G:∀(es:List MapEntry)(i:Nat),(∀e∈es,∃Z:List Int,Z.length=n/\e.key=ee true Z)->(Instr.findAsking k (ee true l) es i).run P W=.ok (kA l es i) W:=by
  intro es;induction es with
  |nil=>intro i _;rfl
  |cons e es F=>
   intro i Q;obtain⟨Z,V,O⟩:=Q e (by simp);have N:=aaf (P:=P) 9980 20 k (awS n (.int .i64)) (l.map (Value.int .i64)) (Z.map (Value.int .i64)) (l==Z) W L (by rw[<-X];exact aah l) (by rw[<-V];exact aah Z) (ajO l Z (by rw[X,V]));simp only[rB,M,if_true] at N;have E:(Op.equal k (ee true l) e.key).run P W=.ok (l==Z) W:=by rw[O];exact N
   simp only[Instr.findAsking,Sem.run_bind,E,Result.andThen_ok];simp only[kA,O,arw (ag:=true) V (by simp)];by_cases U:Z=l;rw[U];simp;have D:(l==Z)=false:=by
    cases C:l==Z;rfl;exact absurd (eq_of_beq C).symm U
   simp only[U,D,aw0,if_false];exact F (i+1) (λe B=>Q e (by simp[B]))
 have A:=G es 0 I;cases es with
 |nil=>simp[Instr.findKey,cS.eF R,Instr.findNow,kA,Result.andThen]
 |cons e es=>
  have:Instr.findNow d (ee true l) (e::es) 0=none:=by simp only[Instr.findNow,H,ary]
  simp only[Instr.findKey,Sem.run_bind,cS.eF R,Result.andThen_ok,this];exact A
end
end
section
set_option maxRecDepth 100000
abbrev ri(n:Nat):List CT:=awS n (.int .i64)
abbrev am:Option TI:=some ⟨.one,[.ar .nilFunc .ar],false⟩
abbrev vl:Option TI:=some ⟨(.struct [(0,3),(1,3),(2,3)]),[.int .i64,.int .i64,.int .i64],true⟩
abbrev zA:Option TI:=some ⟨.one,[.ar (.pointer none) .ar],false⟩
abbrev BN:Option TI:=some ⟨(.struct [(0,3),(1,3)]),[.int .i64,.int .i64],true⟩
abbrev RX:Option TI:=some ⟨.one,[.int .i64],false⟩
abbrev RY:Option TI:=some ⟨.one,[.int .u8],false⟩
abbrev RZ:Option TI:=some ⟨.one,[.int .u64],false⟩
abbrev R6:Option TI:=some ⟨(.struct [(0,3),(1,3),(2,3),(3,3)]),ri 4,true⟩
abbrev ti8:Option TI:=some ⟨.str,[.ar (.string ⟨#[]⟩) .str],false⟩
abbrev ti9:Option TI:=some ⟨.one,[.int .i32],false⟩
abbrev aak:Option TI:=some ⟨(.struct [(0,63),(2,63)]),ri 4,true⟩
abbrev ajR:Option TI:=some ⟨(.struct [(0,2),(1,3),(2,4),(3,6)]),[.int .i64,.int .i64,.bool,.int .u8],true⟩
abbrev ajS:Option TI:=some ⟨(.struct [(0,9),(1,12)]),[.ar (.string ⟨#[]⟩) .str,.int .u64],false⟩
abbrev ajT:Option TI:=some ⟨(.struct [(0,17)]),[.ar (.pointer none) .ar],false⟩
abbrev ajU:Option TI:=some ⟨(.struct [(0,3),(1,25),(2,26),(3,27)]),[.int .i64,.ar (.slice none 0 0) (.sl 175),.ar (.slice none 0 0) (.sl 312),.ar (.slice none 0 0) (.sl 314)],false⟩
abbrev ajV:Option TI:=some ⟨(.struct [(0,3),(1,3),(2,23),(5,24),(6,29),(10,30)]),ri 5++[.ar (.slice none 0 0) (.sl 173),.int .i64,.ar (.slice none 0 0) (.sl 175),.ar (.slice none 0 0) (.sl 312),.ar (.slice none 0 0) (.sl 314),.ar (.slice none 0 0) (.sl 90)],false⟩
abbrev ajW:Option TI:=some ⟨(.struct [(0,33)]),[.ar (.slice none 0 0) (.sl 73)],false⟩
abbrev ajX:Option TI:=some ⟨(.struct [(0,3),(1,37),(2,38),(3,38),(4,39),(5,42)]),[.int .i64,.ar (.slice none 0 0) (.sl 4),.ar (.slice none 0 0) (.sl 71),.ar (.slice none 0 0) (.sl 71),.ar (.slice none 0 0) (.sl 82),.ar (.slice none 0 0) (.sl 65)],false⟩
abbrev ajY:Option TI:=some ⟨(.struct [(0,3),(1,3),(2,3),(3,69)]),ri 13,true⟩
abbrev ajZ:Option TI:=some ⟨(.struct [(0,65),(4,3),(5,3),(6,3),(7,3)]),ri 8,true⟩
abbrev aj0:Option TI:=some ⟨(.struct [(0,9),(1,3),(2,3),(3,3),(4,3),(5,3),(6,77),(9,77),(12,77),(15,3),(16,3)]),[.ar (.string ⟨#[]⟩) .str]++ri 16,true⟩
abbrev aj1:Option TI:=some ⟨(.struct [(0,3),(1,3),(2,3),(3,3),(4,3),(5,3),(6,3),(7,3),(8,3),(9,3),(10,88),(12,88)]),ri 14,true⟩
abbrev aj2:Option TI:=some ⟨(.struct [(0,3),(1,3),(2,3),(3,4)]),[.int .i64,.int .i64,.int .i64,.bool],true⟩
abbrev aj3:Option TI:=some ⟨(.struct [(0,3),(1,4),(2,79),(19,71),(32,82)]),[.int .i64,.bool,.ar (.string ⟨#[]⟩) .str]++ri 29++[.ar (.slice none 0 0) (.sl 96)],false⟩
abbrev aj4:Option TI:=some ⟨(.struct [(0,79)]),[.ar (.string ⟨#[]⟩) .str]++ri 16,true⟩
abbrev aj5:Option TI:=some ⟨(.struct [(0,163),(1,3),(2,3),(3,3)]),[.ar .nilFunc .ar,.int .i64,.int .i64,.int .i64],false⟩
abbrev aj6:Option TI:=some ⟨(.struct [(0,9),(1,3),(2,3),(3,3)]),[.ar (.string ⟨#[]⟩) .str,.int .i64,.int .i64,.int .i64],true⟩
abbrev aj7:Option TI:=some ⟨(.struct [(0,4),(1,4),(2,4),(3,3),(4,3),(5,3)]),[.bool,.bool,.bool,.int .i64,.int .i64,.int .i64],true⟩
abbrev aj8:Option TI:=some ⟨(.struct [(0,90),(14,96)]),ri 17++[.bool],true⟩
abbrev aj9:Option TI:=some ⟨(.struct [(0,328),(1,4),(2,307),(3,4),(4,329)]),[.ar .nilFunc .ar,.bool,.ar .nilFunc .ar,.bool,.ar .nilFunc .ar],false⟩
abbrev aka:Option TI:=some ⟨(.struct [(0,356),(8,357),(12,358)]),ri 12++[.ar .nilFunc .ar],false⟩
abbrev akb:Option TI:=some ⟨(.struct [(0,71),(13,90),(27,96)]),ri 30++[.bool],true⟩
abbrev akc:Option TI:=some ⟨(.struct [(0,96),(4,3)]),[.int .i64,.int .i64,.int .i64,.bool,.int .i64],true⟩
abbrev akd:Option TI:=some ⟨(.struct [(0,17),(1,17),(2,17),(3,9)]),[.ar (.pointer none) .ar,.ar (.pointer none) .ar,.ar (.pointer none) .ar,.ar (.string ⟨#[]⟩) .str],false⟩
abbrev ake:Option TI:=some ⟨(.struct [(0,426)]),[],false⟩
abbrev akf:Option TI:=some ⟨(.struct [(0,12),(1,12),(2,287),(3,430),(4,5),(5,5),(6,431),(7,432),(8,433),(9,434),(10,435)]),[.int .u64,.int .u64,.int .u32,.int .u8,.int .u8,.int .u8,.int .u8,.ar .nilFunc .ar,.ar (.pointer none) .ar,.int .i32,.int .i32],false⟩
abbrev bn:Option (List TypeId):=some [4]
abbrev bO:Option (List TypeId):=some []
abbrev bZ:Option (List TypeId):=some [3]
abbrev na:Option (List TypeId):=some [45]
abbrev rD:Option (List TypeId):=some [3,3,3]
abbrev tD:Option (List TypeId):=some [3,3]
abbrev vn:Option (List TypeId):=some [65,45]
abbrev vo:Option (List TypeId):=some [65]
abbrev xo:Option (List TypeId):=some [368]
abbrev zB:Option (List TypeId):=some [82]
abbrev zC:Option (List TypeId):=some [65,65]
abbrev BO:Option (List TypeId):=some [4,45]
abbrev BP:Option (List TypeId):=some [3,45]
abbrev Ed:Option (List TypeId):=some [30]
abbrev Ee:Option (List TypeId):=some [32,35,36,44]
abbrev Ef:Option (List TypeId):=some [79]
abbrev Eg:Option (List TypeId):=some [90,96]
abbrev Eh:Option (List TypeId):=some [30,3,3,3,234]
abbrev Ia:Option (List TypeId):=some [166]
abbrev Ib:Option (List TypeId):=some [3,4]
abbrev Ic:Option (List TypeId):=some [29]
abbrev Ie:Option (List TypeId):=some [167,3]
abbrev If:Option (List TypeId):=some [90]
abbrev Ig:Option (List TypeId):=some [121,3,3,123]
abbrev Ih:Option (List TypeId):=some [30,3,3,234]
abbrev Ii:Option (List TypeId):=some [196,3,3,274]
def TT:List (List (Option TI)):=[
[none,am,RX,RX,some ⟨.one,[.bool],false⟩,RY,RY,ajR,ajR,ti8,ti8,ti8,RZ,ajS,ajS,zA],
 [zA,zA,ajT,ajT,some ⟨.dH,[.ar .nilIface .ar],false⟩,ti9,vl,vl,some ⟨(.slice 173),[.ar (.slice none 0 0) (.sl 173)],false⟩,some ⟨(.slice 175),[.ar (.slice none 0 0) (.sl 175)],false⟩,some ⟨(.slice 312),[.ar (.slice none 0 0) (.sl 312)],false⟩,some ⟨(.slice 314),[.ar (.slice none 0 0) (.sl 314)],false⟩,ajU,ajU,some ⟨(.slice 90),[.ar (.slice none 0 0) (.sl 90)],false⟩,ajV],
 [ajV,some ⟨(.slice 73),[.ar (.slice none 0 0) (.sl 73)],false⟩,ajW,ajW,some ⟨(.slice 79),[.ar (.slice none 0 0) (.sl 79)],false⟩,some ⟨(.slice 4),[.ar (.slice none 0 0) (.sl 4)],false⟩,some ⟨(.slice 71),[.ar (.slice none 0 0) (.sl 71)],false⟩,some ⟨(.slice 82),[.ar (.slice none 0 0) (.sl 82)],false⟩,am,am,some ⟨(.slice 65),[.ar (.slice none 0 0) (.sl 65)],false⟩,ajX,ajX,RX,none,am],
 [am,am,some ⟨(.slice 98),[.ar (.slice none 0 0) (.sl 98)],false⟩,none,am,none,am,am,am,am,am,some ⟨(.slice 142),[.ar (.slice none 0 0) (.sl 142)],false⟩,none,am,BN,BN],
 [aak,aak,am,BN,BN,some ⟨(.arr 5 68),ri 10,true⟩,ajY,ajY,ajZ,ajZ,none,am,am,some ⟨(.arr 3 3),[.int .i64,.int .i64,.int .i64],true⟩,aj0,aj0],
 [am,am,some ⟨(.slice 96),[.ar (.slice none 0 0) (.sl 96)],false⟩,am,am,am,am,BN,BN,aj1,aj1,am,am,none,am,aj2],
 [aj2,vl,vl,am,am,zA,am,am,am,am,am,am,am,am,am,am],
 [some ⟨(.map 118 4 3 true),[.ar (.map none) .ar],false⟩,am,am,am,aj3,aj3,vl,am,am,some ⟨(.slice 118),[.ar (.slice none 0 0) (.sl 118)],false⟩,am,am,am,am,am,am],
 [am,some ⟨(.slice 202),[.ar (.slice none 0 0) (.sl 202)],false⟩,none,am,am,am,am,some ⟨(.slice 3),[.ar (.slice none 0 0) (.sl 3)],false⟩,none,am,some ⟨(.map 3 4 1 false),[.ar (.map none) .ar],false⟩,am,am,some ⟨(.map 142 4 2 true),[.ar (.map none) .ar],false⟩,some ⟨(.arr 2 3),[.int .i64,.int .i64],true⟩,aak],
 [am,am,am,am,am,am,am,am,am,am,am,am,am,none,am,none],
 [am,aj4,aj4,am,aj5,aj5,zA,zA,am,some ⟨(.arr 7 165),(awS 7 [.ar .nilFunc .ar,.int .i64,.int .i64,.int .i64]).flatten,false⟩,am,some ⟨(.slice 165),[.ar (.slice none 0 0) (.sl 165)],false⟩,aj6,aj6,vl,vl],
 [none,am,am,am,am,am,am,am,none,am,am,am,am,am,am,am],
 [am,am,am,am,some ⟨(.slice 200),[.ar (.slice none 0 0) (.sl 200)],false⟩,none,am,BN,BN,vl,vl,am,am,RZ,am,am],
 [am,am,am,am,am,am,am,am,am,am,am,am,am,am,am,am],
 [am,am,none,am,vl,vl,none,am,am,am,am,none,am,am,none,some ⟨(.map 3 237 1 false),[.ar (.map none) .ar],false⟩],
 [am,am,am,am,aj7,aj7,some ⟨(.arr 10 245),(awS 10 [.bool,.bool,.bool,.int .i64,.int .i64,.int .i64]).flatten,true⟩,am,some ⟨(.arr 2 88),ri 4,true⟩,some ⟨(.slice 248),[.ar (.slice none 0 0) (.sl 248)],false⟩,some ⟨(.slice 258),[.ar (.slice none 0 0) (.sl 258)],false⟩,none,am,am,am,am],
 [some ⟨(.arr 5 4),[.bool,.bool,.bool,.bool,.bool],true⟩,aj8,aj8,some ⟨(.arr 2 135),[.ar (.slice none 0 0) (.sl 3),.ar (.slice none 0 0) (.sl 3)],false⟩,some ⟨(.arr 10 259),.replicate 20 (.ar (.slice none 0 0) (.sl 3)),false⟩,am,am,am,am,am,am,am,am,am,am,am],
 [some ⟨(.map 3 96 1 false),[.ar (.map none) .ar],false⟩,am,am,am,some ⟨(.arr 2 42),[.ar (.slice none 0 0) (.sl 65),.ar (.slice none 0 0) (.sl 65)],false⟩,some ⟨(.arr 5 276),.replicate 10 (.ar (.slice none 0 0) (.sl 65)),false⟩,am,RX,none,am,am,am,none,am,am,some ⟨.one,[.int .u32],false⟩],
 [am,RZ,am,am,am,am,am,am,am,am,none,am,am,some ⟨(.arr 8 142),ri 16,true⟩,am,am],
 [am,am,am,am,am,am,am,R6,R6,R6,R6,am,am,am,none,am],
 [am,am,am,am,am,am,some ⟨(.map 3 331 1 false),[.ar (.map none) .ar],false⟩,am,am,am,aj9,aj9,am,am,some ⟨(.map 3 40 1 false),[.ar (.map none) .ar],false⟩,am],
 [RZ,am,am,am,am,am,am,am,am,am,am,am,am,am,am,am],
 [am,am,am,am,some ⟨(.arr 4 142),ri 8,true⟩,some ⟨(.arr 2 142),ri 4,true⟩,am,aka,aka,none,some ⟨(.map 3 360 1 false),[.ar (.map none) .ar],false⟩,am,am,some ⟨(.arr 4 3),ri 4,true⟩,akb,akb],
 [zA,am,am,am,am,am,am,none,am,am,am,am,none,am,zA,am],
 [am,am,am,am,am,am,am,some ⟨(.slice 393),[.ar (.slice none 0 0) (.sl 393)],false⟩,akc,akc,am,am,am,am,am,am],
 [am,am,am,am,am,am,am,am,am,am,am,am,am,am,am,am],
 [am,am,am,am,am,am,am,am,akd,akd,some ⟨(.arr 0 16),[],true⟩,ake,ake,am,RY,RY],
 [am,zA,ti9,ti9,akf,akf,none]]
def SG:List (List (Option (List TypeId))):=[
[none,none,bO,bn,bn,bn,bn,bn,bn,bn,bn,bn,bn,some [44,45],some [44,45],bn],
 [some [50,45],some [50,45],BO,BO,bn,some [44,45],some [44,45],some [59,45],BO,vn,BO,vn,bn,bn,bn,BO],
 [some [32,36,38,39],bn,bO,bO,bO,na,bO,some [44],na,bn,some [44,45],bn,bn,bn,bO,some [44]],
 [some [114],bO,bO,bO,bZ,na,some [50],BO,some [59],some [42],some [129,45],bn,bn,bO,bO,some [135,45]],
 [some [135],na,bn,bn,bn,bn,bn,some [149],vn,bn,na,na,some [155],some [30,45],some [82,45],bn],
 [some [169],na,bn,na,bn,na,some [37],some [38],zB,some [71,45],vn,na,bn,bn,na,na],
 [some [71,45],vo,bn,bO,bZ,bn,bn,bn,some [196,45],some [42],some [129,45],bO,bZ,bZ,bZ,bn],
 [vn,Ed,some [196,45],some [96],bn,bn,bn,bn,bn,bn,vn,bn,bn,bn,some [129],bn],
 [bn,vo,bZ,bn,bO,vn,bn,bn,bn,bO,BP,some [229,45],bO,bZ,BP,some [90,45]],
 [some [239],Ia,Ia,Ia,Ia,Ia,Ia,bO,bO,some [23],bn,some [250,4],some [254],vo,vo,bn],
 [bn,bn,bn,bn,na,bn,bn,na,bn,some [30,45],bn,some [71,45],vn,bZ,bn,some [196]],
 [some [270],some [272],bZ,bn,bn,bn,bO,bO,bO,some [3,279],bO,bn,bZ,Ib,bZ,bZ],
 [bn,bn,vn,vn,Ed,Ed,some [196],some [196],some [71,45],zB,bn,vo,tD,bn,BO,bZ],
 [bZ,bO,na,Ib,bZ,some [237],bZ,bZ,some [237],zB,bO,bn,bZ,bZ,Ed,bO],
 [bZ,bn,bO,some [71,45],bZ,bZ,bZ,na,BP,bn,bn,bn,bn,some [38,4],vo,vn],
 [bn,bn,some [196],bO,bO,some [326],bn,bn,some [229],bZ,bn,bn,bZ,bO,some [205],some [289]],
 [bZ,bZ,some [63],Ed,bZ,some [229,45],bZ,some [229],bZ,bn,bn,some [71],zB,BP,bZ,bn],
 [bZ,bO,bO,some [205],some [205],zB,zB,zB,some [353],bZ,bn,bO,bn,some [362],bO,bn],
 [bn,bn,bn,bn,bn,vo,some [256],bZ,vo,some [63,4],bZ,some [196],bO,bZ,bZ,bZ],
 [bZ,bZ,bZ,bZ,bZ,bZ,some [3,3,45],tD,bn,some [3,3,45],bZ,some [3,3,45],bn,bZ,Ib,bZ],
 [bO,some [389],bO,bZ,bO,Ib,bO,bO,some [3,279],bO,bn,bZ,Ib,bO,bO,bO],
 [bO,bO,bO,bO,bO,bO,bZ,bZ,bn,bO,bO,bO,some [3,279],bO,bn,bZ],
 [Ib,BP,some [3,3,45],BP,BP,none,bO,bO,bO,BP,bO,bZ,bZ,bO,bO,bO],
 [bO,bZ,bZ,bZ,bn,bO,bO,tD,some [3,3,45],tD,bO,bO,none,none,none,none],
 [none,none,none,none,none,none,none,none,none,none,none,none,none,none,none,none],
 [none,bO]]
def PT:List (List (Option (List TypeId))):=[
[none,none,bO,some [32,35,36,3,37,38,39],Ee,some [32,35,36,44,37],some [32,35,36,44,37],some [32,35,36,44,37,37],some [32,35,36,44,5],some [32,35,36,3,37,38,39,5,5],some [32,35,36,44,36],bO,some [32,35,36,38,39],some [32,35,36,3,37,38,39],some [32,35,36,3,37,38,39],some [44,44]],
 [Ee,Ee,Ee,Ee,some [50,50],some [32,35,36,44,37],some [32,35,36,44,37],some [32,3],zC,some [73,3],zC,some [71,79],some [59,3,3],some [32,79,3,3,82],some [50,3,3],some [79,79]],
 [bO,some [32],none,some [20,101],na,some [32],some [32,36,3,37,38,39],some [32,36,3,37,38,39],some [32],some [32,36,3,37,38,39],some [32,36,3,37,38,39],some [37,37],some [38,38],some [39,39],none,Ee],
 [some [36,37,38,39],some [32,36,44,117,112],some [32,35,36,44,112],some [121,123],some [118,118],Ee,some [32,36,44,3],zC,some [32,3],some [36,38],some [32,35,3,42,42,59],some [129,3],some [59,42,3],none,bn,some [32,3]],
 [some [3,59],some [32,3],some [143],some [143,143,145],some [63,63],vo,rD,some [73,3],zC,some [63,63],some [71],Ef,some [71,79],some [32,3,3],some [32,3,79],none],
 [bO,Ic,rD,some [23],some [90,3,3],some [32,3,3,82],some [37],some [38],zB,some [32,3,3,71,82],some [32,3,3,71,79,82],Ic,some [32],some [32,36],some [71],some [32,3,3,82]],
 [some [32,3,3,4,71,82],some [32,79,3,3,4,71,82],some [82,82],none,some [82,193],none,some [82,96],some [32,44,90],some [32,3,3,71,36,82],some [36,38],some [32,35,3,42,42,59],some [121,3,3,3,123],some [205],some [135],tD,some [32,36,44]],
 [some [73,3],some [32,3,3],some [32,3,3,71,36,82],some [82,3],some [32,79,90,96],some [196,3],some [32,44,90],vo,some [63,63],some [32,3,3,3],some [71,79],rD,some [42,3],some [59,3],some [3,42,42,59],zC],
 [zC,some [32],none,some [3,135],none,some [65,3,3],rD,some [9],some [3,3,135],none,tD,tD,some [30,234],some [90,90],some [88,88],some [32,3]],
 [bO,Ie,Ie,Ie,Ie,Ie,Ie,none,Ic,some [23],some [3,4,3,3],some [30,82],some [71,250],bZ,some [65,42],rD],
 [Ic,Ic,Ic,rD,some [23],some [90,3],If,Ef,rD,some [32,3,3],some [30,82],some [32,3,3,71,82],some [32,3,3,71,79,82],some [82,96],some [32,36],some [270,274]],
 [some [32,3,3,71,36,272],zB,some [200,200],vo,some [42,146],zC,Ig,Ig,Ig,Ig,Ig,Ig,some [121,3,3,3,123],some [121,3,3,3,123],some [287],some [289]],
 [bZ,some [73],some [73,3],zC,Ed,some [32,3,3],some [196,196],some [32,36,90,71,96],some [71,90,96],some [23,90,79],some [63],rD,some [71,3,79],some [59,3,3],zC,some [5]],
 [none,some [30,3,234],some [88],some [30,3,305],some [90,3],some [307],Ef,Ef,bZ,some [23,90,79],BO,rD,some [29,3],some [135],Ed,some [30,234]],
 [some [90,90],Eg,none,some [71,90,96],some [29,3],tD,bZ,some [88],some [88,88],some [9],rD,some [77,3],Eg,some [30,71,82],some [30,71,79,82],some [65,3,3]],
 [some [36,322],Ef,some [270],some [196,274],none,bO,none,none,some [68,3],some [29,90],none,none,some [42,146],some [121,3,3,3,123],bZ,some [382]],
 [some [121,3,166,123],some [121,3,3,3,166,123],some [63,63],some [30,90],If,tD,some [229,229],some [68,3],some [29,90],some [3,3,3,3,3,3],Eg,some [71,3,3],some [23,90,3],tD,bZ,some [63,63]],
 [some [9,5],Ih,Eh,some [205,205],bZ,none,none,some [353],some [23,90,3],some [3,290],none,Eh,rD,bO,none,some [88]],
 [some [88,88],some [88,88],some [5],some [5],rD,bZ,If,some [79,3],some [71,79,3],some [63,3],some [36,322],some [196,270],some [196,3,3,3,274],Eg,If,Ef],
 [Eg,Ef,Eg,If,If,Eg,some [29,3,88],some [121,3,3,166,123],some [90,90],bZ,bZ,some [29,3,88],rD,some [23,90,3],some [23,3,3,3,3],some [9,5]],
 [Eh,some [205,205],some [391,395],some [393,393],none,some [3,3,3,3],Ih,Ih,Ih,Ih,Ih,Eh,Eh,xo,xo,xo],
 [xo,xo,xo,xo,xo,xo,tD,bZ,some [5],Ii,Ii,Ii,Ii,Ii,Ii,some [196,3,3,3,274]],
 [some [196,3,3,3,274],some [29,3],some [88,3],some [29,3],some [229,229],none,Eh,none,some [391,3,395],some [229,229],Eh,some [30,3,166,234],some [30,3,3,3,166,234],xo,some [368,135],some [368,3]],
 [some [196,3,3,3,274],some [196,3,166,274],some [196,3,3,3,166,274],tD,some [229],some [391,3,3,395],some [391,3,3,3,395],some [30,3,3,166,234],bZ,some [196,3,3,166,274],some [391,3,3,3,395],some [391,3,3,3,395],none,none,none,none],
 [none,none,none,none,none,none,none,none,none,none,none,none,none,none,none,none],
 [none,bO]]
def akg:TD->Bool
 |.map k _ n ag=>(k==3&&n==1&& !ag)||(k==142&&n==2&&ag)||(k==118&&n==3&&ag)
 |_=>true
def arB:pj Tryz.prog 3 1 false:=arx (by kernel_rfl)
def arC:pj Tryz.prog 142 2 true:=by
 have Z:Tryz.prog.underlying 142=some (.array 2 3):=by kernel_rfl
 obtain⟨i,hi⟩:∃i,Tryz.prog.info? 3=some i:=awZ.1 (by kernel_rfl);exact ajQ Z (by kernel_rfl) (by kernel_rfl) (λl b W X=>arz Z (by kernel_rfl) hi (by kernel_rfl) X b 9998 W)
def akh(P:Program)(k n:Nat):Bool:=match P.underlying k with
 |some (.struct Z)=>Z.toList.all λf=>f.name != "_"&&(match P.underlying f.type with
  |some (.int .i64)=>true
  |_=>false)&&decide (f.offset<n)
 |_=>false
def arD{P:Program}{k n:Nat}(h:akh P k n=true)(V:p8 (P.underlying k)=true)(U:p9 P 20 k (awS n (.int .i64))=true):pj P k n true:=by
 unfold akh at h;split at h;rename_i O Z;refine ajQ Z V U (λl b W R=>arA Z (λf Q=> ?_) R b 9998 W);have:=awU.1 h f Q;simp only[awF,bne_iff_ne,ne_eq,decide_eq_true_eq] at this;refine⟨this.1.1, ?_,this.2⟩;have X:=this.1.2;split at X;assumption;cases X;cases h
def arE:pj Tryz.prog 118 3 true:=arD (by kernel_rfl) (by kernel_rfl) (by kernel_rfl)
def arF:Ai (λt Z=>U8 Tryz.prog t Z&&(!Z.eq||aag Tryz.prog t Z)&&akg Z.d) 0 TT=true:=by kernel_rfl
def R7:Ai (λg _=>qz Tryz.prog g) 0 SG=true:=by kernel_rfl
def Ij:fA Tryz.prog (look TT):=by
 intro t V h;have:=aee arF h;simp only[awF,aw9,awY] at this;refine aoH this.1.1 (λX=>arv (this.1.2.resolve_left (by rw[X];simp))) (λk e n ag W=> ?_);have Z:=this.2;rw[W] at Z;simp only[akg,aw9,awF,beq_iff_eq,awY] at Z;rcases Z with(⟨⟨rfl,rfl⟩,rfl⟩|⟨⟨rfl,rfl⟩,rfl⟩)|⟨⟨rfl,rfl⟩,rfl⟩;exact arB;exact arC;exact arE
def R8:Tryz.prog.follows .mixedOrders=true:=by kernel_rfl
end
def GL:List (Nat×Nat×Nat):=[(0,0,6),(1,1,2),(2,2,2)]
def GLK:List RK:=[.sl 245,.sl 259,.sl 142]
def GW(W:World):Prop:=∃Z,JZ (look TT) GL GLK py W Z
def GW.grow{W W':World}(Z:Below W.heap.size W W')(h:GW W):GW W':=by
 obtain⟨X,V,U,R,Q⟩:=h;exact⟨X,V,U,λk e rv P O=>(R k e rv P O).grow Z,Q⟩
def rE(srts:List (FuncId×FuncId×TypeId×aJ×Bool)):Prop:=∀x∈srts,lJ Tryz.prog (look TT) x.1 x.2.1 x.2.2.1 x.2.2.2.1 x.2.2.2.2
abbrev n9(f:FuncId)(F:List XV->Option aV):Prop:=CS Tryz.prog (look TT) (look PT) (look SG) GW f F
def aki:∀{ks:List LK},me ks=true->∀(k:Nat)(t:TypeId),(gk ks)[k]?≠some (.own t)
 |[],_,k,t=>by simp[gk]
 |x::ks,h,k,t=>by
  simp only[me,awF] at h;have Z:=aki h.2;cases x with
  |int _=>exact Z k t
  |bool=>exact Z k t
  |ref e=>
   cases k with
   |zero=>
    intro X;simp[gk] at X;subst X;simp[Cj] at h
   |succ k=>simpa[gk] using Z k t
def Ei(g:Bool):List (Nat×Nat×Nat):=if g then GL else[]
def oU(g:Bool):List RK:=if g then GLK else[]
def akj(g:Bool)(W:World)(h:GW W):∃Z,JZ (look TT) (Ei g) (oU g) (kb g) W Z:=by
 cases g with
 |true=>exact h
 |false=>exact⟨[],rfl,λk v V h=>by simp[kb] at h,λk e rv h=>by simp[oU] at h,λxs x X=>by simp[Ei] at X⟩
def arG{aP:kD}(E:∀f,n9 f (aP f)){f:FuncId}{fn:Func}{c:Code}(D:Tryz.prog.funcs[f]?=some fn)(C:fn.body=some c){inl:List Nat}{loops:List (Nat×Nat×du)}(hi:inl.all (qz Tryz.prog)=true){srts:List (FuncId×FuncId×TypeId×aJ×Bool)}(hsr:rE srts){mc:Bool}{chs:List (Nat×Nat)}{g:Bool}{dT:Option TypeId}
  {ps U:List TypeId}{X O:List LK}{args l:List SV}{t:T}{n ni nb:Nat}{rs:List RK}{F:List XV->Option aV}
  (B:look PT f=some ps)(A:look SG f=some U)(z:eZ (look TT) ps=some X)(y:eZ (look TT) U=some O)
  (e:me X=true)(x:gG (look TT) ps args=some l)(u:oF 0 0 (oU g).length X l=true)(aM:rs=oU g++gk X)(a:g=false\/qD O=true)
  (af:((⟨[],[],0,0,[],0,0,[]⟩:S).bz X).2.ni=ni)(ag:((⟨[],[],0,0,[],0,0,[]⟩:S).bz X).2.nb=nb)
  (s:VC (mj Tryz.prog TT SG (Ei g) inl loops srts mc chs) dT n f c fn.ntmps fn.results.toList args ⟨[],[],ni,nb,rs,0,0,[]⟩=t)
  (hdc:∀Q,dT=some Q->(∃d,qj c=some d/\nE Tryz.prog d.g Q)/\∀xs v,F xs≠some (.aS v))
  (hc:t.eG (look TT) (look PT) (look SG) U ni nb rs []=true)(hF:∀xs o,cR X xs->F xs=some o->qE aP t (dY (kb g) xs) [] o):n9 f F:=by
 have e1:∀V xs,cR X xs->(dY V xs).i.length=ni:=λV xs Z=>by
  have M:=(ud X xs ⟨[],[],0,0,[],0,0,[]⟩ ⟨[],[],[],[]⟩ Z rfl rfl rfl).1;have L:=(Al (ρ:=⟨[],[],[],[]⟩) Z).1;have J:=(Al (ρ:=⟨[],[],V,[]⟩) Z).1;rw[<-af,<-M,dY,J,L]
 have I:∀V xs,cR X xs->(dY V xs).b.length=nb:=λV xs Z=>by
  have M:=(ud X xs ⟨[],[],0,0,[],0,0,[]⟩ ⟨[],[],[],[]⟩ Z rfl rfl rfl).2.1;have L:=(Al (ρ:=⟨[],[],[],[]⟩) Z).2.1;have J:=(Al (ρ:=⟨[],[],V,[]⟩) Z).2.1;rw[<-ag,<-M,dY,J,L]
 have e3:∀xs,cR X xs->(dY (kb g) xs).r.length=rs.length:=λxs Z=>by rw[aM];exact JS Z (by cases g<;>rfl)
 have q:∀(k:Nat)(t:TypeId),rs[k]?≠some (.own t):=by
  rw[aM];intro k t P;by_cases p:k<(oU g).length;rw[awI p] at P;cases g with
  |false=>simp[oU] at p
  |true=>rcases k with _|_|_|k<;>simp[oU,GLK] at P
  rw[awM (by omega)] at P;exact aki e _ t P
 have m:kb g=[]\/qD O=true:=a.imp (λh=>by subst h;rfl) id;have j:∀xs o,cR X xs->F xs=some o->∃N,run (look TT) (look PT) (look SG) aP U N t (dY (kb g) xs) rs []=some o:=λxs o Z ho=>by
  obtain⟨N,hN⟩:=hF xs o Z ho;exact⟨N,px N t _ rs [] [] [] o hN (by rw[e1 _ xs Z,I _ xs Z];exact hc) (e3 xs Z) wh.nil⟩
 cases dT with
 |none=>exact ao1 (cf:=mj Tryz.prog TT SG (Ei g) inl loops srts mc chs) (glk:=oU g) (glv:=kb g) (λw R H=>NS Ij R7 hi R8 H hsr) rfl E (λ_ _ G h=>h.grow G) D C B A z y x (by cases g<;>exact u) aM q (by cases g<;>rfl) m e1 I (λW h=>akj g W h) ((apk _ _ _ _ _ _ _ _).symm.trans s) j
 |some Q=>
  obtain⟨⟨d,hd,bg⟩,an⟩:=hdc Q rfl;exact ao2 (cf:=mj Tryz.prog TT SG (Ei g) inl loops srts mc chs) (glk:=oU g) (glv:=kb g) (λw R H=>NS Ij R7 hi R8 H hsr) rfl E (λ_ _ G h=>h.grow G) D C hd bg B A z y x (by cases g<;>exact u) aM q (by cases g<;>rfl) m e1 I (λW h=>akj g W h) ((apl _ _ _ _ _ _ _ _ _).symm.trans s) an j
def akk(f:FuncId):n9 f (λ_=>none):=λ_ _ _ _ _ _ _ _ _ _ _ h=>by cases h
def bG(f:FuncId)(g d:Bool)(t:T):Prop:=∀(aP:kD),(∀g,n9 g (aP g))->∀n,n9 f (λxs=>wi d (exec aP n t (dY (kb g) xs) []))
def arH{f:FuncId}{fn:Func}{c:Code}(P:Tryz.prog.funcs[f]?=some fn)(O:fn.body=some c){inl:List Nat}{loops:List (Nat×Nat×du)}(hi:inl.all (qz Tryz.prog)=true){srts:List (FuncId×FuncId×TypeId×aJ×Bool)}(hsr:rE srts){mc:Bool}{chs:List (Nat×Nat)}{g:Bool}{dT:Option TypeId}
  {ps V:List TypeId}{Z U:List LK}{args l:List SV}{t:T}{n ni nb:Nat}{rs:List RK}
  (N:look PT f=some ps)(M:look SG f=some V)(L:eZ (look TT) ps=some Z)(J:eZ (look TT) V=some U)
  (I:me Z=true)(H:gG (look TT) ps args=some l)(G:oF 0 0 (oU g).length Z l=true)(aM:rs=oU g++gk Z)(E:g=false\/qD U=true)
  (D:((⟨[],[],0,0,[],0,0,[]⟩:S).bz Z).2.ni=ni)(C:((⟨[],[],0,0,[],0,0,[]⟩:S).bz Z).2.nb=nb)
  (hdc:∀W,dT=some W->∃d,qj c=some d/\nE Tryz.prog d.g W)
  (B:VC (mj Tryz.prog TT SG (Ei g) inl loops srts mc chs) dT n f c fn.ntmps fn.results.toList args ⟨[],[],ni,nb,rs,0,0,[]⟩=t)
  (A:t.eG (look TT) (look PT) (look SG) V ni nb rs []=true):bG f g dT.isSome t:=
 λaP z m=>arG (F:=λxs=>wi dT.isSome (exec aP m t (dY (kb g) xs) [])) z P O hi hsr N M L J I H G aM E D C B
  (λW R=>⟨hdc W R,λxs v h=>by
   subst R;simp only[Option.isSome_some] at h;cases X:exec aP m t (dY (kb g) xs) [] with
   |none=>rw[X] at h;cases h
   |some o=>rw[X] at h;cases o<;>simp[wi] at h⟩) A (λxs o _ h=>by
   cases X:exec aP m t (dY (kb g) xs) [] with
   |none=>simp only[X,wi] at h;cases h
   |some Q=>
    simp only[X] at h;have:o=Q:=by
     cases Q with
     |ret ys=>simp only[wi,awJ] at h;exact h.symm
     |aS v=>
      simp only[wi] at h;split at h;cases h;cases h;rfl
    subst this;exact⟨m,X⟩)
def R9:List CT->Nat->Nat->Nat->List SV×Nat×Nat×Nat
 |[],a,b,c=>([],a,b,c)
 |.int k::l,a,b,c=>let r:=R9 l (a+1) b c;(.int k (.v a)::r.1,r.2)
 |.bool::l,a,b,c=>let r:=R9 l a (b+1) c;(.bool (.v b)::r.1,r.2)
 |.ar _ _::l,a,b,c=>let r:=R9 l a b (c+1);(.ref (.v c)::r.1,r.2)
def mkA:List TypeId->Nat->Nat->Nat->List SV
 |[],_,_,_=>[]
 |t::X,a,b,c=>match look TT t with
  |some Z=>let r:=R9 Z.ab a b c;(if Z.d.isAgg then .agg r.1 else r.1.headD .any)::mkA X r.2.1 r.2.2.1 r.2.2.2
  |none=>[]
def pkF(f:FuncId):List LK:=(eZ (look TT) ((look PT f).getD [])).getD []
abbrev Sa:S:=⟨[],[],0,0,[],0,0,[]⟩
def tk{f:FuncId}{fn:Func}{t:T}{ps X:List TypeId}{Z W:List LK}{l:List SV}(U:Tryz.prog.funcs[f]?=some fn)(loops:List (Nat×Nat×du):=[])(inl:List Nat:=[])(srts:List (FuncId×FuncId×TypeId×aJ×Bool):=[])(mc:Bool:=false)(chs:List (Nat×Nat):=[])(g:Bool:=false)(dT:Option TypeId:=none)(n:Nat:=300)
  (args:List SV:=mkA ((look PT f).getD []) 0 0 (oU g).length)(ni:Nat:=(Sa.bz (pkF f)).2.ni)(nb:Nat:=(Sa.bz (pkF f)).2.nb)(rs:List RK:=oU g++gk (pkF f))
  (hsr:rE srts:=by exact λx R=>by cases R)(hdc:∀V,dT=some V->∃d,qj (fn.body.getD .skip)=some d/\nE Tryz.prog d.g V:=by exact λ_ h=>by cases h)
  (Q:fn.body=some (fn.body.getD .skip):=by rfl)(hi:inl.all (qz Tryz.prog)=true:=by kernel_rfl)
  (P:look PT f=some ps:=by exact rfl)(O:look SG f=some X:=by exact rfl)(N:eZ (look TT) ps=some Z:=by exact rfl)(M:eZ (look TT) X=some W:=by exact rfl)
  (L:me Z=true:=by exact rfl)(J:gG (look TT) ps args=some l:=by exact rfl)(I:oF 0 0 (oU g).length Z l=true:=by exact rfl)(aM:rs=oU g++gk Z:=by exact rfl)(H:g=false\/qD W=true:=by first|exact .inl rfl|exact .inr rfl)
  (G:(Sa.bz Z).2.ni=ni:=by exact rfl)(F:(Sa.bz Z).2.nb=nb:=by exact rfl)
  (E:VC (mj Tryz.prog TT SG (Ei g) inl loops srts mc chs) dT n f (fn.body.getD .skip) fn.ntmps fn.results.toList args ⟨[],[],ni,nb,rs,0,0,[]⟩=t:=by kernel_rfl)
  (D:t.eG (look TT) (look PT) (look SG) X ni nb rs []=true:=by kernel_rfl):bG f g dT.isSome t:=
 arH U Q hi hsr P O N M L J I aM H G F hdc E D
structure akm(tb:jx):Prop where
 tree:∀f fn,tb.tree f=some fn->bG f fn.g fn.d fn.t
 oG:∀f,n9 f (tb.oG f)
def n9.or{f:FuncId}{F G:List XV->Option aV}(h:n9 f F)(k:n9 f G):n9 f (λxs=>match F xs with|some o=>some o|none=>G xs):=by
 intro ps V U R Q P O N X xs o Z;simp only at Z;cases W:F X with
 |some M=>rw[W] at Z;simp only[awJ] at Z;subst Z;exact h ps V U R Q P O N X xs M W
 |none=>rw[W] at Z;exact k ps V U R Q P O N X xs o Z
def akn{W:jx}(Z:akm W):∀n f,n9 f (W.aP n f)
 |0,f=>Z.oG f
 |n+1,f=>by
  cases V:W.tree f with
  |none=>
   have:=n9.or (Z.oG f) (akk f);intro ps U R Q P O N M L xs o X;simp only[jx.aP,V] at X;exact this ps U R Q P O N M L xs o X
  |some t=>
   have:=n9.or (Z.oG f) (Z.tree f t V (W.aP n) (akn Z n) n);intro ps U R Q P O N M L xs o X;simp only[jx.aP,V] at X;exact this ps U R Q P O N M L xs o X
def Sb{c:Code}{g:FuncId}{Z:TypeId}(h:(qj c).map DI.g=some g)(k:nE Tryz.prog g Z):∃d,qj c=some d/\nE Tryz.prog d.g Z:=by
 cases X:qj c with
 |none=>rw[X] at h;cases h
 |some d=>rw[X] at h;cases h;exact⟨d,rfl,k⟩
def qa:List (FuncId×FuncId×TypeId×aJ×Bool):=[(51,52,118,.lex [0,1,2] false,false),(140,141,90,.ratio 10 11,true),(223,224,90,.lex [0] false,false),(243,178,200,.lex [1,0] false,false),(322,323,393,.lex [4] true,true)]
end
end Go.Proofs.YtieaiocljdpebaaGreatDoor.Y
