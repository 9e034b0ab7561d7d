/- Part 14 of the proof; the last part says what is shown. -/
import Derived.Test.YtieaiocljdpebaaGreatDoorProg
import Derived.Test.YtieaiocljdpebaaGreatDoorQ6
import Derived.Test.YtieaiocljdpebaaGreatDoorQ13
import Derived.Test.YtieaiocljdpebaaGreatDoorQ4
import Derived.Test.YtieaiocljdpebaaGreatDoorQ2
import Derived.Test.YtieaiocljdpebaaGreatDoorQ1
import Derived.Test.YtieaiocljdpebaaGreatDoorQ12
import Derived.WalkKit
import Derived.LoopTactic
import Derived.Lib.Hide
import Derived.Outline
import Derived.OwnWalk
import Derived.Below
import Derived.RegionTactic
import Derived.BigQuiet
import Derived.Deep.QuietTactic
import Derived.WalkSpells
import Derived.WalkLawsBesides
import Derived.WalkSmall
import Derived.Deep.RegionWith
import Derived.StillTailTactics
set_option linter.all false
open Bool renaming and_eq_true->axI,not_eq_true'->ax0,false_eq_true->ax3
open List renaming getElem?_eq_some_iff->axJ,getElem?_eq_getElem->axK,getElem?_append_left->axL,getD_eq_getElem?_getD->axN,getElem?_map->axO,getElem?_append_right->axP,cons_append->axY,mem_cons->axT,mem_append->axS,nil_append->ax2,map_cons->axV,replicate->axW,length_append->axX,all_eq_true->axU,pairwise_cons->ax5,mem_of_getElem?->ax4,mem_map->aya,pairwise_append->ayc,eq_nil_of_length_eq_zero->ayd,ext_getElem?->ayf,getElem?_take->ayi,getElem?_drop->ayq,length_cons->ayu,map_map->ayw,getElem?_of_mem->ayx,length_map->ayA,getElem?_set->ayD,getElem?_cons_zero->ayB,getElem?_eq_none_iff->ayC,drop_eq_getElem_cons->ayG,nodup_append->ayJ,mem_of_mem_drop->ayL,append_assoc->azd,mem_of_mem_take->ayP,mem_or_eq_of_mem_set->ayQ,take_of_length_le->ay0,getD_cons_zero->ay1,map_nil->ay2,getElem_mem->ayT,foldl_cons->ay8,take_append_drop->ay3,length_drop->ay9,append_nil->azf,getD_cons_succ->azg,length_take->azj,pairwise_iff_getElem->azn,set_append_right->azv,drop_drop->azA,map->azC,length_nil->azM,take_append_of_le_length->azQ,all_map->azU,getElem?_modify->aA5,length->azO,drop_left'->az4,take_add_one->aBq,pairwise_singleton->aAM,set_cons_zero->aBg
open Option.some renaming injEq->axM,inj->aym
open Nat renaming le_refl->axQ,le_trans->ayt,zero_le->ayK,add_zero->ay4,add_sub_cancel_left->azG,lt_of_lt_of_le->azI,sub_self->aAn,min_eq_left->aAo,mul_le_mul->aA0
open Option renaming map_eq_some_iff->azi
open Array renaming getElem?_modify->azk,getElem?_eq_none->aAQ
open List.Pairwise renaming nil->ayv
open Int renaming toNat_natCast->ayE,mul_le_mul_of_nonneg_right->ayM,natAbs_mul->aDM,mul_lt_mul_of_pos_right->aAy,fdiv_eq_ediv_of_nonneg->aAB
open List.Perm renaming refl->aAv,swap->aBt
namespace Go.Proofs.YtieaiocljdpebaaGreatDoor
open Go.RowKit
variable{i:Program}{R A:World}{X H y:Nat}{E:Value}{P:TypeId}{Q:Array Value}
section
def atr(Z:Array TypeId)(t:TypeId)(x y:Int):(Builtin.min_ Z t #[.int .i64 x,.int .i64 y]).run i R=.ok (.int .i64 (min x y)) R:=by
 simp[Builtin.min_,Builtin.min2];omega
def ats(Z:Array TypeId)(t:TypeId)(x y:Int):(Builtin.max_ Z t #[.int .i64 x,.int .i64 y]).run i R=.ok (.int .i64 (max x y)) R:=by
 simp[Builtin.max_,Builtin.max2];omega
attribute[go_sem high] atr ats
def Sl{V:Type}(R:V->List Value)(k:Nat)(w:World)(v:Value)(Z:List V):Prop:=
 ∃(a:Option Addr)(X W:Nat),v=.slice a X W/\Z.length=X/\X<=W/\W<=4611686018427387904/\
  ∀i(h:i<Z.length),∃b U,a=some ⟨b,U,none⟩/\b<w.heap.size/\∀j,j<k->w.cell? ⟨b,U+i*k+j,none⟩=(R Z[i])[j]?
def Sl.below{Z:Type}{W:Z->List Value}{V:List Z}(h:Sl W X R E V)(U:Below R.heap.size R A):Sl W X A E V:=by
 obtain⟨a,P,O,N,M,L,J,I⟩:=h;refine⟨a,P,O,N,M,L,J,λi H=> ?_⟩;obtain⟨b,G,e,Q,F⟩:=I i H;exact⟨b,G,e,azI Q U.size,λj D=>(U.cell (p:=⟨b,_,none⟩) Q).trans (F j D)⟩
def Tl(n:Int):List Value:=[.int .i64 n]
def IR{a b:Bool}(h:a=b):Ending.returned (.bool a)=.returned (.bool b):=by rw[h]
def alu(Z:Below R.heap.size R A):(∀b o,b<R.heap.size->A.cell? ⟨b,o,none⟩=R.cell? ⟨b,o,none⟩)/\(∀b o,b<R.heap.size->A.frozen? ⟨b,o,none⟩=R.frozen? ⟨b,o,none⟩):=
 ⟨λb o h=>Z.cell (p:=⟨b,o,none⟩) h,λb o h=>Z.frozen (p:=⟨b,o,none⟩) h⟩
def att:List Value:=[.int .i64 0,.int .i64 29,.int .i64 20,.int .i64 21,.int .i64 29,.int .i64 0,.int .i64 20,.int .i64 (-21),.int .i64 0,.int .i64 (-29),.int .i64 (-20),.int .i64 (-21),.int .i64 (-29),.int .i64 0,.int .i64 (-20),.int .i64 21]
def abh(w:World):Prop:=4<=w.heap.size/\∀i,i<16->w.cell? ⟨2,i,none⟩=att[i]?
def abh.below(h:abh R)(Z:Below R.heap.size R A):abh A:=
 ⟨ayt h.1 Z.size,λi X=>(Z.cell (p:=⟨2,i,none⟩) (by have:=h.1;show 2<_;omega)).trans (h.2 i X)⟩
def vM(h:Below R.heap.size R A)(o:Obj):Below R.heap.size R (A.alloc o):=h.alloc h.size o
def abi(h:Below R.heap.size R A){p:Addr}(Z:R.heap.size<=p.block)(u:Value):Below R.heap.size R (A.setCell p u):=h.setCell Z u
def z7{Z:World}(h:Below R.heap.size R A)(k:Below A.heap.size A Z):Below R.heap.size R Z:=h.trans (k.mono h.size)
def abj(h:Below R.heap.size R A):Below R.heap.size R A.drew:=h.drew
def Bx(W:World)(b:Nat)(t:TypeId)(Z:Array Value):Prop:=W.heap[b]?=some (.cells Z t (0,0))
def Bx.lt(h:Bx R X P Q):X<R.heap.size:=by
 unfold Bx at h;by_cases Z:X<R.heap.size;exact Z;rw[aAQ (by omega)] at h;cases h
def Bx.cell(h:Bx R X P Q):∀i,R.cell? ⟨X,i,none⟩=Q[i]?:=by
 intro i;unfold Bx at h;simp[World.cell?,h]
def Bx.new(w:World)(Z:Array Value)(t:TypeId):Bx (w.alloc (.cells Z t)) w.heap.size t Z:=by
 show(w.heap.push _)[w.heap.size]?=_;simp
def Bx.alloc(h:Bx R X P Q)(o:Obj):Bx (R.alloc o) X P Q:=
 (Below.heap_alloc R o X h.lt).trans h
def Bx.drew(h:Bx R X P Q):Bx R.drew X P Q:=h
def Bx.drewN(h:Bx R X P Q)(n:Nat):Bx (R.drewN n) X P Q:=h
def Bx.below(h:Bx R X P Q)(Z:Below R.heap.size R A):Bx A X P Q:=
 (Z.block X h.lt).trans h
def Bx.other(h:Bx R X P Q)(Z:X≠H)(u:Value):Bx (R.setCell ⟨H,y,none⟩ u) X P Q:=
 (Below.heap_setCell R _ u X Z).trans h
def Bx.set(h:Bx R X P Q)(u:Value):Bx (R.setCell ⟨X,H,none⟩ u) X P (Q.setIfInBounds H u):=by
 unfold Bx at*;simp[World.setCell,azk,h]
end
end Go.Proofs.YtieaiocljdpebaaGreatDoor
namespace Go.Proofs.YtieaiocljdpebaaGreatDoor.K
variable{q:Int}{M:List Int}
structure Range where
 Lo:Int
 Hi:Int
 deriving DecidableEq
structure gq where
 X:Range
 Y:Range
 deriving DecidableEq
structure Vec where
 X:Int
 Y:Int
 Z:Int
 deriving DecidableEq
def gq.zero:gq:=⟨⟨0,0⟩,⟨0,0⟩⟩
def vN(m:Int)(Z:List Int):Bool:=Z.all λn=> !(n< -m||n>m)
def gq.valid(b:gq):Bool:=vN 1099511627776 [b.X.Lo,b.X.Hi,b.Y.Lo,b.Y.Hi]&&decide (b.X.Lo<=b.X.Hi)&&decide (b.Y.Lo<=b.Y.Hi)
def gq.join(a b:gq):gq:=⟨⟨min a.X.Lo b.X.Lo,max a.X.Hi b.X.Hi⟩,⟨min a.Y.Lo b.Y.Lo,max a.Y.Hi b.Y.Hi⟩⟩
def Range.pI(x y:Range):Bool:=decide (x.Lo<=y.Hi)&&decide (y.Lo<=x.Hi)
def gq.pI(a b:gq):Bool:=a.X.pI b.X&&a.Y.pI b.Y
def gq.shift(a:gq)(x y:Int):gq:=⟨⟨a.X.Lo+x,a.X.Hi+x⟩,⟨a.Y.Lo+y,a.Y.Hi+y⟩⟩
def atu(m:Int)(Z:List Int)(k:Nat)(h:k<Z.length):vN m (Z.take (k+1))=(vN m (Z.take k)&& !(Z[k]< -m||Z[k]>m)):=by
 unfold vN;rw[List.take_succ_eq_append_getElem h,List.all_append];simp
def atv{k:Nat}(h:vN q (M.take k)=false):vN q M=false:=by
 unfold vN at*;rw[List.all_eq_false] at*;obtain⟨x,Z,h⟩:=h;exact⟨x,ayP Z,h⟩
end Go.Proofs.YtieaiocljdpebaaGreatDoor.K
namespace Go.Proofs.YtieaiocljdpebaaGreatDoor
open Go.RowKit
section
abbrev K.Range.v(x:K.Range):Value:=.agg #[.int .i64 x.Lo,.int .i64 x.Hi]
abbrev K.gq.v(x:K.gq):Value:=.agg #[.int .i64 x.X.Lo,.int .i64 x.X.Hi,.int .i64 x.Y.Lo,.int .i64 x.Y.Hi]
def K.gq.vs(x:K.gq):List Value:=[.int .i64 x.X.Lo,.int .i64 x.X.Hi,.int .i64 x.Y.Lo,.int .i64 x.Y.Hi]
set_option maxHeartbeats 400000 in
def atw (m:Int) (v:Value) (Z:List Int) (w:World) (F:0<=m) (E:m<=4611686018427387904) (L:Sl Tl 1 w v Z):
  Calls Tryz.prog 131 #[.int .i64 m,v] w λe J=>e=.returned (.bool (K.vN m Z))/\w=J:=by
 obtain⟨a,X,D,rfl,V,C,B,U⟩:=L;have I:=Lib.hid U;clear U;have R:=Lib.hid V;clear V;go_enter Tryz.func131,Tryz.ntmps131;go_wp2
 go_loop [9] (λi=>∃k:Nat,k<=X/\i=.int .i64 k/\K.vN m (Z.take k)=true) (λi=>X-(intOf i).toNat)
 case atStart=>exact⟨0,ayK _,rfl,rfl⟩
 case round=>
  obtain⟨k,A,rfl,Q⟩:=hrel;have W:=Lib.hid Q;clear Q;by_cases H:k<X
  ·have P:k<Z.length:=by rw[R.out];exact H
   have O:=K.atu m Z k P;have N:=Lib.hid O;clear O;obtain⟨b,z,rfl,x,M⟩:=I.out k P;have G:=M 0 (by omega);clear M;simp only[Tl,ayB,ay4,Nat.mul_one] at G;generalize Z[k]=y at*;go_wp2
   all_goals first
    |(go_ret;exact⟨IR (K.atv (k:=k+1) (by rw[N.out,W.out];simp<;>omega)).symm,rfl⟩)
    |(go_round
      case rel=>exact⟨k+1,by omega,by go_num,by rw[N.out,W.out];simp<;>omega⟩
      case measure=>simp[intOf];omega)
  ·go_wp2;go_ret;exact⟨IR (by rw[<-W.out,ay0 (by rw[R.out];omega)]),rfl⟩
set_option maxHeartbeats 400000 in
def Mp (x:K.gq) (r:Bool) (V:x.valid=r) (w:World):
  Calls Tryz.prog 66 #[x.v] w λe Z=>e=.returned (.bool r)/\Below w.heap.size w Z:=by
 subst V;have U:Sl Tl 1 ((w.alloc (.cells #[.int .i64 x.X.Lo,.int .i64 x.X.Hi,.int .i64 x.Y.Lo,.int .i64 x.Y.Hi] 143)).alloc (.cells #[.int .i64 x.X.Lo,.int .i64 x.X.Hi,.int .i64 x.Y.Lo,.int .i64 x.Y.Hi] 3)) (.slice (some ⟨w.heap.size+1,0,none⟩) 4 4) [x.X.Lo,x.X.Hi,x.Y.Lo,x.Y.Hi]:=by
  refine⟨_,_,_,rfl,rfl,by omega,by omega,λi R=>⟨w.heap.size+1,0,rfl,by simp,λj Q=> ?_⟩⟩;obtain rfl:j=0:=by omega
  simp at R;rcases i with _|_|_|_|i<;>first|omega|simp[Tl,go_sem]
 cases W:K.vN 1099511627776 [x.X.Lo,x.X.Hi,x.Y.Lo,x.Y.Hi]
 all_goals
  go_enter Tryz.func66,Tryz.ntmps66
  go_wp2_with (go_at_call 131;refine(atw _ _ _ _ (by omega) (by omega) U).mono ?_;rw[W];rintro e Z ⟨rfl,rfl⟩)
  all_goals(go_ret;exact⟨IR (by simp[K.gq.valid,W]<;>omega),vM (vM (Below.refl _ _) _) _⟩)
set_option maxHeartbeats 400000 in
def abk (x y:K.Range) (r:Bool) (Z:x.pI y=r) (w:World):
  Calls Tryz.prog 73 #[x.v,y.v] w λe X=>e=.returned (.bool r)/\Below w.heap.size w X:=by
 subst Z;by_cases W:x.Lo<=y.Hi
 all_goals
  go_enter Tryz.func73,Tryz.ntmps73;go_wp2
  all_goals(go_ret;exact⟨IR (by simp[K.Range.pI]<;>omega),vM (vM (Below.refl _ _) _) _⟩)
set_option maxHeartbeats 400000 in
def atx (a b:K.gq) (w:World):
  Calls Tryz.prog 67 #[a.v,b.v,.func (.func 73) #[] #[]] w λe Q=>e=.returned (.bool (a.pI b))/\Below w.heap.size w Q:=by
 cases V:a.X.pI b.X
 ·have Z:=Lib.hid V;clear V;go_enter Tryz.func67,Tryz.ntmps67
  go_wp2_with (go_at_call 73;refine(abk ⟨_,_⟩ ⟨_,_⟩ false Z.out _).mono ?_;rintro e P ⟨rfl,W⟩;obtain⟨O,N⟩:=alu W)
  go_ret;exact⟨IR (by simp[K.gq.pI,Z.out]),z7 (vM (vM (Below.refl _ _) _) _) W⟩
 ·have Z:=Lib.hid V;clear V;cases U:a.Y.pI b.Y
  all_goals
   have R:=Lib.hid U;clear U;go_enter Tryz.func67,Tryz.ntmps67
   go_wp2_with fail
   refine(abk ⟨_,_⟩ ⟨_,_⟩ true Z.out _).mono ?_;rintro e P ⟨rfl,W⟩;obtain⟨O,N⟩:=alu W
   go_wp2_with fail
   refine(abk ⟨_,_⟩ ⟨_,_⟩ _ R.out _).mono ?_;rintro e L ⟨rfl,M⟩;go_wp2;go_ret;exact⟨IR (by simp[K.gq.pI,Z.out,R.out]),z7 (z7 (vM (vM (Below.refl _ _) _) _) W) M⟩
abbrev K.Vec.v(x:K.Vec):Value:=.agg #[.int .i64 x.X,.int .i64 x.Y,.int .i64 x.Z]
set_option maxHeartbeats 1000000 in
def aty (a b:K.gq) (U:a.valid=true) (R:b.valid=true) (r:Bool) (Q:a.pI b= !r) (w:World):
  Calls Tryz.prog 26 #[a.v,b.v] w λe P=>e=.returned (.tuple #[.bool r,.int .i64 0])/\Below w.heap.size w P:=by
 have O:=Lib.hid U;clear U;have N:=Lib.hid R;clear R;have M:=Lib.hid Q;clear Q;go_enter Tryz.func26,Tryz.ntmps26
 go_wp2_with fail
 refine(Mp ⟨⟨_,_⟩,⟨_,_⟩⟩ true O.out _).mono ?_;rintro e I ⟨rfl,X⟩;have W:=((Bx.new w _ _).alloc _).below X;have Z:=(Bx.new (w.alloc _) _ _).below X;simp only[World.size_alloc] at Z;have L:=Z.cell
 go_wp2_with fail
 refine(Mp ⟨⟨_,_⟩,⟨_,_⟩⟩ true N.out _).mono ?_;rintro e H ⟨rfl,V⟩;replace W:=W.below V;replace Z:=Z.below V;have G:=W.cell;have L:=Z.cell
 go_wp2_with fail
 refine(atx ⟨⟨_,_⟩,⟨_,_⟩⟩ ⟨⟨_,_⟩,⟨_,_⟩⟩ _).mono ?_;rw[show K.gq.pI ⟨⟨_,_⟩,⟨_,_⟩⟩ ⟨⟨_,_⟩,⟨_,_⟩⟩= !r from M.out];rintro e F ⟨rfl,J⟩;go_wp2
 go_ret2
 refine⟨by simp, ?_⟩
 repeat' first|with_reducible apply vM|with_reducible apply abj|(with_reducible refine abi ?_ (by dsimp only;omega) _)|with_reducible exact Below.refl _ _|(refine z7 ?_ J)|(refine z7 ?_ V)|(refine z7 ?_ X)
end
end Go.Proofs.YtieaiocljdpebaaGreatDoor
namespace Go.Proofs.YtieaiocljdpebaaGreatDoor.Y
open Go.RowKit
noncomputable section
section
set_option maxHeartbeats 1000000 in
def atz (a b:K.gq) (Z:a.valid=false) (w:World):Calls Tryz.prog 26 #[a.v,b.v] w λe V=>e=.returned (.tuple #[.bool false,.int .i64 150])/\Below w.heap.size w V:=by
 have U:=Lib.hid Z;clear Z;go_enter Tryz.func26,Tryz.ntmps26
 go_wp2_with fail
 refine(Mp ⟨⟨_,_⟩,⟨_,_⟩⟩ false U.out _).mono ?_;rintro e R ⟨rfl,X⟩;have W:=(Bx.new (w.alloc _) _ _).below X;simp only[World.size_alloc] at W;have Q:=W.cell;go_wp2
 go_ret2
 refine⟨by simp, ?_⟩
 repeat' first|with_reducible apply vM|with_reducible apply abj|(with_reducible refine abi ?_ (by dsimp only;omega) _)|with_reducible exact Below.refl _ _|(refine z7 ?_ X)
set_option maxHeartbeats 1000000 in
def atA (a b:K.gq) (U:a.valid=true) (R:b.valid=false) (w:World):Calls Tryz.prog 26 #[a.v,b.v] w λe Q=>e=.returned (.tuple #[.bool false,.int .i64 150])/\Below w.heap.size w Q:=by
 have P:=Lib.hid U;clear U;have O:=Lib.hid R;clear R;go_enter Tryz.func26,Tryz.ntmps26
 go_wp2_with fail
 refine(Mp ⟨⟨_,_⟩,⟨_,_⟩⟩ true P.out _).mono ?_;rintro e M ⟨rfl,X⟩;have W:=((Bx.new w _ _).alloc _).below X;have Z:=(Bx.new (w.alloc _) _ _).below X;simp only[World.size_alloc] at Z;have N:=Z.cell
 go_wp2_with fail
 refine(Mp ⟨⟨_,_⟩,⟨_,_⟩⟩ false O.out _).mono ?_;rintro e L ⟨rfl,V⟩;replace W:=W.below V;replace Z:=Z.below V;have J:=W.cell;have N:=Z.cell;go_wp2
 go_ret2
 refine⟨by simp, ?_⟩
 repeat' first|with_reducible apply vM|with_reducible apply abj|(with_reducible refine abi ?_ (by dsimp only;omega) _)|with_reducible exact Below.refl _ _|(refine z7 ?_ V)|(refine z7 ?_ X)
end
variable{q:Int}
section
def TM:fW:=⟨Eu,λ_ _=>none⟩
def alw:abg TM false:=by
 refine⟨λf Z (h:Eu f=some Z)=> ?_,λf Z (h:Eu f=some Z)=> ?_,λf=>abe f⟩;unfold Eu at h;split at h<;>cases h<;>first|exact aln|exact alo|exact alp|exact alq|exact alr|exact als
 unfold Eu at h;split at h<;>cases h<;>exact id
def hTM(f:FuncId)(Z:Fn)(h:Eu f=some Z):Gr TM f Z:=⟨h,λ_=>rfl⟩
def alP{x y m n:Int}(Z:x.natAbs<=m.natAbs)(X:y.natAbs<=n.natAbs):(x*y).natAbs<=(m*n).natAbs:=by
 rw[aDM,aDM];exact aA0 Z X
set_option maxHeartbeats 1000000 in
def atB {b c d:Int} (V:gX q b=true) (U:gX c d=true) (W:World):Calls Tryz.prog 142 #[.agg #[.int .i64 q,.int .i64 b],.agg #[.int .i64 c,.int .i64 d]] W λe R=>e=.returned (.tuple #[.int .i64 (ajd (q*d) (c*b)),.int .i64 0])/\Below W.heap.size W R:=by
 obtain⟨n,P⟩:=aju hTM q b c d;have O:=Th alw n 142 _ _ _ _ rfl rfl rfl rfl _ _ _ P (Tj _) ⟨trivial,trivial,trivial,trivial,trivial⟩ W (λh=>by cases h) (Tk (by simp[pL]));refine Calls.mono O ?_;intro e R h;have Q:IntKind.i64.wrap (q*d)=q*d/\IntKind.i64.wrap (c*b)=c*b:=by
  simp[gX] at V U;have I:=alP (x:=q) (y:=d) (m:=1073741824) (n:=1073741824) (by omega) (by omega);have H:=alP (x:=c) (y:=b) (m:=1073741824) (n:=1073741824) (by omega) (by omega);rw[IntKind.wrap_i64,IntKind.wrap_i64];omega
 rw[St,V,U,Q.1,Q.2] at h;cases e with
 |returned v=>
  obtain⟨G,N,X,Z,F,rfl,M,_,_⟩:=h;cases X;rcases N with _|⟨_|_|_,_|⟨_|_|_,_|_⟩⟩<;>first|exact Z.elim|exact Z.1.elim|exact Z.2.elim|exact Z.2.1.elim|exact Z.2.2.elim|skip
  obtain⟨L,J,_⟩:=Z;cases L;cases J;exact⟨rfl,M⟩
 |panicked E=>obtain⟨_,v,X,_⟩:=h;cases X
 |outgrown=>exact h.elim
def atC(a b:Int)(W:World):Calls Tryz.prog 110 #[.int .i64 a,.int .i64 b] W λe V=>e=.returned (.int .i64 (ajd a b))/\Below W.heap.size W V:=by
 obtain⟨n,U⟩:=aaG hTM a b;have R:=Th alw n 110 _ _ _ _ rfl rfl rfl rfl _ _ _ U (Tj _) ⟨trivial,trivial,trivial⟩ W (λh=>by cases h) (Tk (by simp[pL]));refine Calls.mono R ?_;intro e V h;cases e with
 |returned v=>
  obtain⟨N,Q,X,Z,M,rfl,P,_,_⟩:=h;cases X;rcases Q with _|⟨_|_|_,_|_⟩<;>first|exact Z.elim|exact Z.1.elim|exact Z.2.elim|skip
  obtain⟨O,_⟩:=Z;cases O;exact⟨rfl,P⟩
 |panicked L=>obtain⟨_,v,X,_⟩:=h;cases X
 |outgrown=>exact h.elim
end
variable{x:FuncId}{v:Func}{u:Code}{X H y:Nat}{C:List SV}{n:aa}{t:T}{P:TypeId}{J:Option Addr}{Z:List (List RV)}
section
def S.bare(s:S):S:=⟨[],[],s.ni,s.nb,s.rs,0,0,s.pd⟩
def Tm:XE->S->T:=λe s=>.out e s.bare
section
variable{m:List Nat}{g:World}{D:bB}{V:List Nat}{O:aa}{s:S}{a:Act}{W:World}{o:Ty}{cf:bh}{p:Sp}
def ao.bare(R:ao m g D o V O s a W):ao m g D o [] O s.bare ⟨#[],a.defers⟩ W where
 mem:=⟨R.mem.base,λi h=>by simp[S.bare,aD,bF] at h,λi j h=>by simp[S.bare,aD,bF] at h,λi t P h=>by simp[S.bare,bF] at h,λk e Z X U=>⟨(R.mem.ref k e Z X U).1,λb N i h=>by simp[S.bare,aD,bF] at h⟩⟩
 dX:=rfl
 ei:=R.ei
 eb:=R.eb
 er:=R.er
 bY:=R.bY
 size:=rfl
 tmps:=λt M h=>by simp[S.bare] at h
 bw:=λk e Z b X U Q=>⟨(R.bw k e Z b X U Q).own,(R.bw k e Z b X U Q).mem,λi h=>by simp[S.bare,aD,bF] at h,(R.bw k e Z b X U Q).alone,(R.bw k e Z b X U Q).inner⟩
def atD(M:jE p cf)(E:p.P.funcs[x]?=some v)(r:v.body=some u)(q:v.results.toList=[])(k:p.D=bB.none){s:S}{V:List Nat}
  (j:dJ cf X x u {s with tmps:=C++axW (v.ntmps-C.length) (.bm [])} fT Tm=t)(I:t.aG p n [])(i:dC cf.gl n)(R:ao p.S0 p.w0 bB.none cf.ty V n {s with tmps:=[]} ⟨#[],[]⟩ p.w0)
  (h:∀e a W,p.Q e a W->(e=.normal\/e=.ret)/\p.R (.returned (.tuple #[])) W):
  Calls p.P x (SV.ap n V C).toArray p.w0 p.R:=by
 subst j;refine J3 E r ?_;have RE:=R.enter C v.ntmps R.bY;refine(Oo M X).1 bB.none ⟨{s with tmps:=C++axW (v.ntmps-C.length) (.bm [])},n,V,[]⟩ fT none x u _ _ [] n V _ p.w0 _ (C9 _ _) (jD.here _ _ _ _) rfl (λb=>by cases b) ⟨v,E⟩ I RE i ?_ ?_;intro B U H pd y hA hR;obtain⟨ac,L,q0,G,J⟩:=hA.kh;show LeavesInM Fence.wide 0 p.P v U.tmps p.R U.defers (.panicking B) H;rw[L];exact pZ (by simp) (ayJ.1 G).1 (λd N=>(J d (by simp[N])).1) (J6 (M.NZ B) (λd N=>(J d (by simp[N])).2) hR);intro e s' O' V' U H L' hl hL A I;obtain⟨ac,L,q0,G,J⟩:=A.bY.kh;have z:=A.n8 L;have F:=h _ _ _ (I O'.y [] _ _ (by rw[M.pt,k];exact z.bare));have w:LeavesInM Fence.wide 0 p.P v U.tmps p.R U.defers .returning (H):=by
  rw[L];refine pZ (by simp) (ayJ.1 G).1 (λd N=>(J d (by simp[N])).1) ⟨_,JS (l:=[]) z M.jF (by rw[q];rfl), ?_⟩;exact F.2
 cases e with
 |normal=>exact w
 |ret=>exact w
 |aW Z=>have:=F.1;simp[XE.to] at this
 |exit id=>have:=F.1;simp[XE.to] at this
def atE(R:ao (jB J y).toList g D cf.ty V O s a W)(F:s.rs[X]?=some (.own P))(E:O.rv X=.mk (.slice J H y) Z):
  g.grownBy W (jB J y)/\FQ g W P (ba cf.ty (.sl P)).length (jB J y) Z J y:=by
 obtain⟨u,t,r,U,N,L⟩:=ND R F;rw[E] at U N;simp only[RV.jz] at U N;injection U with U _;injection U with C I B;subst C;subst I;subst B;obtain⟨I,q⟩:=qW N;have Q:=R.mem.base;refine⟨⟨Q.os,Q.tape,Q.output,Q.size,λi z x=>Q.block i z (λM=>x ?_)⟩,⟨by omega,L.nil, ?_⟩⟩;exact((by simpa[Option.mem_toList] using M:jB J y=some i)).symm;rcases L.mem with h|⟨b,w,rfl,G,M,v⟩;exact .inl h;cases y with
 |zero=>exact .inl rfl
 |succ c=>exact .inr ⟨b,w,rfl,G,M,v,UQ N G,.inr rfl⟩
end
end
variable{F:List RV}{U:List (List RV)}
section
section
variable{lt:List RV->List RV->Bool}{p:List RV->Prop}
structure jq(lt:List RV->List RV->Bool)(p:List RV->Prop):Prop where
 Tn:∀x,p x->lt x x=false
 tr:∀x y z,p x->p y->p z->lt x y=true->lt y z=true->lt x z=true
 nt:∀x y z,p x->p y->p z->lt x y=false->lt y z=false->lt x z=false
def jq.asym(h:jq lt p){y:List RV}(Z:p F)(X:p y)(W:lt F y=true):lt y F=false:=by
 cases V:lt y F;rfl;have:=h.tr F y F Z X Z W V;rw[h.Tn F Z] at this;cases this
def aly(h:jq lt p){x y:List RV}(X:p x)(W:p y)(Z:lt y x=true):∀{l:List (List RV)},(∀z∈l,p z)->cU lt y (cU lt x l)=cU lt x (cU lt y l)
 |[],_=>by
  have V:=h.asym W X Z;simp[cU,Z,V]
 |z::r,Q=>by
  have P:=Q z (by simp);have O:=aly h X W Z (l:=r) (λw N=>Q w (by simp[N]));have V:=h.asym W X Z;cases U:lt x z;cases R:lt y z;simp[cU,U,R,O];simp[cU,U,R,V];have R:lt y z=true:=h.tr y x z W X P Z U;simp[cU,U,R,Z,V]
inductive dQ(lt:List RV->List RV->Bool)(l:List (List RV)):List (List RV)->Prop
 |refl:dQ lt l l
 |step {P Q:List (List RV)} {x y:List RV}:lt y x=true->dQ lt l (P++x::y::Q)->dQ lt l (P++y::x::Q)
def dQ.trans{b:List (List RV)}(X:dQ lt Z b)(W:dQ lt b U):dQ lt Z U:=by
 induction W with
 |refl=>exact X
 |step h _ V=>exact .step h V
def dQ.IS(A B:List (List RV))(h:dQ lt Z U):dQ lt (A++Z++B) (A++U++B):=by
 induction h with
 |refl=>exact .refl
 | @step P Q x y h _ X=>
  have W:A++(P++x::y::Q)++B=(A++P)++x::y::(Q++B):=by simp
  have V:A++(P++y::x::Q)++B=(A++P)++y::x::(Q++B):=by simp
  rw[W] at X;rw[V];exact .step h X
def dQ.perm(h:dQ lt Z U):U.Perm Z:=by
 induction h with
 |refl=>exact aAv _
 |step _ _ X=>exact((aBt _ _ _).append_left _).trans X
def dQ.alz(P:List (List RV))(b:List RV):∀(A Q:List (List RV)),(∀a∈A,lt b a=true)->dQ lt (P++A.reverse++b::Q) (P++b::(A.reverse++Q))
 |[],Q,_=>by simpa using dQ.refl
 |a::A,Q,h=>by
  have Z:dQ lt (P++(a::A).reverse++b::Q) ((P++A.reverse)++b::a::Q):=by
   have:P++(a::A).reverse++b::Q=(P++A.reverse)++a::b::Q:=by simp
   rw[this];exact .step (h a (by simp)) .refl
  have X:=dQ.alz P b A (a::Q) (λx W=>h x (by simp[W]));have e:P++b::((a::A).reverse++Q)=P++b::(A.reverse++a::Q):=by simp
  rw[e];exact Z.trans X
def dQ.one(P Q:List (List RV))(b:List RV)(A:List (List RV))(h:∀a∈A,lt b a=true):dQ lt (P++A++b::Q) (P++b::(A++Q)):=by
 have:=dQ.alz (lt:=lt) P b A.reverse Q (λa Z=>h a (by simpa using Z));simpa using this
def dQ.block(Q:List (List RV))(A:List (List RV)):∀(B P:List (List RV)),(∀a∈A,∀b∈B,lt b a=true)->dQ lt (P++A++(B++Q)) (P++B++(A++Q))
 |[],P,_=>by simpa using dQ.refl
 |b::B,P,h=>by
  have X:=dQ.one P (B++Q) b A (λa Z=>h a Z b (by simp));have W:=dQ.block Q A B (P++[b]) (λa Z V U=>h a Z V (by simp[U]));have R:P++b::(A++(B++Q))=P++[b]++A++(B++Q):=by simp
  have O:P++b::B++(A++Q)=P++[b]++B++(A++Q):=by simp
  rw[R] at X;rw[O];exact X.trans W
def t7(lt:List RV->List RV->Bool)(acc l:List (List RV)):List (List RV):=l.foldl (λacc x=>cU lt x acc) acc
def atF{acc:List (List RV)}(V:∀z∈acc,p z)(U:∀z∈Z,p z):∀z∈t7 lt acc Z,p z:=by
 induction Z generalizing acc with
 |nil=>exact V
 |cons x Z X=>
  refine X (acc:=cU lt x acc) (λz W=> ?_) (λz W=>U z (by simp[W]));have cZ:∀{Z:List (List RV)},z∈cU lt x Z->z=x\/z∈Z:=by
   intro Z;induction Z with
   |nil=>intro h;simpa[cU] using h
   |cons y r X=>
    intro h;simp only[cU] at h;split at h;simpa using h;rcases axT.1 h with h|h;exact .inr (by simp[h]);rcases X h with h|h;exact .inl h;exact .inr (by simp[h])
  rcases cZ W with rfl|h;exact U _ (by simp);exact V z h
def dQ.fold(h:jq lt p)(X:dQ lt Z U){acc:List (List RV)}(O:∀z∈Z,p z)(N:∀z∈acc,p z):t7 lt acc U=t7 lt acc Z:=by
 induction X with
 |refl=>rfl
 | @step P Q x y M X L=>
  rw[<-L];have W:=λz(V:z∈P++x::y::Q)=>O z (X.perm.mem_iff.1 V)
  have R:∀z∈t7 lt acc P,p z:=atF N λz V=>W z (by simp[V])
  simp only[t7,List.foldl_append,ay8] at R⊢;rw[aly h (W x (by simp)) (W y (by simp)) M R]
def ew(lt:List RV->List RV->Bool)(l:List (List RV)):Prop:=l.Pairwise λa b=>lt b a=false
def alA{x:List RV}:∀{l:List (List RV)},(∀y∈l,lt x y=false)->cU lt x l=l++[x]
 |[],_=>rfl
 |y::r,h=>by
  have Z:=h y (by simp);simp[cU,Z,alA (l:=r) λz X=>h z (by simp[X])]
def atG:∀{acc:List (List RV)},ew lt (acc++Z)->t7 lt acc Z=acc++Z:=by
 induction Z with
 |nil=>intro acc _;simp[t7]
 |cons x Z X=>
  intro acc h;have W:∀y∈acc,lt x y=false:=λy V=>(ayc.1 h).2.2 y V x (by simp)
  have e:acc++x::Z=(acc++[x])++Z:=by simp
  rw[e] at h⊢;rw[<-X h];simp only[t7,ay8];rw[alA W]
def To(h:ew lt Z):aU lt Z=Z:=atG (acc:=[]) h
def Mq{x z:List RV}:∀{l:List (List RV)},z∈cU lt x l->z=x\/z∈l
 |[],h=>by simpa[cU] using h
 |y::r,h=>by
  simp only[cU] at h;split at h;simpa using h;rcases axT.1 h with h|h;exact .inr (by simp[h]);rcases Mq h with h|h;exact .inl h;exact .inr (by simp[h])
def ew.ins(h:jq lt p){x:List RV}(X:p x):∀{l:List (List RV)},(∀z∈l,p z)->ew lt l->ew lt (cU lt x l)
 |[],_,_=>aAM _ _
 |y::r,W,U=>by
  have R:=W y (by simp);have V:=ax5.1 U;simp only[cU];cases Q:lt x y;refine ax5.2 ⟨λz Z=> ?_,ew.ins h X (λz Z=>W z (by simp[Z])) V.2⟩;rcases Mq Z with rfl|Z;exact Q;exact V.1 z Z;refine ax5.2 ⟨λz Z=> ?_,U⟩;have P:=h.asym X R Q;rcases axT.1 Z with rfl|Z;exact P;exact h.nt z y x (W z (by simp[Z])) R X (V.1 z Z) P
def ew.fold(h:jq lt p):∀{acc:List (List RV)},(∀z∈acc,p z)->(∀z∈Z,p z)->ew lt acc->ew lt (t7 lt acc Z):=by
 induction Z with
 |nil=>intro acc _ _ h;exact h
 |cons x Z U=>
  intro acc V W R;refine U (acc:=cU lt x acc) (λz X=> ?_) (λz X=>W z (by simp[X])) (R.ins h (W x (by simp)) V);rcases Mq X with rfl|X;exact W _ (by simp);exact V z X
def EN(h:jq lt p)(X:∀z∈Z,p z):ew lt (aU lt Z):=ew.fold h (acc:=[]) (by simp) X ayv
def dQ.ins(h:jq lt p){x:List RV}(W:p x):∀{l:List (List RV)},(∀z∈l,p z)->ew lt l->dQ lt (l++[x]) (cU lt x l)
 |[],_,_=>.refl
 |y::r,X,R=>by
  have Q:=X y (by simp);have V:=ax5.1 R;simp only[cU];cases U:lt x y;have:=(dQ.ins h W (l:=r) (λz Z=>X z (by simp[Z])) V.2).IS [y] [];simpa using this;have:=dQ.one (lt:=lt) [] [] x (y::r) (λz Z=>by
   rcases axT.1 Z with rfl|Z;exact U;cases P:lt x z;have:=h.nt x z y W (X z (by simp[Z])) Q P (V.1 z Z);rw[U] at this;cases this;rfl)
  simpa using this
def dQ.atH(h:jq lt p):∀{acc:List (List RV)},(∀z∈acc,p z)->(∀z∈Z,p z)->ew lt acc->dQ lt (acc++Z) (t7 lt acc Z):=by
 induction Z with
 |nil=>intro acc _ _ _;simpa[t7] using dQ.refl
 |cons x Z R=>
  intro acc V W U;have Q:=(dQ.ins h (W x (by simp)) V U).IS [] Z;have P:=R (acc:=cU lt x acc) (λz X=>by
   rcases Mq X with rfl|X;exact W _ (by simp);exact V z X) (λz X=>W z (by simp[X])) (U.ins h (W x (by simp)) V)
  have e:acc++x::Z=[]++(acc++[x])++Z:=by simp
  rw[e];refine Q.trans ?_;rw[ax2];exact P
def dQ.Tp(h:jq lt p)(X:∀z∈Z,p z):dQ lt Z (aU lt Z):=by
 exact dQ.atH h (acc:=[]) (by simp) X ayv
def abl(h:jq lt p)(X:∀z∈Z,p z)(W:dQ lt Z U)(V:ew lt U):aU lt Z=U:=by
 rw[<-To V];exact(W.fold h (acc:=[]) X (by simp)).symm
def EO{z:List RV}(h:z∈aU lt Z):z∈Z:=by
 have:∀(Z acc:List (List RV)),z∈t7 lt acc Z->z∈acc\/z∈Z:=by
  intro Z;induction Z with
  |nil=>intro acc h;exact .inl h
  |cons x Z X=>
   intro acc h;rcases X (cU lt x acc) h with h|h;rcases Mq h with rfl|h;exact .inr (by simp);exact .inl h;exact .inr (by simp[h])
 rcases this Z [] h with h|h;cases h;exact h
def atI(h:jq lt p)(V:∀z∈F::(Z++U),p z)(P:ew lt (Z++U))(Q:∀y∈Z,lt y F=true)(O:∀y∈U,lt y F=false):aU lt (F::(Z++U))=Z++F::U:=by
 refine abl h V ?_ ?_;have:=dQ.block (lt:=lt) U [F] Z [] (λa X b W=>by simp at X;subst X;exact Q b W);simpa using this;have R:=ayc.1 P;refine ayc.2 ⟨R.1,ax5.2 ⟨O,R.2.1⟩,λa X b W=> ?_⟩;rcases axT.1 W with rfl|W;exact h.asym (V a (by simp[X])) (V b (by simp)) (Q a X);exact R.2.2 a X b W
def atJ(h:jq lt p)(W:∀z∈Z++U++[F],p z)(P:ew lt (Z++U))(O:∀x∈Z,lt F x=false)(R:∀x∈U,lt F x=true):aU lt (Z++U++[F])=Z++F::U:=by
 refine abl h W ?_ ?_;have:=dQ.one (lt:=lt) Z [] F U R;simpa using this;have V:=ayc.1 P;refine ayc.2 ⟨V.1,ax5.2 ⟨λb X=>h.asym (W F (by simp)) (W b (by simp[X])) (R b X),V.2.1⟩,λa Q b X=> ?_⟩;rcases axT.1 X with rfl|X;exact O a Q;exact V.2.2 a Q b X
def atK(h:jq lt p){V R:List (List RV)}(Q:∀z∈Z++U++(V++R),p z)(I:ew lt (Z++U))(H:ew lt (V++R))(G:∀x∈Z,∀y∈R,lt y x=false)(M:∀x∈U,∀y∈V,lt y x=true):
  aU lt (Z++U++(V++R))=aU lt (Z++V)++aU lt (U++R):=by
 have F:=ayc.1 I;have E:=ayc.1 H;have P:∀z∈Z++V,p z:=λz O=>Q z (by rcases axS.1 O with h|h<;>simp[h])
 have N:∀z∈U++R,p z:=λz O=>Q z (by rcases axS.1 O with h|h<;>simp[h])
 refine abl h Q ?_ ?_;have D:=dQ.block (lt:=lt) R U V Z M;have L:=(dQ.Tp h P).IS [] (U++R);have J:=(dQ.Tp h N).IS (aU lt (Z++V)) [];simp only[ax2,azf] at L J;exact(D.trans L).trans J;refine ayc.2 ⟨EN h P,EN h N,λa W b X=> ?_⟩;have W:=EO W;have X:=EO X;have C:=P a W;have B:=N b X;rcases axS.1 W with W|W;rcases axS.1 X with X|X;exact F.2.2 a W b X;exact G a W b X;rcases axS.1 X with X|X;exact h.asym C B (M b X a W);exact E.2.2 a W b X
def alB(h:jq lt p)(X:∀z∈Z,p z)(W:∀z∈U,p z):aU lt (aU lt Z++aU lt U)=aU lt (Z++U):=by
 have V:=(dQ.Tp h X).IS [] U;have R:=(dQ.Tp h W).IS (aU lt Z) [];simp only[ax2,azf] at V R;exact(V.trans R).fold h (acc:=[]) (λz Q=>by exact(axS.1 Q).elim (X z) (W z)) (by simp)
end
end
variable{k:Nat}
section
section
def alC(d:Bool):∀(U:List Nat)(x y z:List RV),fJ d U x y=false->fJ d U y z=false->fJ d U x z=false
 |[],_,_,_,_,_=>rfl
 |c::U,x,y,z,W,Z=>by
  simp only[fJ] at W Z⊢;by_cases V:aP c x=aP c y;rw[if_pos V] at W;by_cases X:aP c y=aP c z;rw[if_pos X] at Z;rw[if_pos (V.trans X)];exact alC d U x y z W Z;rw[if_neg X] at Z;rw[if_neg (by rw[V];exact X),V];exact Z;rw[if_neg V] at W;by_cases X:aP c y=aP c z;rw[if_neg (by rw[<-X];exact V),<-X];exact W;rw[if_neg X] at Z;cases d;simp only[ax3,if_false,decide_eq_false_iff_not] at W Z⊢;rw[if_neg (by omega)];simp only[decide_eq_false_iff_not];omega;simp only[if_true,decide_eq_false_iff_not] at W Z⊢;rw[if_neg (by omega)];simp only[decide_eq_false_iff_not];omega
def alD(d:Bool):∀(Z:List Nat)(x:List RV),fJ d Z x x=false
 |[],_=>rfl
 |c::Z,x=>by simp[fJ,alD d Z x]
def alE(d:Bool):∀(U:List Nat)(x y z:List RV),fJ d U x y=true->fJ d U y z=true->fJ d U x z=true
 |[],_,_,_,h,_=>by simp[fJ] at h
 |c::U,x,y,z,W,Z=>by
  simp only[fJ] at W Z⊢;by_cases V:aP c x=aP c y;rw[if_pos V] at W;by_cases X:aP c y=aP c z;rw[if_pos X] at Z;rw[if_pos (V.trans X)];exact alE d U x y z W Z;rw[if_neg X] at Z;rw[if_neg (by rw[V];exact X),V];exact Z;rw[if_neg V] at W;by_cases X:aP c y=aP c z;rw[if_neg (by rw[<-X];exact V),<-X];exact W;rw[if_neg X] at Z;cases d;simp only[ax3,if_false,decide_eq_true_eq] at W Z⊢;rw[if_neg (by omega)];simp only[decide_eq_true_eq];omega;simp only[if_true,decide_eq_true_eq] at W Z⊢;rw[if_neg (by omega)];simp only[decide_eq_true_eq];omega
def Tq(Z:List Nat)(d:Bool):jq (aI.lex Z d).lt (λx=>(aI.lex Z d).ok x=true):=
 ⟨λx _=>alD d Z x,λx y z _ _ _=>alE d Z x y z,λx y z _ _ _=>alC d Z x y z⟩
def IT{d:Int}(h:gX q d=true):0<d:=by
 simp only[gX,axI,decide_eq_true_eq] at h;omega
def abm(n d:Nat):jq (aI.ratio n d).lt (λx=>(aI.ratio n d).ok x=true):=by
 refine⟨λx _=> ?_,λx y z W V U Z X=> ?_,λx y z W V U Z X=> ?_⟩;simp[aI.lt];have R:=IT W;have P:=IT V;have Q:=IT U;simp only[aI.lt,decide_eq_true_eq] at Z X⊢;have O:=aAy Z Q;have N:=aAy X R;refine Int.lt_of_mul_lt_mul_left (a:=aP d y) ?_ (by omega);have M:aP n x*aP d y*aP d z=aP d y*(aP n x*aP d z):=by ac_rfl
 have L:aP n y*aP d x*aP d z=aP n y*aP d z*aP d x:=by ac_rfl
 have J:aP n z*aP d y*aP d x=aP d y*(aP n z*aP d x):=by ac_rfl
 omega;have R:=IT W;have P:=IT V;have Q:=IT U;simp only[aI.lt,decide_eq_false_iff_not,Int.not_lt] at Z X⊢;have O:=ayM Z (show 0<=aP d z by omega);have N:=ayM X (show 0<=aP d x by omega);refine Int.le_of_mul_le_mul_left (a:=aP d y) ?_ (by omega);have M:aP n x*aP d y*aP d z=aP d y*(aP n x*aP d z):=by ac_rfl
 have L:aP n y*aP d x*aP d z=aP n y*aP d z*aP d x:=by ac_rfl
 have J:aP n z*aP d y*aP d x=aP d y*(aP n z*aP d x):=by ac_rfl
 omega
end
section
variable{lt:List RV->List RV->Bool}{p:List RV->Prop}
def mi(Z:List (List RV))(W:X<=H)(V:H<=y):aJ Z X y=aJ Z X H++aJ Z H y:=by
 simp only[aJ];have e:y-X=(H-X)+(y-H):=by omega
 rw[e,List.take_add,azA,show X+(H-X)=H by omega]
def IU(Z:List (List RV))(W:X<=H):Z.take X++(aJ Z X H++Z.drop H)=Z:=by
 simp only[aJ];have e:Z.drop H=(Z.drop X).drop (H-X):=by rw[azA];congr 1;omega
 rw[e,ay3,ay3]
def Mr(Z:List (List RV)){a b i:Nat}(h:i<b-a):(aJ Z a b)[i]?=Z[a+i]?:=by
 simp only[aJ,ayi,h,if_true,ayq]
def nQ(Z:List (List RV))(h:H<=Z.length):(aJ Z X H).length=H-X:=by simp[aJ];omega
def Cj(h:F∈aJ Z X H):∃i,X<=i/\i<H/\i<Z.length/\Z.getD i []=F:=by
 obtain⟨i,W⟩:=ayx h;have V:=(axJ.1 W).1;simp only[aJ,azj,ay9] at V;rw[Mr Z (by omega)] at W;exact⟨X+i,by omega,by omega,by omega,by simp[axN,W]⟩
def IW(W:H<=Z.length)(h:ew lt (aJ Z X H)){i j:Nat}(U:X<=i)(Q:i<j)(R:j<H):lt (Z.getD j []) (Z.getD i [])=false:=by
 have:=azn.1 h (i-X) (j-X) (by rw[nQ Z W];omega) (by rw[nQ Z W];omega) (by omega);have e:∀k(V:k-X<(aJ Z X H).length),X<=k->k<H->(aJ Z X H)[k-X]=Z.getD k []:=λk V P O=>by
  have q:=Mr Z (a:=X) (b:=H) (i:=k-X) (by omega);rw[axK V,show X+(k-X)=k by omega] at q;simp[axN,<-q]
 rw[e i _ U (by omega),e j _ (by omega) R] at this;exact this
def alF:sG lt Z=true<->ew lt Z:=by
 induction Z with
 |nil=>exact⟨λ_=>ayv,λ_=>rfl⟩
 |cons x r X=>
  simp only[sG,axI,X,axU,ax0,ew,ax5]
def atL(h:jq lt p)(M:∀z∈Z,p z){b:Nat}(L:X<=H)(J:H<=y)(I:y<=k)(G:k<=b)(B:b<=Z.length)(F:ew lt (aJ Z X y))(E:ew lt (aJ Z y b))
  (D:∀i j,X<=i->i<H->k<=j->j<b->lt (Z.getD j []) (Z.getD i [])=false)(C:∀i j,H<=i->i<y->y<=j->j<k->lt (Z.getD j []) (Z.getD i [])=true):
  aU lt (aJ Z X b)=aU lt (aJ Z X H++aJ Z y k)++aU lt (aJ Z H y++aJ Z k b):=by
 rw[mi Z (show X<=y by omega) (show y<=b by omega),mi Z L J,mi Z I G] at*;refine atK h (λz V=>M z ?_) F E (λx U W R=> ?_) (λx U W R=> ?_);simp only[axS] at V;rcases V with(V|V)|(V|V)<;>exact pX V;obtain⟨i,Q,P,_,rfl⟩:=Cj U;obtain⟨j,O,N,_,rfl⟩:=Cj R;exact D i j Q P O N;obtain⟨i,Q,P,_,rfl⟩:=Cj U;obtain⟨j,O,N,_,rfl⟩:=Cj R;exact C i j Q P O N
end
end
variable{I:aI}{M:List Int}{w:List Bool}{R:World}
def ga:List Bool->List RV->Prop
 |[],x=>x=[]
 |b::Z,c::r=>(if b then∃n,c=.mk (.int .i64 n) [] else∃q,c=.mk (.bool q) [])/\ga Z r
 |_::_,[]=>False
def z8(b:Bool):CT:=if b then .int .i64 else .bool
def qI(c:RV):RV:=.mk c.val []
def dj(Z:List (List RV)):List (List RV):=Z.map λX=>X.map qI
def abn(c:Nat)(x:List RV):aP c (x.map qI)=aP c x:=by
 simp only[aP,axN,axO];cases x[c]?<;>rfl
def alG(d:Bool)(x y:List RV):∀Z,fJ d Z (x.map qI) (y.map qI)=fJ d Z x y
 |[]=>rfl
 |c::Z=>by simp only[fJ,abn,alG d x y Z]
def abo(o:aI)(x y:List RV):o.lt (x.map qI) (y.map qI)=o.lt x y:=by
 cases o with
 |lex Z d=>exact alG d x y Z
 |ratio n d=>simp only[aI.lt,abn]
 |cz k o X=>rfl
def atM(o:aI)(x:List RV):o.ok (x.map qI)=o.ok x:=by
 cases o with
 |lex Z d=>rfl
 |ratio n d=>simp only[aI.ok,abn]
 |cz k o X=>rfl
def alH(o:aI)(x:List RV):∀l,cU o.lt (x.map qI) (dj l)=dj (cU o.lt x l)
 |[]=>rfl
 |y::r=>by
  have Z:=alH o x r;simp only[dj,axV,cU,abo] at Z⊢;split;rfl;rw[Z];rfl
def alI(o:aI)(l:List (List RV)):aU o.lt (dj l)=dj (aU o.lt l):=by
 have:∀l acc,(dj l).foldl (λacc x=>cU o.lt x acc) (dj acc)=dj (l.foldl (λacc x=>cU o.lt x acc) acc):=by
  intro l;induction l with
  |nil=>intro acc;rfl
  |cons x l Z=>
   intro acc;have:=Z (cU o.lt x acc);rw[<-alH] at this;exact this
 exact this l []
def alJ(o:aI)(l:List (List RV)):(dj l).all o.ok=l.all o.ok:=by
 simp only[dj,azU];congr 1;funext x;exact atM o x
def atN(l:List (List RV))(a b:Nat):aJ (dj l) a b=dj (aJ l a b):=by simp[aJ,dj]
def alK(o:aI):∀l,sG o.lt (dj l)=sG o.lt l
 |[]=>rfl
 |x::r=>by
  have Z:=alK o r;simp only[dj,axV,sG,azU] at Z⊢;rw[Z];congr 2;funext y;simp only[Function.comp,abo]
def atO(l:List (List RV))(a:Nat):(dj l).take a=dj (l.take a):=by simp[dj]
def atP(l:List (List RV))(a:Nat):(dj l).drop a=dj (l.drop a):=by simp[dj]
def atQ(l m:List (List RV)):dj (l++m)=dj l++dj m:=by simp[dj]
def vO(l:List (List RV)):(dj l).length=l.length:=by simp[dj]
def atS(h:jX X I M Z=some U):jX X I M (dj Z)=some (dj U):=by
 unfold jX at h⊢;split at h
 all_goals first|(split at h<;>first|(cases h;done)|skip)|skip
 all_goals first|(cases h;done)|skip
 all_goals
  rename_i W;cases h;simp only[vO,alJ,atN,alK,atO,atP,alI,<-atQ];rw[if_pos W]
def atT(h:lN X I M Z=some U):lN X I M (dj Z)=some (dj U):=by
 obtain⟨W,V⟩:=wu h;unfold lN;rw[vO,if_pos W];exact atS V
def alL(l:List (List RV)):cM (dj l)=cM l:=by
 simp only[cM,dj,List.flatMap_map];congr 1;funext x;simp only[ayw];rfl
def alM:∀(K:List Bool)(Z:List RV),Z.length=K.length->(∀(j:Nat)(c:RV)(k:IntKind),Z[j]?=some c->(K.map z8)[j]?=some (.int k)->∃n,c.val=.int k n)->(∀(j:Nat)(c:RV),Z[j]?=some c->(K.map z8)[j]?=some .bool->∃x,c.val=.bool x)->ga K (Z.map qI)
 |[],[],_,_,_=>rfl
 |[],_::_,h,_,_=>by simp at h
 |_::_,[],h,_,_=>by simp at h
 |b::Q,c::r,P,U,R=>by
  refine⟨?_,alM Q r (by simpa using P) (λj c k X W=>U (j+1) c k (by simpa using X) (by simpa using W)) (λj c X W=>R (j+1) c (by simpa using X) (by simpa using W))⟩;cases b with
  |true=>
   obtain⟨n,V⟩:=U 0 c .i64 rfl rfl;exact⟨n,by simp[qI,V]⟩
  |false=>
   obtain⟨n,V⟩:=R 0 c rfl rfl;exact⟨n,by simp[qI,V]⟩
def alN{N:Ty}(V:ba N (.sl P)=w.map z8)(h:dF R N P Z):∀x∈dj Z,ga w x:=by
 intro x M;obtain⟨X,L,rfl⟩:=aya.1 M;obtain⟨i,U⟩:=ayx L;refine alM w X ?_ (λj c k Q O=>h.int i j X c k U Q (by rw[V];exact O)) (λj c Q O=>h.bool i j X c U Q (by rw[V];exact O));have:=h.len i X U;rw[V,ayA] at this;exact this
def alO{D:Ty}(x:∀(j:Nat)(z:Value)(k:RK),(ba D (.sl P))[j]?≠some (.aq z k))(h:aX R D (.sl P) (.mk (.slice J X H) Z)):aX R D (.sl P) (.mk (.slice J X H) (dj Z)):=by
 have C:∀{i:Nat}{Q:List RV},(dj Z)[i]?=some Q->∃V,Z[i]?=some V/\Q=V.map qI:=by
  intro i Q E;simp only[dj,axO,azi] at E;obtain⟨V,M,L⟩:=E;exact⟨V,M,L.symm⟩
 have B:∀{V:List RV}{j:Nat}{c:RV},(V.map qI)[j]?=some c->∃U,V[j]?=some U/\c=qI U:=by
  intro V j c y;simp only[axO,azi] at y;obtain⟨U,M,L⟩:=y;exact⟨U,M,L.symm⟩
 cases h with
 |sl P J p H Z M L w E v o=>
  refine aX.sl P J X H (dj Z) (by rw[vO];exact M) L (λi Q O=> ?_) (λi j Q c k O N I=> ?_) (λi j Q c O N I=> ?_) (λi j Q c z k O N I=>(x j z k I).elim);obtain⟨V,G,rfl⟩:=C O;obtain⟨u,b,t,s,r,q⟩:=w i V G;refine⟨by simpa using u,b,t,s,r,λj c N=> ?_⟩;obtain⟨U,F,rfl⟩:=B N;exact q j U F;obtain⟨V,G,rfl⟩:=C O;obtain⟨U,F,rfl⟩:=B N;exact E i j V U k G F I;obtain⟨V,G,rfl⟩:=C O;obtain⟨U,F,rfl⟩:=B N;exact v i j V U G F I
def Tgt(p:Sp)(e:TypeId)(v:Value)(aA:List (List RV)):Prop:=∀(Z:Exit)(s:S)(O:aa)(V:List Nat)(a:Act)(W:World)(k:Nat),(Z=.normal\/Z=.ret)->ao p.S0 p.w0 p.D p.ty V O s a W->s.rs[k]?=some (.own e)->O.rv k=.mk v aA->p.Q Z a W
def EP(P:Program)(K:List Bool)(g:FuncId)(o:aI):Prop:=∀(W:World)(x y:List RV),ga K x->ga K y->o.ok x=true->o.ok y=true->
 Calls P g #[.agg (x.map RV.val).toArray,.agg (y.map RV.val).toArray] W λZ X=>Below W.heap.size W X/\∃c:Int,Z=.returned (.int .i64 c)/\(c<0<->o.lt x y=true)
def ari(K:List Bool)(e g:Nat)(o:aI)(F:List Int->List (List RV)->Option (List (List RV)))(N:Nat)(t:T):Prop:=∀(p:Sp)(v:Value)(Z aA:List (List RV))(X:List Int),p.P=Tryz.prog->EP Tryz.prog K g o->(∃A n W,v=.slice A n W/\Z.length=n/\n<=1099511627776)->(∀x∈Z,ga K x)->X.length=N->F X Z=some aA->Tgt p e v aA->t.aG p ⟨X,[],[.mk v Z],[]⟩ []
abbrev Ms(K:List Bool)(e g:Nat)(o:aI)(k N:Nat)(t:T):Prop:=ari K e g o (lN k o) N t
def abp{N n:Nat}{o:aI}{F:List Int->List (List RV)->Option (List (List RV))}{K:List Bool}{t:T}{args:List SV}{inl:List Nat}{loops:List (Nat×Nat×dA)}{srts:List (FuncId×FuncId×TypeId×aI×Bool)}{chs:List (Nat×Nat)}
  (hf:Tryz.prog.funcs[x]?=some v)(B:v.body=some u)(h0:v.results.toList=[])(hi:inl.all (aay Tryz.prog)=true)(al:se srts)(hK:ba (look TT) (.sl H)=K.map z8)(an:EP Tryz.prog K X o)
  (ht:dJ (mA Tryz.prog TT SG [] inl loops srts false chs) n x u ⟨args++axW (v.ntmps-args.length) (.bm []),[],N,0,[.own H],0,0,[]⟩ fT Tm=t)(hh:ari K H X o F N t)
  (a0:∀(L:List Int)(D:RV),L.length=N->SV.ap ⟨L,[],[D],[]⟩ [] args=D.val::(L.map (Value.int .i64)++[.func (.func X) #[] #[]]))
  (j8:∀(L:List Int)(Z U:List (List RV)),F L Z=some U->F L (dj Z)=some (dj U))
  (ac:∀(L:List Int)(Z U:List (List RV)),F L Z=some U->L.length=N/\Z.length<=1099511627776)(hH:aX R (look TT) (.sl H) (.mk (.slice J y k) Z))(hR:JI R H (ba (look TT) (.sl H)).length J k)(hT:F M Z=some U):
  Calls Tryz.prog x (JP (.slice J y k) M X) R λr O=>r=.returned (.tuple #[])/\R.grownBy O (jB J k)/\FQ R O H (ba (look TT) (.sl H)).length (jB J k) U J k:=by
 have m:=(ac _ _ _ hT).1;have hp:∀(j:Nat)(z:Value)(q:RK),(ba (look TT) (.sl H))[j]?≠some (.aq z q):=by
  intro j z q G;rw[hK,axO] at G;cases B:K[j]? with
  |none=>rw[B] at G;cases G
  |some b=>rw[B] at G;cases b<;>simp[z8] at G
 have af:=alO hp hH;have ag:=j8 _ _ _ hT;obtain⟨a1,a2⟩:=qW af;let O0:aa:=⟨M,[],[.mk (.slice J y k) (dj Z)],[]⟩;let Q:Ending->World->Prop:=λr O=>r=.returned (.tuple #[])/\R.grownBy O (jB J k)/\FQ R O H (ba (look TT) (.sl H)).length (jB J k) U J k
 let p:Sp:=⟨Tryz.prog,look TT,(jB J k).toList,R,bB.none,Q,λw a O=>(w=.normal\/w=.ret)/\Q (.returned (.tuple #[])) O⟩;have ok:jE p (mA Tryz.prog TT SG [] inl loops srts false chs):=Oq IQ Td hi Te (λch O b ob _ h=>by have:=h.1;cases this) al;have a3:(SV.ap O0 [] args).toArray=JP (.slice J y k) M X:=by rw[a0 M _ m];rfl
 rw[<-a3];have a4:∀b,(RV.mk (.slice J y k) (dj Z)).iN=some b->jB J k=some b:=λb h=>by rw[JH] at h;exact h
 have a5:ao p.S0 p.w0 bB.none (look TT) [] O0 {(⟨[],[],N,0,[.own H],0,0,[]⟩:S) with tmps:=[]} ⟨#[],[]⟩ p.w0:=by
  refine⟨⟨dM.refl _ _,λi h=>by simp[aD,bF] at h,λi j h=>by simp[aD,bF] at h,λi t cs h=>by simp[bF] at h,λq e' D I E=> ?_⟩,rfl,m,rfl,rfl,OA _ _,rfl,λt sv h=>by simp at h,λq e' D b I E h3=> ?_⟩;cases q with
  |succ q=>simp at I
  |zero=>
   simp only[ayB,axM] at I;have E:D=.mk (.slice J y k) (dj Z):=(aym E).symm;subst I;subst E;refine⟨aX.own H _ af λl u d=> ?_,λb _ i h=>by simp[aD,bF] at h⟩;simp only[RV.kf,Value.slice.injEq] at d;rw[<-d.2.2];exact hR.nil d.1
  cases q with
  |succ q=>simp at I
  |zero=>
   simp only[ayB,axM] at I;have E:D=.mk (.slice J y k) (dj Z):=(aym E).symm;injection I with I;subst I;subst E;have C:=a4 b h3;refine⟨.inr (by show b∈(jB J k).toList;rw[C];simp), ?_,λi h=>by simp[aD,bF] at h,λk' e' bf hk h=> ?_, ?_⟩;rcases hR.mem with G|⟨b',a6,rfl,hg,hm,a7⟩
   ·subst G;unfold jB at C;split at C<;>first|(cases C;done)|omega|skip
    all_goals simp_all
   have a8:b'=b:=by
    cases k with
    |zero=>cases C
    |succ u=>exact aym C
   subst a8;exact⟨y,k,a6,rfl,hg,a2,hm,a7⟩;cases k' with
   |zero=>exact absurd rfl hk
   |succ k'=>simp at h
   rintro⟨i,j,bk,u,z,q,_,_,hq,_⟩;exact hp j z q hq
 have a9:y<=1099511627776:=by
  have:=(ac _ _ _ ag).2;omega
 have bb:=hh p (.slice J y k) (dj Z) (dj U) M rfl an ⟨J,y,k,rfl,a1,a9⟩ (alN hK (dF.ux hH)) m ag (λw s O1 V a O k' bd RR hk hr=>by
  refine⟨bd,rfl, ?_⟩;obtain⟨g1,g2⟩:=atE (cf:=mA Tryz.prog TT SG [] inl loops srts false chs) RR hk hr;exact⟨g1,⟨by have:=g2.le;rwa [vO] at this,g2.nil,by have:=g2.mem;rwa [alL,vO] at this⟩⟩)
 exact atD ok hf B h0 rfl ht bb (λP hx=>by simp[mA] at hx) a5 (λw a O h=>h)
def atU{R:aI}{F:List Int->List (List RV)->Option (List (List RV))}{Q:Bool}{loops:List (Nat×Nat×dA)}{P:List (FuncId×FuncId×TypeId×aI×Bool)}{L:List (Nat×Nat)}
  (J:Tryz.prog.funcs[x]?=some v)(G:v.body=some u)(E:v.results.toList=[])(D:aay Tryz.prog x=true)(B:se P)(z:ba (look TT) (.sl H)=w.map z8)(s:EP Tryz.prog w X I)
  (r:dJ (mA Tryz.prog TT SG [] [] loops P false L) k x u ⟨C++axW (v.ntmps-C.length) (.bm []),[],y,0,[.own H],0,0,[]⟩ fT Tm=t)(q:ari w H X I F y t)
  (p:∀(Z:List Int)(M:RV),Z.length=y->SV.ap ⟨Z,[],[M],[]⟩ [] C=M.val::(Z.map (Value.int .i64)++[.func (.func X) #[] #[]]))
  (m:∀(Z:List IE)(U:aI)(O:aa)(V aA:List (List RV)),R.fill Z=some U->kX O U Q V=some aA->F (Z.map (IE.den O)) V=some aA)(j8:∀(Z:List Int)(V aA:List (List RV)),F Z V=some aA->F Z (dj V)=some (dj aA))
  (l:∀(Z:List Int)(V aA:List (List RV)),F Z V=some aA->Z.length=y/\V.length<=1099511627776):lQ Tryz.prog (look TT) x X H R Q:=
 ⟨uG D,λW A b a V aA O Z U j i h d=>abp (inl:=[]) J G E rfl B z s r q p j8 l i h (m Z U O V aA j d)⟩
def EQ(W:X≠2)(h:jX X I M Z=some U):M.length=3:=by
 unfold jX at h;split at h
 all_goals first|rfl|(exact absurd rfl W)|cases h
def alQ(h:jX 2 I M Z=some U):M.length=2:=by
 unfold jX at h;split at h
 all_goals first|rfl|cases h|(rename_i X;cases X)
def Ck{n:Nat}{R:Bool}{K:List Bool}{t:T}{args:List SV}{loops:List (Nat×Nat×dA)}{srts:List (FuncId×FuncId×TypeId×aI×Bool)}{chs:List (Nat×Nat)}
  (Q:Tryz.prog.funcs[x]?=some v)(P:v.body=some u)(M:v.results.toList=[])(L:aay Tryz.prog x=true)(J:se srts)(G:ba (look TT) (.sl H)=K.map z8)(E:EP Tryz.prog K X I)
  (D:dJ (mA Tryz.prog TT SG [] [] loops srts false chs) n x u ⟨args++axW (v.ntmps-args.length) (.bm []),[],k,0,[.own H],0,0,[]⟩ fT Tm=t)(C:Ms K H X I y k t)
  (B:∀(Z:List Int)(V:RV),Z.length=k->SV.ap ⟨Z,[],[V],[]⟩ [] args=V.val::(Z.map (Value.int .i64)++[.func (.func X) #[] #[]]))
  (A:∀(Z:List Int)(W aA:List (List RV)),jX y I Z W=some aA->Z.length=k):lQ Tryz.prog (look TT) x X H (.cz y I []) R:=
 atU (F:=lN y I) Q P M L J G E D C B (λZ w O W aA U z=>by
  simp only[aI.fill,axM] at U;subst U;exact z) (λZ W aA h=>atT h) (λZ W aA h=>⟨A Z W aA (wu h).2,(wu h).1⟩)
section
section
variable(e g f d h b N:Nat)(o:aI)(a:RE->IE->List SV)
def Ts:T:=(.loop 0 [.ref (.own e),.int .i64] [(.ref (.v 0)),(.int .i64 (.c 0))]
 (.node (.cmp .lss (.v 3) (.v 2))
 (.az (.and (.cmp .leq (.c 0) (.bin .add .i64 (.v 1) (.v 3))) (.cmp .lss (.bin .add .i64 (.v 1) (.v 3)) (.len (.v 1))))
 (.az (.and (.cmp .leq (.c 0) (.bin .add .i64 (.v 1) (.v 3))) (.cmp .lss (.bin .add .i64 (.v 1) (.v 3)) (.len (.v 1))))
 (.az (.and (.cmp .leq (.c 0) (.bin .add .i64 (.v 0) (.v 3))) (.cmp .lss (.bin .add .i64 (.v 0) (.v 3)) (.len (.v 1))))
 (.az (.and (.cmp .leq (.c 0) (.bin .add .i64 (.v 0) (.v 3))) (.cmp .lss (.bin .add .i64 (.v 0) (.v 3)) (.len (.v 1))))
 (.az (.and (.cmp .leq (.c 0) (.bin .add .i64 (.v 0) (.v 3))) (.cmp .lss (.bin .add .i64 (.v 0) (.v 3)) (.len (.v 1))))
 (.az (.and (.cmp .leq (.c 0) (.bin .add .i64 (.v 0) (.v 3))) (.cmp .lss (.bin .add .i64 (.v 0) (.v 3)) (.len (.v 1))))
 (.new e (.set (.ref (.v 1)) (.bin .add .i64 (.v 0) (.v 3)) 0 (a (.v 1) (.bin .add .i64 (.v 1) (.v 3)))) [.dead,(.own e)] [.dead,.dead,(.own e)]
 (.az (.and (.cmp .leq (.c 0) (.bin .add .i64 (.v 1) (.v 3))) (.cmp .lss (.bin .add .i64 (.v 1) (.v 3)) (.len (.v 2))))
 (.az (.and (.cmp .leq (.c 0) (.bin .add .i64 (.v 1) (.v 3))) (.cmp .lss (.bin .add .i64 (.v 1) (.v 3)) (.len (.v 2))))
 (.new e (.set (.ref (.v 2)) (.bin .add .i64 (.v 1) (.v 3)) 0 (a (.v 1) (.bin .add .i64 (.v 0) (.v 3)))) [.dead,.dead,(.own e)] [.dead,.dead,.dead,(.own e)]
 (.back 0 [(.ref (.v 3)),(.int .i64 (.bin .add .i64 (.v 3) (.c 1)))])))))))))))
 (.out .normal ⟨[],[],4,0,[.dead,(.own e)],0,0,[]⟩)))
def Tt:T:=(.loop 0 [.ref (.own e),.int .i64,.int .i64] [(.ref (.v 0)),(.int .i64 (.bin .sub .i64 (.v 1) (.v 0))),(.int .i64 (.bin .sub .i64 (.v 2) (.v 1)))]
 (.node (.cmp .neq (.v 3) (.v 4))
 (.node (.cmp .gtr (.v 3) (.v 4))
  (.dq f g e (.cz 0 o [(.bin .sub .i64 (.v 1) (.v 3)),(.v 1),(.v 4)]) false (.v 1) [.dead,(.own e)]
  (.back 0 [(.ref (.v 2)),(.int .i64 (.bin .sub .i64 (.v 3) (.v 4))),(.int .i64 (.v 4))]))
  (.dq f g e (.cz 0 o [(.bin .sub .i64 (.v 1) (.v 3)),(.bin .sub .i64 (.bin .add .i64 (.v 1) (.v 4)) (.v 3)),(.v 3)]) false (.v 1) [.dead,(.own e)]
  (.back 0 [(.ref (.v 2)),(.int .i64 (.v 3)),(.int .i64 (.bin .sub .i64 (.v 4) (.v 3)))])))
 (.dq f g e (.cz 0 o [(.bin .sub .i64 (.v 1) (.v 3)),(.v 1),(.v 3)]) false (.v 1) [.dead,(.own e)]
 (.out .normal ⟨[],[],5,0,[.dead,.dead,(.own e)],0,0,[]⟩))))
def Tu:T:=(.loop 0 [.ref (.own e),.int .i64] [(.ref (.v 0)),(.int .i64 (.bin .add .i64 (.v 0) (.c 1)))]
 (.node (.cmp .lss (.v 2) (.v 1))
 (.loop 1 [.ref (.own e),.int .i64] [(.ref (.v 1)),(.int .i64 (.v 2))]
  (.node (.cmp .gtr (.v 3) (.v 0))
  (.az (.and (.cmp .leq (.c 0) (.v 3)) (.cmp .lss (.v 3) (.len (.v 2))))
  (.az (.and (.cmp .leq (.c 0) (.v 3)) (.cmp .lss (.v 3) (.len (.v 2))))
  (.az (.and (.cmp .leq (.c 0) (.bin .sub .i64 (.v 3) (.c 1))) (.cmp .lss (.bin .sub .i64 (.v 3) (.c 1)) (.len (.v 2))))
  (.az (.and (.cmp .leq (.c 0) (.bin .sub .i64 (.v 3) (.c 1))) (.cmp .lss (.bin .sub .i64 (.v 3) (.c 1)) (.len (.v 2))))
  (.call g [(.agg (a (.v 2) (.v 3))),(.agg (a (.v 2) (.bin .sub .i64 (.v 3) (.c 1))))] [] [.dead,.dead,.dead] [.int .i64] (.int .i64 (.v 4))
  (.node (.cmp .lss (.v 4) (.c 0))
   (.az (.and (.cmp .leq (.c 0) (.bin .sub .i64 (.v 3) (.c 1))) (.cmp .lss (.bin .sub .i64 (.v 3) (.c 1)) (.len (.v 2))))
   (.az (.and (.cmp .leq (.c 0) (.bin .sub .i64 (.v 3) (.c 1))) (.cmp .lss (.bin .sub .i64 (.v 3) (.c 1)) (.len (.v 2))))
   (.az (.and (.cmp .leq (.c 0) (.v 3)) (.cmp .lss (.v 3) (.len (.v 2))))
   (.az (.and (.cmp .leq (.c 0) (.v 3)) (.cmp .lss (.v 3) (.len (.v 2))))
   (.az (.and (.cmp .leq (.c 0) (.v 3)) (.cmp .lss (.v 3) (.len (.v 2))))
   (.az (.and (.cmp .leq (.c 0) (.v 3)) (.cmp .lss (.v 3) (.len (.v 2))))
   (.new e (.set (.ref (.v 2)) (.v 3) 0 (a (.v 2) (.bin .sub .i64 (.v 3) (.c 1)))) [.dead,.dead,(.own e)] [.dead,.dead,.dead,(.own e)]
   (.az (.and (.cmp .leq (.c 0) (.bin .sub .i64 (.v 3) (.c 1))) (.cmp .lss (.bin .sub .i64 (.v 3) (.c 1)) (.len (.v 3))))
   (.az (.and (.cmp .leq (.c 0) (.bin .sub .i64 (.v 3) (.c 1))) (.cmp .lss (.bin .sub .i64 (.v 3) (.c 1)) (.len (.v 3))))
   (.new e (.set (.ref (.v 3)) (.bin .sub .i64 (.v 3) (.c 1)) 0 (a (.v 2) (.v 3))) [.dead,.dead,.dead,(.own e)] [.dead,.dead,.dead,.dead,(.own e)]
   (.back 1 [(.ref (.v 4)),(.int .i64 (.bin .sub .i64 (.v 3) (.c 1)))])))))))))))
   (.back 0 [(.ref (.v 2)),(.int .i64 (.bin .add .i64 (.v 2) (.c 1)))])))))))
  (.back 0 [(.ref (.v 2)),(.int .i64 (.bin .add .i64 (.v 2) (.c 1)))])))
 (.out .normal ⟨[],[],3,0,[.dead,(.own e)],0,0,[]⟩)))
abbrev i5:IE:=(.conv .i64 (.bin .shr .u64 (.conv .u64 (.bin .add .i64 (.v 3) (.v 4))) (.c 1)))
abbrev cn:IE:=(.conv .i64 (.bin .shr .u64 (.conv .u64 (.bin .add .i64 (.v 0) (.v 2))) (.c 1)))
def Mt:T:=(.node (.cmp .lss (.v 3) (.v 1))
   (.node (.cmp .lss (.v 1) (.bin .sub .i64 (.bin .add .i64 cn (.v 1)) (.v 3)))
    (.dq d g e (.cz 1 o [(.v 3),(.v 1),(.bin .sub .i64 (.bin .add .i64 cn (.v 1)) (.v 3))]) false (.v 1) [.dead,(.own e)]
    (.node (.cmp .lss (.v 0) (.v 3))
    (.node (.cmp .lss (.v 3) cn)
     (.dq b g e (.cz (N+3) o [(.v 0),(.v 3),cn]) false (.v 2) [.dead,.dead,(.own e)]
     (.node (.cmp .lss cn (.bin .sub .i64 (.bin .add .i64 cn (.v 1)) (.v 3)))
     (.node (.cmp .lss (.bin .sub .i64 (.bin .add .i64 cn (.v 1)) (.v 3)) (.v 2))
      (.dq b g e (.cz (N+3) o [cn,(.bin .sub .i64 (.bin .add .i64 cn (.v 1)) (.v 3)),(.v 2)]) false (.v 3) [.dead,.dead,.dead,(.own e)]
      (.out .normal ⟨[],[],5,0,[.dead,.dead,.dead,.dead,(.own e)],0,0,[]⟩))
      (.out .normal ⟨[],[],5,0,[.dead,.dead,.dead,(.own e)],0,0,[]⟩))
     (.out .normal ⟨[],[],5,0,[.dead,.dead,.dead,(.own e)],0,0,[]⟩)))
     (.node (.cmp .lss cn (.bin .sub .i64 (.bin .add .i64 cn (.v 1)) (.v 3)))
     (.node (.cmp .lss (.bin .sub .i64 (.bin .add .i64 cn (.v 1)) (.v 3)) (.v 2))
      (.dq b g e (.cz (N+3) o [cn,(.bin .sub .i64 (.bin .add .i64 cn (.v 1)) (.v 3)),(.v 2)]) false (.v 2) [.dead,.dead,(.own e)]
      (.out .normal ⟨[],[],5,0,[.dead,.dead,.dead,(.own e)],0,0,[]⟩))
      (.out .normal ⟨[],[],5,0,[.dead,.dead,(.own e)],0,0,[]⟩))
     (.out .normal ⟨[],[],5,0,[.dead,.dead,(.own e)],0,0,[]⟩)))
    (.node (.cmp .lss cn (.bin .sub .i64 (.bin .add .i64 cn (.v 1)) (.v 3)))
     (.node (.cmp .lss (.bin .sub .i64 (.bin .add .i64 cn (.v 1)) (.v 3)) (.v 2))
     (.dq b g e (.cz (N+3) o [cn,(.bin .sub .i64 (.bin .add .i64 cn (.v 1)) (.v 3)),(.v 2)]) false (.v 2) [.dead,.dead,(.own e)]
     (.out .normal ⟨[],[],5,0,[.dead,.dead,.dead,(.own e)],0,0,[]⟩))
     (.out .normal ⟨[],[],5,0,[.dead,.dead,(.own e)],0,0,[]⟩))
     (.out .normal ⟨[],[],5,0,[.dead,.dead,(.own e)],0,0,[]⟩))))
    (.node (.cmp .lss (.v 0) (.v 3))
    (.node (.cmp .lss (.v 3) cn)
     (.dq b g e (.cz (N+3) o [(.v 0),(.v 3),cn]) false (.v 1) [.dead,(.own e)]
     (.node (.cmp .lss cn (.bin .sub .i64 (.bin .add .i64 cn (.v 1)) (.v 3)))
     (.node (.cmp .lss (.bin .sub .i64 (.bin .add .i64 cn (.v 1)) (.v 3)) (.v 2))
      (.dq b g e (.cz (N+3) o [cn,(.bin .sub .i64 (.bin .add .i64 cn (.v 1)) (.v 3)),(.v 2)]) false (.v 2) [.dead,.dead,(.own e)]
      (.out .normal ⟨[],[],5,0,[.dead,.dead,.dead,(.own e)],0,0,[]⟩))
      (.out .normal ⟨[],[],5,0,[.dead,.dead,(.own e)],0,0,[]⟩))
     (.out .normal ⟨[],[],5,0,[.dead,.dead,(.own e)],0,0,[]⟩)))
     (.node (.cmp .lss cn (.bin .sub .i64 (.bin .add .i64 cn (.v 1)) (.v 3)))
     (.node (.cmp .lss (.bin .sub .i64 (.bin .add .i64 cn (.v 1)) (.v 3)) (.v 2))
      (.dq b g e (.cz (N+3) o [cn,(.bin .sub .i64 (.bin .add .i64 cn (.v 1)) (.v 3)),(.v 2)]) false (.v 1) [.dead,(.own e)]
      (.out .normal ⟨[],[],5,0,[.dead,.dead,(.own e)],0,0,[]⟩))
      (.out .normal ⟨[],[],5,0,[.dead,(.own e)],0,0,[]⟩))
     (.out .normal ⟨[],[],5,0,[.dead,(.own e)],0,0,[]⟩)))
    (.node (.cmp .lss cn (.bin .sub .i64 (.bin .add .i64 cn (.v 1)) (.v 3)))
     (.node (.cmp .lss (.bin .sub .i64 (.bin .add .i64 cn (.v 1)) (.v 3)) (.v 2))
     (.dq b g e (.cz (N+3) o [cn,(.bin .sub .i64 (.bin .add .i64 cn (.v 1)) (.v 3)),(.v 2)]) false (.v 1) [.dead,(.own e)]
     (.out .normal ⟨[],[],5,0,[.dead,.dead,(.own e)],0,0,[]⟩))
     (.out .normal ⟨[],[],5,0,[.dead,(.own e)],0,0,[]⟩))
     (.out .normal ⟨[],[],5,0,[.dead,(.own e)],0,0,[]⟩))))
   (.node (.cmp .lss (.v 0) (.v 3))
    (.node (.cmp .lss (.v 3) cn)
    (.dq b g e (.cz (N+3) o [(.v 0),(.v 3),cn]) false (.v 1) [.dead,(.own e)]
    (.node (.cmp .lss cn (.bin .sub .i64 (.bin .add .i64 cn (.v 1)) (.v 3)))
     (.node (.cmp .lss (.bin .sub .i64 (.bin .add .i64 cn (.v 1)) (.v 3)) (.v 2))
     (.dq b g e (.cz (N+3) o [cn,(.bin .sub .i64 (.bin .add .i64 cn (.v 1)) (.v 3)),(.v 2)]) false (.v 2) [.dead,.dead,(.own e)]
     (.out .normal ⟨[],[],5,0,[.dead,.dead,.dead,(.own e)],0,0,[]⟩))
     (.out .normal ⟨[],[],5,0,[.dead,.dead,(.own e)],0,0,[]⟩))
     (.out .normal ⟨[],[],5,0,[.dead,.dead,(.own e)],0,0,[]⟩)))
    (.node (.cmp .lss cn (.bin .sub .i64 (.bin .add .i64 cn (.v 1)) (.v 3)))
     (.node (.cmp .lss (.bin .sub .i64 (.bin .add .i64 cn (.v 1)) (.v 3)) (.v 2))
     (.dq b g e (.cz (N+3) o [cn,(.bin .sub .i64 (.bin .add .i64 cn (.v 1)) (.v 3)),(.v 2)]) false (.v 1) [.dead,(.own e)]
     (.out .normal ⟨[],[],5,0,[.dead,.dead,(.own e)],0,0,[]⟩))
     (.out .normal ⟨[],[],5,0,[.dead,(.own e)],0,0,[]⟩))
     (.out .normal ⟨[],[],5,0,[.dead,(.own e)],0,0,[]⟩)))
    (.node (.cmp .lss cn (.bin .sub .i64 (.bin .add .i64 cn (.v 1)) (.v 3)))
    (.node (.cmp .lss (.bin .sub .i64 (.bin .add .i64 cn (.v 1)) (.v 3)) (.v 2))
     (.dq b g e (.cz (N+3) o [cn,(.bin .sub .i64 (.bin .add .i64 cn (.v 1)) (.v 3)),(.v 2)]) false (.v 1) [.dead,(.own e)]
     (.out .normal ⟨[],[],5,0,[.dead,.dead,(.own e)],0,0,[]⟩))
     (.out .normal ⟨[],[],5,0,[.dead,(.own e)],0,0,[]⟩))
    (.out .normal ⟨[],[],5,0,[.dead,(.own e)],0,0,[]⟩))))
def abq:T:=(.loop 0 [.ref (.own e),.int .i64,.int .i64] [(.ref (.v 0)),(.int .i64 (.v 1)),(.int .i64 (.v 2))]
 (.node (.cmp .lss (.v 3) (.v 4))
  (.az (.and (.cmp .leq (.c 0) i5) (.cmp .lss i5 (.len (.v 1))))
  (.az (.and (.cmp .leq (.c 0) i5) (.cmp .lss i5 (.len (.v 1))))
  (.az (.and (.cmp .leq (.c 0) (.v 0)) (.cmp .lss (.v 0) (.len (.v 1))))
  (.az (.and (.cmp .leq (.c 0) (.v 0)) (.cmp .lss (.v 0) (.len (.v 1))))
  (.call g [(.agg (a (.v 1) i5)),(.agg (a (.v 1) (.v 0)))] [] [.dead,.dead] [.int .i64] (.int .i64 (.v 5))
  (.az (.c true)
  (.node (.cmp .lss (.v 5) (.c 0))
  (.back 0 [(.ref (.v 1)),(.int .i64 (.bin .add .i64 i5 (.c 1))),(.int .i64 (.v 4))])
  (.back 0 [(.ref (.v 1)),(.int .i64 (.v 3)),(.int .i64 i5)]))))))))
  (.loop 1 [.ref (.own e),.int .i64] [(.ref (.v 1)),(.int .i64 (.v 0))]
  (.node (.cmp .lss (.v 5) (.bin .sub .i64 (.v 3) (.c 1)))
   (.az (.and (.cmp .leq (.c 0) (.bin .add .i64 (.v 5) (.c 1))) (.cmp .lss (.bin .add .i64 (.v 5) (.c 1)) (.len (.v 2))))
   (.az (.and (.cmp .leq (.c 0) (.bin .add .i64 (.v 5) (.c 1))) (.cmp .lss (.bin .add .i64 (.v 5) (.c 1)) (.len (.v 2))))
   (.az (.and (.cmp .leq (.c 0) (.v 5)) (.cmp .lss (.v 5) (.len (.v 2))))
   (.az (.and (.cmp .leq (.c 0) (.v 5)) (.cmp .lss (.v 5) (.len (.v 2))))
   (.az (.and (.cmp .leq (.c 0) (.v 5)) (.cmp .lss (.v 5) (.len (.v 2))))
   (.az (.and (.cmp .leq (.c 0) (.v 5)) (.cmp .lss (.v 5) (.len (.v 2))))
   (.new e (.set (.ref (.v 2)) (.v 5) 0 (a (.v 2) (.bin .add .i64 (.v 5) (.c 1)))) [.dead,.dead,(.own e)] [.dead,.dead,.dead,(.own e)]
   (.az (.and (.cmp .leq (.c 0) (.bin .add .i64 (.v 5) (.c 1))) (.cmp .lss (.bin .add .i64 (.v 5) (.c 1)) (.len (.v 3))))
   (.az (.and (.cmp .leq (.c 0) (.bin .add .i64 (.v 5) (.c 1))) (.cmp .lss (.bin .add .i64 (.v 5) (.c 1)) (.len (.v 3))))
   (.new e (.set (.ref (.v 3)) (.bin .add .i64 (.v 5) (.c 1)) 0 (a (.v 2) (.v 5))) [.dead,.dead,.dead,(.own e)] [.dead,.dead,.dead,.dead,(.own e)]
   (.back 1 [(.ref (.v 4)),(.int .i64 (.bin .add .i64 (.v 5) (.c 1)))])))))))))))
   (.out .ret ⟨[],[],6,0,[.dead,.dead,(.own e)],0,0,[]⟩)))))
def abr:T:=(.loop 0 [.ref (.own e),.int .i64,.int .i64] [(.ref (.v 0)),(.int .i64 (.v 0)),(.int .i64 (.v 1))]
  (.node (.cmp .lss (.v 3) (.v 4))
  (.az (.and (.cmp .leq (.c 0) (.v 1)) (.cmp .lss (.v 1) (.len (.v 1))))
  (.az (.and (.cmp .leq (.c 0) (.v 1)) (.cmp .lss (.v 1) (.len (.v 1))))
  (.az (.and (.cmp .leq (.c 0) i5) (.cmp .lss i5 (.len (.v 1))))
  (.az (.and (.cmp .leq (.c 0) i5) (.cmp .lss i5 (.len (.v 1))))
  (.call g [(.agg (a (.v 1) (.v 1))),(.agg (a (.v 1) i5))] [] [.dead,.dead] [.int .i64] (.int .i64 (.v 5))
  (.az (.c true)
  (.az (.c true)
  (.node (.not (.cmp .lss (.v 5) (.c 0)))
   (.back 0 [(.ref (.v 1)),(.int .i64 (.bin .add .i64 i5 (.c 1))),(.int .i64 (.v 4))])
   (.back 0 [(.ref (.v 1)),(.int .i64 (.v 3)),(.int .i64 i5)])))))))))
  (.loop 1 [.ref (.own e),.int .i64] [(.ref (.v 1)),(.int .i64 (.v 1))]
   (.node (.cmp .gtr (.v 5) (.v 3))
   (.az (.and (.cmp .leq (.c 0) (.bin .sub .i64 (.v 5) (.c 1))) (.cmp .lss (.bin .sub .i64 (.v 5) (.c 1)) (.len (.v 2))))
   (.az (.and (.cmp .leq (.c 0) (.bin .sub .i64 (.v 5) (.c 1))) (.cmp .lss (.bin .sub .i64 (.v 5) (.c 1)) (.len (.v 2))))
   (.az (.and (.cmp .leq (.c 0) (.v 5)) (.cmp .lss (.v 5) (.len (.v 2))))
   (.az (.and (.cmp .leq (.c 0) (.v 5)) (.cmp .lss (.v 5) (.len (.v 2))))
   (.az (.and (.cmp .leq (.c 0) (.v 5)) (.cmp .lss (.v 5) (.len (.v 2))))
   (.az (.and (.cmp .leq (.c 0) (.v 5)) (.cmp .lss (.v 5) (.len (.v 2))))
   (.new e (.set (.ref (.v 2)) (.v 5) 0 (a (.v 2) (.bin .sub .i64 (.v 5) (.c 1)))) [.dead,.dead,(.own e)] [.dead,.dead,.dead,(.own e)]
   (.az (.and (.cmp .leq (.c 0) (.bin .sub .i64 (.v 5) (.c 1))) (.cmp .lss (.bin .sub .i64 (.v 5) (.c 1)) (.len (.v 3))))
   (.az (.and (.cmp .leq (.c 0) (.bin .sub .i64 (.v 5) (.c 1))) (.cmp .lss (.bin .sub .i64 (.v 5) (.c 1)) (.len (.v 3))))
   (.new e (.set (.ref (.v 3)) (.bin .sub .i64 (.v 5) (.c 1)) 0 (a (.v 2) (.v 5))) [.dead,.dead,.dead,(.own e)] [.dead,.dead,.dead,.dead,(.own e)]
   (.back 1 [(.ref (.v 4)),(.int .i64 (.bin .sub .i64 (.v 5) (.c 1)))])))))))))))
   (.out .ret ⟨[],[],6,0,[.dead,.dead,(.own e)],0,0,[]⟩)))))
def Tv:T:=(.az (.and (.cmp .leq (.c 0) (.bin .sub .i64 (.bin .sub .i64 (.bin .add .i64 cn (.v 1)) (.c 1)) i5)) (.cmp .lss (.bin .sub .i64 (.bin .sub .i64 (.bin .add .i64 cn (.v 1)) (.c 1)) i5) (.len (.v 1))))
   (.az (.and (.cmp .leq (.c 0) (.bin .sub .i64 (.bin .sub .i64 (.bin .add .i64 cn (.v 1)) (.c 1)) i5)) (.cmp .lss (.bin .sub .i64 (.bin .sub .i64 (.bin .add .i64 cn (.v 1)) (.c 1)) i5) (.len (.v 1))))
   (.az (.and (.cmp .leq (.c 0) i5) (.cmp .lss i5 (.len (.v 1))))
   (.az (.and (.cmp .leq (.c 0) i5) (.cmp .lss i5 (.len (.v 1))))
   (.call g [(.agg (a (.v 1) (.bin .sub .i64 (.bin .sub .i64 (.bin .add .i64 cn (.v 1)) (.c 1)) i5))),(.agg (a (.v 1) i5))] [] [.dead,.dead] [.int .i64] (.int .i64 (.v 5))
   (.az (.c true)
   (.az (.c true)
   (.node (.not (.cmp .lss (.v 5) (.c 0)))
   (.back 0 [(.ref (.v 1)),(.int .i64 (.bin .add .i64 i5 (.c 1))),(.int .i64 (.v 4))])
   (.back 0 [(.ref (.v 1)),(.int .i64 (.v 3)),(.int .i64 i5)])))))))))
def atV:T:=(.loop 0 [.ref (.own e),.int .i64,.int .i64] [(.ref (.v 0)),(.int .i64 (.bin .sub .i64 (.bin .add .i64 cn (.v 1)) (.v 2))),(.int .i64 cn)]
 (.node (.cmp .lss (.v 3) (.v 4)) (Tv g a) (Mt e g d b N o)))
def atW:T:=(.loop 0 [.ref (.own e),.int .i64,.int .i64] [(.ref (.v 0)),(.int .i64 (.v 0)),(.int .i64 (.v 1))]
 (.node (.cmp .lss (.v 3) (.v 4)) (Tv g a) (Mt e g d b N o)))
def Tw:T:=(.node (.cmp .eql (.bin .sub .i64 (.v 1) (.v 0)) (.c 1)) (abq e g a) (.node (.cmp .eql (.bin .sub .i64 (.v 2) (.v 1)) (.c 1)) (abr e g a) (.node (.cmp .gtr (.v 1) cn) (atV e g d b N o a) (atW e g d b N o a))))
def Tx:T:=(.loop 0 [.ref (.own e),.int .i64,.int .i64] [(.ref (.v 0)),(.int .i64 (.c 20)),(.int .i64 (.c 0))]
 (.node (.cmp .leq (.v 0) (.len (.v 0)))
 (.dq h g e (.cz 2 o [(.v 1),(.v 0)]) false (.v 1) [.dead,(.own e)]
 (.back 0 [(.ref (.v 2)),(.int .i64 (.bin .add .i64 (.v 0) (.c 20))),(.int .i64 (.v 0))]))
 (.dq h g e (.cz 2 o [(.v 1),(.len (.v 0))]) false (.v 1) [.dead,(.own e)]
 (.loop 1 [.ref (.own e),.int .i64] [(.ref (.v 2)),(.int .i64 (.c 20))]
  (.node (.cmp .lss (.v 2) (.len (.v 0)))
  (.loop 2 [.ref (.own e),.int .i64,.int .i64] [(.ref (.v 3)),(.int .i64 (.bin .mul .i64 (.c 2) (.v 2))),(.int .i64 (.c 0))]
   (.node (.cmp .leq (.v 3) (.len (.v 0)))
   (.dq b g e (.cz (N+3) o [(.v 4),(.bin .add .i64 (.v 4) (.v 2)),(.v 3)]) false (.v 4) [.dead,.dead,.dead,.dead,(.own e)]
   (.back 2 [(.ref (.v 5)),(.int .i64 (.bin .add .i64 (.v 3) (.bin .mul .i64 (.c 2) (.v 2)))),(.int .i64 (.v 3))]))
   (.node (.cmp .lss (.bin .add .i64 (.v 4) (.v 2)) (.len (.v 0)))
    (.dq b g e (.cz (N+3) o [(.v 4),(.bin .add .i64 (.v 4) (.v 2)),(.len (.v 0))]) false (.v 4) [.dead,.dead,.dead,.dead,(.own e)]
    (.back 1 [(.ref (.v 5)),(.int .i64 (.bin .mul .i64 (.v 2) (.c 2)))]))
    (.back 1 [(.ref (.v 4)),(.int .i64 (.bin .mul .i64 (.v 2) (.c 2)))]))))
  (.out .normal ⟨[],[],3,0,[.dead,.dead,.dead,(.own e)],0,0,[]⟩))))))
end
end
section
structure HP where
 K:List Bool
 g:Nat
 o:aI
 e:TypeId
 v:Value
 aA:List (List RV)
def abs(O:aa)(l:List SV)(x:List RV):Prop:=∀y V,SV.ap (O.at y) V l=x.map RV.val
def ER(c:Option LC)(Z:List XV):Prop:=match c with
 |some c=>c.I Z/\c.μ Z<c.m
 |none=>False
def atX(h:HP)(f:FuncId)(W:List SV)(V:List LK)(eP:SV)(O:aa)(k:Int->Prop):Prop:=f=h.g/\V=[.int .i64]/\eP=.int .i64 (.v O.i.length)/\∃Z X x y,W=[.agg Z,.agg X]/\abs O Z x/\abs O X y/\ga h.K x/\ga h.K y/\h.o.ok x=true/\h.o.ok y=true/\∀c:Int,(c<0<->h.o.lt x y=true)->k c
def T.hw(h:HP):T->aa->List LC->Prop
 |.out X s,O,_=>(X=.normal\/X=.ret)/\∃k,s.rs[k]?=some (.own h.e)/\O.rv k=.mk h.v h.aA
 |.node b t f,O,L=>if b.den O=true then t.hw h O L else f.hw h O L
 |.az b t,O,L=>b.den O=true/\t.hw h O L
 |.call f U _ _ R eP t,O,L=>atX h f U R eP O λc=>t.hw h (O.add (.i c)) L
 |.loop av _ Q t,O,L=>∃I W,I (Q.map (SV.xv O))/\∀Z,I Z->t.hw h (O.ext Z) (⟨av,I,W,W Z⟩::L)
 |.back av x,O,L=>ER (kG av L) (x.map (SV.xv O))
 |.new _ (.set (.ref (.v k)) i P N) _ _ t,O,L=>t.hw h (O.add (.r (.mk (O.rv k).val (LE.rows O (.set (.ref (.v k)) i P N))))) L
 |.dq _ _ _ M J r _ t,O,L=>∃V,kX O M J (r.rv O).rows=some V/\t.hw h (O.add (.r (.mk (r.rv O).val V))) L
 |_,_,_=>False
def t8(h:HP){p:Sp}(M:EP p.P h.K h.g h.o)(J:Tgt p h.e h.v h.aA):∀(t:T)(O:aa)(L:List LC),t.hw h O L->t.aG p O L
 |.out ex s,O,L,Z=>by
  obtain⟨H,k,G,E⟩:=Z;intro y V a W R;refine J _ s (O.at y) V a W k ?_ R G E;rcases H with rfl|rfl;exact .inl rfl;exact .inr rfl
 |.node b t f,O,L,Z=>by
  simp only[T.hw] at Z;refine⟨λD=>t8 h M J t O L ?_,λD=>t8 h M J f O L ?_⟩
  rwa [if_pos D] at Z
  rwa [if_neg (by simp[D])] at Z
 |.az b t,O,L,Z=>⟨Z.1,t8 h M J t O L Z.2⟩
 |.call f ag bx X z eP t,O,L,Z=>by
  obtain⟨rfl,rfl,rfl,w,u,x,y,rfl,H,G,E,q,m,j,d⟩:=Z;intro C V W R;have e:(SV.ap (O.at C) V [.agg w,.agg u]).toArray= #[.agg (x.map RV.val).toArray,.agg (y.map RV.val).toArray]:=by
   simp only[SV.ap,SV.den,H C V,G C V]
  rw[e];refine(M W x y E q m j).mono ?_;rintro en W' ⟨hB,c,rfl,ac⟩;refine⟨[.i c],⟨trivial,trivial⟩, ?_,hB,⟨trivial,trivial⟩, ?_⟩;simp[SV.den,IE.den,aa.ext,aa.add,aa.at];exact t8 h M J t (O.add (.i c)) L (d c ac)
 |.loop av z x0 t,O,L,Z=>by
  obtain⟨I,μ,H,G⟩:=Z;exact⟨I,μ,H,λxs _ hx=>t8 h M J t _ _ (G xs hx)⟩
 |.back av x,O,L,Z=>by
  simp only[T.hw,ER] at Z;simp only[T.aG];cases B:kG av L with
  |none=>rw[B] at Z;exact Z
  |some c=>rw[B] at Z;exact Z
 |.new e (.set (.ref (.v k)) i N Q) X U t,O,L,Z=>by
  intro rv hn;obtain⟨⟨A,n,c,rfl,hl⟩,_,F⟩:=hn;have F:=F k i N Q rfl;refine t8 h M J t _ L ?_;simp only[RV.kf] at F;rw[F];exact Z
 |.new e (.ref r) X U t,O,L,Z=>by simp[T.hw] at Z
 |.new e (.lit l) X U t,O,L,Z=>by simp[T.hw] at Z
 |.new e (.jr a b) X U t,O,L,Z=>by simp[T.hw] at Z
 |.new e (.mW n al) X U t,O,L,Z=>by simp[T.hw] at Z
 |.new e (.sub a lo hi) X U t,O,L,Z=>by simp[T.hw] at Z
 |.new e (.ins a n Q) X U t,O,L,Z=>by simp[T.hw] at Z
 |.new e (.set (.ref (.k _)) i N Q) X U t,O,L,Z=>by simp[T.hw] at Z
 |.new e (.set (.lit _) i N Q) X U t,O,L,Z=>by simp[T.hw] at Z
 |.new e (.set (.jr _ _) i N Q) X U t,O,L,Z=>by simp[T.hw] at Z
 |.new e (.set (.mW _ _) i N Q) X U t,O,L,Z=>by simp[T.hw] at Z
 |.new e (.set (.set _ _ _ _) i N Q) X U t,O,L,Z=>by simp[T.hw] at Z
 |.new e (.set (.sub _ _ _) i N Q) X U t,O,L,Z=>by simp[T.hw] at Z
 |.new e (.set (.ins _ _ _) i N Q) X U t,O,L,Z=>by simp[T.hw] at Z
 |.new e (.set (.ref (.cell _ _ _ _)) i N Q) X U t,O,L,Z=>by simp[T.hw] at Z
 |.dq f g e sp st r X t,O,L,Z=>by
  obtain⟨af,H,G⟩:=Z;exact⟨af,H,t8 h M J t _ L G⟩
 |.ret ..,_,_,Z=>by simp[T.hw] at Z
 |.aW ..,_,_,Z=>by simp[T.hw] at Z
 |.rows ..,_,_,Z=>by simp[T.hw] at Z
 |.ey ..,_,_,Z=>by simp[T.hw] at Z
 |.pick ..,_,_,Z=>by simp[T.hw] at Z
 |.stuck _,_,_,Z=>by simp[T.hw] at Z
section
variable{h:HP}{O:aa}{L:List LC}
def ES(e:O=n):T.hw h t O L=T.hw h t n L:=by rw[e]
def sf(b:BE)(t f:T):T.hw h (.node b t f) O L=(if b.den O=true then t.hw h O L else f.hw h O L):=rfl
def ET(b:BE)(t:T):T.hw h (.az b t) O L=(b.den O=true/\t.hw h O L):=rfl
def EU(av:Nat)(x:List SV):T.hw h (.back av x) O L=ER (kG av L) (x.map (SV.xv O)):=rfl
def EV(e:TypeId)(k:Nat)(i:IE)(Z:Nat)(X:List SV)(W V:List RK)(t:T):T.hw h (.new e (.set (.ref (.v k)) i Z X) W V t) O L=t.hw h (O.add (.r (.mk (O.rv k).val (LE.rows O (.set (.ref (.v k)) i Z X))))) L:=rfl
def xT(f g:FuncId)(e:TypeId)(Z:aI)(X:Bool)(r:RE)(V:List RK)(t:T):T.hw h (.dq f g e Z X r V t) O L=(∃W,kX O Z X (r.rv O).rows=some W/\t.hw h (O.add (.r (.mk (r.rv O).val W))) L):=rfl
def xU(Z:XE)(s:S):T.hw h (.out Z s) O L=((Z=.normal\/Z=.ret)/\∃k,s.rs[k]?=some (.own h.e)/\O.rv k=.mk h.v h.aA):=rfl
def ua{V:List LK}(I:List XV->Prop)(Z:List XV->Nat)(U:I (C.map (SV.xv O)))(R:∀W,I W->t.hw h (O.ext W) (⟨X,I,Z,Z W⟩::L)):T.hw h (.loop X V C t) O L:=⟨I,Z,U,R⟩
end
end
section
attribute[local simp] IE.den BE.den RE.rv RE.den eG aa.rv aa.ext aa.add SV.xv sf ET EU EV xT xU LE.rows kG
attribute[local congr] ES
structure Aa(K:List Bool)(d:RE->IE->List SV):Prop where
 bu:∀(O:aa)(r:RE)(i:IE)(x:List RV),(r.rv O).rows[(i.den O).toNat]?=some x->ga K x->(d r i).map (SV.bu O)=x
 den:∀(O:aa)(r:RE)(i:IE)(x:List RV),(r.rv O).rows[(i.den O).toNat]?=some x->ga K x->abs O (d r i) x
def abt:∀{K:List Bool}{x:List RV},ga K x->x.length=K.length
 |[],_,h=>by cases h;rfl
 |_::_,[],h=>h.elim
 |_::_,_::_,h=>by simp[abt h.2]
def alR:∀(x X Z:List RV),X.length=x.length->eU (Z++X) Z.length x=Z++x
 |[],X,Z,h=>by
  have:X=[]:=ayd h;subst this;rfl
 |v::r,[],Z,h=>by simp at h
 |v::r,c::X,Z,h=>by
  have W:=alR r X (Z++[v]) (by simpa using h);simp only[axX,ayu,azM,azd,axY,ax2] at W;simp only[eU];rw[azv _ _ (axQ _),aAn,aBg];exact W
def Cl(R:∀y∈Z,ga w y)(Q:ga w F):(Z.modify X λW=>eU W 0 F)=Z.set X F:=by
 apply ayf;intro k;rw[aA5,ayD];by_cases U:X=k;subst U;simp only[if_true];cases V:Z[X]? with
 |none=>
  have:=ayC.1 V;rw[if_neg (by omega)];rfl
 |some W=>
  obtain⟨P,_⟩:=axJ.1 V;rw[if_pos P];have:=alR F W [] (by rw[abt (R W (ax4 V)),abt Q]);simpa using this
 simp[U]
def Mu(Z:-9223372036854775808<=q)(X:q<9223372036854775808):IntKind.i64.wrap q=q:=by
 rw[IntKind.wrap_i64];omega
def vP{a b:Nat}(h:a+b<=4398046511104):aR .add .i64 (a:Int) (b:Int)=((a+b:Nat):Int):=by
 simp only[aR];rw[Mu (by omega) (by omega)];omega
def ub{a b:Nat}(h:b<=a)(Z:a<=4398046511104):aR .sub .i64 (a:Int) (b:Int)=((a-b:Nat):Int):=by
 simp only[aR];rw[Mu (by omega) (by omega)];omega
def Ab{a:Nat}(h:a<=4398046511103):aR .add .i64 (a:Int) 1=((a+1:Nat):Int):=vP (b:=1) (by omega)
def Tz{a:Nat}(h:1<=a)(Z:a<=4398046511104):aR .sub .i64 (a:Int) 1=((a-1:Nat):Int):=ub (b:=1) h Z
def atY(Z:List (List RV))(O:X+y<=H)(W:H+y<=Z.length)(k:Nat):
  (Z.take X++(aJ Z H (H+y)++(aJ Z (X+y) H++(aJ Z X (X+y)++Z.drop (H+y)))))[k]?=if X<=k/\k<X+y then Z[k-X+H]? else if H<=k/\k<H+y then Z[k-H+X]? else Z[k]?:=by
 have V:(Z.take X).length=X:=by simp;omega
 have U:(aJ Z H (H+y)).length=y:=by rw[nQ Z W];omega
 have R:(aJ Z (X+y) H).length=H-(X+y):=nQ Z (by omega);have Q:(aJ Z X (X+y)).length=y:=by rw[nQ Z (by omega)];omega
 by_cases P:k<X;rw[axL (by omega),if_neg (by omega),if_neg (by omega),ayi,if_pos P];rw[axP (by omega),V];by_cases N:k<X+y;rw[axL (by omega),if_pos (by omega),Mr Z (by omega)];congr 1;omega;rw[axP (by omega),U,if_neg (by omega)];by_cases M:k<H;rw[axL (by omega),if_neg (by omega),Mr Z (by omega)];congr 1;omega;rw[axP (by omega),R];by_cases L:k<H+y;rw[axL (by omega),if_pos (by omega),Mr Z (by omega)];congr 1;omega;rw[axP (by omega),Q,if_neg (by omega),ayq];congr 1;omega
def xV(h:M.length=3):∃a b c,M=[a,b,c]:=by
 match M,h with
 |[a,b,c],_=>exact⟨a,b,c,rfl⟩
def two(h:M.length=2):∃a b,M=[a,b]:=by
 match M,h with
 |[a,b],_=>exact⟨a,b,rfl⟩
def vQ{a:Int}(h:0<=a):∃n:Nat,a=n:=⟨a.toNat,by omega⟩
section
variable{K:List Bool}{e g:Nat}{o:aI}{d:RE->IE->List SV}
set_option maxHeartbeats 2000000 in
def alS (H:Aa K d):Ms K e g o 0 3 (Ts e d):=by
 rintro p _ X aA ns s q ⟨A,n,V,rfl,l,hn⟩ f c W ac;obtain⟨a,b,m,rfl⟩:=xV c;obtain⟨_,W⟩:=wu W;simp only[jX] at W;split at W;rename_i Q;simp only[axI,decide_eq_true_eq] at Q;obtain⟨a,rfl⟩:=vQ Q.1.1.1;obtain⟨m,rfl⟩:=vQ Q.1.1.2;obtain⟨b,rfl⟩:=vQ (a:=b) (by omega);have h1:a+m<=b:=by omega
 have h2:b+m<=X.length:=by omega
 simp only[axM] at W;have e1:((a:Int)).toNat=a:=rfl;have e2:((b:Int)).toNat=b:=rfl;have e3:((b:Int)+(m:Int)).toNat=b+m:=by omega
 have e4:((a:Int)+(m:Int)).toNat=a+m:=by omega
 rw[e1,e2,e3,e4] at W;have G:=atY X h1 h2;rw[W] at G;clear W;refine t8 ⟨K,g,o,e,.slice A n V,aA⟩ (s▸q) ac _ _ _ ?_;unfold Ts;refine ua (λP=>∃(i:Nat)(Z:List (List RV)),P=[.r (.mk (.slice A n V) Z),.i i]/\i<=m/\Z.length=n/\(∀x∈Z,ga K x)/\∀k:Nat,Z[k]?=if a<=k/\k<a+i then X[k-a+b]? else if b<=k/\k<b+i then X[k-b+a]? else X[k]?) (λP=>match P with|[_,.i j]=>m-j.toNat|_=>0) ⟨0,X,rfl,by omega,l,f,λk=>by rw[if_neg (by omega),if_neg (by omega)]⟩ ?_;rintro _ ⟨i,Z,rfl,hi,hl,U,R⟩;by_cases af:i<m;obtain⟨x,O⟩:∃x,Z[a+i]?=some x:=axJ.2 ⟨by omega,rfl⟩|>λh=>⟨_,h⟩
 obtain⟨y,N⟩:∃y,Z[b+i]?=some y:=axJ.2 ⟨by omega,rfl⟩|>λh=>⟨_,h⟩
 have M:=U x (ax4 O);have L:=U y (ax4 N);have F:=vP (a:=a) (b:=i) (by omega);have E:=vP (a:=b) (b:=i) (by omega);have c1:azC (SV.bu ⟨[(a:Int),b,m,i],[],[.mk (.slice A n V) X,.mk (.slice A n V) Z],[]⟩) (d (.v 1) (.bin .add .i64 (.v 1) (.v 3)))=y:=H.bu _ _ _ y (by simp only[RE.rv,aa.rv,IE.den,azg,ay1,RV.jz,E,ayE];exact N) L;have c2:∀D,azC (SV.bu ⟨[(a:Int),b,m,i],[],[.mk (.slice A n V) X,.mk (.slice A n V) Z,D],[]⟩) (d (.v 1) (.bin .add .i64 (.v 0) (.v 3)))=x:=λD=>H.bu _ _ _ x (by simp only[RE.rv,aa.rv,IE.den,azg,ay1,RV.jz,F,ayE];exact O) M
 have m1:(Z.modify (a+i) λJ=>eU J 0 y)=Z.set (a+i) y:=Cl U L;have C:∀z∈Z.set (a+i) y,ga K z:=λz I=>by
  rcases ayQ I with h|rfl;exact U z h;exact L
 have m2:((Z.set (a+i) y).modify (b+i) λJ=>eU J 0 x)=(Z.set (a+i) y).set (b+i) x:=Cl C M;have t1:((a:Int)+(i:Int)).toNat=a+i:=by omega
 have t2:((b:Int)+(i:Int)).toNat=b+i:=by omega
 simp[F,E,Ab (a:=i) (by omega),af,c1,c2,t1,t2,m1,m2,lenOf];refine⟨by omega,by omega,by omega,⟨i+1,_,rfl,by omega,by simp[hl],λz I=> ?_,λk=> ?_⟩,show m-((i:Int)+1).toNat<m-i by omega⟩;rcases ayQ I with h|rfl;exact C z h;exact M;have ag:X[a+i]?=some x:=by
  have:=R (a+i);rw[if_neg (by omega),if_neg (by omega)] at this;rw[<-this];exact O
 have al:X[b+i]?=some y:=by
  have:=R (b+i);rw[if_neg (by omega),if_neg (by omega)] at this;rw[<-this];exact N
 rw[ayD,ayD];by_cases B:b+i=k;subst B;rw[if_pos rfl,if_pos (by simp;omega),if_neg (by omega),if_pos (by omega),<-ag];congr 1;omega;rw[if_neg B];by_cases w:a+i=k;subst w;rw[if_pos rfl,if_pos (by omega),if_pos (by omega),<-al];congr 1;omega;rw[if_neg w,R k];by_cases u:a<=k/\k<a+i;rw[if_pos u,if_pos (by omega)];rw[if_neg u];by_cases t:b<=k/\k<b+i;rw[if_pos t,if_neg (by omega),if_pos (by omega)];rw[if_neg t,if_neg (by omega),if_neg (by omega)];have an:i=m:=by omega
 subst an;have a0:Z=aA:=ayf λk=>by rw[R k,G k]
 subst a0;simp;exact⟨1,rfl,rfl⟩;cases W
end
end
section
attribute[local simp] IE.den BE.den RE.rv RE.den eG aa.rv aa.ext aa.add SV.xv sf ET EU EV xT xU LE.rows kG kX
attribute[local congr] ES
def Mv(P S Q:List (List RV)):aJ (P++(S++Q)) P.length (P.length+S.length)=S:=by simp[aJ]
def Mw{P Q:List (List RV)}(h:Z=P++(U++Q))(W:X=P.length)(V:H=X+U.length):aJ Z X H=U:=by
 subst h;subst W;subst V;exact Mv P U Q
def abu{o:aI}{P X M Y Q:List (List RV)}{a b n:Int}(Z:a=P.length)(W:b=P.length+X.length+M.length)(V:n=X.length)(E:Y.length=X.length)(U:(P++(X++(M++(Y++Q)))).length<=1099511627776):
  lN 0 o [a,b,n] (P++(X++(M++(Y++Q))))=some (P++(Y++(M++(X++Q)))):=by
 subst Z;subst W;subst V;unfold lN;rw[if_pos U];simp only[jX];rw[if_pos (by simp only[axI,decide_eq_true_eq,axX];omega)];have R:((P.length:Int)).toNat=P.length:=rfl;have O:((P.length:Int)+X.length+M.length).toNat=P.length+X.length+M.length:=by omega
 have N:((P.length:Int)+X.length+M.length+X.length).toNat=P.length+X.length+M.length+X.length:=by omega
 have L:((P.length:Int)+X.length).toNat=P.length+X.length:=by omega
 rw[R,O,N,L];have J:(P++(X++(M++(Y++Q)))).take P.length=P:=by simp
 have I:aJ (P++(X++(M++(Y++Q)))) (P.length+X.length+M.length) (P.length+X.length+M.length+X.length)=Y:=Mw (P:=P++(X++M)) (Q:=Q) (by simp) (by simp;omega) (by omega);have H:aJ (P++(X++(M++(Y++Q)))) (P.length+X.length) (P.length+X.length+M.length)=M:=Mw (P:=P++X) (Q:=Y++Q) (by simp) (by simp) rfl;have G:aJ (P++(X++(M++(Y++Q)))) P.length (P.length+X.length)=X:=Mv P X _;have F:(P++(X++(M++(Y++Q)))).drop (P.length+X.length+M.length+X.length)=Q:=by
  have:P++(X++(M++(Y++Q)))=(P++(X++(M++Y)))++Q:=by simp
  rw[this,az4 (by simp;omega)]
 rw[J,I,H,G,F]
def alT(Z:List (List RV))(W:X<=H)(V:H<=y):Z.take X++(aJ Z X H++(aJ Z H y++Z.drop y))=Z:=by
 rw[<-azd (aJ Z X H),<-mi Z W V,IU Z (by omega)]
def pJ{c:Prop}[Decidable c]{A B:Prop}(Z:c->A)(X:¬c->B):if c then A else B:=by
 by_cases h:c;rw[if_pos h];exact Z h;rw[if_neg h];exact X h
section
variable{K:List Bool}{e g d:Nat}{o:aI}{f:RE->IE->List SV}
set_option maxHeartbeats 2000000 in
def alU:Ms K e g o 1 3 (Tt e g d o):=by
 rintro p _ Z aA ns y x ⟨G,n,F,rfl,w,hn⟩ hT v O u;obtain⟨a,m,b,rfl⟩:=xV v;obtain⟨_,O⟩:=wu O;simp only[jX] at O;split at O;rename_i E;simp only[axI,decide_eq_true_eq] at E;obtain⟨a,rfl⟩:=vQ E.1.1.1;obtain⟨m,rfl⟩:=vQ (a:=m) (by omega);obtain⟨b,rfl⟩:=vQ (a:=b) (by omega);simp only[axM,ayE] at O;have D:b<=Z.length:=by omega
 refine t8 ⟨K,g,o,e,.slice G n F,aA⟩ (y▸x) u _ _ _ ?_;unfold Tt;refine ua (λJ=>∃(P A B Q:List (List RV)),J=[.r (.mk (.slice G n F) (P++(A++(B++Q)))),.i A.length,.i B.length]/\1<=A.length/\1<=B.length/\P.length+A.length=m/\m+B.length<=b/\(P++(A++(B++Q))).length=n/\P++(B++(A++Q))=aA) (λJ=>match J with|[_,.i i,.i j]=>i.toNat+j.toNat|_=>0) ⟨Z.take a,aJ Z a m,aJ Z m b,Z.drop b, ?_, ?_⟩ ?_;have t:Z.take a++(aJ Z a m++(aJ Z m b++Z.drop b))=Z:=by
  exact alT Z (by omega) (by omega)
 have C:(aJ Z a m).length=m-a:=nQ Z (by omega);have z:(aJ Z m b).length=b-m:=nQ Z D;simp only[axV,ay2,SV.xv,RE.rv,aa.rv,ay1,azg,IE.den,t,C,z];rw[ub (a:=m) (b:=a) (by omega) (by omega),ub (a:=b) (b:=m) (by omega) (by omega)];have C:(aJ Z a m).length=m-a:=nQ Z (by omega);have z:(aJ Z m b).length=b-m:=nQ Z D;refine⟨by omega,by omega,by simp;omega,by omega, ?_,O⟩;rw[alT Z (by omega) (by omega)];exact w;rintro _ ⟨P,A,B,Q,rfl,hA,hB,ac,af,s,I⟩;have q:=ub (a:=m) (b:=A.length) (by omega) (by omega);have l:((m-A.length:Nat):Int)=P.length:=by omega
 simp only[axX] at s;simp[q,l];refine pJ (λk=> ?_) (λk=>pJ (λh=> ?_) (λh=> ?_));have N:=abu (o:=o) (P:=P) (X:=A) (M:=[]) (Y:=B) (Q:=Q) (a:=P.length) (b:=m) (n:=A.length) rfl (by simp;omega) rfl (by omega) (by simp;omega);refine⟨P++(B++(A++Q)),by simpa using N,2,rfl, ?_⟩;simp[I];obtain⟨U,R,rfl,H⟩:∃U R,A=U++R/\U.length=B.length:=⟨A.take B.length,A.drop B.length,(ay3 _ _).symm,by simp;omega⟩;simp only[axX] at*;have L:=ub (a:=U.length+R.length) (b:=B.length) (by omega) (by omega);have N:=abu (o:=o) (P:=P) (X:=U) (M:=R) (Y:=B) (Q:=Q) (a:=P.length) (b:=m) (n:=B.length) rfl (by omega) (by omega) (by omega) (by simp;omega);refine⟨P++(B++(R++(U++Q))),by simpa using N,⟨P++B,R,U,Q, ?_,by omega,by omega,by simp;omega,by omega,by simp;omega, ?_⟩, ?_⟩;rw[L,H];simp;rw[<-I];simp;rw[L];show((U.length+R.length-B.length:Nat):Int).toNat+((B.length:Int)).toNat<U.length+R.length+B.length;omega;obtain⟨V,W,rfl,H⟩:∃V W,B=V++W/\W.length=A.length:=⟨B.take (B.length-A.length),B.drop (B.length-A.length),(ay3 _ _).symm,by simp;omega⟩;simp only[axX] at*;have f:=vP (a:=m) (b:=V.length+W.length) (by omega);have L:=ub (a:=m+(V.length+W.length)) (b:=A.length) (by omega) (by omega);have c:=ub (a:=V.length+W.length) (b:=A.length) (by omega) (by omega);have N:=abu (o:=o) (P:=P) (X:=A) (M:=V) (Y:=W) (Q:=Q) (a:=P.length) (b:=((m+(V.length+W.length)-A.length:Nat):Int)) (n:=A.length) rfl (by omega) rfl (by omega) (by simp;omega);rw[f,L,c];refine⟨P++(W++(V++(A++Q))),by simpa using N,⟨P,W,V,A++Q, ?_,by omega,by omega,by omega,by omega,by simp;omega, ?_⟩, ?_⟩;rw[H];simp;rw[<-I];simp;show((A.length:Int)).toNat+((V.length+W.length-A.length:Nat):Int).toNat<A.length+(V.length+W.length);omega;cases O
end
end
variable{G:List RV→List RV→Bool}{B:List RK}
section
attribute[local simp] IE.den BE.den RE.rv RE.den eG aa.rv aa.ext aa.add SV.xv sf ET EU EV xT xU LE.rows kG kX
attribute[local congr] ES
def atZ(l:List (List RV))(x:List RV):aU G (l++[x])=cU G x (aU G l):=by simp[aU]
def alV{lt:List RV->List RV->Bool}{x:List RV}:∀{L G:List (List RV)},(∀l∈L,lt x l=false)->(∀g∈G,lt x g=true)->cU lt x (L++G)=L++x::G
 |[],[],_,_=>rfl
 |[],g::G,_,h=>by simp[cU,h g (by simp)]
 |l::L,G,Z,X=>by
  have W:=alV (L:=L) (G:=G) (λy V=>Z y (by simp[V])) X;simp only[axY,cU,Z l (by simp)];rw[W];simp
def alW(A R:List (List RV))(l x:List RV){j:Nat}(Z:j=A.length):((A++(l::x::R)).set (j+1) l).set j x=A++(x::l::R):=by
 subst Z;rw[azv _ _ (by omega),azG,azv _ _ (by omega),aAn];rfl
def TA{h:HP}{L:List LC}{d:RE->IE->List SV}(R:Aa h.K d){Z W:RE}{V U:IE}{N:aY}(M:X=n.i.length)(x y:List RV)(J:(Z.rv n).rows[(V.den n).toNat]?=some x)(I:(W.rv n).rows[(U.den n).toNat]?=some y)(Q:ga h.K x)(P:ga h.K y)(H:h.o.ok x=true)(G:h.o.ok y=true)
  (F:∀c:Int,(c<0<->h.o.lt x y=true)->t.hw h (n.add (.i c)) L):T.hw h (.call h.g [.agg (d Z V),.agg (d W U)] N B [.int .i64] (.int .i64 (.v X)) t) n L:=by
 subst M;exact⟨rfl,rfl,rfl,_,_,x,y,rfl,R.den n Z V x J Q,R.den n W U y I P,Q,P,H,G,F⟩
section
variable{K:List Bool}{e g:Nat}{o:aI}{d:RE->IE->List SV}
set_option maxHeartbeats 4000000 in
def alX (t:Aa K d) (ag:jq o.lt (λx=>o.ok x=true)):Ms K e g o 2 2 (Tu e g d):=by
 rintro p _ Z aA ns hP a5 ⟨V,n,U,rfl,b4,hn⟩ hT hN R a6;obtain⟨a,b,rfl⟩:=two hN;obtain⟨_,R⟩:=wu R;simp only[jX] at R;split at R;rename_i H;simp only[axI,decide_eq_true_eq,axU] at H;obtain⟨⟨⟨a7,a8⟩,iA⟩,al⟩:=H;obtain⟨a,rfl⟩:=vQ a7;obtain⟨b,rfl⟩:=vQ (a:=b) (by omega);simp only[axM,ayE] at R;have hb:b<=Z.length:=by omega
 have a8:a<=b:=by omega
 refine t8 ⟨K,g,o,e,.slice V n U,aA⟩ (hP▸a5) a6 _ _ _ ?_;unfold Tu;refine ua (λQ=>∃(i:Nat)(F:List (List RV)),Q=[.r (.mk (.slice V n U) F),.i i]/\a<i/\i<=b+1/\F=Z.take a++(aU o.lt (aJ Z a (min i b))++Z.drop (min i b))) (λQ=>match Q with|[_,.i i]=>b+1-i.toNat|_=>0) ⟨a+1,Z, ?_,by omega,by omega, ?_⟩ ?_;simp only[axV,ay2,SV.xv,RE.rv,aa.rv,ay1,IE.den];rw[Ab (by omega)];by_cases h:a+1<=b;rw[aAo h];have:aJ Z a (a+1)=[Z[a]'(by omega)]:=by
  simp only[aJ,show a+1-a=1 by omega];rw[ayG (by omega)];rfl
 rw[this];show Z=_++([Z[a]'(by omega)]++_);rw[<-this,IU Z (by omega)];have:b=a:=by omega
 subst this;rw[Nat.min_eq_right (by omega)];have:aJ Z b b=[]:=by simp[aJ]
 rw[this];show Z=Z.take b++([]++Z.drop b);simp;rintro _ ⟨i,F,rfl,b5,b6,bp⟩;by_cases an:i<b;rw[aAo (by omega)] at bp;obtain⟨x,hx⟩:∃x,x=Z[i]'(by omega):=⟨_,rfl⟩;have s:Z.drop i=x::Z.drop (i+1):=by rw[hx,ayG (by omega)]
 have hS:(aU o.lt (aJ Z a i)).length=i-a:=by rw[jC,nQ Z (by omega)]
 have a9:aJ Z a (i+1)=aJ Z a i++[x]:=by
  rw[mi Z (show a<=i by omega) (show i<=i+1 by omega)];congr 1;simp only[aJ,azG,s];rfl
 have N:∀y,y∈Z.take a\/y∈aU o.lt (aJ Z a i)\/y=x\/y∈Z.drop (i+1)->ga K y/\o.ok y=true:=by
  intro y W;have:y∈Z:=by
   rcases W with h|h|rfl|h;exact ayP h;exact pX (EO h);rw[hx];exact ayT _;exact ayL h
  exact⟨hT y this,al y this⟩
 have q:ew o.lt (aU o.lt (aJ Z a i)):=EN ag λz hz=>al z (pX hz)
 have bb:(Z.take a).length=a:=by simp;omega
 have bd:(Z.drop (i+1)).length=n-(i+1):=by simp;omega
 generalize bf:aU o.lt (aJ Z a i)=S at bp hS N q;generalize b7:Z.take a=P at bp N bb R;generalize bk:Z.drop (i+1)=D at s N bd;rw[s] at bp;have a0:∀L G,S=L++G->(∀l∈L,o.lt x l=false)->(∀g∈G,o.lt x g=true)->P++(L++x::(G++D))=P++(aU o.lt (aJ Z a (min (i+1) b))++Z.drop (min (i+1) b)):=by
  intro L G E C h3;rw[aAo (by omega),a9,atZ,bf,E,alV C h3,bk];simp
 simp[an];refine ua (λQ=>∃(L G:List (List RV)),Q=[.r (.mk (.slice V n U) (P++(L++x::(G++D)))),.i ((a+L.length:Nat):Int)]/\S=L++G/\∀g∈G,o.lt x g=true) (λQ=>match Q with|[_,.i j]=>j.toNat|_=>0) ⟨S,[], ?_,by simp,by simp⟩ ?_;simp[bp,hS];omega;rintro _ ⟨L,G,rfl,X,m⟩;rcases List.eq_nil_or_concat L with rfl|⟨L,l,rfl⟩;simp;rw[Ab (by omega)];refine⟨⟨i+1,_,rfl,by omega,by omega, ?_⟩, ?_⟩;exact a0 [] G X (by simp) m;show b+1-((i+1:Nat):Int).toNat<b+1-i;omega;simp only[List.concat_eq_append] at X⊢;have b8:a+L.length+1<=i:=by
  have:=congrArg azO X;simp only[axX,ayu,azM] at this;omega
 have M:aR .sub .i64 (((a+(L.length+1):Nat)):Int) 1=((a+L.length:Nat):Int):=by rw[Tz (by omega) (by omega)];omega
 have B:=N x (by simp);have J:=N l (.inr (.inl (by rw[X];simp)));have e0:P++(L++[l]++x::(G++D))=(P++L)++(l::x::(G++D)):=by simp
 have k:((P++L)++(l::x::(G++D)))[a+(L.length+1)]?=some x:=by
  rw[axP (by simp;omega)];simp[show a+(L.length+1)-(P.length+L.length)=1 by omega]
 have f:((P++L)++(l::x::(G++D)))[a+L.length]?=some l:=by
  rw[axP (by simp;omega)];simp[show a+L.length-(P.length+L.length)=0 by omega]
 have ac:∀y∈(P++L)++(l::x::(G++D)),ga K y/\o.ok y=true:=by
  intro y W;refine N y ?_;simp only[axS,axT] at W;rcases W with(h|h)|h|h|h|h;exact .inl h;exact .inr (.inl (by rw[X];simp[h]));subst h;exact .inr (.inl (by rw[X];simp));exact .inr (.inr (.inl h));exact .inr (.inl (by rw[X];simp[h]));exact .inr (.inr (.inr h))
 have a1:((P++L)++(l::x::(G++D))).length=n:=by
  have:=congrArg azO X;simp only[axX,ayu,azM] at this;simp only[axX,ayu];omega
 rw[e0];have br:(((a+(L++[l]).length:Nat):Int))=((a+(L.length+1):Nat):Int):=by simp
 rw[br];have A:((a+(L.length+1):Nat):Int).toNat=a+(L.length+1):=rfl;have u:((a+L.length:Nat):Int).toNat=a+L.length:=rfl;have a2:((a+(L.length+1):Nat):Int)=((a+L.length:Nat):Int)+1:=by omega
 have bs:((a+(L.length+1):Nat):Int)<n:=by
  have:=a1;simp only[axX,ayu] at this;omega
 have a3:(a:Int)<((a+(L.length+1):Nat):Int):=by omega
 have bt:(0:Int)<=((a+L.length:Nat):Int):=by omega
 generalize hz:((a+(L.length+1):Nat):Int)=z at M A a2 bs a3⊢;generalize hw:((a+L.length:Nat):Int)=w at M u a2 bt⊢;generalize hR:(P++L)++(l::x::(G++D))=I at k f ac a1⊢;simp[M,a3];refine⟨⟨by omega,by simp[lenOf];omega⟩,⟨by omega,by simp[lenOf];omega⟩, ?_⟩;refine TA t rfl x l ?_ ?_ B.1 J.1 B.2 J.2 (λc H=> ?_);simp[A];exact k;simp[M,u];exact f;have c1:∀O:aa,O.r=[.mk (.slice V n U) Z,.mk (.slice V n U) F,.mk (.slice V n U) I]->O.i=[(a:Int),b,i,z,c]->azC (SV.bu O) (d (.v 2) (.bin .sub .i64 (.v 3) (.c 1)))=l:=λO E C=>t.bu O _ _ l (by simp[E,C,M,u];exact f) J.1
 have c2:∀(O:aa) rv,O.r=[.mk (.slice V n U) Z,.mk (.slice V n U) F,.mk (.slice V n U) I,rv]->O.i=[(a:Int),b,i,z,c]->azC (SV.bu O) (d (.v 2) (.v 3))=x:=λO rv E C=>t.bu O _ _ x (by simp[E,C,A];exact k) B.1
 simp[M];refine pJ (λbx=> ?_) (λbX=> ?_);rw[c1 _ rfl rfl,c2 _ _ rfl rfl];have m1:(I.modify z.toNat λaf=>eU af 0 l)=I.set (a+L.length+1) l:=by rw[A];exact Cl (λy W=>(ac y W).1) J.1
 have m2:((I.set (a+L.length+1) l).modify w.toNat λaf=>eU af 0 x)=(I.set (a+L.length+1) l).set (a+L.length) x:=by
  rw[u];refine Cl (λy W=> ?_) B.1;rcases ayQ W with h|rfl;exact(ac y h).1;exact J.1
 rw[m1,m2,<-hR,alW (P++L) (G++D) l x (by simp;omega)];refine⟨⟨by omega,by simp[lenOf];omega⟩,⟨by omega,by simp[lenOf];omega⟩,⟨by omega,by simp[lenOf];omega⟩,⟨L,l::G, ?_,by rw[X];simp,λg' b0=> ?_⟩, ?_⟩;simp;omega;rcases axT.1 b0 with rfl|h;exact H.1 bx;exact m g' h;show w.toNat<z.toNat;omega;have a4:o.lt x l=false:=by
  cases h:o.lt x l;rfl;exact absurd (H.2 h) bX
 have b1:∀y∈L++[l],o.lt x y=false:=by
  intro y W;rcases axS.1 W with h|h;have:o.lt l y=false:=by
   rw[X] at q;exact(ayc.1 (ayc.1 q).1).2.2 y h l (by simp)
  have b2:=N y (.inr (.inl (by rw[X];simp[h])));exact ag.nt x l y B.2 J.2 b2.2 a4 this;simp at h;subst h;exact a4
 rw[Ab (by omega)];refine⟨⟨i+1,_,rfl,by omega,by omega, ?_⟩, ?_⟩;rw[<-a0 (L++[l]) G X b1 m,<-hR];simp;show b+1-((i+1:Nat):Int).toNat<b+1-i;omega;have b3:min i b=b:=Nat.min_eq_right (by omega);rw[b3,R] at bp;simp[an];exact⟨1,rfl,by rw[bp];rfl⟩;cases R
end
end
variable{E:Value}
section
attribute[local simp] IE.den BE.den RE.rv RE.den eG aa.rv aa.ext aa.add SV.xv sf ET EU EV xT xU LE.rows kG kX
attribute[local congr] ES
def at0(h:X<=4398046511104):IntKind.i64.wrap (aR .shr .u64 (IntKind.u64.wrap (X:Int)) 1)=((X/2:Nat):Int):=by
 have e1:IntKind.u64.wrap (X:Int)=(X:Int):=by
  rw[IntKind.wrap_u64];omega
 rw[e1];simp only[aR];have Z:(2:Int)^min (Int.toNat 1) IntKind.u64.bits=2:=rfl;rw[Z,aAB _ (by omega),Mu (by omega) (by omega)];omega
def TC{o:aI}{N:Nat}{P X Y Q:List (List RV)}{a m b:Int}(Z:a=P.length)(W:m=P.length+X.length)(V:b=P.length+X.length+Y.length)(B:1<=X.length)(A:1<=Y.length)(y:X.length+Y.length<N)(U:(P++(X++(Y++Q))).length<=1099511627776)(R:∀z∈P++(X++(Y++Q)),o.ok z=true)(M:ew o.lt X)(J:ew o.lt Y):
  lN (N+3) o [a,m,b] (P++(X++(Y++Q)))=some (P++(aU o.lt (X++Y)++Q)):=by
 subst Z;subst W;subst V;unfold lN;rw[if_pos U];simp only[jX];have e1:((P.length:Int)).toNat=P.length:=rfl;have I:((P.length:Int)+X.length).toNat=P.length+X.length:=by omega
 have H:((P.length:Int)+X.length+Y.length).toNat=P.length+X.length+Y.length:=by omega
 rw[e1,I,H];have G:(P++(X++(Y++Q))).take P.length=P:=by simp
 have F:aJ (P++(X++(Y++Q))) P.length (P.length+X.length)=X:=Mv P X _;have E:aJ (P++(X++(Y++Q))) (P.length+X.length) (P.length+X.length+Y.length)=Y:=Mw (P:=P++X) (Q:=Q) (by simp) (by simp) rfl;have D:aJ (P++(X++(Y++Q))) P.length (P.length+X.length+Y.length)=X++Y:=Mw (P:=P) (Q:=Q) (by simp) rfl (by simp;omega);have C:(P++(X++(Y++Q))).drop (P.length+X.length+Y.length)=Q:=by
  have:P++(X++(Y++Q))=(P++(X++Y))++Q:=by simp
  rw[this,az4 (by simp;omega)]
 rw[G,F,E,D,C,if_pos];simp only[axI,decide_eq_true_eq,axU,alF];refine⟨⟨⟨⟨⟨⟨⟨by omega,by omega⟩,by omega⟩, ?_⟩,by omega⟩,R⟩,M⟩,J⟩;simp only[axX];omega
def TE(h:Z=[]\/U=[])(W:ew G Z)(V:ew G U):aU G (Z++U)=Z++U:=by
 rcases h with rfl|rfl;simpa using To V;simpa using To W
def at1{B Q:List (List RV)}{m b:Int}(X:q=Z.length)(W:m=Z.length+U.length)(V:b=Z.length+U.length+B.length)(D:1<=U.length)(C:1<=B.length)(R:(Z++(U++(B++Q))).length<=1099511627776):
  lN 1 I [q,m,b] (Z++(U++(B++Q)))=some (Z++(B++(U++Q))):=by
 subst X;subst W;subst V;unfold lN;rw[if_pos R];simp only[jX];have e1:((Z.length:Int)).toNat=Z.length:=rfl;have M:((Z.length:Int)+U.length).toNat=Z.length+U.length:=by omega
 have J:((Z.length:Int)+U.length+B.length).toNat=Z.length+U.length+B.length:=by omega
 rw[e1,M,J];have H:(Z++(U++(B++Q))).take Z.length=Z:=by simp
 have G:aJ (Z++(U++(B++Q))) Z.length (Z.length+U.length)=U:=Mv Z U _;have F:aJ (Z++(U++(B++Q))) (Z.length+U.length) (Z.length+U.length+B.length)=B:=Mw (P:=Z++U) (Q:=Q) (by simp) (by simp) rfl;have E:(Z++(U++(B++Q))).drop (Z.length+U.length+B.length)=Q:=by
  have:Z++(U++(B++Q))=(Z++(U++B))++Q:=by simp
  rw[this,az4 (by simp;omega)]
 rw[H,G,F,E,if_pos];simp only[axI,decide_eq_true_eq,axX];omega
abbrev IX:IE:=.bin .sub .i64 (.bin .add .i64 cn (.v 1)) (.v 3)
section
variable{d f g e N:Nat}{o:aI}{h:HP}{O:aa}{L:List LC}{a m b s r mid e1:Nat}
structure EW(O:aa)(a m b s:Nat)(mid e1:Nat):Prop where
 va:O.i.getD 0 0=a
 vm:O.i.getD 1 0=m
 vb:O.i.getD 2 0=b
 vs:O.i.getD 3 0=s
 Mx:cn.den O=mid
 ve:IX.den O=e1
def EW.add{rv:RV}(H:EW O a m b s mid e1):EW (O.add (.r rv)) a m b s mid e1:=by
 have Z:∀(x:Nat),IE.den (O.add (.r rv)) (.v x)=IE.den O (.v x):=λx=>rfl
 exact⟨H.va,H.vm,H.vb,H.vs,by rw[<-H.Mx];rfl,by rw[<-H.ve];rfl⟩
def Ac(H:EW O a m b s mid e1)(V:h.e=e){G F D:S}{Y Q:List (List RV)}(W:O.rv X=.mk E (Z++(U++(Y++Q))))(bi:X+1=O.r.length)(R:h.v=E)(M:h.aA=Z++(aU o.lt (U++Y)++Q))
  (n:Z.length=mid)(l:U.length=e1-mid)(k:Y.length=b-e1)(j:mid<=e1)(i:e1<=b)(f:b-mid<N)(A:(Z++(U++(Y++Q))).length<=1099511627776)(y:∀z∈Z++(U++(Y++Q)),o.ok z=true)(J:ew o.lt U)(I:ew o.lt Y)
  (x:G.rs[X+1]?=some (.own e))(w:F.rs[X]?=some (.own e))(u:D.rs[X]?=some (.own e)):
  T.hw h (.node (.cmp .lss cn IX) (.node (.cmp .lss IX (.v 2)) (.dq d g e (.cz (N+3) o [cn,IX,.v 2]) false (.v X) B (.out .normal G)) (.out .normal F)) (.out .normal D)) O L:=by
 have C:IE.den O (.v 2)=b:=H.vb;rw[sf];simp only[BE.den,eG,H.Mx,H.ve,decide_eq_true_eq];refine pJ (λt=> ?_) (λt=> ?_);rw[sf];simp only[BE.den,eG,H.ve,C,decide_eq_true_eq];refine pJ (λq=> ?_) (λq=> ?_);rw[xT];refine⟨Z++(aU o.lt (U++Y)++Q), ?_, ?_⟩;simp only[kX,axV,ay2,H.Mx,H.ve,C,RE.rv,W,RV.jz];exact TC (by omega) (by omega) (by omega) (by omega) (by omega) (by omega) A y J I;rw[xU];refine⟨.inl rfl,X+1,by rw[V];exact x, ?_⟩;have p:(O.rv X).val=E:=by rw[W];rfl
 rw[show(RE.v X).rv O=O.rv X from rfl,p,R,M];simp[aa.add,aa.rv,bi];rw[xU];refine⟨.inl rfl,X,by rw[V];exact w, ?_⟩;rw[W,R,M,TE (.inr (ayd (by omega))) J I];simp;rw[xU];refine⟨.inl rfl,X,by rw[V];exact u, ?_⟩;rw[W,R,M,TE (.inl (ayd (by omega))) J I];simp
def abv(H:EW O a m b s mid e1){J I:T}{Y R:List (List RV)}(W:O.rv X=.mk E (Z++(U++(Y++R))))
  (u:Z.length=a)(q:U.length=s-a)(p:Y.length=mid-s)(n:a<=s)(l:s<=mid)(k:mid-a<N)(F:(Z++(U++(Y++R))).length<=1099511627776)(D:∀z∈Z++(U++(Y++R)),o.ok z=true)(V:ew o.lt U)(Q:ew o.lt Y)
  (C:T.hw h t (O.add (.r (.mk E (Z++(aU o.lt (U++Y)++R))))) L)(A:O.rv X=.mk E (Z++(aU o.lt (U++Y)++R))->T.hw h J O L)(y:O.rv X=.mk E (Z++(aU o.lt (U++Y)++R))->T.hw h I O L):
  T.hw h (.node (.cmp .lss (.v 0) (.v 3)) (.node (.cmp .lss (.v 3) cn) (.dq d g e (.cz (N+3) o [.v 0,.v 3,cn]) false (.v X) B t) J) I) O L:=by
 have G:IE.den O (.v 0)=a:=H.va;have M:IE.den O (.v 3)=s:=H.vs;rw[sf];simp only[BE.den,eG,G,M,decide_eq_true_eq];refine pJ (λx=> ?_) (λx=> ?_);rw[sf];simp only[BE.den,eG,H.Mx,M,decide_eq_true_eq];refine pJ (λw=> ?_) (λw=> ?_);rw[xT];refine⟨Z++(aU o.lt (U++Y)++R), ?_, ?_⟩;simp only[kX,axV,ay2,H.Mx,G,M,RE.rv,W,RV.jz];exact TC (by omega) (by omega) (by omega) (by omega) (by omega) (by omega) F D V Q;simp only[RE.rv,W,RV.kf];exact C;refine A ?_;rw[W,TE (.inr (ayd (by omega))) V Q];simp;refine y ?_;rw[W,TE (.inl (ayd (by omega))) V Q];simp
def at2(H:EW O a m b s mid e1){M J:T}{W R:List (List RV)}(V:O.rv X=.mk E (Z++(U++(W++R))))
  (x:Z.length=s)(w:U.length=m-s)(u:W.length=e1-m)(q:s<=m)(p:m<=e1)(G:(Z++(U++(W++R))).length<=1099511627776)
  (F:T.hw h t (O.add (.r (.mk E (Z++(W++(U++R)))))) L)(D:O.rv X=.mk E (Z++(W++(U++R)))->T.hw h M O L)(C:O.rv X=.mk E (Z++(W++(U++R)))->T.hw h J O L):
  T.hw h (.node (.cmp .lss (.v 3) (.v 1)) (.node (.cmp .lss (.v 1) IX) (.dq f g e (.cz 1 o [.v 3,.v 1,IX]) false (.v X) B t) M) J) O L:=by
 have Q:IE.den O (.v 1)=m:=H.vm;have I:IE.den O (.v 3)=s:=H.vs;rw[sf];simp only[BE.den,eG,Q,I,decide_eq_true_eq];refine pJ (λz=> ?_) (λz=> ?_);rw[sf];simp only[BE.den,eG,H.ve,Q,decide_eq_true_eq];refine pJ (λy=> ?_) (λy=> ?_);rw[xT];refine⟨Z++(W++(U++R)), ?_, ?_⟩;simp only[kX,axV,ay2,H.ve,Q,I,RE.rv,V,RV.jz];exact at1 (by omega) (by omega) (by omega) (by omega) (by omega) G;simp only[RE.rv,V,RV.kf];exact F;refine D ?_;have:W=[]:=ayd (by omega);rw[V,this];simp;refine C ?_;have:U=[]:=ayd (by omega);rw[V,this];simp
end
section
variable{d f e g N:Nat}{o:aI}{O:aa}{L:List LC}{a m b s mid e1:Nat}{K:List Bool}
def TF{v:RV}(h:X=n.r.length):(n.add (.r v)).rv X=v:=by subst h;simp[aa.rv,aa.add]
def at3(a4:jq o.lt (λx=>o.ok x=true))(H:EW O a m b s mid e1)(c:O.r.length=2)(hc:O.rv 1=.mk E Z)
  (l:a<=s)(h2:s<=m)(h3:m<=e1)(J:e1<=b)(hb:b<=Z.length)(af:s<=mid)(a9:mid+m=e1+s)(ag:mid-a<N)(D:b-mid<N)(hl:Z.length<=1099511627776)(a1:∀z∈Z,o.ok z=true)(sA:ew o.lt (aJ Z a m))(sB:ew o.lt (aJ Z m b))
  (q1:∀i j,a<=i->i<s->e1<=j->j<b->o.lt (Z.getD j []) (Z.getD i [])=false)(q2:∀i j,s<=i->i<m->m<=j->j<e1->o.lt (Z.getD j []) (Z.getD i [])=true)
  (a2:U=Z.take a++(aU o.lt (aJ Z a b)++Z.drop b)):T.hw ⟨K,g,o,e,E,U⟩ (Mt e g f d N o) O L:=by
 have a5:=atL a4 a1 l h2 h3 J hb sA sB q1 q2;have e0:Z=Z.take a++(aJ Z a s++(aJ Z s m++(aJ Z m e1++(aJ Z e1 b++Z.drop b)))):=by
  have:=IU Z (show a<=b by omega);rw[mi Z (show a<=s by omega) (show s<=b by omega),mi Z h2 (show m<=b by omega),mi Z h3 J] at this;simpa using this.symm
 have l1:(aJ Z a s).length=s-a:=nQ Z (by omega);have l2:(aJ Z s m).length=m-s:=nQ Z (by omega);have l3:(aJ Z m e1).length=e1-m:=nQ Z (by omega);have C:(aJ Z e1 b).length=b-e1:=nQ Z (by omega);have lP:(Z.take a).length=a:=by simp;omega
 rw[mi Z l h2] at sA;rw[mi Z h3 J] at sB;have al:ew o.lt (aJ Z a s):=(ayc.1 sA).1;have B:ew o.lt (aJ Z s m):=(ayc.1 sA).2.1;have an:ew o.lt (aJ Z m e1):=(ayc.1 sB).1;have A:ew o.lt (aJ Z e1 b):=(ayc.1 sB).2.1;rw[a5] at a2;have a6:∀x,(x∈Z.take a\/x∈aJ Z a s\/x∈aJ Z s m\/x∈aJ Z m e1\/x∈aJ Z e1 b\/x∈Z.drop b)->o.ok x=true:=λx hx=>a1 x (by
  rcases hx with h|h|h|h|h|h;exact ayP h;exact pX h;exact pX h;exact pX h;exact pX h;exact ayL h)
 rw[e0] at hc hl;generalize Z.take a=P at*;generalize aJ Z a s=X at*;generalize aJ Z s m=I at*;generalize aJ Z m e1=W at*;generalize aJ Z e1 b=F at*;generalize Z.drop b=Q at*;have y:U=(P++aU o.lt (X++W))++(aU o.lt (I++F)++Q):=by rw[a2];simp
 have a7:∀x∈aU o.lt (X++W),x∈X\/x∈W:=λx hx=>by simpa using EO hx
 have a3:(aU o.lt (X++W)).length=mid-a:=by rw[jC];simp;omega
 have bb:P.length+(X.length+(I.length+(W.length+(F.length+Q.length))))<=1099511627776:=by simpa using hl
 have ac:∀z∈P++(X++(W++(I++(F++Q)))),o.ok z=true:=λz k=>a6 z (by
  simp only[axS] at k;rcases k with h|h|h|h|h|h;exact .inl h;exact .inr (.inl h);exact .inr (.inr (.inr (.inl h)));exact .inr (.inr (.inl h));exact .inr (.inr (.inr (.inr (.inl h))));exact .inr (.inr (.inr (.inr (.inr h)))))
 have w:∀z∈(P++aU o.lt (X++W))++(I++(F++Q)),o.ok z=true:=λz k=>ac z (by
  simp only[axS] at k⊢;rcases k with(h|h)|h|h|h;exact .inl h;rcases a7 z h with h|h;exact .inr (.inl h);exact .inr (.inr (.inl h));exact .inr (.inr (.inr (.inl h)));exact .inr (.inr (.inr (.inr (.inl h))));exact .inr (.inr (.inr (.inr (.inr h)))))
 have lU:(P++(X++(W++(I++(F++Q))))).length<=1099511627776:=by simp;omega
 have u:((P++aU o.lt (X++W))++(I++(F++Q))).length<=1099511627776:=by simp only[axX,a3];omega
 have t:(P++aU o.lt (X++W)).length=mid:=by simp only[axX,a3];omega
 have q:I.length=e1-mid:=by omega
 have a8:O.rv 1=.mk E ((P++X)++(I++(W++(F++Q)))):=by rw[hc];simp
 have a0:∀R:List (List RV),(P++X)++(W++R)=P++(X++(W++R)):=λR=>by simp
 have p:∀R:List (List RV),P++(aU o.lt (X++W)++R)=(P++aU o.lt (X++W))++R:=λR=>by simp
 unfold Mt;refine at2 H a8 (by simp;omega) l2 l3 h2 h3 (by simp;omega) ?_ (λn=> ?_) (λn=> ?_);have n:=TF (v:=.mk E ((P++X)++(W++(I++(F++Q))))) (show 2=O.r.length by omega);rw[a0] at n⊢;have V:=H.add (rv:=.mk E (P++(X++(W++(I++(F++Q))))));have M:(O.add (.r (.mk E (P++(X++(W++(I++(F++Q)))))))).r.length=3:=by simp[aa.add,c]
 refine abv V n lP l1 (by omega) l af ag lU ac al an ?_ (λG=> ?_) (λG=> ?_);refine Ac V.add rfl ((TF (show 3=_ from M.symm)).trans (by rw[p])) (by simp[aa.add,c]) rfl y t q C (by omega) J D u w B A rfl rfl rfl;refine Ac V rfl (G.trans (by rw[p])) (show 2+1=_ from M.symm) rfl y t q C (by omega) J D u w B A rfl rfl rfl;refine Ac V rfl (G.trans (by rw[p])) (show 2+1=_ from M.symm) rfl y t q C (by omega) J D u w B A rfl rfl rfl;rw[a0] at n;have V:=H;have M:=c;refine abv V n lP l1 (by omega) l af ag lU ac al an ?_ (λG=> ?_) (λG=> ?_);refine Ac V.add rfl ((TF (show 2=_ from M.symm)).trans (by rw[p])) (by simp[aa.add,M]) rfl y t q C (by omega) J D u w B A rfl rfl rfl;refine Ac V rfl (G.trans (by rw[p])) (show 1+1=_ from M.symm) rfl y t q C (by omega) J D u w B A rfl rfl rfl;refine Ac V rfl (G.trans (by rw[p])) (show 1+1=_ from M.symm) rfl y t q C (by omega) J D u w B A rfl rfl rfl;rw[a0] at n;have V:=H;have M:=c;refine abv V n lP l1 (by omega) l af ag lU ac al an ?_ (λG=> ?_) (λG=> ?_);refine Ac V.add rfl ((TF (show 2=_ from M.symm)).trans (by rw[p])) (by simp[aa.add,M]) rfl y t q C (by omega) J D u w B A rfl rfl rfl;refine Ac V rfl (G.trans (by rw[p])) (show 1+1=_ from M.symm) rfl y t q C (by omega) J D u w B A rfl rfl rfl;refine Ac V rfl (G.trans (by rw[p])) (show 1+1=_ from M.symm) rfl y t q C (by omega) J D u w B A rfl rfl rfl
end
end
section
attribute[local simp] IE.den BE.den RE.rv RE.den eG aa.rv aa.ext aa.add SV.xv sf ET EU EV xT xU LE.rows kG kX
attribute[local congr] ES
def getD_some(h:X<Z.length):Z[X]?=some (Z.getD X []):=by
 rw[axN,axK h];rfl
def My{i j:Nat}(h:i+j<=4398046511104):IntKind.i64.wrap (aR .shr .u64 (IntKind.u64.wrap (aR .add .i64 (i:Int) (j:Int))) 1)=(((i+j)/2:Nat):Int):=by
 rw[vP h];exact at0 h
def Mz(h:X<Z.length):aJ Z X (X+1)=[Z.getD X []]:=by
 have e:Z.getD X []=Z[X]:=by rw[axN,axK h];rfl
 simp only[aJ,azG];rw[ayG h,e];rfl
def at4(A R:List (List RV))(y x:List RV){j:Nat}(Z:j=A.length):((A++(x::y::R)).set j y).set (j+1) x=A++(y::x::R):=by
 subst Z;rw[azv _ _ (by omega),aAn,azv _ _ (by omega),azG];rfl
def bH(Z:List (List RV))(k:Nat):List RV:=Z.getD k []
def alY(h:X<Z.length):Z.drop X=bH Z X::Z.drop (X+1):=by
 rw[ayG h,bH,axN,axK h];rfl
section
variable{K:List Bool}{e g:Nat}{o:aI}{d:RE->IE->List SV}
set_option maxHeartbeats 4000000 in
def at5 (s:Aa K d) (p:jq o.lt (λx=>o.ok x=true)) {b:Nat} (b0:Z.length=X) (hn:X<=1099511627776) (E:∀x∈Z,ga K x) (ag:∀x∈Z,o.ok x=true)
  (hm:k=y+1) (b1:k<b) (hb:b<=Z.length) (l:ew o.lt (aJ Z k b)) (a7:U=Z.take y++(aU o.lt (aJ Z y b)++Z.drop b)):
  T.hw ⟨K,g,o,e,.slice J X H,U⟩ (abq e g d) ⟨[(y:Int),k,b],[],[.mk (.slice J X H) Z],[]⟩ []:=by
 subst hm;have P:y<Z.length:=by omega
 have al:∀W,W<Z.length->bH Z W∈Z:=λW Q=>ax4 (getD_some Q)
 have D:∀W,W<Z.length->ga K (bH Z W):=λW Q=>E _ (al W Q)
 have N:∀W,W<Z.length->o.ok (bH Z W)=true:=λW Q=>ag _ (al W Q)
 unfold abq;refine ua (λL=>∃(i j:Nat),L=[.r (.mk (.slice J X H) Z),.i i,.i j]/\y+1<=i/\i<=j/\j<=b/\(∀W,y+1<=W->W<i->o.lt (bH Z W) (bH Z y)=true)/\∀W,j<=W->W<b->o.lt (bH Z W) (bH Z y)=false) (λL=>match L with|[_,.i i,.i j]=>j.toNat-i.toNat|_=>0) ⟨y+1,b,rfl,by omega,by omega,by omega,by omega,by omega⟩ ?_;rintro _ ⟨i,j,rfl,an,b2,C,a0,a1⟩;by_cases a8:i<j;have B:=My (i:=i) (j:=j) (by omega);have a9:i<=(i+j)/2:=by omega
 have bb:(i+j)/2<j:=by omega
 generalize hq:(i+j)/2=q at B a9 bb;simp[a8,B,lenOf];refine⟨by omega,by omega, ?_⟩;refine TA s rfl (bH Z q) (bH Z y) ?_ ?_ (D q (by omega)) (D y P) (N q (by omega)) (N y P) (λc hc=> ?_);simp[B];exact getD_some (by omega);simp;exact getD_some P;simp[B];refine pJ (λbd=> ?_) (λbf=> ?_);rw[Ab (by omega)];refine⟨⟨q+1,j,rfl,by omega,by omega,C,λW I G=> ?_,a1⟩, ?_⟩;have F:=hc.1 bd;by_cases Q:W=q;subst Q;exact F;have f:=IW hb l (i:=W) (j:=q) (by omega) (by omega) (by omega);cases h:o.lt (bH Z W) (bH Z y);have:=p.nt _ _ _ (N q (by omega)) (N W (by omega)) (N y P) f h;rw[F] at this;cases this;rfl;show(j:Int).toNat-((q+1:Nat):Int).toNat<j-i;omega;have F:o.lt (bH Z q) (bH Z y)=false:=by
  cases h:o.lt (bH Z q) (bH Z y);rfl;exact absurd (hc.2 h) bf
 refine⟨⟨i,q,rfl,by omega,by omega,by omega,a0,λW I G=> ?_⟩, ?_⟩;by_cases Q:W=q;subst Q;exact F;have f:=IW hb l (i:=q) (j:=W) (by omega) (by omega) (by omega);exact p.nt _ _ _ (N W (by omega)) (N q (by omega)) (N y P) f F;show((q:Nat):Int).toNat-(i:Int).toNat<j-i;omega;have bk:i=j:=by omega
 subst bk;simp;have a2:aU o.lt (aJ Z y b)=aJ Z (y+1) i++bH Z y::aJ Z i b:=by
  have e0:aJ Z y b=bH Z y::(aJ Z (y+1) i++aJ Z i b):=by
   rw[<-mi Z an C,mi Z (show y<=y+1 by omega) (show y+1<=b by omega)];have:aJ Z y (y+1)=[bH Z y]:=Mz P;rw[this];rfl
  rw[e0];refine atI p (λz M=> ?_) (by rw[<-mi Z an C];exact l) (λV hy=> ?_) (λV hy=> ?_);rw[<-e0] at M;exact ag z (pX M);obtain⟨W,k1,k2,_,rfl⟩:=Cj hy;exact a0 W k1 k2;obtain⟨W,k1,k2,_,rfl⟩:=Cj hy;exact a1 W k1 k2
 have br:(Z.take y).length=y:=by simp;omega
 refine ua (λL=>∃(W:Nat)(R:List (List RV)),L=[.r (.mk (.slice J X H) R),.i W]/\y<=W/\W+1<=i/\R=(Z.take y++aJ Z (y+1) (W+1))++bH Z y::Z.drop (W+1)) (λL=>match L with|[_,.i W]=>i-W.toNat|_=>0) ⟨y,Z,by simp,by omega,by omega, ?_⟩ ?_;have e1:aJ Z (y+1) (y+1)=[]:=by simp[aJ]
 have:=IU Z (show y<=y+1 by omega);rw[Mz P] at this;rw[e1,azf];exact this.symm;rintro _ ⟨W,R,rfl,b3,b4,bp⟩;have a3:aR .sub .i64 (i:Int) 1=((i-1:Nat):Int):=Tz (by omega) (by omega);have A:(Z.take y++aJ Z (y+1) (W+1)).length=W:=by rw[axX,br,nQ Z (by omega)];omega
 by_cases Q:W<i-1;have hd:Z.drop (W+1)=bH Z (W+1)::Z.drop (W+1+1):=by
  exact alY (by omega)
 have gD:aJ Z (y+1) (W+1+1)=aJ Z (y+1) (W+1)++[bH Z (W+1)]:=by
  rw[mi Z (show y+1<=W+1 by omega) (show W+1<=W+1+1 by omega),Mz (by omega)];rfl
 have u:=D y P;have t:=D (W+1) (by omega);have a4:∀z∈R,ga K z:=λz M=>by
  rw[bp] at M;simp only[axS,axT] at M;rcases M with(h|h)|h|h;exact E z (ayP h);exact E z (pX h);subst h;exact u;exact E z (ayL h)
 rw[hd] at bp;generalize bH Z y=x at u bp a2;generalize bH Z (W+1)=V at t bp gD;have b5:R.length=X:=by
  rw[bp,axX,A];simp;omega
 have gx:R[W]?=some x:=by rw[bp,axP (by omega),A];simp
 have gy:R[W+1]?=some V:=by rw[bp,axP (by omega),A];simp
 have c1:∀O:aa,O.r=[.mk (.slice J X H) Z,.mk (.slice J X H) Z,.mk (.slice J X H) R]->O.i=[(y:Int),((y+1:Nat):Int),b,i,i,W]->azC (SV.bu O) (d (.v 2) (.bin .add .i64 (.v 5) (.c 1)))=V:=λO I G=>s.bu O _ _ V (by simp only[RE.rv,aa.rv,IE.den,I,G,azg,ay1,RV.jz,Ab (a:=W) (by omega)];exact gy) t
 have c2:∀(O:aa) rv,O.r=[.mk (.slice J X H) Z,.mk (.slice J X H) Z,.mk (.slice J X H) R,rv]->O.i=[(y:Int),((y+1:Nat):Int),b,i,i,W]->azC (SV.bu O) (d (.v 2) (.v 5))=x:=λO rv I G=>s.bu O _ _ x (by simp only[RE.rv,aa.rv,IE.den,I,G,azg,ay1,RV.jz];exact gx) u
 have m1:(R.modify W λac=>eU ac 0 V)=R.set W V:=Cl a4 t;have m2:((R.set W V).modify (W+1) λac=>eU ac 0 x)=(R.set W V).set (W+1) x:=Cl (λz M=>by
  rcases ayQ M with h|rfl;exact a4 z h;exact t) u
 have af:(W:Int)<((i-1:Nat):Int):=by omega
 have a5:=Ab (a:=W) (by omega);generalize hw:((W+1:Nat):Int)=w at a5;have bs:w.toNat=W+1:=by omega
 have a6:=at4 (Z.take y++aJ Z (y+1) (W+1)) (Z.drop (W+1+1)) V x A.symm;rw[<-bp] at a6;simp[a3,af,a5,lenOf];rw[c1 _ rfl rfl,c2 _ _ rfl rfl,bs,m1,m2,a6];refine⟨by omega,by omega,by omega,⟨W+1,_,by rw[hw],by omega,by omega, ?_⟩, ?_⟩;rw[gD];simp;show i-w.toNat<i-W;omega;have af:¬(W:Int)<((i-1:Nat):Int):=by omega
 have bt:W+1=i:=by omega
 rw[bt] at bp;have hd:=IU (Z.drop 0) (show i<=i by omega);have bx:Z.drop i=aJ Z i b++Z.drop b:=by
  have:=mi Z C (show b<=b by omega);simp only[aJ];have e:Z.drop b=(Z.drop i).drop (b-i):=by rw[azA];congr 1;omega
  rw[e,ay3]
 have bX:R=U:=by
  rw[bp,a7,a2,bx];simp
 simp[a3,af];exact⟨2,rfl,by rw[bX];rfl⟩
set_option maxHeartbeats 4000000 in
def at6 (s:Aa K d) (p:jq o.lt (λx=>o.ok x=true)) {b:Nat} (b0:Z.length=X) (hn:X<=1099511627776) (D:∀x∈Z,ga K x) (a0:∀x∈Z,o.ok x=true)
  (hm:b=k+1) (b1:y<k) (hb:b<=Z.length) (l:ew o.lt (aJ Z y k)) (a7:U=Z.take y++(aU o.lt (aJ Z y b)++Z.drop b)):
  T.hw ⟨K,g,o,e,.slice J X H,U⟩ (abr e g d) ⟨[(y:Int),k,b],[],[.mk (.slice J X H) Z],[]⟩ []:=by
 subst hm;have N:k<Z.length:=by omega
 have a1:∀W,W<Z.length->bH Z W∈Z:=λW P=>ax4 (getD_some P)
 have C:∀W,W<Z.length->ga K (bH Z W):=λW P=>D _ (a1 W P)
 have M:∀W,W<Z.length->o.ok (bH Z W)=true:=λW P=>a0 _ (a1 W P)
 unfold abr;refine ua (λQ=>∃(i j:Nat),Q=[.r (.mk (.slice J X H) Z),.i i,.i j]/\y<=i/\i<=j/\j<=k/\(∀W,y<=W->W<i->o.lt (bH Z k) (bH Z W)=false)/\∀W,j<=W->W<k->o.lt (bH Z k) (bH Z W)=true) (λQ=>match Q with|[_,.i i,.i j]=>j.toNat-i.toNat|_=>0) ⟨y,k,rfl,by omega,by omega,by omega,by omega,by omega⟩ ?_;rintro _ ⟨i,j,rfl,f,b2,ac,a2,a3⟩;by_cases a8:i<j;have B:=My (i:=i) (j:=j) (by omega);have a9:i<=(i+j)/2:=by omega
 have bb:(i+j)/2<j:=by omega
 generalize hq:(i+j)/2=q at B a9 bb;simp[a8,B,lenOf];refine⟨by omega,by omega, ?_⟩;refine TA s rfl (bH Z k) (bH Z q) ?_ ?_ (C k N) (C q (by omega)) (M k N) (M q (by omega)) (λc hc=> ?_);simp;exact getD_some N;simp[B];exact getD_some (by omega);simp[B];refine pJ (λb3=> ?_) (λb4=> ?_);rw[Ab (by omega)];have G:o.lt (bH Z k) (bH Z q)=false:=by
  cases h:o.lt (bH Z k) (bH Z q);rfl;have:=hc.2 h;omega
 refine⟨⟨q+1,j,rfl,by omega,by omega,ac,λW F I=> ?_,a3⟩, ?_⟩;by_cases P:W=q;subst P;exact G;have hs:=IW (show k<=Z.length by omega) l (i:=W) (j:=q) (by omega) (by omega) (by omega);exact p.nt _ _ _ (M k N) (M q (by omega)) (M W (by omega)) G hs;show(j:Int).toNat-((q+1:Nat):Int).toNat<j-i;omega;have G:o.lt (bH Z k) (bH Z q)=true:=hc.1 (by omega);refine⟨⟨i,q,rfl,by omega,by omega,by omega,a2,λW F I=> ?_⟩, ?_⟩;by_cases P:W=q;subst P;exact G;have hs:=IW (show k<=Z.length by omega) l (i:=q) (j:=W) (by omega) (by omega) (by omega);cases h:o.lt (bH Z k) (bH Z W);have:=p.nt _ _ _ (M k N) (M W (by omega)) (M q (by omega)) h hs;rw[G] at this;cases this;rfl;show((q:Nat):Int).toNat-(i:Int).toNat<j-i;omega;have bd:i=j:=by omega
 subst bd;simp;have bf:aU o.lt (aJ Z y (k+1))=aJ Z y i++bH Z k::aJ Z i k:=by
  have e0:aJ Z y (k+1)=aJ Z y i++aJ Z i k++[bH Z k]:=by
   rw[<-mi Z f ac,mi Z (show y<=k by omega) (show k<=k+1 by omega),Mz N];rfl
  rw[e0];refine atJ p (λz L=> ?_) (by rw[<-mi Z f ac];exact l) (λV hy=> ?_) (λV hy=> ?_);rw[<-e0] at L;exact a0 z (pX L);obtain⟨W,k1,k2,_,rfl⟩:=Cj hy;exact a2 W k1 k2;obtain⟨W,k1,k2,_,rfl⟩:=Cj hy;exact a3 W k1 k2
 refine ua (λQ=>∃(W:Nat)(R:List (List RV)),Q=[.r (.mk (.slice J X H) R),.i W]/\i<=W/\W<=k/\R=Z.take W++bH Z k::(aJ Z W k++Z.drop (k+1))) (λQ=>match Q with|[_,.i W]=>W.toNat|_=>0) ⟨k,Z,by simp,by omega,by omega, ?_⟩ ?_;have e1:aJ Z k k=[]:=by simp[aJ]
 rw[e1,ax2,<-alY N,ay3];rintro _ ⟨W,R,rfl,b5,b6,bp⟩;by_cases P:i<W;obtain⟨q,rfl⟩:∃q,W=q+1:=⟨W-1,by omega⟩;have af:aR .sub .i64 (((q+1:Nat)):Int) 1=(q:Int):=by rw[Tz (by omega) (by omega)];omega
 have A:(Z.take q).length=q:=by simp;omega
 have bk:Z.take (q+1)=Z.take q++[bH Z q]:=by
  rw[aBq,getD_some (show q<Z.length by omega)];rfl
 have gD:aJ Z q k=bH Z q::aJ Z (q+1) k:=by
  rw[mi Z (show q<=q+1 by omega) (show q+1<=k by omega),Mz (by omega)];rfl
 have ag:=C k N;have u:=C q (by omega);have E:R=Z.take q++(bH Z q::bH Z k::(aJ Z (q+1) k++Z.drop (k+1))):=by rw[bp,bk];simp
 have a4:∀z∈R,ga K z:=λz L=>by
  rw[E] at L;simp only[axS,axT] at L;rcases L with h|h|h|h|h;exact D z (ayP h);subst h;exact u;subst h;exact ag;exact D z (pX h);exact D z (ayL h)
 have a5:=alW (Z.take q) (aJ Z (q+1) k++Z.drop (k+1)) (bH Z q) (bH Z k) A.symm;rw[<-E] at a5;have b7:R.length=X:=by
  rw[E,axX,A];simp only[ayu,axX,nQ Z (show k<=Z.length by omega),ay9];omega
 have gx:R[q+1]?=some (bH Z k):=by rw[E,axP (by omega),A];simp
 have gy:R[q]?=some (bH Z q):=by rw[E,axP (by omega),A];simp
 have a6:(i:Int)<((q+1:Nat):Int):=by omega
 have br:((q+1:Nat):Int)<X:=by omega
 have al:((q+1:Nat):Int).toNat=q+1:=rfl;have bs:(0:Int)<=((q+1:Nat):Int):=by omega
 have bt:∀t,t=Z.take q++bH Z k::(aJ Z q k++Z.drop (k+1))->ER (some ⟨1,λQ=>∃(W:Nat)(R:List (List RV)),Q=[.r (.mk (.slice J X H) R),.i W]/\i<=W/\W<=k/\R=Z.take W++bH Z k::(aJ Z W k++Z.drop (k+1)),λQ=>match Q with|[_,.i W]=>W.toNat|_=>0,q+1⟩) [.r (.mk (.slice J X H) t),.i q]:=λt I=>⟨⟨q,t,rfl,by omega,by omega,I⟩,show(q:Int).toNat<q+1 by omega⟩
 generalize hw:((q+1:Nat):Int)=w at af a6 br al bs⊢;have c1:∀O:aa,O.r=[.mk (.slice J X H) Z,.mk (.slice J X H) Z,.mk (.slice J X H) R]->O.i=[(y:Int),k,((k+1:Nat):Int),i,i,w]->azC (SV.bu O) (d (.v 2) (.bin .sub .i64 (.v 5) (.c 1)))=bH Z q:=λO F I=>s.bu O _ _ _ (by simp only[RE.rv,aa.rv,IE.den,F,I,azg,ay1,RV.jz,af];exact gy) u
 have c2:∀(O:aa) rv,O.r=[.mk (.slice J X H) Z,.mk (.slice J X H) Z,.mk (.slice J X H) R,rv]->O.i=[(y:Int),k,((k+1:Nat):Int),i,i,w]->azC (SV.bu O) (d (.v 2) (.v 5))=bH Z k:=λO rv F I=>s.bu O _ _ _ (by simp only[RE.rv,aa.rv,IE.den,F,I,azg,ay1,RV.jz,al];exact gx) ag
 have m1:(R.modify (q+1) λan=>eU an 0 (bH Z q))=R.set (q+1) (bH Z q):=Cl a4 u;have m2:((R.set (q+1) (bH Z q)).modify q λan=>eU an 0 (bH Z k))=(R.set (q+1) (bH Z q)).set q (bH Z k):=Cl (λz L=>by
  rcases ayQ L with h|rfl;exact a4 z h;exact u) ag
 simp[af,a6,lenOf];rw[c1 _ rfl rfl,c2 _ _ rfl rfl,al,m1,m2,a5];refine⟨by omega,by omega,by omega, ?_⟩;exact bt _ (by rw[gD];simp);have bx:W=i:=by omega
 subst bx;have bX:R=U:=by
  have ht:Z.take W=Z.take y++aJ Z y W:=by
   have e1:=IU Z f;have e2:(Z.take y++aJ Z y W).length=W:=by rw[axX,nQ Z (by omega)];simp;omega
   calc Z.take W=(Z.take y++aJ Z y W++Z.drop W).take W:=by rw[azd,e1]
    _=_:=by rw[azQ (by omega),ay0 (by omega)]
  rw[bp,a7,bf,ht];simp
 simp;exact⟨2,rfl,by rw[bX];rfl⟩
end
end
section
attribute[local simp] IE.den BE.den RE.rv RE.den eG aa.rv aa.ext aa.add SV.xv sf ET EU EV xT xU LE.rows kG kX
attribute[local congr] ES
section
variable{K:List Bool}{e g f l N:Nat}{o:aI}{d:RE->IE->List SV}
set_option maxHeartbeats 4000000 in
def alZ (a2:Aa K d) (Q:jq o.lt (λx=>o.ok x=true)) {b lo hi:Nat} (bd:Z.length=X) (hn:X<=1099511627776) (hT:∀x∈Z,ga K x) (p:∀x∈Z,o.ok x=true)
  (bf:y<k) (bk:k<b) (hb:b<=Z.length) (hN:b-y<N+1) (br:2<=b-y) (sA:ew o.lt (aJ Z y k)) (sB:ew o.lt (aJ Z k b)) (a3:U=Z.take y++(aU o.lt (aJ Z y b)++Z.drop b))
  (l1:y<=lo) (l2:lo<=hi) (l3:hi<=k) (l4:hi<=(y+b)/2) (l5:(y+b)/2+k<=lo+b) (l6:lo=y\/lo+b=(y+b)/2+k) (l7:hi=k\/hi=(y+b)/2)
  {ks:List LK} (a4:C.map (SV.xv ⟨[(y:Int),k,b],[],[.mk (.slice J X H) Z],[]⟩)=[.r (.mk (.slice J X H) Z),.i lo,.i hi]):
  T.hw ⟨K,g,o,e,.slice J X H,U⟩ (.loop 0 ks C (.node (.cmp .lss (.v 3) (.v 4)) (Tv g d) (Mt e g f l N o))) ⟨[(y:Int),k,b],[],[.mk (.slice J X H) Z],[]⟩ []:=by
 have ac:∀W,W<Z.length->bH Z W∈Z:=λW I=>ax4 (getD_some I)
 have af:∀W,W<Z.length->ga K (bH Z W):=λW I=>hT _ (ac W I)
 have V:∀W,W<Z.length->o.ok (bH Z W)=true:=λW I=>p _ (ac W I)
 have B:=My (i:=y) (j:=b) (by omega);have bs:y<(y+b)/2/\(y+b)/2<b:=by omega
 generalize bt:(y+b)/2=R at*;have A:∀i j,y<=i->i<=j->j<k->o.lt (bH Z j) (bH Z i)=false:=λi j P G F=>by
  by_cases h:i=j;subst h;exact Q.Tn _ (V i (by omega));exact IW (show k<=Z.length by omega) sA P (by omega) F
 have z:∀i j,k<=i->i<=j->j<b->o.lt (bH Z j) (bH Z i)=false:=λi j P G F=>by
  by_cases h:i=j;subst h;exact Q.Tn _ (V i (by omega));exact IW hb sB P (by omega) F
 refine ua (λu=>∃(s r:Nat),u=[.r (.mk (.slice J X H) Z),.i s,.i r]/\lo<=s/\s<=r/\r<=hi/\(∀c,lo<=c->c<s->o.lt (bH Z (R+k-1-c)) (bH Z c)=false)/\∀c,r<=c->c<hi->o.lt (bH Z (R+k-1-c)) (bH Z c)=true) (λu=>match u with|[_,.i i,.i j]=>j.toNat-i.toNat|_=>0) ⟨lo,hi,a4,by omega,l2,by omega,by omega,by omega⟩ ?_;rintro _ ⟨s,r,rfl,bx,bX,a5,ag,al⟩;by_cases a6:s<r;have E:=My (i:=s) (j:=r) (by omega);have a7:s<=(s+r)/2:=by omega
 have a8:(s+r)/2<r:=by omega
 generalize hq:(s+r)/2=q at E a7 a8;have an:=vP (a:=R) (b:=k) (by omega);have a0:=Tz (a:=R+k) (by omega) (by omega);have a1:=ub (a:=R+k-1) (b:=q) (by omega) (by omega);unfold Tv;simp[a6,E,lenOf,B];rw[an,a0,a1];refine⟨by omega,by omega, ?_⟩;refine TA a2 rfl (bH Z (R+k-1-q)) (bH Z q) ?_ ?_ (af _ (by omega)) (af q (by omega)) (V _ (by omega)) (V q (by omega)) (λc hc=> ?_);simp[E,B];rw[an,a0,a1];exact getD_some (by omega);simp[E];exact getD_some (by omega);simp[E];refine pJ (λb0=> ?_) (λb1=> ?_);rw[Ab (by omega)];have t:o.lt (bH Z (R+k-1-q)) (bH Z q)=false:=by
  cases h:o.lt (bH Z (R+k-1-q)) (bH Z q);rfl;have:=hc.2 h;omega
 refine⟨⟨q+1,r,rfl,by omega,by omega,a5,λW P G=> ?_,al⟩, ?_⟩;have O:=A W q (by omega) (by omega) (by omega);have M:=z (R+k-1-q) (R+k-1-W) (by omega) (by omega) (by omega);have L:=Q.nt _ _ _ (V _ (by omega)) (V _ (by omega)) (V q (by omega)) M t;exact Q.nt _ _ _ (V _ (by omega)) (V q (by omega)) (V W (by omega)) L O;show(r:Int).toNat-((q+1:Nat):Int).toNat<r-s;omega;have t:o.lt (bH Z (R+k-1-q)) (bH Z q)=true:=hc.1 (by omega);refine⟨⟨s,q,rfl,by omega,by omega,by omega,ag,λW P G=> ?_⟩, ?_⟩;cases h:o.lt (bH Z (R+k-1-W)) (bH Z W);have O:=A q W (by omega) (by omega) (by omega);have M:=z (R+k-1-W) (R+k-1-q) (by omega) (by omega) (by omega);have L:=Q.nt _ _ _ (V _ (by omega)) (V _ (by omega)) (V W (by omega)) M h;have D:=Q.nt _ _ _ (V _ (by omega)) (V W (by omega)) (V q (by omega)) L O;rw[t] at D;cases D;rfl;show((q:Nat):Int).toNat-(s:Int).toNat<r-s;omega;have a9:s=r:=by omega
 subst a9;simp;refine at3 Q (a:=y) (m:=k) (b:=b) (s:=s) (mid:=R) (e1:=R+k-s) ⟨rfl,rfl,rfl,rfl, ?_, ?_⟩ rfl rfl (by omega) (by omega) (by omega) (by omega) hb (by omega) (by omega) (by omega) (by omega) (by omega) p sA sB (λi j P G F h4=> ?_) (λi j P G F h4=> ?_) a3;simp[B];simp[B];rw[vP (by omega),ub (by omega) (by omega)];have bb:lo<s:=by
  rcases l6 with h|h<;>omega
 have w:=ag (s-1) (by omega) (by omega);rw[show R+k-1-(s-1)=R+k-s by omega] at w;have O:=A i (s-1) (by omega) (by omega) (by omega);have M:=z (R+k-s) j (by omega) (by omega) (by omega);have L:=Q.nt _ _ _ (V j (by omega)) (V _ (by omega)) (V (s-1) (by omega)) M w;exact Q.nt _ _ _ (V j (by omega)) (V (s-1) (by omega)) (V i (by omega)) L O;have bb:s<hi:=by
  rcases l7 with h|h<;>omega
 have w:=al s (by omega) (by omega);cases h:o.lt (bH Z j) (bH Z i);have O:=A s i (by omega) (by omega) (by omega);have M:=z j (R+k-1-s) (by omega) (by omega) (by omega);have L:=Q.nt _ _ _ (V _ (by omega)) (V j (by omega)) (V i (by omega)) M h;have D:=Q.nt _ _ _ (V _ (by omega)) (V i (by omega)) (V s (by omega)) L O;rw[w] at D;cases D;exact h
def at7{m b:Int}:jX (X+4) I [q,m,b] Z=if decide (0<=q)&&decide (q<m)&&decide (m<b)&&decide (b<=Z.length)&&decide (b-q<((X+1:Nat):Int))&&Z.all I.ok&&sG I.lt (aJ Z q.toNat m.toNat)&&sG I.lt (aJ Z m.toNat b.toNat) then some (Z.take q.toNat++(aU I.lt (aJ Z q.toNat b.toNat)++Z.drop b.toNat)) else none:=rfl
set_option maxHeartbeats 4000000 in
def al0 (X:Aa K d) (W:jq o.lt (λx=>o.ok x=true)):Ms K e g o (N+4) 3 (Tw e g f l N o d):=by
 rintro p _ G aA t F E ⟨D,n,C,rfl,V,U⟩ R B I A;obtain⟨a,m,b,rfl⟩:=xV B;obtain⟨_,Z⟩:=wu I;clear I;rw[at7] at Z;split at Z;rename_i H;simp only[axI,decide_eq_true_eq,axU,alF] at H;obtain⟨⟨⟨⟨⟨⟨⟨z,s⟩,r⟩,iA⟩,q⟩,Q⟩,P⟩,O⟩:=H;obtain⟨a,rfl⟩:=vQ z;obtain⟨m,rfl⟩:=vQ (a:=m) (by omega);obtain⟨b,rfl⟩:=vQ (a:=b) (by omega);simp only[axM,ayE] at Z P O;have M:b<=G.length:=by omega
 refine t8 ⟨K,g,o,e,.slice D n C,aA⟩ (F▸E) A _ _ _ ?_;unfold Tw;have J:=My (i:=a) (j:=b) (by omega);obtain⟨L,y⟩:∃L,L=(a+b)/2:=⟨_,rfl⟩;rw[<-y] at J;simp[ub (a:=m) (b:=a) (by omega) (by omega),ub (a:=b) (b:=m) (by omega) (by omega),J];refine pJ (λw=> ?_) (λw=>pJ (λv=> ?_) (λv=>pJ (λu=> ?_) (λu=> ?_)));exact at5 X W V U R Q (by omega) (by omega) M O Z.symm;exact at6 X W V U R Q (by omega) (by omega) M P Z.symm;refine alZ X W V U R Q (lo:=L+m-b) (hi:=L) (by omega) (by omega) M (by omega) (by omega) P O Z.symm (by omega) (by omega) (by omega) (by omega) (by omega) (by omega) (by omega) ?_;simp[J];rw[vP (by omega),ub (by omega) (by omega)];refine alZ X W V U R Q (lo:=a) (hi:=m) (by omega) (by omega) M (by omega) (by omega) P O Z.symm (by omega) (by omega) (by omega) (by omega) (by omega) (by omega) (by omega) ?_;simp;cases Z
end
end
section
attribute[local simp] IE.den BE.den RE.rv RE.den eG aa.rv aa.ext aa.add SV.xv sf ET EU EV xT xU LE.rows kG kX
attribute[local congr] ES
section
variable{lt:List RV->List RV->Bool}
inductive iu(lt:List RV->List RV->Bool)(s:Nat):List (List RV)->List (List RV)->Prop
 |nil:iu lt s [] []
 |last (X:List (List RV)):1<=X.length->X.length<=s->iu lt s X (aU lt X)
 |cons (X R R':List (List RV)):X.length=s->iu lt s R R'->iu lt s (X++R) (aU lt X++R')
inductive si(lt:List RV->List RV->Bool)(s:Nat):List (List RV)->List (List RV)->Prop
 |nil:si lt s [] []
 |snoc (A A' X:List (List RV)):X.length=s->si lt s A A'->si lt s (A++X) (A'++aU lt X)
def si.jr(h:si lt X Z U):∀{R V:List (List RV)},iu lt X R V->iu lt X (Z++R) (U++V):=by
 induction h with
 |nil=>intro R V Q;exact Q
 |snoc Z U W P _ O=>
  intro R V Q;have:=O (.cons W R V P Q);simpa using this
def si.len(h:si lt X Z U):U.length=Z.length:=by
 induction h with
 |nil=>rfl
 |snoc Z U W R _ V=>simp[V,jC]
def iu.len(h:iu lt X Z U):U.length=Z.length:=by
 induction h with
 |nil=>rfl
 |last W _ _=>simp[jC]
 |cons W R Q P _ V=>simp[V,jC]
def si.mem(h:si lt X Z U):∀x∈U,x∈Z:=by
 induction h with
 |nil=>simp
 |snoc Z U W V _ R=>
  intro x V;rcases axS.1 V with h|h;simp[R x h];simp[EO h]
def iu.mem(h:iu lt X Z U):∀x∈U,x∈Z:=by
 induction h with
 |nil=>simp
 |last W _ _=>intro x V;exact EO V
 |cons W R P V _ Q=>
  intro x V;rcases axS.1 V with h|h;simp[EO h];simp[Q x h]
def iu.two(J:1<=X)(h:iu lt X Z U)(P:2*X<=Z.length):∃W Y Q V,Z=W++(Y++Q)/\U=aU lt W++(aU lt Y++V)/\W.length=X/\Y.length=X/\iu lt X Q V:=by
 cases h with
 |nil=>simp at P;omega
 |last _ N M=>omega
 |cons W Z U O h=>
  simp only[axX] at P;cases h with
  |nil=>simp at P;omega
  |last _ N M=>exact⟨W,Z,[],[],by simp,by simp,O,by omega,.nil⟩
  |cons Y Q V L h=>exact⟨W,Y,Q,V,rfl,rfl,O,L,h⟩
def iu.one(h:iu lt X Z U)(V:X<Z.length)(P:Z.length<2*X):∃W Y,Z=W++Y/\U=aU lt W++aU lt Y/\W.length=X:=by
 cases h with
 |nil=>simp at V
 |last _ V P=>omega
 |cons W Z U O h=>
  simp only[axX] at V P;cases h with
  |nil=>simp at V;omega
  |last _ V P=>exact⟨W,Z,rfl,rfl,O⟩
  |cons Y Q N M h=>simp only[axX] at P;omega
def iu.short(h:iu lt X Z U)(P:Z.length<=X):U=aU lt Z:=by
 cases h with
 |nil=>rfl
 |last _ N M=>rfl
 |cons W Z U L h=>
  simp only[axX] at P;have V:Z=[]:=ayd (by omega);have Q:=h.len;rw[V] at Q;have O:U=[]:=ayd (by simpa using Q);rw[V,O];simp
def iu.abw(W:Z.length<=X):iu lt X Z (aU lt Z):=by
 cases Z with
 |nil=>exact .nil
 |cons x r=>exact .last _ (by simp) W
end
def al1{o:aI}{P X Q:List (List RV)}{a b:Int}(Z:a=P.length)(W:b=P.length+X.length)(V:(P++(X++Q)).length<=1099511627776)(U:∀z∈P++(X++Q),o.ok z=true):
  lN 2 o [a,b] (P++(X++Q))=some (P++(aU o.lt X++Q)):=by
 subst Z;subst W;unfold lN;rw[if_pos V];simp only[jX];have R:((P.length:Int)).toNat=P.length:=rfl;have O:((P.length:Int)+X.length).toNat=P.length+X.length:=by omega
 rw[R,O];have N:(P++(X++Q)).take P.length=P:=by simp
 have M:aJ (P++(X++Q)) P.length (P.length+X.length)=X:=Mv P X _;have L:(P++(X++Q)).drop (P.length+X.length)=Q:=by
  have:P++(X++Q)=(P++X)++Q:=by simp
  rw[this,az4 (by simp)]
 rw[N,M,L,if_pos];simp only[axI,decide_eq_true_eq,axU,axX];exact⟨⟨⟨by omega,by omega⟩,by omega⟩,U⟩
section
variable{K:List Bool}{e g c d:Nat}{o:aI}
set_option maxHeartbeats 4000000 in
def al2 (B:jq o.lt (λx=>o.ok x=true)):ari K e g o (λns O=>if ns=[]/\O.length<X then dB o true O else none) 0 (Tx e g c d X o):=by
 rintro p _ O aA ns hP bb ⟨J,n,I,rfl,a5,hn⟩ hT hN H bd;simp only at H;split at H;rename_i M;obtain⟨rfl,b1⟩:=M;have b2:=Vd H;have bf:(∀x∈O,o.ok x=true)/\aA=aU o.lt O:=by
  cases o with
  |cz k o zs=>simp[dB] at H
  |_=>
   simp only[dB] at H;split at H;rename_i f;simp only[axI,axU] at f;exact⟨f.2.1,(aym H).symm⟩;cases H
 obtain⟨ac,bk⟩:=bf;clear H;refine t8 ⟨K,g,o,e,.slice J n I,aA⟩ (hP▸bb) bd _ _ _ ?_;unfold Tx;refine ua (λV=>∃(A W R:List (List RV)),V=[.r (.mk (.slice J n I) (W++R)),.i ((A.length+20:Nat):Int),.i A.length]/\O=A++R/\si o.lt 20 A W) (λV=>match V with|[_,_,.i a]=>n-a.toNat|_=>0) ⟨[],[],O,by simp,rfl,.nil⟩ ?_;rintro _ ⟨A,W,R,rfl,L,G⟩;have br:=G.len;have af:A.length+R.length=n:=by rw[<-a5,L];simp
 have y:∀z∈W++R,o.ok z=true:=λz U=>ac z (by
  rw[L];rcases axS.1 U with h|h;simp[G.mem z h];simp[h])
 by_cases bs:A.length+20<=n;obtain⟨Z,v,rfl,C⟩:∃Z v,R=Z++v/\Z.length=20:=⟨R.take 20,R.drop 20,(ay3 _ _).symm,by simp;omega⟩;have cZ:=al1 (o:=o) (P:=W) (X:=Z) (Q:=v) (a:=A.length) (b:=((A.length+20:Nat):Int)) (by omega) (by omega) (by simp at af⊢;omega) y;have M:((A.length+20:Nat):Int)<=n:=by omega
 have ag:=vP (a:=A.length+20) (b:=20) (by omega);have u:ER (some ⟨0,λV=>∃(A W R:List (List RV)),V=[.r (.mk (.slice J n I) (W++R)),.i ((A.length+20:Nat):Int),.i A.length]/\O=A++R/\si o.lt 20 A W,λV=>match V with|[_,_,.i a]=>n-a.toNat|_=>0,n-A.length⟩) [.r (.mk (.slice J n I) (W++(aU o.lt Z++v))),.i (aR .add .i64 ((A.length+20:Nat):Int) 20),.i ((A.length+20:Nat):Int)]:=by
  refine⟨⟨A++Z,W++aU o.lt Z,v, ?_,by rw[L];simp,.snoc A W Z C G⟩, ?_⟩;rw[show((20:Int))=((20:Nat):Int) from rfl,ag];simp[C];show n-((A.length+20:Nat):Int).toNat<n-A.length;omega
 generalize U:((A.length+20:Nat):Int)=z at cZ M u⊢;simp[lenOf,M];exact⟨_,cZ,u⟩;have M:¬((A.length+20:Nat):Int)<=n:=by omega
 have cZ:=al1 (o:=o) (P:=W) (X:=R) (Q:=[]) (a:=A.length) (b:=n) (by omega) (by omega) (by simp;omega) (by simpa using y);simp only[azf] at cZ;generalize U:((A.length+20:Nat):Int)=z at M⊢;have hB:iu o.lt 20 O (W++aU o.lt R):=by rw[L];exact G.jr (.abw (by omega))
 simp[lenOf,M];refine⟨_,cZ, ?_⟩;clear cZ;generalize b3:W++aU o.lt R=bt at hB⊢;have b4:∀{F:List (List RV)}{s:Nat},iu o.lt s O F->∀z∈F,o.ok z=true:=λh z U=>ac z (h.mem z U)
 refine ua (λV=>∃(s:Nat)(F:List (List RV)),V=[.r (.mk (.slice J n I) F),.i s]/\20<=s/\s<=2*1099511627776/\iu o.lt s O F) (λV=>match V with|[_,.i s]=>4398046511104-s.toNat|_=>0) ⟨20,bt,rfl,by omega,by omega,hB⟩ ?_;rintro _ ⟨s,F,rfl,b5,b6,a6⟩;by_cases a7:s<n;have a0:aR .mul .i64 2 (s:Int)=((2*s:Nat):Int):=by simp only[aR];rw[Mu (by omega) (by omega)];omega
 have a1:aR .mul .i64 (s:Int) 2=((2*s:Nat):Int):=by simp only[aR];rw[Mu (by omega) (by omega)];omega
 have a2:∀al,iu o.lt (2*s) O al->ER (some ⟨1,λV=>∃(s:Nat)(F:List (List RV)),V=[.r (.mk (.slice J n I) F),.i s]/\20<=s/\s<=2*1099511627776/\iu o.lt s O F,λV=>match V with|[_,.i s]=>4398046511104-s.toNat|_=>0,4398046511104-s⟩) [.r (.mk (.slice J n I) al),.i ((2*s:Nat):Int)]:=λal h'=>⟨⟨2*s,al,rfl,by omega,by omega,h'⟩,show 4398046511104-((2*s:Nat):Int).toNat<4398046511104-s by omega⟩
 generalize a8:((2*s:Nat):Int)=w at a0 a1 a2;simp[a7,lenOf];refine ua (λV=>∃(A W R E:List (List RV)),V=[.r (.mk (.slice J n I) (W++E)),.i ((A.length+2*s:Nat):Int),.i A.length]/\O=A++R/\si o.lt (2*s) A W/\iu o.lt s R E) (λV=>match V with|[_,_,.i a]=>n-a.toNat|_=>0) ⟨[],[],O,F,by simp[a0,<-a8],rfl,.nil,a6⟩ ?_;rintro _ ⟨A,W,R,E,rfl,L,G,t⟩;have br:=G.len;have a9:=t.len;have af:A.length+R.length=n:=by rw[<-a5,L];simp
 have y:∀z∈W++E,o.ok z=true:=λz U=>ac z (by
  rw[L];rcases axS.1 U with h|h;simp[G.mem z h];simp[t.mem z h])
 have an:∀z∈R,o.ok z=true:=λz U=>ac z (by rw[L];simp[U])
 have has:=vP (a:=A.length) (b:=s) (by omega);by_cases bs:A.length+2*s<=n;obtain⟨Z,Y,Q,Q',rfl,rfl,C,hy,f⟩:=t.two (by omega) (by omega);have bx:(aU o.lt Z).length=s:=by rw[jC,C]
 have bX:(aU o.lt Y).length=s:=by rw[jC,hy]
 have q:∀z∈Z,o.ok z=true:=λz U=>an z (by simp[U])
 have l:∀z∈Y,o.ok z=true:=λz U=>an z (by simp[U])
 have D:=TC (o:=o) (N:=X) (P:=W) (X:=aU o.lt Z) (Y:=aU o.lt Y) (Q:=Q') (a:=A.length) (m:=((A.length+s:Nat):Int)) (b:=((A.length+2*s:Nat):Int)) (by omega) (by omega) (by omega) (by omega) (by omega) (by omega) (by simp only[axX] at a9 af⊢;omega) y (EN B q) (EN B l);rw[alB B q l] at D;have M:((A.length+2*s:Nat):Int)<=n:=by omega
 have ag:=vP (a:=A.length+2*s) (b:=2*s) (by omega);rw[a8] at ag;have u:ER (some ⟨2,λV=>∃(A W R E:List (List RV)),V=[.r (.mk (.slice J n I) (W++E)),.i ((A.length+2*s:Nat):Int),.i A.length]/\O=A++R/\si o.lt (2*s) A W/\iu o.lt s R E,λV=>match V with|[_,_,.i a]=>n-a.toNat|_=>0,n-A.length⟩) [.r (.mk (.slice J n I) (W++(aU o.lt (Z++Y)++Q'))),.i (aR .add .i64 ((A.length+2*s:Nat):Int) w),.i ((A.length+2*s:Nat):Int)]:=by
  refine⟨⟨A++(Z++Y),W++aU o.lt (Z++Y),Q,Q', ?_,by rw[L];simp,.snoc A W (Z++Y) (by simp;omega) G,f⟩, ?_⟩;rw[ag];simp[C,hy];omega;show n-((A.length+2*s:Nat):Int).toNat<n-A.length;omega
 generalize U:((A.length+2*s:Nat):Int)=z at D M u⊢;simp[lenOf,M,a0,has];exact⟨_,by simpa using D,u⟩;have M:¬((A.length+2*s:Nat):Int)<=n:=by omega
 generalize U:((A.length+2*s:Nat):Int)=z at M⊢;by_cases b7:A.length+s<n;obtain⟨Z,Y,rfl,rfl,C⟩:=t.one (by omega) (by omega);simp only[axX] at af a9;have bx:(aU o.lt Z).length=s:=by rw[jC,C]
 have bX:(aU o.lt Y).length=Y.length:=jC;have q:∀z∈Z,o.ok z=true:=λz U=>an z (by simp[U])
 have l:∀z∈Y,o.ok z=true:=λz U=>an z (by simp[U])
 have D:=TC (o:=o) (N:=X) (P:=W) (X:=aU o.lt Z) (Y:=aU o.lt Y) (Q:=[]) (a:=A.length) (m:=((A.length+s:Nat):Int)) (b:=n) (by omega) (by omega) (by omega) (by omega) (by omega) (by omega) (by simp only[axX,azM];omega) (by simpa using y) (EN B q) (EN B l);rw[alB B q l] at D;simp only[azf] at D;have j:((A.length+s:Nat):Int)<n:=by omega
 have a3:iu o.lt (2*s) O (W++aU o.lt (Z++Y)):=by rw[L];exact G.jr (.abw (by simp;omega))
 generalize b0:((A.length+s:Nat):Int)=z3 at has D j;simp[lenOf,M,has,j,a1];exact⟨_,D,a2 _ a3⟩;have j:¬((A.length+s:Nat):Int)<n:=by omega
 have a4:=t.short (by omega);have a3:iu o.lt (2*s) O (W++E):=by rw[L,a4];exact G.jr (.abw (by omega))
 generalize b0:((A.length+s:Nat):Int)=z3 at has j;simp[lenOf,M,has,j,a1];exact a2 _ a3;have a4:=a6.short (by omega);simp[a7,lenOf];exact⟨3,rfl,by rw[a4,bk];rfl⟩;cases H
end
end
end
end Go.Proofs.YtieaiocljdpebaaGreatDoor.Y
