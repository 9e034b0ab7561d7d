/- Part 15 of the proof; the last part says what is shown. -/
import Derived.Test.YtieaiocljdpebaaGreatDoorProg
import Derived.Test.YtieaiocljdpebaaGreatDoorQ6
import Derived.Test.YtieaiocljdpebaaGreatDoorQ14
import Derived.Test.YtieaiocljdpebaaGreatDoorQ4
import Derived.Test.YtieaiocljdpebaaGreatDoorQ2
import Derived.Test.YtieaiocljdpebaaGreatDoorQ1
import Derived.Test.YtieaiocljdpebaaGreatDoorQ13
import Derived.WalkKit
import Derived.LoopTactic
import Derived.Lib.Hide
import Derived.Outline
import Derived.OwnWalk
import Derived.Below
import Derived.RegionTactic
import Derived.BigQuiet
import Derived.Deep.QuietTactic
import Derived.WalkSpells
import Derived.WalkLawsBesides
import Derived.WalkSmall
import Derived.Deep.RegionWith
import Derived.StillTailTactics
set_option linter.all false
open Bool renaming and_eq_true->ayz,not_eq_true'->ayS,false_eq_true->ayV
open List renaming getElem?_eq_some_iff->ayA,getElem?_eq_getElem->ayB,getD_eq_getElem?_getD->ayC,getElem?_append_left->ayD,getElem?_map->ayF,getElem?_append_right->ayG,replicate->ayJ,mem_cons->ayK,mem_append->ayL,all_eq_true->ayM,length_append->ayN,map_cons->ayO,cons_append->ayP,nil_append->ayU,mem_of_getElem?->ayW,pairwise_cons->ayY,mem_map->ay1,ext_getElem?->ay3,eq_nil_of_length_eq_zero->ay4,pairwise_append->ay6,getElem?_take->ay7,length_map->azg,getElem?_of_mem->azh,getElem?_drop->azj,getElem?_cons_zero->azl,getElem?_eq_none_iff->azm,length_cons->azn,map_map->azo,getElem?_set->azr,mem_or_eq_of_mem_set->azs,append_assoc->azt,drop_eq_getElem_cons->azx,nodup_append->azA,mem_of_mem_drop->azB,mem_of_mem_take->azH,getElem_mem->azR,getD_cons_zero->azS,map_nil->azT,take_of_length_le->azX,foldl_cons->az0,take_append_drop->az1,length_drop->az2,getD_cons_succ->az5,length_take->az6,append_nil->aAc,set_append_right->aAk,pairwise_iff_getElem->aAp,drop_drop->aAr,length_nil->aAC,map->aAE,take_append_of_le_length->aAF,all_map->aAH,getElem?_modify->aAK,length->aAM,drop_left'->aAU,pairwise_singleton->aBF,set_cons_zero->aB9,take_add_one->aCi
open Option.some renaming injEq->ayE,inj->azd
open Nat renaming le_refl->ayH,le_trans->azF,add_zero->azU,zero_le->aAq,add_sub_cancel_left->aAu,lt_of_lt_of_le->aAw,min_eq_left->aAR,sub_self->aBb,mul_le_mul->aBj,min_eq_right->aBE,mul_one->aCj
open Option renaming map_eq_some_iff->azC
open Array renaming getElem?_modify->az7,getElem?_eq_none->aBL
open List.Pairwise renaming nil->azu
open Int renaming toNat_natCast->azN,mul_le_mul_of_nonneg_right->aBf,natAbs_mul->aBk,mul_lt_mul_of_pos_right->aBn,fdiv_eq_ediv_of_nonneg->aBq
open List.Perm renaming refl->aBY,swap->aCl
namespace Go.Proofs.YtieaiocljdpebaaGreatDoor
open Go.RowKit
variable{n:Program}{R:World}{X H A:Nat}{E:Value}{P:TypeId}{Q:Array Value}
section
def at8(Z:Array TypeId)(t:TypeId)(x y:Int):(Builtin.min_ Z t #[.int .i64 x,.int .i64 y]).run n R=.ok (.int .i64 (min x y)) R:=by
 simp[Builtin.min_,Builtin.min2];omega
def at9(Z:Array TypeId)(t:TypeId)(x y:Int):(Builtin.max_ Z t #[.int .i64 x,.int .i64 y]).run n R=.ok (.int .i64 (max x y)) R:=by
 simp[Builtin.max_,Builtin.max2];omega
attribute[go_sem high] at8 at9
def Sl{V:Type}(R:V->List Value)(k:Nat)(w:World)(v:Value)(Z:List V):Prop:=
 ∃(a:Option Addr)(X W:Nat),v=.slice a X W/\Z.length=X/\X<=W/\W<=4611686018427387904/\
  ∀i(h:i<Z.length),∃b U,a=some ⟨b,U,none⟩/\b<w.heap.size/\∀j,j<k->w.cell? ⟨b,U+i*k+j,none⟩=(R Z[i])[j]?
def Sl.below{Z:Type}{W:Z->List Value}{w':World}{V:List Z}(h:Sl W X R E V)(U:Below R.heap.size R w'):Sl W X w' E V:=by
 obtain⟨a,P,O,N,M,L,J,I⟩:=h;refine⟨a,P,O,N,M,L,J,λi H=> ?_⟩;obtain⟨b,G,e,Q,F⟩:=I i H;exact⟨b,G,e,aAw Q U.size,λj D=>(U.cell (p:=⟨b,_,none⟩) Q).trans (F j D)⟩
def Ti(n:Int):List Value:=[.int .i64 n]
def Is{a b:Bool}(h:a=b):Ending.returned (.bool a)=.returned (.bool b):=by rw[h]
def alV{Z:World}(X:Below R.heap.size R Z):(∀b o,b<R.heap.size->Z.cell? ⟨b,o,none⟩=R.cell? ⟨b,o,none⟩)/\(∀b o,b<R.heap.size->Z.frozen? ⟨b,o,none⟩=R.frozen? ⟨b,o,none⟩):=
 ⟨λb o h=>X.cell (p:=⟨b,o,none⟩) h,λb o h=>X.frozen (p:=⟨b,o,none⟩) h⟩
def aua:List Value:=[.int .i64 0,.int .i64 29,.int .i64 20,.int .i64 21,.int .i64 29,.int .i64 0,.int .i64 20,.int .i64 (-21),.int .i64 0,.int .i64 (-29),.int .i64 (-20),.int .i64 (-21),.int .i64 (-29),.int .i64 0,.int .i64 (-20),.int .i64 21]
def abJ(w:World):Prop:=4<=w.heap.size/\∀i,i<16->w.cell? ⟨2,i,none⟩=aua[i]?
def abJ.below{w':World}(h:abJ R)(Z:Below R.heap.size R w'):abJ w':=
 ⟨azF h.1 Z.size,λi X=>(Z.cell (p:=⟨2,i,none⟩) (by have:=h.1;show 2<_;omega)).trans (h.2 i X)⟩
def vp{w':World}(h:Below R.heap.size R w')(o:Obj):Below R.heap.size R (w'.alloc o):=h.alloc h.size o
def abK{w':World}(h:Below R.heap.size R w'){p:Addr}(Z:R.heap.size<=p.block)(u:Value):Below R.heap.size R (w'.setCell p u):=h.setCell Z u
def zG{Z X:World}(h:Below R.heap.size R Z)(k:Below Z.heap.size Z X):Below R.heap.size R X:=h.trans (k.mono h.size)
def abL{w':World}(h:Below R.heap.size R w'):Below R.heap.size R w'.drew:=h.drew
def Bx(W:World)(b:Nat)(t:TypeId)(Z:Array Value):Prop:=W.heap[b]?=some (.cells Z t (0,0))
def Bx.lt(h:Bx R X P Q):X<R.heap.size:=by
 unfold Bx at h;by_cases Z:X<R.heap.size;exact Z;rw[aBL (by omega)] at h;cases h
def Bx.cell(h:Bx R X P Q):∀i,R.cell? ⟨X,i,none⟩=Q[i]?:=by
 intro i;unfold Bx at h;simp[World.cell?,h]
def Bx.new(w:World)(Z:Array Value)(t:TypeId):Bx (w.alloc (.cells Z t)) w.heap.size t Z:=by
 show(w.heap.push _)[w.heap.size]?=_;simp
def Bx.alloc(h:Bx R X P Q)(o:Obj):Bx (R.alloc o) X P Q:=
 (Below.heap_alloc R o X h.lt).trans h
def Bx.drew(h:Bx R X P Q):Bx R.drew X P Q:=h
def Bx.drewN(h:Bx R X P Q)(n:Nat):Bx (R.drewN n) X P Q:=h
def Bx.below{Z:World}(h:Bx R X P Q)(V:Below R.heap.size R Z):Bx Z X P Q:=
 (V.block X h.lt).trans h
def Bx.other(h:Bx R X P Q)(Z:X≠H)(u:Value):Bx (R.setCell ⟨H,A,none⟩ u) X P Q:=
 (Below.heap_setCell R _ u X Z).trans h
def Bx.set(h:Bx R X P Q)(u:Value):Bx (R.setCell ⟨X,H,none⟩ u) X P (Q.setIfInBounds H u):=by
 unfold Bx at*;simp[World.setCell,az7,h]
end
end Go.Proofs.YtieaiocljdpebaaGreatDoor
namespace Go.Proofs.YtieaiocljdpebaaGreatDoor.K
variable{u:Int}{M:List Int}
structure Range where
 Lo:Int
 Hi:Int
 deriving DecidableEq
structure fq where
 X:Range
 Y:Range
 deriving DecidableEq
structure Vec where
 X:Int
 Y:Int
 Z:Int
 deriving DecidableEq
def fq.zero:fq:=⟨⟨0,0⟩,⟨0,0⟩⟩
def vq(m:Int)(Z:List Int):Bool:=Z.all λn=> !(n< -m||n>m)
def fq.valid(b:fq):Bool:=vq 1099511627776 [b.X.Lo,b.X.Hi,b.Y.Lo,b.Y.Hi]&&decide (b.X.Lo<=b.X.Hi)&&decide (b.Y.Lo<=b.Y.Hi)
def fq.join(a b:fq):fq:=⟨⟨min a.X.Lo b.X.Lo,max a.X.Hi b.X.Hi⟩,⟨min a.Y.Lo b.Y.Lo,max a.Y.Hi b.Y.Hi⟩⟩
def Range.pg(x y:Range):Bool:=decide (x.Lo<=y.Hi)&&decide (y.Lo<=x.Hi)
def fq.pg(a b:fq):Bool:=a.X.pg b.X&&a.Y.pg b.Y
def fq.shift(a:fq)(x y:Int):fq:=⟨⟨a.X.Lo+x,a.X.Hi+x⟩,⟨a.Y.Lo+y,a.Y.Hi+y⟩⟩
def Vi(Z X:Int):Int:=if Z=0 then 0 else if Z+X>8 then Z+X-8 else Z+X
def aub(m:Int)(Z:List Int)(k:Nat)(h:k<Z.length):vq m (Z.take (k+1))=(vq m (Z.take k)&& !(Z[k]< -m||Z[k]>m)):=by
 unfold vq;rw[List.take_succ_eq_append_getElem h,List.all_append];simp
def auc{k:Nat}(h:vq u (M.take k)=false):vq u M=false:=by
 unfold vq at*;rw[List.all_eq_false] at*;obtain⟨x,Z,h⟩:=h;exact⟨x,azH Z,h⟩
end Go.Proofs.YtieaiocljdpebaaGreatDoor.K
namespace Go.Proofs.YtieaiocljdpebaaGreatDoor
open Go.RowKit
section
abbrev K.Range.v(x:K.Range):Value:=.agg #[.int .i64 x.Lo,.int .i64 x.Hi]
abbrev K.fq.v(x:K.fq):Value:=.agg #[.int .i64 x.X.Lo,.int .i64 x.X.Hi,.int .i64 x.Y.Lo,.int .i64 x.Y.Hi]
def K.fq.vs(x:K.fq):List Value:=[.int .i64 x.X.Lo,.int .i64 x.X.Hi,.int .i64 x.Y.Lo,.int .i64 x.Y.Hi]
set_option maxHeartbeats 400000 in
def aud (m:Int) (v:Value) (Z:List Int) (w:World) (G:0<=m) (F:m<=4611686018427387904) (L:Sl Ti 1 w v Z):
  Calls Tryz.prog 131 #[.int .i64 m,v] w λe w'=>e=.returned (.bool (K.vq m Z))/\w=w':=by
 obtain⟨a,X,E,rfl,V,D,C,U⟩:=L;have J:=Lib.hid U;clear U;have R:=Lib.hid V;clear V;go_enter Tryz.func131,Tryz.ntmps131;go_wp2
 go_loop [9] (λi=>∃k:Nat,k<=X/\i=.int .i64 k/\K.vq m (Z.take k)=true) (λi=>X-(intOf i).toNat)
 case atStart=>exact⟨0,aAq _,rfl,rfl⟩
 case round=>
  obtain⟨k,B,rfl,Q⟩:=hrel;have W:=Lib.hid Q;clear Q;by_cases I:k<X
  ·have P:k<Z.length:=by rw[R.out];exact I
   have O:=K.aub m Z k P;have N:=Lib.hid O;clear O;obtain⟨b,A,rfl,z,M⟩:=J.out k P;have H:=M 0 (by omega);clear M;simp only[Ti,azl,azU,aCj] at H;generalize Z[k]=y at*;go_wp2
   all_goals first
    |(go_ret;exact⟨Is (K.auc (k:=k+1) (by rw[N.out,W.out];simp<;>omega)).symm,rfl⟩)
    |(go_round
      case rel=>exact⟨k+1,by omega,by go_num,by rw[N.out,W.out];simp<;>omega⟩
      case measure=>simp[intOf];omega)
  ·go_wp2;go_ret;exact⟨Is (by rw[<-W.out,azX (by rw[R.out];omega)]),rfl⟩
set_option maxHeartbeats 400000 in
def L8 (x:K.fq) (r:Bool) (W:x.valid=r) (w:World):
  Calls Tryz.prog 66 #[x.v] w λe w'=>e=.returned (.bool r)/\Below w.heap.size w w':=by
 subst W;have V:Sl Ti 1 ((w.alloc (.cells #[.int .i64 x.X.Lo,.int .i64 x.X.Hi,.int .i64 x.Y.Lo,.int .i64 x.Y.Hi] 143)).alloc (.cells #[.int .i64 x.X.Lo,.int .i64 x.X.Hi,.int .i64 x.Y.Lo,.int .i64 x.Y.Hi] 3)) (.slice (some ⟨w.heap.size+1,0,none⟩) 4 4) [x.X.Lo,x.X.Hi,x.Y.Lo,x.Y.Hi]:=by
  refine⟨_,_,_,rfl,rfl,by omega,by omega,λi U=>⟨w.heap.size+1,0,rfl,by simp,λj R=> ?_⟩⟩;obtain rfl:j=0:=by omega
  simp at U;rcases i with _|_|_|_|i<;>first|omega|simp[Ti,go_sem]
 cases Z:K.vq 1099511627776 [x.X.Lo,x.X.Hi,x.Y.Lo,x.Y.Hi]
 all_goals
  go_enter Tryz.func66,Tryz.ntmps66
  go_wp2_with (go_at_call 131;refine(aud _ _ _ _ (by omega) (by omega) V).mono ?_;rw[Z];rintro e w' ⟨rfl,rfl⟩)
  all_goals(go_ret;exact⟨Is (by simp[K.fq.valid,Z]<;>omega),vp (vp (Below.refl _ _) _) _⟩)
set_option maxHeartbeats 400000 in
def abM (x y:K.Range) (r:Bool) (Z:x.pg y=r) (w:World):
  Calls Tryz.prog 73 #[x.v,y.v] w λe w'=>e=.returned (.bool r)/\Below w.heap.size w w':=by
 subst Z;by_cases X:x.Lo<=y.Hi
 all_goals
  go_enter Tryz.func73,Tryz.ntmps73;go_wp2
  all_goals(go_ret;exact⟨Is (by simp[K.Range.pg]<;>omega),vp (vp (Below.refl _ _) _) _⟩)
set_option maxHeartbeats 400000 in
def aue (a b:K.fq) (w:World):
  Calls Tryz.prog 67 #[a.v,b.v,.func (.func 73) #[] #[]] w λe w'=>e=.returned (.bool (a.pg b))/\Below w.heap.size w w':=by
 cases V:a.X.pg b.X
 ·have Z:=Lib.hid V;clear V;go_enter Tryz.func67,Tryz.ntmps67
  go_wp2_with (go_at_call 73;refine(abM ⟨_,_⟩ ⟨_,_⟩ false Z.out _).mono ?_;rintro e Q ⟨rfl,W⟩;obtain⟨P,O⟩:=alV W)
  go_ret;exact⟨Is (by simp[K.fq.pg,Z.out]),zG (vp (vp (Below.refl _ _) _) _) W⟩
 ·have Z:=Lib.hid V;clear V;cases U:a.Y.pg b.Y
  all_goals
   have R:=Lib.hid U;clear U;go_enter Tryz.func67,Tryz.ntmps67
   go_wp2_with fail
   refine(abM ⟨_,_⟩ ⟨_,_⟩ true Z.out _).mono ?_;rintro e Q ⟨rfl,W⟩;obtain⟨P,O⟩:=alV W
   go_wp2_with fail
   refine(abM ⟨_,_⟩ ⟨_,_⟩ _ R.out _).mono ?_;rintro e M ⟨rfl,N⟩;go_wp2;go_ret;exact⟨Is (by simp[K.fq.pg,Z.out,R.out]),zG (zG (vp (vp (Below.refl _ _) _) _) W) N⟩
abbrev K.Vec.v(x:K.Vec):Value:=.agg #[.int .i64 x.X,.int .i64 x.Y,.int .i64 x.Z]
set_option maxHeartbeats 1000000 in
def auf (a b:K.fq) (U:a.valid=true) (R:b.valid=true) (r:Bool) (Q:a.pg b= !r) (w:World):
  Calls Tryz.prog 26 #[a.v,b.v] w λe w'=>e=.returned (.tuple #[.bool r,.int .i64 0])/\Below w.heap.size w w':=by
 have P:=Lib.hid U;clear U;have O:=Lib.hid R;clear R;have N:=Lib.hid Q;clear Q;go_enter Tryz.func26,Tryz.ntmps26
 go_wp2_with fail
 refine(L8 ⟨⟨_,_⟩,⟨_,_⟩⟩ true P.out _).mono ?_;rintro e J ⟨rfl,X⟩;have W:=((Bx.new w _ _).alloc _).below X;have Z:=(Bx.new (w.alloc _) _ _).below X;simp only[World.size_alloc] at Z;have M:=Z.cell
 go_wp2_with fail
 refine(L8 ⟨⟨_,_⟩,⟨_,_⟩⟩ true O.out _).mono ?_;rintro e I ⟨rfl,V⟩;replace W:=W.below V;replace Z:=Z.below V;have H:=W.cell;have M:=Z.cell
 go_wp2_with fail
 refine(aue ⟨⟨_,_⟩,⟨_,_⟩⟩ ⟨⟨_,_⟩,⟨_,_⟩⟩ _).mono ?_;rw[show K.fq.pg ⟨⟨_,_⟩,⟨_,_⟩⟩ ⟨⟨_,_⟩,⟨_,_⟩⟩= !r from N.out];rintro e G ⟨rfl,L⟩;go_wp2
 go_ret2
 refine⟨by simp, ?_⟩
 repeat' first|with_reducible apply vp|with_reducible apply abL|(with_reducible refine abK ?_ (by dsimp only;omega) _)|with_reducible exact Below.refl _ _|(refine zG ?_ L)|(refine zG ?_ V)|(refine zG ?_ X)
end
end Go.Proofs.YtieaiocljdpebaaGreatDoor
namespace Go.Proofs.YtieaiocljdpebaaGreatDoor.Y
open Go.RowKit
noncomputable section
section
set_option maxHeartbeats 1000000 in
def aug (a b:K.fq) (Z:a.valid=false) (w:World):Calls Tryz.prog 26 #[a.v,b.v] w λe w'=>e=.returned (.tuple #[.bool false,.int .i64 150])/\Below w.heap.size w w':=by
 have V:=Lib.hid Z;clear Z;go_enter Tryz.func26,Tryz.ntmps26
 go_wp2_with fail
 refine(L8 ⟨⟨_,_⟩,⟨_,_⟩⟩ false V.out _).mono ?_;rintro e U ⟨rfl,X⟩;have W:=(Bx.new (w.alloc _) _ _).below X;simp only[World.size_alloc] at W;have R:=W.cell;go_wp2
 go_ret2
 refine⟨by simp, ?_⟩
 repeat' first|with_reducible apply vp|with_reducible apply abL|(with_reducible refine abK ?_ (by dsimp only;omega) _)|with_reducible exact Below.refl _ _|(refine zG ?_ X)
set_option maxHeartbeats 1000000 in
def auh (a b:K.fq) (U:a.valid=true) (R:b.valid=false) (w:World):Calls Tryz.prog 26 #[a.v,b.v] w λe w'=>e=.returned (.tuple #[.bool false,.int .i64 150])/\Below w.heap.size w w':=by
 have Q:=Lib.hid U;clear U;have P:=Lib.hid R;clear R;go_enter Tryz.func26,Tryz.ntmps26
 go_wp2_with fail
 refine(L8 ⟨⟨_,_⟩,⟨_,_⟩⟩ true Q.out _).mono ?_;rintro e N ⟨rfl,X⟩;have W:=((Bx.new w _ _).alloc _).below X;have Z:=(Bx.new (w.alloc _) _ _).below X;simp only[World.size_alloc] at Z;have O:=Z.cell
 go_wp2_with fail
 refine(L8 ⟨⟨_,_⟩,⟨_,_⟩⟩ false P.out _).mono ?_;rintro e M ⟨rfl,V⟩;replace W:=W.below V;replace Z:=Z.below V;have L:=W.cell;have O:=Z.cell;go_wp2
 go_ret2
 refine⟨by simp, ?_⟩
 repeat' first|with_reducible apply vp|with_reducible apply abL|(with_reducible refine abK ?_ (by dsimp only;omega) _)|with_reducible exact Below.refl _ _|(refine zG ?_ V)|(refine zG ?_ X)
end
variable{u j:Int}
section
def TM:gT:=⟨zv,λ_ _=>none⟩
def alX:abI TM false:=by
 refine⟨λf Z (h:zv f=some Z)=> ?_,λf Z (h:zv f=some Z)=> ?_,λf=>abG f⟩;unfold zv at h;split at h<;>cases h<;>first|exact alP|exact alQ|exact alR|exact alS|exact alT|exact alU
 unfold zv at h;split at h<;>cases h<;>exact id
def hTM(f:FuncId)(Z:Fn)(h:zv f=some Z):Ga TM f Z:=⟨h,λ_=>rfl⟩
def alZ{x y m n:Int}(Z:x.natAbs<=m.natAbs)(X:y.natAbs<=n.natAbs):(x*y).natAbs<=(m*n).natAbs:=by
 rw[aBk,aBk];exact aBj Z X
set_option maxHeartbeats 1000000 in
def aui {c d:Int} (V:iG u j=true) (U:iG c d=true) (W:World):Calls Tryz.prog 142 #[.agg #[.int .i64 u,.int .i64 j],.agg #[.int .i64 c,.int .i64 d]] W λe R=>e=.returned (.tuple #[.int .i64 (xj (u*d) (c*j)),.int .i64 0])/\Below W.heap.size W R:=by
 obtain⟨n,P⟩:=akc hTM u j c d;have O:=Te alX n 142 _ _ _ _ rfl rfl rfl rfl _ _ _ P (Tg _) ⟨trivial,trivial,trivial,trivial,trivial⟩ W (λh=>by cases h) (Th (by simp[pm]));refine Calls.mono O ?_;intro e R h;have Q:IntKind.i64.wrap (u*d)=u*d/\IntKind.i64.wrap (c*j)=c*j:=by
  simp[iG] at V U;have I:=alZ (x:=u) (y:=d) (m:=1073741824) (n:=1073741824) (by omega) (by omega);have H:=alZ (x:=c) (y:=j) (m:=1073741824) (n:=1073741824) (by omega) (by omega);rw[IntKind.wrap_i64,IntKind.wrap_i64];omega
 rw[Sz,V,U,Q.1,Q.2] at h;cases e with
 |returned v=>
  obtain⟨G,N,X,Z,F,rfl,M,_,_⟩:=h;cases X;rcases N with _|⟨_|_|_,_|⟨_|_|_,_|_⟩⟩<;>first|exact Z.elim|exact Z.1.elim|exact Z.2.elim|exact Z.2.1.elim|exact Z.2.2.elim|skip
  obtain⟨L,J,_⟩:=Z;cases L;cases J;exact⟨rfl,M⟩
 |panicked E=>obtain⟨_,v,X,_⟩:=h;cases X
 |outgrown=>exact h.elim
def auj(a b:Int)(W:World):Calls Tryz.prog 110 #[.int .i64 a,.int .i64 b] W λe V=>e=.returned (.int .i64 (xj a b))/\Below W.heap.size W V:=by
 obtain⟨n,U⟩:=aa0 hTM a b;have R:=Te alX n 110 _ _ _ _ rfl rfl rfl rfl _ _ _ U (Tg _) ⟨trivial,trivial,trivial⟩ W (λh=>by cases h) (Th (by simp[pm]));refine Calls.mono R ?_;intro e V h;cases e with
 |returned v=>
  obtain⟨N,Q,X,Z,M,rfl,P,_,_⟩:=h;cases X;rcases Q with _|⟨_|_|_,_|_⟩<;>first|exact Z.elim|exact Z.1.elim|exact Z.2.elim|skip
  obtain⟨O,_⟩:=Z;cases O;exact⟨rfl,P⟩
 |panicked L=>obtain⟨_,v,X,_⟩:=h;cases X
 |outgrown=>exact h.elim
end
variable{z:FuncId}{x:Func}{w:Code}{X H A:Nat}{C:List SV}{t:aa}{v:T}{P:TypeId}{J:Option Addr}{Z:List (List RV)}
section
def S.bare(s:S):S:=⟨[],[],s.ni,s.nb,s.rs,0,0,s.pd⟩
def Tj:XE->S->T:=λe s=>.out e s.bare
section
variable{m:List Nat}{g:World}{D:bz}{V:List Nat}{O:aa}{s:S}{a:Act}{W:World}{o:Ty}{cf:aY}{p:Sp}
def ap.bare(R:ap m g D o V O s a W):ap m g D o [] O s.bare ⟨#[],a.defers⟩ W where
 mem:=⟨R.mem.base,λi h=>by simp[S.bare,aE,bD] at h,λi j h=>by simp[S.bare,aE,bD] at h,λi t P h=>by simp[S.bare,bD] at h,λk e Z X U=>⟨(R.mem.ref k e Z X U).1,λb N i h=>by simp[S.bare,aE,bD] at h⟩⟩
 dS:=rfl
 ei:=R.ei
 eb:=R.eb
 er:=R.er
 bY:=R.bY
 size:=rfl
 tmps:=λt M h=>by simp[S.bare] at h
 dK:=λk e Z b X U Q=>⟨(R.dK k e Z b X U Q).own,(R.dK k e Z b X U Q).mem,λi h=>by simp[S.bare,aE,bD] at h,(R.dK k e Z b X U Q).alone,(R.dK k e Z b X U Q).inner⟩
def auk(M:iW p cf)(E:p.P.funcs[z]?=some x)(q:x.body=some w)(k:x.results.toList=[])(j:p.D=bz.none){s:S}{V:List Nat}
  (i:dF cf X z w {s with tmps:=C++ayJ (x.ntmps-C.length) (.bh [])} fD Tj=v)(I:v.aH p t [])(h:dg cf.gl t)(R:ap p.S0 p.w0 bz.none cf.ty V t {s with tmps:=[]} ⟨#[],[]⟩ p.w0)
  (b:∀e a W,p.Q e a W->(e=.normal\/e=.ret)/\p.R (.returned (.tuple #[])) W):
  Calls p.P z (SV.au t V C).toArray p.w0 p.R:=by
 subst i;refine JG E q ?_;have RE:=R.enter C x.ntmps R.bY;refine(N7 M X).1 bz.none ⟨{s with tmps:=C++ayJ (x.ntmps-C.length) (.bh [])},t,V,[]⟩ fD none z w _ _ [] t V _ p.w0 _ (CX _ _) (iU.here _ _ _ _) rfl (λhh=>by cases hh) ⟨x,E⟩ I RE h ?_ ?_;intro B U H pd y hA hR;obtain⟨ab,L,q0,G,J⟩:=hA.jL;show LeavesInM Fence.wide 0 p.P x U.tmps p.R U.defers (.panicking B) H;rw[L];exact pI (by simp) (azA.1 G).1 (λd N=>(J d (by simp[N])).1) (JJ (M.NK B) (λd N=>(J d (by simp[N])).2) hR);intro e s' O' V' U H L' hl hL A I;obtain⟨ab,L,q0,G,J⟩:=A.bY.jL;have u:=A.ny L;have F:=b _ _ _ (I O'.y [] _ _ (by rw[M.pt,j];exact u.bare));have r:LeavesInM Fence.wide 0 p.P x U.tmps p.R U.defers .returning (H):=by
  rw[L];refine pI (by simp) (azA.1 G).1 (λd N=>(J d (by simp[N])).1) ⟨_,Jv (l:=[]) u M.jo (by rw[k];rfl), ?_⟩;exact F.2
 cases e with
 |normal=>exact r
 |ret=>exact r
 |aR Z=>have:=F.1;simp[XE.to] at this
 |exit id=>have:=F.1;simp[XE.to] at this
def aul(R:ap (ik J A).toList g D cf.ty V O s a W)(F:s.rs[X]?=some (.own P))(E:O.rv X=.mk (.slice J H A) Z):
  g.grownBy W (ik J A)/\Ad g W P (aV cf.ty (.sl P)).length (ik J A) Z J A:=by
 obtain⟨v,u,t,U,N,L⟩:=Jm R F;rw[E] at U N;simp only[RV.jk] at U N;injection U with U _;injection U with C I B;subst C;subst I;subst B;obtain⟨I,r⟩:=ow N;have Q:=R.mem.base;refine⟨⟨Q.os,Q.tape,Q.output,Q.size,λi z y=>Q.block i z (λM=>y ?_)⟩,⟨by omega,L.nil, ?_⟩⟩;exact((by simpa[Option.mem_toList] using M:ik J A=some i)).symm;rcases L.mem with h|⟨b,x,rfl,G,M,w⟩;exact .inl h;cases A with
 |zero=>exact .inl rfl
 |succ c=>exact .inr ⟨b,x,rfl,G,M,w,US N G,.inr rfl⟩
end
end
variable{G:List RV}{U:List (List RV)}
section
section
variable{lt:List RV->List RV->Bool}{p:List RV->Prop}
structure jb(lt:List RV->List RV->Bool)(p:List RV->Prop):Prop where
 Tk:∀x,p x->lt x x=false
 tr:∀x y z,p x->p y->p z->lt x y=true->lt y z=true->lt x z=true
 nt:∀x y z,p x->p y->p z->lt x y=false->lt y z=false->lt x z=false
def jb.asym(h:jb lt p){y:List RV}(Z:p G)(X:p y)(W:lt G y=true):lt y G=false:=by
 cases V:lt y G;rfl;have:=h.tr G y G Z X Z W V;rw[h.Tk G Z] at this;cases this
def al0(h:jb lt p){x y:List RV}(X:p x)(W:p y)(Z:lt y x=true):∀{l:List (List RV)},(∀z∈l,p z)->cQ lt y (cQ lt x l)=cQ lt x (cQ lt y l)
 |[],_=>by
  have V:=h.asym W X Z;simp[cQ,Z,V]
 |z::r,Q=>by
  have P:=Q z (by simp);have O:=al0 h X W Z (l:=r) (λw N=>Q w (by simp[N]));have V:=h.asym W X Z;cases U:lt x z;cases R:lt y z;simp[cQ,U,R,O];simp[cQ,U,R,V];have R:lt y z=true:=h.tr y x z W X P Z U;simp[cQ,U,R,Z,V]
inductive dM(lt:List RV->List RV->Bool)(l:List (List RV)):List (List RV)->Prop
 |refl:dM lt l l
 |step {P Q:List (List RV)} {x y:List RV}:lt y x=true->dM lt l (P++x::y::Q)->dM lt l (P++y::x::Q)
def dM.trans{b:List (List RV)}(X:dM lt Z b)(W:dM lt b U):dM lt Z U:=by
 induction W with
 |refl=>exact X
 |step h _ V=>exact .step h V
def dM.It(A B:List (List RV))(h:dM lt Z U):dM lt (A++Z++B) (A++U++B):=by
 induction h with
 |refl=>exact .refl
 | @step P Q x y h _ X=>
  have W:A++(P++x::y::Q)++B=(A++P)++x::y::(Q++B):=by simp
  have V:A++(P++y::x::Q)++B=(A++P)++y::x::(Q++B):=by simp
  rw[W] at X;rw[V];exact .step h X
def dM.perm(h:dM lt Z U):U.Perm Z:=by
 induction h with
 |refl=>exact aBY _
 |step _ _ X=>exact((aCl _ _ _).append_left _).trans X
def dM.al1(P:List (List RV))(b:List RV):∀(A Q:List (List RV)),(∀a∈A,lt b a=true)->dM lt (P++A.reverse++b::Q) (P++b::(A.reverse++Q))
 |[],Q,_=>by simpa using dM.refl
 |a::A,Q,h=>by
  have Z:dM lt (P++(a::A).reverse++b::Q) ((P++A.reverse)++b::a::Q):=by
   have:P++(a::A).reverse++b::Q=(P++A.reverse)++a::b::Q:=by simp
   rw[this];exact .step (h a (by simp)) .refl
  have X:=dM.al1 P b A (a::Q) (λx W=>h x (by simp[W]));have e:P++b::((a::A).reverse++Q)=P++b::(A.reverse++a::Q):=by simp
  rw[e];exact Z.trans X
def dM.one(P Q:List (List RV))(b:List RV)(A:List (List RV))(h:∀a∈A,lt b a=true):dM lt (P++A++b::Q) (P++b::(A++Q)):=by
 have:=dM.al1 (lt:=lt) P b A.reverse Q (λa Z=>h a (by simpa using Z));simpa using this
def dM.block(Q:List (List RV))(A:List (List RV)):∀(B P:List (List RV)),(∀a∈A,∀b∈B,lt b a=true)->dM lt (P++A++(B++Q)) (P++B++(A++Q))
 |[],P,_=>by simpa using dM.refl
 |b::B,P,h=>by
  have X:=dM.one P (B++Q) b A (λa Z=>h a Z b (by simp));have W:=dM.block Q A B (P++[b]) (λa Z V U=>h a Z V (by simp[U]));have R:P++b::(A++(B++Q))=P++[b]++A++(B++Q):=by simp
  have O:P++b::B++(A++Q)=P++[b]++B++(A++Q):=by simp
  rw[R] at X;rw[O];exact X.trans W
def tM(lt:List RV->List RV->Bool)(acc l:List (List RV)):List (List RV):=l.foldl (λacc x=>cQ lt x acc) acc
def aum{acc:List (List RV)}(V:∀z∈acc,p z)(U:∀z∈Z,p z):∀z∈tM lt acc Z,p z:=by
 induction Z generalizing acc with
 |nil=>exact V
 |cons x Z X=>
  refine X (acc:=cQ lt x acc) (λz W=> ?_) (λz W=>U z (by simp[W]));have zC:∀{Z:List (List RV)},z∈cQ lt x Z->z=x\/z∈Z:=by
   intro Z;induction Z with
   |nil=>intro h;simpa[cQ] using h
   |cons y r X=>
    intro h;simp only[cQ] at h;split at h;simpa using h;rcases ayK.1 h with h|h;exact .inr (by simp[h]);rcases X h with h|h;exact .inl h;exact .inr (by simp[h])
  rcases zC W with rfl|h;exact U _ (by simp);exact V z h
def dM.fold(h:jb lt p)(X:dM lt Z U){acc:List (List RV)}(O:∀z∈Z,p z)(N:∀z∈acc,p z):tM lt acc U=tM lt acc Z:=by
 induction X with
 |refl=>rfl
 | @step P Q x y M X L=>
  rw[<-L];have W:=λz(V:z∈P++x::y::Q)=>O z (X.perm.mem_iff.1 V)
  have R:∀z∈tM lt acc P,p z:=aum N λz V=>W z (by simp[V])
  simp only[tM,List.foldl_append,az0] at R⊢;rw[al0 h (W x (by simp)) (W y (by simp)) M R]
def em(lt:List RV->List RV->Bool)(l:List (List RV)):Prop:=l.Pairwise λa b=>lt b a=false
def al2{x:List RV}:∀{l:List (List RV)},(∀y∈l,lt x y=false)->cQ lt x l=l++[x]
 |[],_=>rfl
 |y::r,h=>by
  have Z:=h y (by simp);simp[cQ,Z,al2 (l:=r) λz X=>h z (by simp[X])]
def aun:∀{acc:List (List RV)},em lt (acc++Z)->tM lt acc Z=acc++Z:=by
 induction Z with
 |nil=>intro acc _;simp[tM]
 |cons x Z X=>
  intro acc h;have W:∀y∈acc,lt x y=false:=λy V=>(ay6.1 h).2.2 y V x (by simp)
  have e:acc++x::Z=(acc++[x])++Z:=by simp
  rw[e] at h⊢;rw[<-X h];simp only[tM,az0];rw[al2 W]
def Tl(h:em lt Z):bp lt Z=Z:=aun (acc:=[]) h
def L9{x z:List RV}:∀{l:List (List RV)},z∈cQ lt x l->z=x\/z∈l
 |[],h=>by simpa[cQ] using h
 |y::r,h=>by
  simp only[cQ] at h;split at h;simpa using h;rcases ayK.1 h with h|h;exact .inr (by simp[h]);rcases L9 h with h|h;exact .inl h;exact .inr (by simp[h])
def em.ins(h:jb lt p){x:List RV}(X:p x):∀{l:List (List RV)},(∀z∈l,p z)->em lt l->em lt (cQ lt x l)
 |[],_,_=>aBF _ _
 |y::r,W,U=>by
  have R:=W y (by simp);have V:=ayY.1 U;simp only[cQ];cases Q:lt x y;refine ayY.2 ⟨λz Z=> ?_,em.ins h X (λz Z=>W z (by simp[Z])) V.2⟩;rcases L9 Z with rfl|Z;exact Q;exact V.1 z Z;refine ayY.2 ⟨λz Z=> ?_,U⟩;have P:=h.asym X R Q;rcases ayK.1 Z with rfl|Z;exact P;exact h.nt z y x (W z (by simp[Z])) R X (V.1 z Z) P
def em.fold(h:jb lt p):∀{acc:List (List RV)},(∀z∈acc,p z)->(∀z∈Z,p z)->em lt acc->em lt (tM lt acc Z):=by
 induction Z with
 |nil=>intro acc _ _ h;exact h
 |cons x Z U=>
  intro acc V W R;refine U (acc:=cQ lt x acc) (λz X=> ?_) (λz X=>W z (by simp[X])) (R.ins h (W x (by simp)) V);rcases L9 X with rfl|X;exact W _ (by simp);exact V z X
def Er(h:jb lt p)(X:∀z∈Z,p z):em lt (bp lt Z):=em.fold h (acc:=[]) (by simp) X azu
def dM.ins(h:jb lt p){x:List RV}(W:p x):∀{l:List (List RV)},(∀z∈l,p z)->em lt l->dM lt (l++[x]) (cQ lt x l)
 |[],_,_=>.refl
 |y::r,X,R=>by
  have Q:=X y (by simp);have V:=ayY.1 R;simp only[cQ];cases U:lt x y;have:=(dM.ins h W (l:=r) (λz Z=>X z (by simp[Z])) V.2).It [y] [];simpa using this;have:=dM.one (lt:=lt) [] [] x (y::r) (λz Z=>by
   rcases ayK.1 Z with rfl|Z;exact U;cases P:lt x z;have:=h.nt x z y W (X z (by simp[Z])) Q P (V.1 z Z);rw[U] at this;cases this;rfl)
  simpa using this
def dM.auo(h:jb lt p):∀{acc:List (List RV)},(∀z∈acc,p z)->(∀z∈Z,p z)->em lt acc->dM lt (acc++Z) (tM lt acc Z):=by
 induction Z with
 |nil=>intro acc _ _ _;simpa[tM] using dM.refl
 |cons x Z R=>
  intro acc V W U;have Q:=(dM.ins h (W x (by simp)) V U).It [] Z;have P:=R (acc:=cQ lt x acc) (λz X=>by
   rcases L9 X with rfl|X;exact W _ (by simp);exact V z X) (λz X=>W z (by simp[X])) (U.ins h (W x (by simp)) V)
  have e:acc++x::Z=[]++(acc++[x])++Z:=by simp
  rw[e];refine Q.trans ?_;rw[ayU];exact P
def dM.Tm(h:jb lt p)(X:∀z∈Z,p z):dM lt Z (bp lt Z):=by
 exact dM.auo h (acc:=[]) (by simp) X azu
def abN(h:jb lt p)(X:∀z∈Z,p z)(W:dM lt Z U)(V:em lt U):bp lt Z=U:=by
 rw[<-Tl V];exact(W.fold h (acc:=[]) X (by simp)).symm
def Es(h:G∈bp lt Z):G∈Z:=by
 have:∀(Z acc:List (List RV)),G∈tM lt acc Z->G∈acc\/G∈Z:=by
  intro Z;induction Z with
  |nil=>intro acc h;exact .inl h
  |cons x Z X=>
   intro acc h;rcases X (cQ lt x acc) h with h|h;rcases L9 h with rfl|h;exact .inr (by simp);exact .inl h;exact .inr (by simp[h])
 rcases this Z [] h with h|h;cases h;exact h
def aup(h:jb lt p)(V:∀z∈G::(Z++U),p z)(P:em lt (Z++U))(Q:∀y∈Z,lt y G=true)(O:∀y∈U,lt y G=false):bp lt (G::(Z++U))=Z++G::U:=by
 refine abN h V ?_ ?_;have:=dM.block (lt:=lt) U [G] Z [] (λa X b W=>by simp at X;subst X;exact Q b W);simpa using this;have R:=ay6.1 P;refine ay6.2 ⟨R.1,ayY.2 ⟨O,R.2.1⟩,λa X b W=> ?_⟩;rcases ayK.1 W with rfl|W;exact h.asym (V a (by simp[X])) (V b (by simp)) (Q a X);exact R.2.2 a X b W
def auq(h:jb lt p)(W:∀z∈Z++U++[G],p z)(P:em lt (Z++U))(O:∀x∈Z,lt G x=false)(R:∀x∈U,lt G x=true):bp lt (Z++U++[G])=Z++G::U:=by
 refine abN h W ?_ ?_;have:=dM.one (lt:=lt) Z [] G U R;simpa using this;have V:=ay6.1 P;refine ay6.2 ⟨V.1,ayY.2 ⟨λb X=>h.asym (W G (by simp)) (W b (by simp[X])) (R b X),V.2.1⟩,λa Q b X=> ?_⟩;rcases ayK.1 X with rfl|X;exact O a Q;exact V.2.2 a Q b X
def aur(h:jb lt p){V R:List (List RV)}(Q:∀z∈Z++U++(V++R),p z)(I:em lt (Z++U))(H:em lt (V++R))(G:∀x∈Z,∀y∈R,lt y x=false)(M:∀x∈U,∀y∈V,lt y x=true):
  bp lt (Z++U++(V++R))=bp lt (Z++V)++bp lt (U++R):=by
 have F:=ay6.1 I;have E:=ay6.1 H;have P:∀z∈Z++V,p z:=λz O=>Q z (by rcases ayL.1 O with h|h<;>simp[h])
 have N:∀z∈U++R,p z:=λz O=>Q z (by rcases ayL.1 O with h|h<;>simp[h])
 refine abN h Q ?_ ?_;have D:=dM.block (lt:=lt) R U V Z M;have L:=(dM.Tm h P).It [] (U++R);have J:=(dM.Tm h N).It (bp lt (Z++V)) [];simp only[ayU,aAc] at L J;exact(D.trans L).trans J;refine ay6.2 ⟨Er h P,Er h N,λa W b X=> ?_⟩;have W:=Es W;have X:=Es X;have C:=P a W;have B:=N b X;rcases ayL.1 W with W|W;rcases ayL.1 X with X|X;exact F.2.2 a W b X;exact G a W b X;rcases ayL.1 X with X|X;exact h.asym C B (M b X a W);exact E.2.2 a W b X
def al3(h:jb lt p)(X:∀z∈Z,p z)(W:∀z∈U,p z):bp lt (bp lt Z++bp lt U)=bp lt (Z++U):=by
 have V:=(dM.Tm h X).It [] U;have R:=(dM.Tm h W).It (bp lt Z) [];simp only[ayU,aAc] at V R;exact(V.trans R).fold h (acc:=[]) (λz Q=>by exact(ayL.1 Q).elim (X z) (W z)) (by simp)
end
end
variable{q:Nat}
section
section
def al4(d:Bool):∀(U:List Nat)(x y z:List RV),fZ d U x y=false->fZ d U y z=false->fZ d U x z=false
 |[],_,_,_,_,_=>rfl
 |c::U,x,y,z,W,Z=>by
  simp only[fZ] at W Z⊢;by_cases V:aD c x=aD c y;rw[if_pos V] at W;by_cases X:aD c y=aD c z;rw[if_pos X] at Z;rw[if_pos (V.trans X)];exact al4 d U x y z W Z;rw[if_neg X] at Z;rw[if_neg (by rw[V];exact X),V];exact Z;rw[if_neg V] at W;by_cases X:aD c y=aD c z;rw[if_neg (by rw[<-X];exact V),<-X];exact W;rw[if_neg X] at Z;cases d;simp only[ayV,if_false,decide_eq_false_iff_not] at W Z⊢;rw[if_neg (by omega)];simp only[decide_eq_false_iff_not];omega;simp only[if_true,decide_eq_false_iff_not] at W Z⊢;rw[if_neg (by omega)];simp only[decide_eq_false_iff_not];omega
def al5(d:Bool):∀(Z:List Nat)(x:List RV),fZ d Z x x=false
 |[],_=>rfl
 |c::Z,x=>by simp[fZ,al5 d Z x]
def al6(d:Bool):∀(U:List Nat)(x y z:List RV),fZ d U x y=true->fZ d U y z=true->fZ d U x z=true
 |[],_,_,_,h,_=>by simp[fZ] at h
 |c::U,x,y,z,W,Z=>by
  simp only[fZ] at W Z⊢;by_cases V:aD c x=aD c y;rw[if_pos V] at W;by_cases X:aD c y=aD c z;rw[if_pos X] at Z;rw[if_pos (V.trans X)];exact al6 d U x y z W Z;rw[if_neg X] at Z;rw[if_neg (by rw[V];exact X),V];exact Z;rw[if_neg V] at W;by_cases X:aD c y=aD c z;rw[if_neg (by rw[<-X];exact V),<-X];exact W;rw[if_neg X] at Z;cases d;simp only[ayV,if_false,decide_eq_true_eq] at W Z⊢;rw[if_neg (by omega)];simp only[decide_eq_true_eq];omega;simp only[if_true,decide_eq_true_eq] at W Z⊢;rw[if_neg (by omega)];simp only[decide_eq_true_eq];omega
def Tn(Z:List Nat)(d:Bool):jb (aU.lex Z d).lt (λx=>(aU.lex Z d).ok x=true):=
 ⟨λx _=>al5 d Z x,λx y z _ _ _=>al6 d Z x y z,λx y z _ _ _=>al4 d Z x y z⟩
def Iu(h:iG u j=true):0<j:=by
 simp only[iG,ayz,decide_eq_true_eq] at h;omega
def abO(n d:Nat):jb (aU.ratio n d).lt (λx=>(aU.ratio n d).ok x=true):=by
 refine⟨λx _=> ?_,λx y z W V U Z X=> ?_,λx y z W V U Z X=> ?_⟩;simp[aU.lt];have R:=Iu W;have P:=Iu V;have Q:=Iu U;simp only[aU.lt,decide_eq_true_eq] at Z X⊢;have O:=aBn Z Q;have N:=aBn X R;refine Int.lt_of_mul_lt_mul_left (a:=aD d y) ?_ (by omega);have M:aD n x*aD d y*aD d z=aD d y*(aD n x*aD d z):=by ac_rfl
 have L:aD n y*aD d x*aD d z=aD n y*aD d z*aD d x:=by ac_rfl
 have J:aD n z*aD d y*aD d x=aD d y*(aD n z*aD d x):=by ac_rfl
 omega;have R:=Iu W;have P:=Iu V;have Q:=Iu U;simp only[aU.lt,decide_eq_false_iff_not,Int.not_lt] at Z X⊢;have O:=aBf Z (show 0<=aD d z by omega);have N:=aBf X (show 0<=aD d x by omega);refine Int.le_of_mul_le_mul_left (a:=aD d y) ?_ (by omega);have M:aD n x*aD d y*aD d z=aD d y*(aD n x*aD d z):=by ac_rfl
 have L:aD n y*aD d x*aD d z=aD n y*aD d z*aD d x:=by ac_rfl
 have J:aD n z*aD d y*aD d x=aD d y*(aD n z*aD d x):=by ac_rfl
 omega
end
section
variable{lt:List RV->List RV->Bool}{p:List RV->Prop}
def lK(Z:List (List RV))(W:X<=H)(V:H<=A):aK Z X A=aK Z X H++aK Z H A:=by
 simp only[aK];have e:A-X=(H-X)+(A-H):=by omega
 rw[e,List.take_add,aAr,show X+(H-X)=H by omega]
def Iv(Z:List (List RV))(W:X<=H):Z.take X++(aK Z X H++Z.drop H)=Z:=by
 simp only[aK];have e:Z.drop H=(Z.drop X).drop (H-X):=by rw[aAr];congr 1;omega
 rw[e,az1,az1]
def Ma(Z:List (List RV)){a b i:Nat}(h:i<b-a):(aK Z a b)[i]?=Z[a+i]?:=by
 simp only[aK,ay7,h,if_true,azj]
def m5(Z:List (List RV))(h:H<=Z.length):(aK Z X H).length=H-X:=by simp[aK];omega
def B5(h:G∈aK Z X H):∃i,X<=i/\i<H/\i<Z.length/\Z.getD i []=G:=by
 obtain⟨i,W⟩:=azh h;have V:=(ayA.1 W).1;simp only[aK,az6,az2] at V;rw[Ma Z (by omega)] at W;exact⟨X+i,by omega,by omega,by omega,by simp[ayC,W]⟩
def Iw(W:H<=Z.length)(h:em lt (aK Z X H)){i j:Nat}(U:X<=i)(Q:i<j)(R:j<H):lt (Z.getD j []) (Z.getD i [])=false:=by
 have:=aAp.1 h (i-X) (j-X) (by rw[m5 Z W];omega) (by rw[m5 Z W];omega) (by omega);have e:∀k(V:k-X<(aK Z X H).length),X<=k->k<H->(aK Z X H)[k-X]=Z.getD k []:=λk V P O=>by
  have q:=Ma Z (a:=X) (b:=H) (i:=k-X) (by omega);rw[ayB V,show X+(k-X)=k by omega] at q;simp[ayC,<-q]
 rw[e i _ U (by omega),e j _ (by omega) R] at this;exact this
def al7:sk lt Z=true<->em lt Z:=by
 induction Z with
 |nil=>exact⟨λ_=>azu,λ_=>rfl⟩
 |cons x r X=>
  simp only[sk,ayz,X,ayM,ayS,em,ayY]
def aus(h:jb lt p)(N:∀z∈Z,p z){b:Nat}(M:X<=H)(L:H<=A)(J:A<=q)(I:q<=b)(C:b<=Z.length)(G:em lt (aK Z X A))(F:em lt (aK Z A b))
  (E:∀i j,X<=i->i<H->q<=j->j<b->lt (Z.getD j []) (Z.getD i [])=false)(D:∀i j,H<=i->i<A->A<=j->j<q->lt (Z.getD j []) (Z.getD i [])=true):
  bp lt (aK Z X b)=bp lt (aK Z X H++aK Z A q)++bp lt (aK Z H A++aK Z q b):=by
 rw[lK Z (show X<=A by omega) (show A<=b by omega),lK Z M L,lK Z J I] at*;refine aur h (λz W=>N z ?_) G F (λx V y U=> ?_) (λx V y U=> ?_);simp only[ayL] at W;rcases W with(W|W)|(W|W)<;>exact pG W;obtain⟨i,R,Q,_,rfl⟩:=B5 V;obtain⟨j,P,O,_,rfl⟩:=B5 U;exact E i j R Q P O;obtain⟨i,R,Q,_,rfl⟩:=B5 V;obtain⟨j,P,O,_,rfl⟩:=B5 U;exact D i j R Q P O
end
end
variable{I:aU}{M:List Int}{i:Ty}{y:List Bool}{R:World}
def fH:List Bool->List RV->Prop
 |[],x=>x=[]
 |b::Z,c::r=>(if b then∃n,c=.mk (.int .i64 n) [] else∃q,c=.mk (.bool q) [])/\fH Z r
 |_::_,[]=>False
def zH(b:Bool):CT:=if b then .int .i64 else .bool
def qo(c:RV):RV:=.mk c.val []
def db(Z:List (List RV)):List (List RV):=Z.map λX=>X.map qo
def abP(c:Nat)(x:List RV):aD c (x.map qo)=aD c x:=by
 simp only[aD,ayC,ayF];cases x[c]?<;>rfl
def al8(d:Bool)(x y:List RV):∀Z,fZ d Z (x.map qo) (y.map qo)=fZ d Z x y
 |[]=>rfl
 |c::Z=>by simp only[fZ,abP,al8 d x y Z]
def abQ(o:aU)(x y:List RV):o.lt (x.map qo) (y.map qo)=o.lt x y:=by
 cases o with
 |lex Z d=>exact al8 d x y Z
 |ratio n d=>simp only[aU.lt,abP]
 |bN k o X=>rfl
def aut(o:aU)(x:List RV):o.ok (x.map qo)=o.ok x:=by
 cases o with
 |lex Z d=>rfl
 |ratio n d=>simp only[aU.ok,abP]
 |bN k o X=>rfl
def al9(o:aU)(x:List RV):∀l,cQ o.lt (x.map qo) (db l)=db (cQ o.lt x l)
 |[]=>rfl
 |y::r=>by
  have Z:=al9 o x r;simp only[db,ayO,cQ,abQ] at Z⊢;split;rfl;rw[Z];rfl
def ama(o:aU)(l:List (List RV)):bp o.lt (db l)=db (bp o.lt l):=by
 have:∀l acc,(db l).foldl (λacc x=>cQ o.lt x acc) (db acc)=db (l.foldl (λacc x=>cQ o.lt x acc) acc):=by
  intro l;induction l with
  |nil=>intro acc;rfl
  |cons x l Z=>
   intro acc;have:=Z (cQ o.lt x acc);rw[<-al9] at this;exact this
 exact this l []
def amc(o:aU)(l:List (List RV)):(db l).all o.ok=l.all o.ok:=by
 simp only[db,aAH];congr 1;funext x;exact aut o x
def auu(l:List (List RV))(a b:Nat):aK (db l) a b=db (aK l a b):=by simp[aK,db]
def amd(o:aU):∀l,sk o.lt (db l)=sk o.lt l
 |[]=>rfl
 |x::r=>by
  have Z:=amd o r;simp only[db,ayO,sk,aAH] at Z⊢;rw[Z];congr 2;funext y;simp only[Function.comp,abQ]
def auv(l:List (List RV))(a:Nat):(db l).take a=db (l.take a):=by simp[db]
def auw(l:List (List RV))(a:Nat):(db l).drop a=db (l.drop a):=by simp[db]
def aux(l m:List (List RV)):db (l++m)=db l++db m:=by simp[db]
def vu(l:List (List RV)):(db l).length=l.length:=by simp[db]
def auy(h:jB X I M Z=some U):jB X I M (db Z)=some (db U):=by
 unfold jB at h⊢;split at h
 all_goals first|(split at h<;>first|(cases h;done)|skip)|skip
 all_goals first|(cases h;done)|skip
 all_goals
  rename_i W;cases h;simp only[vu,amc,auu,amd,auv,auw,ama,<-aux];rw[if_pos W]
def auz(h:ln X I M Z=some U):ln X I M (db Z)=some (db U):=by
 obtain⟨W,V⟩:=vZ h;unfold ln;rw[vu,if_pos W];exact auy V
def ame(l:List (List RV)):cu (db l)=cu l:=by
 simp only[cu,db,List.flatMap_map];congr 1;funext x;simp only[azo];rfl
def amf:∀(K:List Bool)(Z:List RV),Z.length=K.length->(∀(j:Nat)(c:RV)(k:IntKind),Z[j]?=some c->(K.map zH)[j]?=some (.int k)->∃n,c.val=.int k n)->(∀(j:Nat)(c:RV),Z[j]?=some c->(K.map zH)[j]?=some .bool->∃x,c.val=.bool x)->fH K (Z.map qo)
 |[],[],_,_,_=>rfl
 |[],_::_,h,_,_=>by simp at h
 |_::_,[],h,_,_=>by simp at h
 |b::Q,c::r,P,U,R=>by
  refine⟨?_,amf Q r (by simpa using P) (λj c k X W=>U (j+1) c k (by simpa using X) (by simpa using W)) (λj c X W=>R (j+1) c (by simpa using X) (by simpa using W))⟩;cases b with
  |true=>
   obtain⟨n,V⟩:=U 0 c .i64 rfl rfl;exact⟨n,by simp[qo,V]⟩
  |false=>
   obtain⟨n,V⟩:=R 0 c rfl rfl;exact⟨n,by simp[qo,V]⟩
def amg(U:aV i (.sl P)=y.map zH)(h:dt R i P Z):∀x∈db Z,fH y x:=by
 intro x M;obtain⟨V,L,rfl⟩:=ay1.1 M;obtain⟨X,Q⟩:=azh L;refine amf y V ?_ (λj c k O N=>h.int X j V c k Q O (by rw[U];exact N)) (λj c O N=>h.bool X j V c Q O (by rw[U];exact N));have:=h.len X V Q;rw[U,azg] at this;exact this
def amh(x:∀(j:Nat)(z:Value)(k:RK),(aV i (.sl P))[j]?≠some (.ax z k))(h:aW R i (.sl P) (.mk (.slice J X H) Z)):aW R i (.sl P) (.mk (.slice J X H) (db Z)):=by
 have C:∀{V:Nat}{O:List RV},(db Z)[V]?=some O->∃U,Z[V]?=some U/\O=U.map qo:=by
  intro V O D;simp only[db,ayF,azC] at D;obtain⟨U,L,I⟩:=D;exact⟨U,L,I.symm⟩
 have B:∀{U:List RV}{j:Nat}{c:RV},(U.map qo)[j]?=some c->∃Q,U[j]?=some Q/\c=qo Q:=by
  intro U j c y;simp only[ayF,azC] at y;obtain⟨Q,L,I⟩:=y;exact⟨Q,L,I.symm⟩
 cases h with
 |sl P J p H Z L I w D v o=>
  refine aW.sl P J X H (db Z) (by rw[vu];exact L) I (λV O N=> ?_) (λV j O c k N M G=> ?_) (λV j O c N M G=> ?_) (λV j O c z k N M G=>(x j z k G).elim);obtain⟨U,F,rfl⟩:=C N;obtain⟨u,b,t,s,r,q⟩:=w V U F;refine⟨by simpa using u,b,t,s,r,λj c M=> ?_⟩;obtain⟨Q,E,rfl⟩:=B M;exact q j Q E;obtain⟨U,F,rfl⟩:=C N;obtain⟨Q,E,rfl⟩:=B M;exact D V j U Q k F E G;obtain⟨U,F,rfl⟩:=C N;obtain⟨Q,E,rfl⟩:=B M;exact v V j U Q F E G
def Tgt(p:Sp)(e:TypeId)(v:Value)(ar:List (List RV)):Prop:=∀(Z:Exit)(s:S)(O:aa)(V:List Nat)(a:Act)(W:World)(k:Nat),(Z=.normal\/Z=.ret)->ap p.S0 p.w0 p.D p.ty V O s a W->s.rs[k]?=some (.own e)->O.rv k=.mk v ar->p.Q Z a W
def Et(P:Program)(K:List Bool)(g:FuncId)(o:aU):Prop:=∀(W:World)(x y:List RV),fH K x->fH K y->o.ok x=true->o.ok y=true->
 Calls P g #[.agg (x.map RV.val).toArray,.agg (y.map RV.val).toArray] W λZ X=>Below W.heap.size W X/\∃c:Int,Z=.returned (.int .i64 c)/\(c<0<->o.lt x y=true)
def To(K:List Bool)(e g:Nat)(o:aU)(F:List Int->List (List RV)->Option (List (List RV)))(N:Nat)(t:T):Prop:=∀(p:Sp)(v:Value)(Z ar:List (List RV))(X:List Int),p.P=Tryz.prog->Et Tryz.prog K g o->(∃A n W,v=.slice A n W/\Z.length=n/\n<=1099511627776)->(∀x∈Z,fH K x)->X.length=N->F X Z=some ar->Tgt p e v ar->t.aH p ⟨X,[],[.mk v Z],[]⟩ []
abbrev Mb(K:List Bool)(e g:Nat)(o:aU)(k N:Nat)(t:T):Prop:=To K e g o (ln k o) N t
def abR{N n:Nat}{o:aU}{F:List Int->List (List RV)->Option (List (List RV))}{K:List Bool}{t:T}{args:List SV}{inl:List Nat}{loops:List (Nat×Nat×dq)}{srts:List (FuncId×FuncId×TypeId×aU×Bool)}{chs:List (Nat×Nat)}
  (hf:Tryz.prog.funcs[z]?=some x)(v:x.body=some w)(h0:x.results.toList=[])(hi:inl.all (qK Tryz.prog)=true)(al:qn srts)(hK:aV (look TT) (.sl H)=K.map zH)(an:Et Tryz.prog K X o)
  (ht:dF (lY Tryz.prog TT SG [] inl loops srts false chs) n z w ⟨args++ayJ (x.ntmps-args.length) (.bh []),[],N,0,[.own H],0,0,[]⟩ fD Tj=t)(hh:To K H X o F N t)
  (a0:∀(G:List Int)(B:RV),G.length=N->SV.au ⟨G,[],[B],[]⟩ [] args=B.val::(G.map (Value.int .i64)++[.func (.func X) #[] #[]]))
  (Eg:∀(G:List Int)(Z U:List (List RV)),F G Z=some U->F G (db Z)=some (db U))
  (ab:∀(G:List Int)(Z U:List (List RV)),F G Z=some U->G.length=N/\Z.length<=1099511627776)(hH:aW R (look TT) (.sl H) (.mk (.slice J A q) Z))(hR:Fw R H (aV (look TT) (.sl H)).length J q)(hT:F M Z=some U):
  Calls Tryz.prog z (Js (.slice J A q) M X) R λr I=>r=.returned (.tuple #[])/\R.grownBy I (ik J q)/\Ad R I H (aV (look TT) (.sl H)).length (ik J q) U J q:=by
 have m:=(ab _ _ _ hT).1;have hp:∀(j:Nat)(Q:Value)(P:RK),(aV (look TT) (.sl H))[j]?≠some (.ax Q P):=by
  intro j Q P D;rw[hK,ayF] at D;cases v:K[j]? with
  |none=>rw[v] at D;cases D
  |some b=>rw[v] at D;cases b<;>simp[zH] at D
 have af:=amh hp hH;have ag:=Eg _ _ _ hT;obtain⟨a1,a2⟩:=ow af;let O0:aa:=⟨M,[],[.mk (.slice J A q) (db Z)],[]⟩;let O:Ending->World->Prop:=λr I=>r=.returned (.tuple #[])/\R.grownBy I (ik J q)/\Ad R I H (aV (look TT) (.sl H)).length (ik J q) U J q
 let p:Sp:=⟨Tryz.prog,look TT,(ik J q).toList,R,bz.none,O,λu a I=>(u=.normal\/u=.ret)/\O (.returned (.tuple #[])) I⟩;have ok:iW p (lY Tryz.prog TT SG [] inl loops srts false chs):=N8 Ir Ta hi Tb (λch I b ob _ h=>by have:=h.1;cases this) al;have a3:(SV.au O0 [] args).toArray=Js (.slice J A q) M X:=by rw[a0 M _ m];rfl
 rw[<-a3];have a4:∀b,(RV.mk (.slice J A q) (db Z)).hU=some b->ik J q=some b:=λb h=>by rw[Fv] at h;exact h
 have a5:ap p.S0 p.w0 bz.none (look TT) [] O0 {(⟨[],[],N,0,[.own H],0,0,[]⟩:S) with tmps:=[]} ⟨#[],[]⟩ p.w0:=by
  refine⟨⟨dI.refl _ _,λi h=>by simp[aE,bD] at h,λi j h=>by simp[aE,bD] at h,λi t cs h=>by simp[bD] at h,λP e' B E C=> ?_⟩,rfl,m,rfl,rfl,Oj _ _,rfl,λt sv h=>by simp at h,λP e' B b E C h3=> ?_⟩;cases P with
  |succ P=>simp at E
  |zero=>
   simp only[azl,ayE] at E;have C:B=.mk (.slice J A q) (db Z):=(azd C).symm;subst E;subst C;refine⟨aW.own H _ af λl w k=> ?_,λb _ i h=>by simp[aE,bD] at h⟩;simp only[RV.ji,Value.slice.injEq] at k;rw[<-k.2.2];exact hR.nil k.1
  cases P with
  |succ P=>simp at E
  |zero=>
   simp only[azl,ayE] at E;have C:B=.mk (.slice J A q) (db Z):=(azd C).symm;injection E with E;subst E;subst C;have y:=a4 b h3;refine⟨.inr (by show b∈(ik J q).toList;rw[y];simp), ?_,λi h=>by simp[aE,bD] at h,λd e' bf hk h=> ?_, ?_⟩;rcases hR.mem with D|⟨b',a6,rfl,hg,hm,a7⟩
   ·subst D;unfold ik at y;split at y<;>first|(cases y;done)|omega|skip
    all_goals simp_all
   have a8:b'=b:=by
    cases q with
    |zero=>cases y
    |succ w=>exact azd y
   subst a8;exact⟨A,q,a6,rfl,hg,a2,hm,a7⟩;cases d with
   |zero=>exact absurd rfl hk
   |succ d=>simp at h
   rintro⟨i,j,bg,w,Q,P,_,_,hq,_⟩;exact hp j Q P hq
 have a9:A<=1099511627776:=by
  have:=(ab _ _ _ ag).2;omega
 have bb:=hh p (.slice J A q) (db Z) (db U) M rfl an ⟨J,A,q,rfl,a1,a9⟩ (amg hK (dt.sr hH)) m ag (λu s O1 V a I d bd RR hk hr=>by
  refine⟨bd,rfl, ?_⟩;obtain⟨g1,g2⟩:=aul (cf:=lY Tryz.prog TT SG [] inl loops srts false chs) RR hk hr;exact⟨g1,⟨by have:=g2.le;rwa [vu] at this,g2.nil,by have:=g2.mem;rwa [ame,vu] at this⟩⟩)
 exact auk ok hf v h0 rfl ht bb (λL hx=>by simp[lY] at hx) a5 (λu a I h=>h)
def auA{Q:aU}{F:List Int->List (List RV)->Option (List (List RV))}{P:Bool}{loops:List (Nat×Nat×dq)}{M:List (FuncId×FuncId×TypeId×aU×Bool)}{J:List (Nat×Nat)}
  (G:Tryz.prog.funcs[z]?=some x)(E:x.body=some w)(D:x.results.toList=[])(B:qK Tryz.prog z=true)(u:qn M)(s:aV (look TT) (.sl H)=y.map zH)(r:Et Tryz.prog y X I)
  (p:dF (lY Tryz.prog TT SG [] [] loops M false J) q z w ⟨C++ayJ (x.ntmps-C.length) (.bh []),[],A,0,[.own H],0,0,[]⟩ fD Tj=v)(m:To y H X I F A v)
  (l:∀(V:List Int)(L:RV),V.length=A->SV.au ⟨V,[],[L],[]⟩ [] C=L.val::(V.map (Value.int .i64)++[.func (.func X) #[] #[]]))
  (k:∀(V:List IE)(R:aU)(O:aa)(U ar:List (List RV)),Q.fill V=some R->gO O R P U=some ar->F (V.map (IE.den O)) U=some ar)(Eg:∀(V:List Int)(U ar:List (List RV)),F V U=some ar->F V (db U)=some (db ar))
  (j:∀(V:List Int)(U ar:List (List RV)),F V U=some ar->V.length=A/\U.length<=1099511627776):lW Tryz.prog (look TT) z X H Q P:=
 ⟨sw B,λW Z a ab U ar O V R i h d b=>abR (inl:=[]) G E D rfl u s r p m l Eg j h d (k V R O U ar i b)⟩
def Eu(W:X≠2)(h:jB X I M Z=some U):M.length=3:=by
 unfold jB at h;split at h
 all_goals first|rfl|(exact absurd rfl W)|cases h
def amj(h:jB 2 I M Z=some U):M.length=2:=by
 unfold jB at h;split at h
 all_goals first|rfl|cases h|(rename_i X;cases X)
def B6{n:Nat}{K:List Bool}{t:T}{args:List SV}{loops:List (Nat×Nat×dq)}{srts:List (FuncId×FuncId×TypeId×aU×Bool)}{chs:List (Nat×Nat)}
  (R:Tryz.prog.funcs[z]?=some x)(Q:x.body=some w)(P:x.results.toList=[])(M:qK Tryz.prog z=true)(L:qn srts)(J:aV (look TT) (.sl H)=K.map zH)(G:Et Tryz.prog K X I)
  (E:dF (lY Tryz.prog TT SG [] [] loops srts false chs) n z w ⟨args++ayJ (x.ntmps-args.length) (.bh []),[],q,0,[.own H],0,0,[]⟩ fD Tj=t)(D:Mb K H X I A q t)
  (C:∀(Z:List Int)(V:RV),Z.length=q->SV.au ⟨Z,[],[V],[]⟩ [] args=V.val::(Z.map (Value.int .i64)++[.func (.func X) #[] #[]]))
  (B:∀(Z:List Int)(W ar:List (List RV)),jB A I Z W=some ar->Z.length=q):lW Tryz.prog (look TT) z X H (.bN A I []) false:=
 auA (F:=ln A I) R Q P M L J G E D C (λZ v O W ar U y=>by
  simp only[aU.fill,ayE] at U;subst U;exact y) (λZ W ar h=>auz h) (λZ W ar h=>⟨B Z W ar (vZ h).2,(vZ h).1⟩)
section
section
variable(e g f d h b N:Nat)(o:aU)(a:RE->IE->List SV)
def Tp:T:=(.loop 0 [.ref (.own e),.int .i64] [(.ref (.v 0)),(.int .i64 (.c 0))]
 (.node (.cmp .lss (.v 3) (.v 2))
 (.aF (.and (.cmp .leq (.c 0) (.bin .add .i64 (.v 1) (.v 3))) (.cmp .lss (.bin .add .i64 (.v 1) (.v 3)) (.len (.v 1))))
 (.aF (.and (.cmp .leq (.c 0) (.bin .add .i64 (.v 1) (.v 3))) (.cmp .lss (.bin .add .i64 (.v 1) (.v 3)) (.len (.v 1))))
 (.aF (.and (.cmp .leq (.c 0) (.bin .add .i64 (.v 0) (.v 3))) (.cmp .lss (.bin .add .i64 (.v 0) (.v 3)) (.len (.v 1))))
 (.aF (.and (.cmp .leq (.c 0) (.bin .add .i64 (.v 0) (.v 3))) (.cmp .lss (.bin .add .i64 (.v 0) (.v 3)) (.len (.v 1))))
 (.aF (.and (.cmp .leq (.c 0) (.bin .add .i64 (.v 0) (.v 3))) (.cmp .lss (.bin .add .i64 (.v 0) (.v 3)) (.len (.v 1))))
 (.aF (.and (.cmp .leq (.c 0) (.bin .add .i64 (.v 0) (.v 3))) (.cmp .lss (.bin .add .i64 (.v 0) (.v 3)) (.len (.v 1))))
 (.new e (.set (.ref (.v 1)) (.bin .add .i64 (.v 0) (.v 3)) 0 (a (.v 1) (.bin .add .i64 (.v 1) (.v 3)))) [.dead,(.own e)] [.dead,.dead,(.own e)]
 (.aF (.and (.cmp .leq (.c 0) (.bin .add .i64 (.v 1) (.v 3))) (.cmp .lss (.bin .add .i64 (.v 1) (.v 3)) (.len (.v 2))))
 (.aF (.and (.cmp .leq (.c 0) (.bin .add .i64 (.v 1) (.v 3))) (.cmp .lss (.bin .add .i64 (.v 1) (.v 3)) (.len (.v 2))))
 (.new e (.set (.ref (.v 2)) (.bin .add .i64 (.v 1) (.v 3)) 0 (a (.v 1) (.bin .add .i64 (.v 0) (.v 3)))) [.dead,.dead,(.own e)] [.dead,.dead,.dead,(.own e)]
 (.back 0 [(.ref (.v 3)),(.int .i64 (.bin .add .i64 (.v 3) (.c 1)))])))))))))))
 (.out .normal ⟨[],[],4,0,[.dead,(.own e)],0,0,[]⟩)))
def Tq:T:=(.loop 0 [.ref (.own e),.int .i64,.int .i64] [(.ref (.v 0)),(.int .i64 (.bin .sub .i64 (.v 1) (.v 0))),(.int .i64 (.bin .sub .i64 (.v 2) (.v 1)))]
 (.node (.cmp .neq (.v 3) (.v 4))
 (.node (.cmp .gtr (.v 3) (.v 4))
  (.cA f g e (.bN 0 o [(.bin .sub .i64 (.v 1) (.v 3)),(.v 1),(.v 4)]) false (.v 1) [.dead,(.own e)]
  (.back 0 [(.ref (.v 2)),(.int .i64 (.bin .sub .i64 (.v 3) (.v 4))),(.int .i64 (.v 4))]))
  (.cA f g e (.bN 0 o [(.bin .sub .i64 (.v 1) (.v 3)),(.bin .sub .i64 (.bin .add .i64 (.v 1) (.v 4)) (.v 3)),(.v 3)]) false (.v 1) [.dead,(.own e)]
  (.back 0 [(.ref (.v 2)),(.int .i64 (.v 3)),(.int .i64 (.bin .sub .i64 (.v 4) (.v 3)))])))
 (.cA f g e (.bN 0 o [(.bin .sub .i64 (.v 1) (.v 3)),(.v 1),(.v 3)]) false (.v 1) [.dead,(.own e)]
 (.out .normal ⟨[],[],5,0,[.dead,.dead,(.own e)],0,0,[]⟩))))
def Ts:T:=(.loop 0 [.ref (.own e),.int .i64] [(.ref (.v 0)),(.int .i64 (.bin .add .i64 (.v 0) (.c 1)))]
 (.node (.cmp .lss (.v 2) (.v 1))
 (.loop 1 [.ref (.own e),.int .i64] [(.ref (.v 1)),(.int .i64 (.v 2))]
  (.node (.cmp .gtr (.v 3) (.v 0))
  (.aF (.and (.cmp .leq (.c 0) (.v 3)) (.cmp .lss (.v 3) (.len (.v 2))))
  (.aF (.and (.cmp .leq (.c 0) (.v 3)) (.cmp .lss (.v 3) (.len (.v 2))))
  (.aF (.and (.cmp .leq (.c 0) (.bin .sub .i64 (.v 3) (.c 1))) (.cmp .lss (.bin .sub .i64 (.v 3) (.c 1)) (.len (.v 2))))
  (.aF (.and (.cmp .leq (.c 0) (.bin .sub .i64 (.v 3) (.c 1))) (.cmp .lss (.bin .sub .i64 (.v 3) (.c 1)) (.len (.v 2))))
  (.call g [(.agg (a (.v 2) (.v 3))),(.agg (a (.v 2) (.bin .sub .i64 (.v 3) (.c 1))))] [] [.dead,.dead,.dead] [.int .i64] (.int .i64 (.v 4))
  (.node (.cmp .lss (.v 4) (.c 0))
   (.aF (.and (.cmp .leq (.c 0) (.bin .sub .i64 (.v 3) (.c 1))) (.cmp .lss (.bin .sub .i64 (.v 3) (.c 1)) (.len (.v 2))))
   (.aF (.and (.cmp .leq (.c 0) (.bin .sub .i64 (.v 3) (.c 1))) (.cmp .lss (.bin .sub .i64 (.v 3) (.c 1)) (.len (.v 2))))
   (.aF (.and (.cmp .leq (.c 0) (.v 3)) (.cmp .lss (.v 3) (.len (.v 2))))
   (.aF (.and (.cmp .leq (.c 0) (.v 3)) (.cmp .lss (.v 3) (.len (.v 2))))
   (.aF (.and (.cmp .leq (.c 0) (.v 3)) (.cmp .lss (.v 3) (.len (.v 2))))
   (.aF (.and (.cmp .leq (.c 0) (.v 3)) (.cmp .lss (.v 3) (.len (.v 2))))
   (.new e (.set (.ref (.v 2)) (.v 3) 0 (a (.v 2) (.bin .sub .i64 (.v 3) (.c 1)))) [.dead,.dead,(.own e)] [.dead,.dead,.dead,(.own e)]
   (.aF (.and (.cmp .leq (.c 0) (.bin .sub .i64 (.v 3) (.c 1))) (.cmp .lss (.bin .sub .i64 (.v 3) (.c 1)) (.len (.v 3))))
   (.aF (.and (.cmp .leq (.c 0) (.bin .sub .i64 (.v 3) (.c 1))) (.cmp .lss (.bin .sub .i64 (.v 3) (.c 1)) (.len (.v 3))))
   (.new e (.set (.ref (.v 3)) (.bin .sub .i64 (.v 3) (.c 1)) 0 (a (.v 2) (.v 3))) [.dead,.dead,.dead,(.own e)] [.dead,.dead,.dead,.dead,(.own e)]
   (.back 1 [(.ref (.v 4)),(.int .i64 (.bin .sub .i64 (.v 3) (.c 1)))])))))))))))
   (.back 0 [(.ref (.v 2)),(.int .i64 (.bin .add .i64 (.v 2) (.c 1)))])))))))
  (.back 0 [(.ref (.v 2)),(.int .i64 (.bin .add .i64 (.v 2) (.c 1)))])))
 (.out .normal ⟨[],[],3,0,[.dead,(.own e)],0,0,[]⟩)))
abbrev iP:IE:=(.conv .i64 (.bin .shr .u64 (.conv .u64 (.bin .add .i64 (.v 3) (.v 4))) (.c 1)))
abbrev cj:IE:=(.conv .i64 (.bin .shr .u64 (.conv .u64 (.bin .add .i64 (.v 0) (.v 2))) (.c 1)))
def Mc:T:=(.node (.cmp .lss (.v 3) (.v 1))
   (.node (.cmp .lss (.v 1) (.bin .sub .i64 (.bin .add .i64 cj (.v 1)) (.v 3)))
    (.cA d g e (.bN 1 o [(.v 3),(.v 1),(.bin .sub .i64 (.bin .add .i64 cj (.v 1)) (.v 3))]) false (.v 1) [.dead,(.own e)]
    (.node (.cmp .lss (.v 0) (.v 3))
    (.node (.cmp .lss (.v 3) cj)
     (.cA b g e (.bN (N+3) o [(.v 0),(.v 3),cj]) false (.v 2) [.dead,.dead,(.own e)]
     (.node (.cmp .lss cj (.bin .sub .i64 (.bin .add .i64 cj (.v 1)) (.v 3)))
     (.node (.cmp .lss (.bin .sub .i64 (.bin .add .i64 cj (.v 1)) (.v 3)) (.v 2))
      (.cA b g e (.bN (N+3) o [cj,(.bin .sub .i64 (.bin .add .i64 cj (.v 1)) (.v 3)),(.v 2)]) false (.v 3) [.dead,.dead,.dead,(.own e)]
      (.out .normal ⟨[],[],5,0,[.dead,.dead,.dead,.dead,(.own e)],0,0,[]⟩))
      (.out .normal ⟨[],[],5,0,[.dead,.dead,.dead,(.own e)],0,0,[]⟩))
     (.out .normal ⟨[],[],5,0,[.dead,.dead,.dead,(.own e)],0,0,[]⟩)))
     (.node (.cmp .lss cj (.bin .sub .i64 (.bin .add .i64 cj (.v 1)) (.v 3)))
     (.node (.cmp .lss (.bin .sub .i64 (.bin .add .i64 cj (.v 1)) (.v 3)) (.v 2))
      (.cA b g e (.bN (N+3) o [cj,(.bin .sub .i64 (.bin .add .i64 cj (.v 1)) (.v 3)),(.v 2)]) false (.v 2) [.dead,.dead,(.own e)]
      (.out .normal ⟨[],[],5,0,[.dead,.dead,.dead,(.own e)],0,0,[]⟩))
      (.out .normal ⟨[],[],5,0,[.dead,.dead,(.own e)],0,0,[]⟩))
     (.out .normal ⟨[],[],5,0,[.dead,.dead,(.own e)],0,0,[]⟩)))
    (.node (.cmp .lss cj (.bin .sub .i64 (.bin .add .i64 cj (.v 1)) (.v 3)))
     (.node (.cmp .lss (.bin .sub .i64 (.bin .add .i64 cj (.v 1)) (.v 3)) (.v 2))
     (.cA b g e (.bN (N+3) o [cj,(.bin .sub .i64 (.bin .add .i64 cj (.v 1)) (.v 3)),(.v 2)]) false (.v 2) [.dead,.dead,(.own e)]
     (.out .normal ⟨[],[],5,0,[.dead,.dead,.dead,(.own e)],0,0,[]⟩))
     (.out .normal ⟨[],[],5,0,[.dead,.dead,(.own e)],0,0,[]⟩))
     (.out .normal ⟨[],[],5,0,[.dead,.dead,(.own e)],0,0,[]⟩))))
    (.node (.cmp .lss (.v 0) (.v 3))
    (.node (.cmp .lss (.v 3) cj)
     (.cA b g e (.bN (N+3) o [(.v 0),(.v 3),cj]) false (.v 1) [.dead,(.own e)]
     (.node (.cmp .lss cj (.bin .sub .i64 (.bin .add .i64 cj (.v 1)) (.v 3)))
     (.node (.cmp .lss (.bin .sub .i64 (.bin .add .i64 cj (.v 1)) (.v 3)) (.v 2))
      (.cA b g e (.bN (N+3) o [cj,(.bin .sub .i64 (.bin .add .i64 cj (.v 1)) (.v 3)),(.v 2)]) false (.v 2) [.dead,.dead,(.own e)]
      (.out .normal ⟨[],[],5,0,[.dead,.dead,.dead,(.own e)],0,0,[]⟩))
      (.out .normal ⟨[],[],5,0,[.dead,.dead,(.own e)],0,0,[]⟩))
     (.out .normal ⟨[],[],5,0,[.dead,.dead,(.own e)],0,0,[]⟩)))
     (.node (.cmp .lss cj (.bin .sub .i64 (.bin .add .i64 cj (.v 1)) (.v 3)))
     (.node (.cmp .lss (.bin .sub .i64 (.bin .add .i64 cj (.v 1)) (.v 3)) (.v 2))
      (.cA b g e (.bN (N+3) o [cj,(.bin .sub .i64 (.bin .add .i64 cj (.v 1)) (.v 3)),(.v 2)]) false (.v 1) [.dead,(.own e)]
      (.out .normal ⟨[],[],5,0,[.dead,.dead,(.own e)],0,0,[]⟩))
      (.out .normal ⟨[],[],5,0,[.dead,(.own e)],0,0,[]⟩))
     (.out .normal ⟨[],[],5,0,[.dead,(.own e)],0,0,[]⟩)))
    (.node (.cmp .lss cj (.bin .sub .i64 (.bin .add .i64 cj (.v 1)) (.v 3)))
     (.node (.cmp .lss (.bin .sub .i64 (.bin .add .i64 cj (.v 1)) (.v 3)) (.v 2))
     (.cA b g e (.bN (N+3) o [cj,(.bin .sub .i64 (.bin .add .i64 cj (.v 1)) (.v 3)),(.v 2)]) false (.v 1) [.dead,(.own e)]
     (.out .normal ⟨[],[],5,0,[.dead,.dead,(.own e)],0,0,[]⟩))
     (.out .normal ⟨[],[],5,0,[.dead,(.own e)],0,0,[]⟩))
     (.out .normal ⟨[],[],5,0,[.dead,(.own e)],0,0,[]⟩))))
   (.node (.cmp .lss (.v 0) (.v 3))
    (.node (.cmp .lss (.v 3) cj)
    (.cA b g e (.bN (N+3) o [(.v 0),(.v 3),cj]) false (.v 1) [.dead,(.own e)]
    (.node (.cmp .lss cj (.bin .sub .i64 (.bin .add .i64 cj (.v 1)) (.v 3)))
     (.node (.cmp .lss (.bin .sub .i64 (.bin .add .i64 cj (.v 1)) (.v 3)) (.v 2))
     (.cA b g e (.bN (N+3) o [cj,(.bin .sub .i64 (.bin .add .i64 cj (.v 1)) (.v 3)),(.v 2)]) false (.v 2) [.dead,.dead,(.own e)]
     (.out .normal ⟨[],[],5,0,[.dead,.dead,.dead,(.own e)],0,0,[]⟩))
     (.out .normal ⟨[],[],5,0,[.dead,.dead,(.own e)],0,0,[]⟩))
     (.out .normal ⟨[],[],5,0,[.dead,.dead,(.own e)],0,0,[]⟩)))
    (.node (.cmp .lss cj (.bin .sub .i64 (.bin .add .i64 cj (.v 1)) (.v 3)))
     (.node (.cmp .lss (.bin .sub .i64 (.bin .add .i64 cj (.v 1)) (.v 3)) (.v 2))
     (.cA b g e (.bN (N+3) o [cj,(.bin .sub .i64 (.bin .add .i64 cj (.v 1)) (.v 3)),(.v 2)]) false (.v 1) [.dead,(.own e)]
     (.out .normal ⟨[],[],5,0,[.dead,.dead,(.own e)],0,0,[]⟩))
     (.out .normal ⟨[],[],5,0,[.dead,(.own e)],0,0,[]⟩))
     (.out .normal ⟨[],[],5,0,[.dead,(.own e)],0,0,[]⟩)))
    (.node (.cmp .lss cj (.bin .sub .i64 (.bin .add .i64 cj (.v 1)) (.v 3)))
    (.node (.cmp .lss (.bin .sub .i64 (.bin .add .i64 cj (.v 1)) (.v 3)) (.v 2))
     (.cA b g e (.bN (N+3) o [cj,(.bin .sub .i64 (.bin .add .i64 cj (.v 1)) (.v 3)),(.v 2)]) false (.v 1) [.dead,(.own e)]
     (.out .normal ⟨[],[],5,0,[.dead,.dead,(.own e)],0,0,[]⟩))
     (.out .normal ⟨[],[],5,0,[.dead,(.own e)],0,0,[]⟩))
    (.out .normal ⟨[],[],5,0,[.dead,(.own e)],0,0,[]⟩))))
def abS:T:=(.loop 0 [.ref (.own e),.int .i64,.int .i64] [(.ref (.v 0)),(.int .i64 (.v 1)),(.int .i64 (.v 2))]
 (.node (.cmp .lss (.v 3) (.v 4))
  (.aF (.and (.cmp .leq (.c 0) iP) (.cmp .lss iP (.len (.v 1))))
  (.aF (.and (.cmp .leq (.c 0) iP) (.cmp .lss iP (.len (.v 1))))
  (.aF (.and (.cmp .leq (.c 0) (.v 0)) (.cmp .lss (.v 0) (.len (.v 1))))
  (.aF (.and (.cmp .leq (.c 0) (.v 0)) (.cmp .lss (.v 0) (.len (.v 1))))
  (.call g [(.agg (a (.v 1) iP)),(.agg (a (.v 1) (.v 0)))] [] [.dead,.dead] [.int .i64] (.int .i64 (.v 5))
  (.aF (.c true)
  (.node (.cmp .lss (.v 5) (.c 0))
  (.back 0 [(.ref (.v 1)),(.int .i64 (.bin .add .i64 iP (.c 1))),(.int .i64 (.v 4))])
  (.back 0 [(.ref (.v 1)),(.int .i64 (.v 3)),(.int .i64 iP)]))))))))
  (.loop 1 [.ref (.own e),.int .i64] [(.ref (.v 1)),(.int .i64 (.v 0))]
  (.node (.cmp .lss (.v 5) (.bin .sub .i64 (.v 3) (.c 1)))
   (.aF (.and (.cmp .leq (.c 0) (.bin .add .i64 (.v 5) (.c 1))) (.cmp .lss (.bin .add .i64 (.v 5) (.c 1)) (.len (.v 2))))
   (.aF (.and (.cmp .leq (.c 0) (.bin .add .i64 (.v 5) (.c 1))) (.cmp .lss (.bin .add .i64 (.v 5) (.c 1)) (.len (.v 2))))
   (.aF (.and (.cmp .leq (.c 0) (.v 5)) (.cmp .lss (.v 5) (.len (.v 2))))
   (.aF (.and (.cmp .leq (.c 0) (.v 5)) (.cmp .lss (.v 5) (.len (.v 2))))
   (.aF (.and (.cmp .leq (.c 0) (.v 5)) (.cmp .lss (.v 5) (.len (.v 2))))
   (.aF (.and (.cmp .leq (.c 0) (.v 5)) (.cmp .lss (.v 5) (.len (.v 2))))
   (.new e (.set (.ref (.v 2)) (.v 5) 0 (a (.v 2) (.bin .add .i64 (.v 5) (.c 1)))) [.dead,.dead,(.own e)] [.dead,.dead,.dead,(.own e)]
   (.aF (.and (.cmp .leq (.c 0) (.bin .add .i64 (.v 5) (.c 1))) (.cmp .lss (.bin .add .i64 (.v 5) (.c 1)) (.len (.v 3))))
   (.aF (.and (.cmp .leq (.c 0) (.bin .add .i64 (.v 5) (.c 1))) (.cmp .lss (.bin .add .i64 (.v 5) (.c 1)) (.len (.v 3))))
   (.new e (.set (.ref (.v 3)) (.bin .add .i64 (.v 5) (.c 1)) 0 (a (.v 2) (.v 5))) [.dead,.dead,.dead,(.own e)] [.dead,.dead,.dead,.dead,(.own e)]
   (.back 1 [(.ref (.v 4)),(.int .i64 (.bin .add .i64 (.v 5) (.c 1)))])))))))))))
   (.out .ret ⟨[],[],6,0,[.dead,.dead,(.own e)],0,0,[]⟩)))))
def abT:T:=(.loop 0 [.ref (.own e),.int .i64,.int .i64] [(.ref (.v 0)),(.int .i64 (.v 0)),(.int .i64 (.v 1))]
  (.node (.cmp .lss (.v 3) (.v 4))
  (.aF (.and (.cmp .leq (.c 0) (.v 1)) (.cmp .lss (.v 1) (.len (.v 1))))
  (.aF (.and (.cmp .leq (.c 0) (.v 1)) (.cmp .lss (.v 1) (.len (.v 1))))
  (.aF (.and (.cmp .leq (.c 0) iP) (.cmp .lss iP (.len (.v 1))))
  (.aF (.and (.cmp .leq (.c 0) iP) (.cmp .lss iP (.len (.v 1))))
  (.call g [(.agg (a (.v 1) (.v 1))),(.agg (a (.v 1) iP))] [] [.dead,.dead] [.int .i64] (.int .i64 (.v 5))
  (.aF (.c true)
  (.aF (.c true)
  (.node (.not (.cmp .lss (.v 5) (.c 0)))
   (.back 0 [(.ref (.v 1)),(.int .i64 (.bin .add .i64 iP (.c 1))),(.int .i64 (.v 4))])
   (.back 0 [(.ref (.v 1)),(.int .i64 (.v 3)),(.int .i64 iP)])))))))))
  (.loop 1 [.ref (.own e),.int .i64] [(.ref (.v 1)),(.int .i64 (.v 1))]
   (.node (.cmp .gtr (.v 5) (.v 3))
   (.aF (.and (.cmp .leq (.c 0) (.bin .sub .i64 (.v 5) (.c 1))) (.cmp .lss (.bin .sub .i64 (.v 5) (.c 1)) (.len (.v 2))))
   (.aF (.and (.cmp .leq (.c 0) (.bin .sub .i64 (.v 5) (.c 1))) (.cmp .lss (.bin .sub .i64 (.v 5) (.c 1)) (.len (.v 2))))
   (.aF (.and (.cmp .leq (.c 0) (.v 5)) (.cmp .lss (.v 5) (.len (.v 2))))
   (.aF (.and (.cmp .leq (.c 0) (.v 5)) (.cmp .lss (.v 5) (.len (.v 2))))
   (.aF (.and (.cmp .leq (.c 0) (.v 5)) (.cmp .lss (.v 5) (.len (.v 2))))
   (.aF (.and (.cmp .leq (.c 0) (.v 5)) (.cmp .lss (.v 5) (.len (.v 2))))
   (.new e (.set (.ref (.v 2)) (.v 5) 0 (a (.v 2) (.bin .sub .i64 (.v 5) (.c 1)))) [.dead,.dead,(.own e)] [.dead,.dead,.dead,(.own e)]
   (.aF (.and (.cmp .leq (.c 0) (.bin .sub .i64 (.v 5) (.c 1))) (.cmp .lss (.bin .sub .i64 (.v 5) (.c 1)) (.len (.v 3))))
   (.aF (.and (.cmp .leq (.c 0) (.bin .sub .i64 (.v 5) (.c 1))) (.cmp .lss (.bin .sub .i64 (.v 5) (.c 1)) (.len (.v 3))))
   (.new e (.set (.ref (.v 3)) (.bin .sub .i64 (.v 5) (.c 1)) 0 (a (.v 2) (.v 5))) [.dead,.dead,.dead,(.own e)] [.dead,.dead,.dead,.dead,(.own e)]
   (.back 1 [(.ref (.v 4)),(.int .i64 (.bin .sub .i64 (.v 5) (.c 1)))])))))))))))
   (.out .ret ⟨[],[],6,0,[.dead,.dead,(.own e)],0,0,[]⟩)))))
def Tt:T:=(.aF (.and (.cmp .leq (.c 0) (.bin .sub .i64 (.bin .sub .i64 (.bin .add .i64 cj (.v 1)) (.c 1)) iP)) (.cmp .lss (.bin .sub .i64 (.bin .sub .i64 (.bin .add .i64 cj (.v 1)) (.c 1)) iP) (.len (.v 1))))
   (.aF (.and (.cmp .leq (.c 0) (.bin .sub .i64 (.bin .sub .i64 (.bin .add .i64 cj (.v 1)) (.c 1)) iP)) (.cmp .lss (.bin .sub .i64 (.bin .sub .i64 (.bin .add .i64 cj (.v 1)) (.c 1)) iP) (.len (.v 1))))
   (.aF (.and (.cmp .leq (.c 0) iP) (.cmp .lss iP (.len (.v 1))))
   (.aF (.and (.cmp .leq (.c 0) iP) (.cmp .lss iP (.len (.v 1))))
   (.call g [(.agg (a (.v 1) (.bin .sub .i64 (.bin .sub .i64 (.bin .add .i64 cj (.v 1)) (.c 1)) iP))),(.agg (a (.v 1) iP))] [] [.dead,.dead] [.int .i64] (.int .i64 (.v 5))
   (.aF (.c true)
   (.aF (.c true)
   (.node (.not (.cmp .lss (.v 5) (.c 0)))
   (.back 0 [(.ref (.v 1)),(.int .i64 (.bin .add .i64 iP (.c 1))),(.int .i64 (.v 4))])
   (.back 0 [(.ref (.v 1)),(.int .i64 (.v 3)),(.int .i64 iP)])))))))))
def auB:T:=(.loop 0 [.ref (.own e),.int .i64,.int .i64] [(.ref (.v 0)),(.int .i64 (.bin .sub .i64 (.bin .add .i64 cj (.v 1)) (.v 2))),(.int .i64 cj)]
 (.node (.cmp .lss (.v 3) (.v 4)) (Tt g a) (Mc e g d b N o)))
def auC:T:=(.loop 0 [.ref (.own e),.int .i64,.int .i64] [(.ref (.v 0)),(.int .i64 (.v 0)),(.int .i64 (.v 1))]
 (.node (.cmp .lss (.v 3) (.v 4)) (Tt g a) (Mc e g d b N o)))
def Tu:T:=(.node (.cmp .eql (.bin .sub .i64 (.v 1) (.v 0)) (.c 1)) (abS e g a) (.node (.cmp .eql (.bin .sub .i64 (.v 2) (.v 1)) (.c 1)) (abT e g a) (.node (.cmp .gtr (.v 1) cj) (auB e g d b N o a) (auC e g d b N o a))))
def Tv:T:=(.loop 0 [.ref (.own e),.int .i64,.int .i64] [(.ref (.v 0)),(.int .i64 (.c 20)),(.int .i64 (.c 0))]
 (.node (.cmp .leq (.v 0) (.len (.v 0)))
 (.cA h g e (.bN 2 o [(.v 1),(.v 0)]) false (.v 1) [.dead,(.own e)]
 (.back 0 [(.ref (.v 2)),(.int .i64 (.bin .add .i64 (.v 0) (.c 20))),(.int .i64 (.v 0))]))
 (.cA h g e (.bN 2 o [(.v 1),(.len (.v 0))]) false (.v 1) [.dead,(.own e)]
 (.loop 1 [.ref (.own e),.int .i64] [(.ref (.v 2)),(.int .i64 (.c 20))]
  (.node (.cmp .lss (.v 2) (.len (.v 0)))
  (.loop 2 [.ref (.own e),.int .i64,.int .i64] [(.ref (.v 3)),(.int .i64 (.bin .mul .i64 (.c 2) (.v 2))),(.int .i64 (.c 0))]
   (.node (.cmp .leq (.v 3) (.len (.v 0)))
   (.cA b g e (.bN (N+3) o [(.v 4),(.bin .add .i64 (.v 4) (.v 2)),(.v 3)]) false (.v 4) [.dead,.dead,.dead,.dead,(.own e)]
   (.back 2 [(.ref (.v 5)),(.int .i64 (.bin .add .i64 (.v 3) (.bin .mul .i64 (.c 2) (.v 2)))),(.int .i64 (.v 3))]))
   (.node (.cmp .lss (.bin .add .i64 (.v 4) (.v 2)) (.len (.v 0)))
    (.cA b g e (.bN (N+3) o [(.v 4),(.bin .add .i64 (.v 4) (.v 2)),(.len (.v 0))]) false (.v 4) [.dead,.dead,.dead,.dead,(.own e)]
    (.back 1 [(.ref (.v 5)),(.int .i64 (.bin .mul .i64 (.v 2) (.c 2)))]))
    (.back 1 [(.ref (.v 4)),(.int .i64 (.bin .mul .i64 (.v 2) (.c 2)))]))))
  (.out .normal ⟨[],[],3,0,[.dead,.dead,.dead,(.own e)],0,0,[]⟩))))))
end
end
variable{k:List LK}
section
structure HP where
 K:List Bool
 g:Nat
 o:aU
 e:TypeId
 v:Value
 ar:List (List RV)
def abU(O:aa)(l:List SV)(x:List RV):Prop:=∀y V,SV.au (O.at y) V l=x.map RV.val
def Ew(c:Option LC)(Z:List XV):Prop:=match c with
 |some c=>c.I Z/\c.μ Z<c.m
 |none=>False
def auD(h:HP)(f:FuncId)(W:List SV)(V:List LK)(fe:SV)(O:aa)(k:Int->Prop):Prop:=f=h.g/\V=[.int .i64]/\fe=.int .i64 (.v O.i.length)/\∃Z X x y,W=[.agg Z,.agg X]/\abU O Z x/\abU O X y/\fH h.K x/\fH h.K y/\h.o.ok x=true/\h.o.ok y=true/\∀c:Int,(c<0<->h.o.lt x y=true)->k c
def T.hw(h:HP):T->aa->List LC->Prop
 |.out X s,O,_=>(X=.normal\/X=.ret)/\∃k,s.rs[k]?=some (.own h.e)/\O.rv k=.mk h.v h.ar
 |.node b t f,O,L=>if b.den O=true then t.hw h O L else f.hw h O L
 |.aF b t,O,L=>b.den O=true/\t.hw h O L
 |.call f U _ _ R fe t,O,L=>auD h f U R fe O λc=>t.hw h (O.add (.i c)) L
 |.loop ao _ Q t,O,L=>∃I W,I (Q.map (SV.xv O))/\∀Z,I Z->t.hw h (O.ext Z) (⟨ao,I,W,W Z⟩::L)
 |.back ao x,O,L=>Ew (ke ao L) (x.map (SV.xv O))
 |.new _ (.set (.ref (.v k)) i P N) _ _ t,O,L=>t.hw h (O.add (.r (.mk (O.rv k).val (LE.rows O (.set (.ref (.v k)) i P N))))) L
 |.cA _ _ _ M J r _ t,O,L=>∃V,gO O M J (r.rv O).rows=some V/\t.hw h (O.add (.r (.mk (r.rv O).val V))) L
 |_,_,_=>False
def tN(h:HP){p:Sp}(M:Et p.P h.K h.g h.o)(J:Tgt p h.e h.v h.ar):∀(t:T)(O:aa)(L:List LC),t.hw h O L->t.aH p O L
 |.out ex s,O,L,Z=>by
  obtain⟨H,k,G,E⟩:=Z;intro y V a W R;refine J _ s (O.at y) V a W k ?_ R G E;rcases H with rfl|rfl;exact .inl rfl;exact .inr rfl
 |.node b t f,O,L,Z=>by
  simp only[T.hw] at Z;refine⟨λD=>tN h M J t O L ?_,λD=>tN h M J f O L ?_⟩
  rwa [if_pos D] at Z
  rwa [if_neg (by simp[D])] at Z
 |.aF b t,O,L,Z=>⟨Z.1,tN h M J t O L Z.2⟩
 |.call f ag bx X z fe t,O,L,Z=>by
  obtain⟨rfl,rfl,rfl,w,u,x,y,rfl,H,G,E,q,m,j,d⟩:=Z;intro C V W R;have e:(SV.au (O.at C) V [.agg w,.agg u]).toArray= #[.agg (x.map RV.val).toArray,.agg (y.map RV.val).toArray]:=by
   simp only[SV.au,SV.den,H C V,G C V]
  rw[e];refine(M W x y E q m j).mono ?_;rintro en W' ⟨hB,c,rfl,ab⟩;refine⟨[.i c],⟨trivial,trivial⟩, ?_,hB,⟨trivial,trivial⟩, ?_⟩;simp[SV.den,IE.den,aa.ext,aa.add,aa.at];exact tN h M J t (O.add (.i c)) L (d c ab)
 |.loop ao z x0 t,O,L,Z=>by
  obtain⟨I,μ,H,G⟩:=Z;exact⟨I,μ,H,λxs _ hx=>tN h M J t _ _ (G xs hx)⟩
 |.back ao x,O,L,Z=>by
  simp only[T.hw,Ew] at Z;simp only[T.aH];cases B:ke ao L with
  |none=>rw[B] at Z;exact Z
  |some c=>rw[B] at Z;exact Z
 |.new e (.set (.ref (.v k)) i N Q) X U t,O,L,Z=>by
  intro rv hn;obtain⟨⟨A,n,c,rfl,hl⟩,_,F⟩:=hn;have F:=F k i N Q rfl;refine tN h M J t _ L ?_;simp only[RV.ji] at F;rw[F];exact Z
 |.new e (.ref r) X U t,O,L,Z=>by simp[T.hw] at Z
 |.new e (.lit l) X U t,O,L,Z=>by simp[T.hw] at Z
 |.new e (.jH a b) X U t,O,L,Z=>by simp[T.hw] at Z
 |.new e (.pl n al) X U t,O,L,Z=>by simp[T.hw] at Z
 |.new e (.sub a lo hi) X U t,O,L,Z=>by simp[T.hw] at Z
 |.new e (.ins a n Q) X U t,O,L,Z=>by simp[T.hw] at Z
 |.new e (.set (.ref (.k _)) i N Q) X U t,O,L,Z=>by simp[T.hw] at Z
 |.new e (.set (.lit _) i N Q) X U t,O,L,Z=>by simp[T.hw] at Z
 |.new e (.set (.jH _ _) i N Q) X U t,O,L,Z=>by simp[T.hw] at Z
 |.new e (.set (.pl _ _) i N Q) X U t,O,L,Z=>by simp[T.hw] at Z
 |.new e (.set (.set _ _ _ _) i N Q) X U t,O,L,Z=>by simp[T.hw] at Z
 |.new e (.set (.sub _ _ _) i N Q) X U t,O,L,Z=>by simp[T.hw] at Z
 |.new e (.set (.ins _ _ _) i N Q) X U t,O,L,Z=>by simp[T.hw] at Z
 |.new e (.set (.ref (.cell _ _ _ _)) i N Q) X U t,O,L,Z=>by simp[T.hw] at Z
 |.cA f g e sp st r X t,O,L,Z=>by
  obtain⟨af,H,G⟩:=Z;exact⟨af,H,tN h M J t _ L G⟩
 |.ret ..,_,_,Z=>by simp[T.hw] at Z
 |.aR ..,_,_,Z=>by simp[T.hw] at Z
 |.rows ..,_,_,Z=>by simp[T.hw] at Z
 |.dW ..,_,_,Z=>by simp[T.hw] at Z
 |.pick ..,_,_,Z=>by simp[T.hw] at Z
 |.stuck _,_,_,Z=>by simp[T.hw] at Z
section
variable{h:HP}{O:aa}{L:List LC}
def Ex(e:O=t):T.hw h v O L=T.hw h v t L:=by rw[e]
def rR(b:BE)(t f:T):T.hw h (.node b t f) O L=(if b.den O=true then t.hw h O L else f.hw h O L):=rfl
def Ey(b:BE)(t:T):T.hw h (.aF b t) O L=(b.den O=true/\t.hw h O L):=rfl
def Ez(ao:Nat)(x:List SV):T.hw h (.back ao x) O L=Ew (ke ao L) (x.map (SV.xv O)):=rfl
def EA(e:TypeId)(k:Nat)(i:IE)(Z:Nat)(X:List SV)(W V:List RK)(t:T):T.hw h (.new e (.set (.ref (.v k)) i Z X) W V t) O L=t.hw h (O.add (.r (.mk (O.rv k).val (LE.rows O (.set (.ref (.v k)) i Z X))))) L:=rfl
def xB(f g:FuncId)(e:TypeId)(Z:aU)(X:Bool)(r:RE)(V:List RK)(t:T):T.hw h (.cA f g e Z X r V t) O L=(∃W,gO O Z X (r.rv O).rows=some W/\t.hw h (O.add (.r (.mk (r.rv O).val W))) L):=rfl
def xC(Z:XE)(s:S):T.hw h (.out Z s) O L=((Z=.normal\/Z=.ret)/\∃k,s.rs[k]?=some (.own h.e)/\O.rv k=.mk h.v h.ar):=rfl
def tO(I:List XV->Prop)(Z:List XV->Nat)(V:I (C.map (SV.xv O)))(U:∀W,I W->v.hw h (O.ext W) (⟨X,I,Z,Z W⟩::L)):T.hw h (.loop X k C v) O L:=⟨I,Z,V,U⟩
end
end
section
attribute[local simp] IE.den BE.den RE.rv RE.den ey aa.rv aa.ext aa.add SV.xv rR Ey Ez EA xB xC LE.rows ke
attribute[local congr] Ex
structure zI(K:List Bool)(d:RE->IE->List SV):Prop where
 bu:∀(O:aa)(r:RE)(i:IE)(x:List RV),(r.rv O).rows[(i.den O).toNat]?=some x->fH K x->(d r i).map (SV.bu O)=x
 den:∀(O:aa)(r:RE)(i:IE)(x:List RV),(r.rv O).rows[(i.den O).toNat]?=some x->fH K x->abU O (d r i) x
def abV:∀{K:List Bool}{x:List RV},fH K x->x.length=K.length
 |[],_,h=>by cases h;rfl
 |_::_,[],h=>h.elim
 |_::_,_::_,h=>by simp[abV h.2]
def amk:∀(x X Z:List RV),X.length=x.length->dJ (Z++X) Z.length x=Z++x
 |[],X,Z,h=>by
  have:X=[]:=ay4 h;subst this;rfl
 |v::r,[],Z,h=>by simp at h
 |v::r,c::X,Z,h=>by
  have W:=amk r X (Z++[v]) (by simpa using h);simp only[ayN,azn,aAC,azt,ayP,ayU] at W;simp only[dJ];rw[aAk _ _ (ayH _),aBb,aB9];exact W
def B7(Q:∀W∈Z,fH y W)(P:fH y G):(Z.modify X λV=>dJ V 0 G)=Z.set X G:=by
 apply ay3;intro k;rw[aAK,azr];by_cases R:X=k;subst R;simp only[if_true];cases U:Z[X]? with
 |none=>
  have:=azm.1 U;rw[if_neg (by omega)];rfl
 |some V=>
  obtain⟨O,_⟩:=ayA.1 U;rw[if_pos O];have:=amk G V [] (by rw[abV (Q V (ayW U)),abV P]);simpa using this
 simp[R]
def Me(Z:-9223372036854775808<=u)(X:u<9223372036854775808):IntKind.i64.wrap u=u:=by
 rw[IntKind.wrap_i64];omega
def vw{a b:Nat}(h:a+b<=4398046511104):aP .add .i64 (a:Int) (b:Int)=((a+b:Nat):Int):=by
 simp only[aP];rw[Me (by omega) (by omega)];omega
def tP{a b:Nat}(h:b<=a)(Z:a<=4398046511104):aP .sub .i64 (a:Int) (b:Int)=((a-b:Nat):Int):=by
 simp only[aP];rw[Me (by omega) (by omega)];omega
def zJ{a:Nat}(h:a<=4398046511103):aP .add .i64 (a:Int) 1=((a+1:Nat):Int):=vw (b:=1) (by omega)
def Tw{a:Nat}(h:1<=a)(Z:a<=4398046511104):aP .sub .i64 (a:Int) 1=((a-1:Nat):Int):=tP (b:=1) h Z
def auE(Z:List (List RV))(O:X+A<=H)(W:H+A<=Z.length)(k:Nat):
  (Z.take X++(aK Z H (H+A)++(aK Z (X+A) H++(aK Z X (X+A)++Z.drop (H+A)))))[k]?=if X<=k/\k<X+A then Z[k-X+H]? else if H<=k/\k<H+A then Z[k-H+X]? else Z[k]?:=by
 have V:(Z.take X).length=X:=by simp;omega
 have U:(aK Z H (H+A)).length=A:=by rw[m5 Z W];omega
 have R:(aK Z (X+A) H).length=H-(X+A):=m5 Z (by omega);have Q:(aK Z X (X+A)).length=A:=by rw[m5 Z (by omega)];omega
 by_cases P:k<X;rw[ayD (by omega),if_neg (by omega),if_neg (by omega),ay7,if_pos P];rw[ayG (by omega),V];by_cases N:k<X+A;rw[ayD (by omega),if_pos (by omega),Ma Z (by omega)];congr 1;omega;rw[ayG (by omega),U,if_neg (by omega)];by_cases M:k<H;rw[ayD (by omega),if_neg (by omega),Ma Z (by omega)];congr 1;omega;rw[ayG (by omega),R];by_cases L:k<H+A;rw[ayD (by omega),if_pos (by omega),Ma Z (by omega)];congr 1;omega;rw[ayG (by omega),Q,if_neg (by omega),azj];congr 1;omega
def xD(h:M.length=3):∃a b c,M=[a,b,c]:=by
 match M,h with
 |[a,b,c],_=>exact⟨a,b,c,rfl⟩
def two(h:M.length=2):∃a b,M=[a,b]:=by
 match M,h with
 |[a,b],_=>exact⟨a,b,rfl⟩
def vx{a:Int}(h:0<=a):∃n:Nat,a=n:=⟨a.toNat,by omega⟩
section
variable{K:List Bool}{e g:Nat}{o:aU}{d:RE->IE->List SV}
set_option maxHeartbeats 2000000 in
def aml (H:zI K d):Mb K e g o 0 3 (Tp e d):=by
 rintro p _ X ar ns s q ⟨A,n,V,rfl,l,hn⟩ f c W ab;obtain⟨a,b,m,rfl⟩:=xD c;obtain⟨_,W⟩:=vZ W;simp only[jB] at W;split at W;rename_i Q;simp only[ayz,decide_eq_true_eq] at Q;obtain⟨a,rfl⟩:=vx Q.1.1.1;obtain⟨m,rfl⟩:=vx Q.1.1.2;obtain⟨b,rfl⟩:=vx (a:=b) (by omega);have h1:a+m<=b:=by omega
 have h2:b+m<=X.length:=by omega
 simp only[ayE] at W;have e1:((a:Int)).toNat=a:=rfl;have e2:((b:Int)).toNat=b:=rfl;have e3:((b:Int)+(m:Int)).toNat=b+m:=by omega
 have e4:((a:Int)+(m:Int)).toNat=a+m:=by omega
 rw[e1,e2,e3,e4] at W;have G:=auE X h1 h2;rw[W] at G;clear W;refine tN ⟨K,g,o,e,.slice A n V,ar⟩ (s▸q) ab _ _ _ ?_;unfold Tp;refine tO (λP=>∃(i:Nat)(Z:List (List RV)),P=[.r (.mk (.slice A n V) Z),.i i]/\i<=m/\Z.length=n/\(∀x∈Z,fH K x)/\∀k:Nat,Z[k]?=if a<=k/\k<a+i then X[k-a+b]? else if b<=k/\k<b+i then X[k-b+a]? else X[k]?) (λP=>match P with|[_,.i j]=>m-j.toNat|_=>0) ⟨0,X,rfl,by omega,l,f,λk=>by rw[if_neg (by omega),if_neg (by omega)]⟩ ?_;rintro _ ⟨i,Z,rfl,hi,hl,U,R⟩;by_cases af:i<m;obtain⟨x,O⟩:∃x,Z[a+i]?=some x:=ayA.2 ⟨by omega,rfl⟩|>λh=>⟨_,h⟩
 obtain⟨y,N⟩:∃y,Z[b+i]?=some y:=ayA.2 ⟨by omega,rfl⟩|>λh=>⟨_,h⟩
 have M:=U x (ayW O);have L:=U y (ayW N);have F:=vw (a:=a) (b:=i) (by omega);have E:=vw (a:=b) (b:=i) (by omega);have c1:aAE (SV.bu ⟨[(a:Int),b,m,i],[],[.mk (.slice A n V) X,.mk (.slice A n V) Z],[]⟩) (d (.v 1) (.bin .add .i64 (.v 1) (.v 3)))=y:=H.bu _ _ _ y (by simp only[RE.rv,aa.rv,IE.den,az5,azS,RV.jk,E,azN];exact N) L;have c2:∀D,aAE (SV.bu ⟨[(a:Int),b,m,i],[],[.mk (.slice A n V) X,.mk (.slice A n V) Z,D],[]⟩) (d (.v 1) (.bin .add .i64 (.v 0) (.v 3)))=x:=λD=>H.bu _ _ _ x (by simp only[RE.rv,aa.rv,IE.den,az5,azS,RV.jk,F,azN];exact O) M
 have m1:(Z.modify (a+i) λJ=>dJ J 0 y)=Z.set (a+i) y:=B7 U L;have C:∀z∈Z.set (a+i) y,fH K z:=λz I=>by
  rcases azs I with h|rfl;exact U z h;exact L
 have m2:((Z.set (a+i) y).modify (b+i) λJ=>dJ J 0 x)=(Z.set (a+i) y).set (b+i) x:=B7 C M;have t1:((a:Int)+(i:Int)).toNat=a+i:=by omega
 have t2:((b:Int)+(i:Int)).toNat=b+i:=by omega
 simp[F,E,zJ (a:=i) (by omega),af,c1,c2,t1,t2,m1,m2,lenOf];refine⟨by omega,by omega,by omega,⟨i+1,_,rfl,by omega,by simp[hl],λz I=> ?_,λk=> ?_⟩,show m-((i:Int)+1).toNat<m-i by omega⟩;rcases azs I with h|rfl;exact C z h;exact M;have ag:X[a+i]?=some x:=by
  have:=R (a+i);rw[if_neg (by omega),if_neg (by omega)] at this;rw[<-this];exact O
 have al:X[b+i]?=some y:=by
  have:=R (b+i);rw[if_neg (by omega),if_neg (by omega)] at this;rw[<-this];exact N
 rw[azr,azr];by_cases B:b+i=k;subst B;rw[if_pos rfl,if_pos (by simp;omega),if_neg (by omega),if_pos (by omega),<-ag];congr 1;omega;rw[if_neg B];by_cases w:a+i=k;subst w;rw[if_pos rfl,if_pos (by omega),if_pos (by omega),<-al];congr 1;omega;rw[if_neg w,R k];by_cases u:a<=k/\k<a+i;rw[if_pos u,if_pos (by omega)];rw[if_neg u];by_cases t:b<=k/\k<b+i;rw[if_pos t,if_neg (by omega),if_pos (by omega)];rw[if_neg t,if_neg (by omega),if_neg (by omega)];have an:i=m:=by omega
 subst an;have a0:Z=ar:=ay3 λk=>by rw[R k,G k]
 subst a0;simp;exact⟨1,rfl,rfl⟩;cases W
end
end
section
attribute[local simp] IE.den BE.den RE.rv RE.den ey aa.rv aa.ext aa.add SV.xv rR Ey Ez EA xB xC LE.rows ke gO
attribute[local congr] Ex
def Mf(P S Q:List (List RV)):aK (P++(S++Q)) P.length (P.length+S.length)=S:=by simp[aK]
def Mg{P Q:List (List RV)}(h:Z=P++(U++Q))(W:X=P.length)(V:H=X+U.length):aK Z X H=U:=by
 subst h;subst W;subst V;exact Mf P U Q
def abW{o:aU}{P X M Y Q:List (List RV)}{a b n:Int}(Z:a=P.length)(W:b=P.length+X.length+M.length)(V:n=X.length)(E:Y.length=X.length)(U:(P++(X++(M++(Y++Q)))).length<=1099511627776):
  ln 0 o [a,b,n] (P++(X++(M++(Y++Q))))=some (P++(Y++(M++(X++Q)))):=by
 subst Z;subst W;subst V;unfold ln;rw[if_pos U];simp only[jB];rw[if_pos (by simp only[ayz,decide_eq_true_eq,ayN];omega)];have R:((P.length:Int)).toNat=P.length:=rfl;have O:((P.length:Int)+X.length+M.length).toNat=P.length+X.length+M.length:=by omega
 have N:((P.length:Int)+X.length+M.length+X.length).toNat=P.length+X.length+M.length+X.length:=by omega
 have L:((P.length:Int)+X.length).toNat=P.length+X.length:=by omega
 rw[R,O,N,L];have J:(P++(X++(M++(Y++Q)))).take P.length=P:=by simp
 have I:aK (P++(X++(M++(Y++Q)))) (P.length+X.length+M.length) (P.length+X.length+M.length+X.length)=Y:=Mg (P:=P++(X++M)) (Q:=Q) (by simp) (by simp;omega) (by omega);have H:aK (P++(X++(M++(Y++Q)))) (P.length+X.length) (P.length+X.length+M.length)=M:=Mg (P:=P++X) (Q:=Y++Q) (by simp) (by simp) rfl;have G:aK (P++(X++(M++(Y++Q)))) P.length (P.length+X.length)=X:=Mf P X _;have F:(P++(X++(M++(Y++Q)))).drop (P.length+X.length+M.length+X.length)=Q:=by
  have:P++(X++(M++(Y++Q)))=(P++(X++(M++Y)))++Q:=by simp
  rw[this,aAU (by simp;omega)]
 rw[J,I,H,G,F]
def amm(Z:List (List RV))(W:X<=H)(V:H<=A):Z.take X++(aK Z X H++(aK Z H A++Z.drop A))=Z:=by
 rw[<-azt (aK Z X H),<-lK Z W V,Iv Z (by omega)]
def ph{c:Prop}[Decidable c]{A B:Prop}(Z:c->A)(X:¬c->B):if c then A else B:=by
 by_cases h:c;rw[if_pos h];exact Z h;rw[if_neg h];exact X h
section
variable{K:List Bool}{e g d:Nat}{o:aU}{f:RE->IE->List SV}
set_option maxHeartbeats 2000000 in
def amn:Mb K e g o 1 3 (Tq e g d o):=by
 rintro p _ Z ar ns y x ⟨G,n,F,rfl,w,hn⟩ hT v O u;obtain⟨a,m,b,rfl⟩:=xD v;obtain⟨_,O⟩:=vZ O;simp only[jB] at O;split at O;rename_i E;simp only[ayz,decide_eq_true_eq] at E;obtain⟨a,rfl⟩:=vx E.1.1.1;obtain⟨m,rfl⟩:=vx (a:=m) (by omega);obtain⟨b,rfl⟩:=vx (a:=b) (by omega);simp only[ayE,azN] at O;have D:b<=Z.length:=by omega
 refine tN ⟨K,g,o,e,.slice G n F,ar⟩ (y▸x) u _ _ _ ?_;unfold Tq;refine tO (λJ=>∃(P A B Q:List (List RV)),J=[.r (.mk (.slice G n F) (P++(A++(B++Q)))),.i A.length,.i B.length]/\1<=A.length/\1<=B.length/\P.length+A.length=m/\m+B.length<=b/\(P++(A++(B++Q))).length=n/\P++(B++(A++Q))=ar) (λJ=>match J with|[_,.i i,.i j]=>i.toNat+j.toNat|_=>0) ⟨Z.take a,aK Z a m,aK Z m b,Z.drop b, ?_, ?_⟩ ?_;have t:Z.take a++(aK Z a m++(aK Z m b++Z.drop b))=Z:=by
  exact amm Z (by omega) (by omega)
 have C:(aK Z a m).length=m-a:=m5 Z (by omega);have z:(aK Z m b).length=b-m:=m5 Z D;simp only[ayO,azT,SV.xv,RE.rv,aa.rv,azS,az5,IE.den,t,C,z];rw[tP (a:=m) (b:=a) (by omega) (by omega),tP (a:=b) (b:=m) (by omega) (by omega)];have C:(aK Z a m).length=m-a:=m5 Z (by omega);have z:(aK Z m b).length=b-m:=m5 Z D;refine⟨by omega,by omega,by simp;omega,by omega, ?_,O⟩;rw[amm Z (by omega) (by omega)];exact w;rintro _ ⟨P,A,B,Q,rfl,hA,hB,ab,af,s,I⟩;have q:=tP (a:=m) (b:=A.length) (by omega) (by omega);have l:((m-A.length:Nat):Int)=P.length:=by omega
 simp only[ayN] at s;simp[q,l];refine ph (λk=> ?_) (λk=>ph (λh=> ?_) (λh=> ?_));have N:=abW (o:=o) (P:=P) (X:=A) (M:=[]) (Y:=B) (Q:=Q) (a:=P.length) (b:=m) (n:=A.length) rfl (by simp;omega) rfl (by omega) (by simp;omega);refine⟨P++(B++(A++Q)),by simpa using N,2,rfl, ?_⟩;simp[I];obtain⟨U,R,rfl,H⟩:∃U R,A=U++R/\U.length=B.length:=⟨A.take B.length,A.drop B.length,(az1 _ _).symm,by simp;omega⟩;simp only[ayN] at*;have L:=tP (a:=U.length+R.length) (b:=B.length) (by omega) (by omega);have N:=abW (o:=o) (P:=P) (X:=U) (M:=R) (Y:=B) (Q:=Q) (a:=P.length) (b:=m) (n:=B.length) rfl (by omega) (by omega) (by omega) (by simp;omega);refine⟨P++(B++(R++(U++Q))),by simpa using N,⟨P++B,R,U,Q, ?_,by omega,by omega,by simp;omega,by omega,by simp;omega, ?_⟩, ?_⟩;rw[L,H];simp;rw[<-I];simp;rw[L];show((U.length+R.length-B.length:Nat):Int).toNat+((B.length:Int)).toNat<U.length+R.length+B.length;omega;obtain⟨V,W,rfl,H⟩:∃V W,B=V++W/\W.length=A.length:=⟨B.take (B.length-A.length),B.drop (B.length-A.length),(az1 _ _).symm,by simp;omega⟩;simp only[ayN] at*;have f:=vw (a:=m) (b:=V.length+W.length) (by omega);have L:=tP (a:=m+(V.length+W.length)) (b:=A.length) (by omega) (by omega);have c:=tP (a:=V.length+W.length) (b:=A.length) (by omega) (by omega);have N:=abW (o:=o) (P:=P) (X:=A) (M:=V) (Y:=W) (Q:=Q) (a:=P.length) (b:=((m+(V.length+W.length)-A.length:Nat):Int)) (n:=A.length) rfl (by omega) rfl (by omega) (by simp;omega);rw[f,L,c];refine⟨P++(W++(V++(A++Q))),by simpa using N,⟨P,W,V,A++Q, ?_,by omega,by omega,by omega,by omega,by simp;omega, ?_⟩, ?_⟩;rw[H];simp;rw[<-I];simp;show((A.length:Int)).toNat+((V.length+W.length-A.length:Nat):Int).toNat<A.length+(V.length+W.length);omega;cases O
end
end
variable{F:List RV→List RV→Bool}{B:List RK}
section
attribute[local simp] IE.den BE.den RE.rv RE.den ey aa.rv aa.ext aa.add SV.xv rR Ey Ez EA xB xC LE.rows ke gO
attribute[local congr] Ex
def auF(l:List (List RV))(x:List RV):bp F (l++[x])=cQ F x (bp F l):=by simp[bp]
def amo{lt:List RV->List RV->Bool}{x:List RV}:∀{L G:List (List RV)},(∀l∈L,lt x l=false)->(∀g∈G,lt x g=true)->cQ lt x (L++G)=L++x::G
 |[],[],_,_=>rfl
 |[],g::G,_,h=>by simp[cQ,h g (by simp)]
 |l::L,G,Z,X=>by
  have W:=amo (L:=L) (G:=G) (λy V=>Z y (by simp[V])) X;simp only[ayP,cQ,Z l (by simp)];rw[W];simp
def amp(A R:List (List RV))(l x:List RV)(Z:X=A.length):((A++(l::x::R)).set (X+1) l).set X x=A++(x::l::R):=by
 subst Z;rw[aAk _ _ (by omega),aAu,aAk _ _ (by omega),aBb];rfl
def Tx{h:HP}{L:List LC}{d:RE->IE->List SV}(R:zI h.K d){Z W:RE}{V U:IE}{N:aX}(M:X=t.i.length)(x y:List RV)(J:(Z.rv t).rows[(V.den t).toNat]?=some x)(I:(W.rv t).rows[(U.den t).toNat]?=some y)(Q:fH h.K x)(P:fH h.K y)(H:h.o.ok x=true)(G:h.o.ok y=true)
  (F:∀c:Int,(c<0<->h.o.lt x y=true)->v.hw h (t.add (.i c)) L):T.hw h (.call h.g [.agg (d Z V),.agg (d W U)] N B [.int .i64] (.int .i64 (.v X)) v) t L:=by
 subst M;exact⟨rfl,rfl,rfl,_,_,x,y,rfl,R.den t Z V x J Q,R.den t W U y I P,Q,P,H,G,F⟩
section
variable{K:List Bool}{e g:Nat}{o:aU}{d:RE->IE->List SV}
set_option maxHeartbeats 4000000 in
def amq (t:zI K d) (ag:jb o.lt (λx=>o.ok x=true)):Mb K e g o 2 2 (Ts e g d):=by
 rintro p _ Z ar ns hP a5 ⟨V,n,U,rfl,b2,hn⟩ hT hN R a6;obtain⟨a,b,rfl⟩:=two hN;obtain⟨_,R⟩:=vZ R;simp only[jB] at R;split at R;rename_i H;simp only[ayz,decide_eq_true_eq,ayM] at H;obtain⟨⟨⟨a7,a8⟩,nu⟩,al⟩:=H;obtain⟨a,rfl⟩:=vx a7;obtain⟨b,rfl⟩:=vx (a:=b) (by omega);simp only[ayE,azN] at R;have hb:b<=Z.length:=by omega
 have a8:a<=b:=by omega
 refine tN ⟨K,g,o,e,.slice V n U,ar⟩ (hP▸a5) a6 _ _ _ ?_;unfold Ts;refine tO (λQ=>∃(i:Nat)(F:List (List RV)),Q=[.r (.mk (.slice V n U) F),.i i]/\a<i/\i<=b+1/\F=Z.take a++(bp o.lt (aK Z a (min i b))++Z.drop (min i b))) (λQ=>match Q with|[_,.i i]=>b+1-i.toNat|_=>0) ⟨a+1,Z, ?_,by omega,by omega, ?_⟩ ?_;simp only[ayO,azT,SV.xv,RE.rv,aa.rv,azS,IE.den];rw[zJ (by omega)];by_cases h:a+1<=b;rw[aAR h];have:aK Z a (a+1)=[Z[a]'(by omega)]:=by
  simp only[aK,show a+1-a=1 by omega];rw[azx (by omega)];rfl
 rw[this];show Z=_++([Z[a]'(by omega)]++_);rw[<-this,Iv Z (by omega)];have:b=a:=by omega
 subst this;rw[aBE (by omega)];have:aK Z b b=[]:=by simp[aK]
 rw[this];show Z=Z.take b++([]++Z.drop b);simp;rintro _ ⟨i,F,rfl,b3,b4,bA⟩;by_cases an:i<b;rw[aAR (by omega)] at bA;obtain⟨x,hx⟩:∃x,x=Z[i]'(by omega):=⟨_,rfl⟩;have s:Z.drop i=x::Z.drop (i+1):=by rw[hx,azx (by omega)]
 have hS:(bp o.lt (aK Z a i)).length=i-a:=by rw[nq,m5 Z (by omega)]
 have a9:aK Z a (i+1)=aK Z a i++[x]:=by
  rw[lK Z (show a<=i by omega) (show i<=i+1 by omega)];congr 1;simp only[aK,aAu,s];rfl
 have N:∀y,y∈Z.take a\/y∈bp o.lt (aK Z a i)\/y=x\/y∈Z.drop (i+1)->fH K y/\o.ok y=true:=by
  intro y W;have:y∈Z:=by
   rcases W with h|h|rfl|h;exact azH h;exact pG (Es h);rw[hx];exact azR _;exact azB h
  exact⟨hT y this,al y this⟩
 have q:em o.lt (bp o.lt (aK Z a i)):=Er ag λz hz=>al z (pG hz)
 have bb:(Z.take a).length=a:=by simp;omega
 have bd:(Z.drop (i+1)).length=n-(i+1):=by simp;omega
 generalize bf:bp o.lt (aK Z a i)=S at bA hS N q;generalize b5:Z.take a=P at bA N bb R;generalize bg:Z.drop (i+1)=D at s N bd;rw[s] at bA;have a0:∀L G,S=L++G->(∀l∈L,o.lt x l=false)->(∀g∈G,o.lt x g=true)->P++(L++x::(G++D))=P++(bp o.lt (aK Z a (min (i+1) b))++Z.drop (min (i+1) b)):=by
  intro L G E C h3;rw[aAR (by omega),a9,auF,bf,E,amo C h3,bg];simp
 simp[an];refine tO (λQ=>∃(L G:List (List RV)),Q=[.r (.mk (.slice V n U) (P++(L++x::(G++D)))),.i ((a+L.length:Nat):Int)]/\S=L++G/\∀g∈G,o.lt x g=true) (λQ=>match Q with|[_,.i j]=>j.toNat|_=>0) ⟨S,[], ?_,by simp,by simp⟩ ?_;simp[bA,hS];omega;rintro _ ⟨L,G,rfl,X,m⟩;rcases List.eq_nil_or_concat L with rfl|⟨L,l,rfl⟩;simp;rw[zJ (by omega)];refine⟨⟨i+1,_,rfl,by omega,by omega, ?_⟩, ?_⟩;exact a0 [] G X (by simp) m;show b+1-((i+1:Nat):Int).toNat<b+1-i;omega;simp only[List.concat_eq_append] at X⊢;have b6:a+L.length+1<=i:=by
  have:=congrArg aAM X;simp only[ayN,azn,aAC] at this;omega
 have M:aP .sub .i64 (((a+(L.length+1):Nat)):Int) 1=((a+L.length:Nat):Int):=by rw[Tw (by omega) (by omega)];omega
 have B:=N x (by simp);have J:=N l (.inr (.inl (by rw[X];simp)));have e0:P++(L++[l]++x::(G++D))=(P++L)++(l::x::(G++D)):=by simp
 have k:((P++L)++(l::x::(G++D)))[a+(L.length+1)]?=some x:=by
  rw[ayG (by simp;omega)];simp[show a+(L.length+1)-(P.length+L.length)=1 by omega]
 have f:((P++L)++(l::x::(G++D)))[a+L.length]?=some l:=by
  rw[ayG (by simp;omega)];simp[show a+L.length-(P.length+L.length)=0 by omega]
 have ab:∀y∈(P++L)++(l::x::(G++D)),fH K y/\o.ok y=true:=by
  intro y W;refine N y ?_;simp only[ayL,ayK] at W;rcases W with(h|h)|h|h|h|h;exact .inl h;exact .inr (.inl (by rw[X];simp[h]));subst h;exact .inr (.inl (by rw[X];simp));exact .inr (.inr (.inl h));exact .inr (.inl (by rw[X];simp[h]));exact .inr (.inr (.inr h))
 have a1:((P++L)++(l::x::(G++D))).length=n:=by
  have:=congrArg aAM X;simp only[ayN,azn,aAC] at this;simp only[ayN,azn];omega
 rw[e0];have bk:(((a+(L++[l]).length:Nat):Int))=((a+(L.length+1):Nat):Int):=by simp
 rw[bk];have A:((a+(L.length+1):Nat):Int).toNat=a+(L.length+1):=rfl;have u:((a+L.length:Nat):Int).toNat=a+L.length:=rfl;have a2:((a+(L.length+1):Nat):Int)=((a+L.length:Nat):Int)+1:=by omega
 have bl:((a+(L.length+1):Nat):Int)<n:=by
  have:=a1;simp only[ayN,azn] at this;omega
 have a3:(a:Int)<((a+(L.length+1):Nat):Int):=by omega
 have bo:(0:Int)<=((a+L.length:Nat):Int):=by omega
 generalize hz:((a+(L.length+1):Nat):Int)=z at M A a2 bl a3⊢;generalize hw:((a+L.length:Nat):Int)=w at M u a2 bo⊢;generalize hR:(P++L)++(l::x::(G++D))=I at k f ab a1⊢;simp[M,a3];refine⟨⟨by omega,by simp[lenOf];omega⟩,⟨by omega,by simp[lenOf];omega⟩, ?_⟩;refine Tx t rfl x l ?_ ?_ B.1 J.1 B.2 J.2 (λc H=> ?_);simp[A];exact k;simp[M,u];exact f;have c1:∀O:aa,O.r=[.mk (.slice V n U) Z,.mk (.slice V n U) F,.mk (.slice V n U) I]->O.i=[(a:Int),b,i,z,c]->aAE (SV.bu O) (d (.v 2) (.bin .sub .i64 (.v 3) (.c 1)))=l:=λO E C=>t.bu O _ _ l (by simp[E,C,M,u];exact f) J.1
 have c2:∀(O:aa) rv,O.r=[.mk (.slice V n U) Z,.mk (.slice V n U) F,.mk (.slice V n U) I,rv]->O.i=[(a:Int),b,i,z,c]->aAE (SV.bu O) (d (.v 2) (.v 3))=x:=λO rv E C=>t.bu O _ _ x (by simp[E,C,A];exact k) B.1
 simp[M];refine ph (λbr=> ?_) (λbs=> ?_);rw[c1 _ rfl rfl,c2 _ _ rfl rfl];have m1:(I.modify z.toNat λaf=>dJ af 0 l)=I.set (a+L.length+1) l:=by rw[A];exact B7 (λy W=>(ab y W).1) J.1
 have m2:((I.set (a+L.length+1) l).modify w.toNat λaf=>dJ af 0 x)=(I.set (a+L.length+1) l).set (a+L.length) x:=by
  rw[u];refine B7 (λy W=> ?_) B.1;rcases azs W with h|rfl;exact(ab y h).1;exact J.1
 rw[m1,m2,<-hR,amp (P++L) (G++D) l x (by simp;omega)];refine⟨⟨by omega,by simp[lenOf];omega⟩,⟨by omega,by simp[lenOf];omega⟩,⟨by omega,by simp[lenOf];omega⟩,⟨L,l::G, ?_,by rw[X];simp,λg' bt=> ?_⟩, ?_⟩;simp;omega;rcases ayK.1 bt with rfl|h;exact H.1 br;exact m g' h;show w.toNat<z.toNat;omega;have a4:o.lt x l=false:=by
  cases h:o.lt x l;rfl;exact absurd (H.2 h) bs
 have bx:∀y∈L++[l],o.lt x y=false:=by
  intro y W;rcases ayL.1 W with h|h;have:o.lt l y=false:=by
   rw[X] at q;exact(ay6.1 (ay6.1 q).1).2.2 y h l (by simp)
  have b0:=N y (.inr (.inl (by rw[X];simp[h])));exact ag.nt x l y B.2 J.2 b0.2 a4 this;simp at h;subst h;exact a4
 rw[zJ (by omega)];refine⟨⟨i+1,_,rfl,by omega,by omega, ?_⟩, ?_⟩;rw[<-a0 (L++[l]) G X bx m,<-hR];simp;show b+1-((i+1:Nat):Int).toNat<b+1-i;omega;have b1:min i b=b:=aBE (by omega);rw[b1,R] at bA;simp[an];exact⟨1,rfl,by rw[bA];rfl⟩;cases R
end
end
variable{E:Value}
section
attribute[local simp] IE.den BE.den RE.rv RE.den ey aa.rv aa.ext aa.add SV.xv rR Ey Ez EA xB xC LE.rows ke gO
attribute[local congr] Ex
def auG(h:X<=4398046511104):IntKind.i64.wrap (aP .shr .u64 (IntKind.u64.wrap (X:Int)) 1)=((X/2:Nat):Int):=by
 have e1:IntKind.u64.wrap (X:Int)=(X:Int):=by
  rw[IntKind.wrap_u64];omega
 rw[e1];simp only[aP];have Z:(2:Int)^min (Int.toNat 1) IntKind.u64.bits=2:=rfl;rw[Z,aBq _ (by omega),Me (by omega) (by omega)];omega
def Tz{o:aU}{N:Nat}{P X Y Q:List (List RV)}{a m b:Int}(Z:a=P.length)(W:m=P.length+X.length)(V:b=P.length+X.length+Y.length)(B:1<=X.length)(A:1<=Y.length)(y:X.length+Y.length<N)(U:(P++(X++(Y++Q))).length<=1099511627776)(R:∀z∈P++(X++(Y++Q)),o.ok z=true)(M:em o.lt X)(J:em o.lt Y):
  ln (N+3) o [a,m,b] (P++(X++(Y++Q)))=some (P++(bp o.lt (X++Y)++Q)):=by
 subst Z;subst W;subst V;unfold ln;rw[if_pos U];simp only[jB];have e1:((P.length:Int)).toNat=P.length:=rfl;have I:((P.length:Int)+X.length).toNat=P.length+X.length:=by omega
 have H:((P.length:Int)+X.length+Y.length).toNat=P.length+X.length+Y.length:=by omega
 rw[e1,I,H];have G:(P++(X++(Y++Q))).take P.length=P:=by simp
 have F:aK (P++(X++(Y++Q))) P.length (P.length+X.length)=X:=Mf P X _;have E:aK (P++(X++(Y++Q))) (P.length+X.length) (P.length+X.length+Y.length)=Y:=Mg (P:=P++X) (Q:=Q) (by simp) (by simp) rfl;have D:aK (P++(X++(Y++Q))) P.length (P.length+X.length+Y.length)=X++Y:=Mg (P:=P) (Q:=Q) (by simp) rfl (by simp;omega);have C:(P++(X++(Y++Q))).drop (P.length+X.length+Y.length)=Q:=by
  have:P++(X++(Y++Q))=(P++(X++Y))++Q:=by simp
  rw[this,aAU (by simp;omega)]
 rw[G,F,E,D,C,if_pos];simp only[ayz,decide_eq_true_eq,ayM,al7];refine⟨⟨⟨⟨⟨⟨⟨by omega,by omega⟩,by omega⟩, ?_⟩,by omega⟩,R⟩,M⟩,J⟩;simp only[ayN];omega
def TA(h:Z=[]\/U=[])(W:em F Z)(V:em F U):bp F (Z++U)=Z++U:=by
 rcases h with rfl|rfl;simpa using Tl V;simpa using Tl W
def auH{B Q:List (List RV)}{b:Int}(X:u=Z.length)(W:j=Z.length+U.length)(V:b=Z.length+U.length+B.length)(D:1<=U.length)(C:1<=B.length)(R:(Z++(U++(B++Q))).length<=1099511627776):
  ln 1 I [u,j,b] (Z++(U++(B++Q)))=some (Z++(B++(U++Q))):=by
 subst X;subst W;subst V;unfold ln;rw[if_pos R];simp only[jB];have e1:((Z.length:Int)).toNat=Z.length:=rfl;have M:((Z.length:Int)+U.length).toNat=Z.length+U.length:=by omega
 have J:((Z.length:Int)+U.length+B.length).toNat=Z.length+U.length+B.length:=by omega
 rw[e1,M,J];have H:(Z++(U++(B++Q))).take Z.length=Z:=by simp
 have G:aK (Z++(U++(B++Q))) Z.length (Z.length+U.length)=U:=Mf Z U _;have F:aK (Z++(U++(B++Q))) (Z.length+U.length) (Z.length+U.length+B.length)=B:=Mg (P:=Z++U) (Q:=Q) (by simp) (by simp) rfl;have E:(Z++(U++(B++Q))).drop (Z.length+U.length+B.length)=Q:=by
  have:Z++(U++(B++Q))=(Z++(U++B))++Q:=by simp
  rw[this,aAU (by simp;omega)]
 rw[H,G,F,E,if_pos];simp only[ayz,decide_eq_true_eq,ayN];omega
abbrev Ix:IE:=.bin .sub .i64 (.bin .add .i64 cj (.v 1)) (.v 3)
section
variable{d f g e N:Nat}{o:aU}{h:HP}{O:aa}{L:List LC}{a m b s r mid e1:Nat}
structure EB(O:aa)(a m b s:Nat)(mid e1:Nat):Prop where
 va:O.i.getD 0 0=a
 vm:O.i.getD 1 0=m
 vb:O.i.getD 2 0=b
 vs:O.i.getD 3 0=s
 Mh:cj.den O=mid
 ve:Ix.den O=e1
def EB.add{rv:RV}(H:EB O a m b s mid e1):EB (O.add (.r rv)) a m b s mid e1:=by
 have Z:∀(x:Nat),IE.den (O.add (.r rv)) (.v x)=IE.den O (.v x):=λx=>rfl
 exact⟨H.va,H.vm,H.vb,H.vs,by rw[<-H.Mh];rfl,by rw[<-H.ve];rfl⟩
def zK(H:EB O a m b s mid e1)(V:h.e=e){G F D:S}{Y Q:List (List RV)}(W:O.rv X=.mk E (Z++(U++(Y++Q))))(bZ:X+1=O.r.length)(R:h.v=E)(M:h.ar=Z++(bp o.lt (U++Y)++Q))
  (n:Z.length=mid)(l:U.length=e1-mid)(k:Y.length=b-e1)(j:mid<=e1)(i:e1<=b)(f:b-mid<N)(A:(Z++(U++(Y++Q))).length<=1099511627776)(y:∀z∈Z++(U++(Y++Q)),o.ok z=true)(J:em o.lt U)(I:em o.lt Y)
  (x:G.rs[X+1]?=some (.own e))(w:F.rs[X]?=some (.own e))(u:D.rs[X]?=some (.own e)):
  T.hw h (.node (.cmp .lss cj Ix) (.node (.cmp .lss Ix (.v 2)) (.cA d g e (.bN (N+3) o [cj,Ix,.v 2]) false (.v X) B (.out .normal G)) (.out .normal F)) (.out .normal D)) O L:=by
 have C:IE.den O (.v 2)=b:=H.vb;rw[rR];simp only[BE.den,ey,H.Mh,H.ve,decide_eq_true_eq];refine ph (λt=> ?_) (λt=> ?_);rw[rR];simp only[BE.den,ey,H.ve,C,decide_eq_true_eq];refine ph (λq=> ?_) (λq=> ?_);rw[xB];refine⟨Z++(bp o.lt (U++Y)++Q), ?_, ?_⟩;simp only[gO,ayO,azT,H.Mh,H.ve,C,RE.rv,W,RV.jk];exact Tz (by omega) (by omega) (by omega) (by omega) (by omega) (by omega) A y J I;rw[xC];refine⟨.inl rfl,X+1,by rw[V];exact x, ?_⟩;have p:(O.rv X).val=E:=by rw[W];rfl
 rw[show(RE.v X).rv O=O.rv X from rfl,p,R,M];simp[aa.add,aa.rv,bZ];rw[xC];refine⟨.inl rfl,X,by rw[V];exact w, ?_⟩;rw[W,R,M,TA (.inr (ay4 (by omega))) J I];simp;rw[xC];refine⟨.inl rfl,X,by rw[V];exact u, ?_⟩;rw[W,R,M,TA (.inl (ay4 (by omega))) J I];simp
def abX(H:EB O a m b s mid e1){J I:T}{Y R:List (List RV)}(W:O.rv X=.mk E (Z++(U++(Y++R))))
  (u:Z.length=a)(t:U.length=s-a)(q:Y.length=mid-s)(p:a<=s)(n:s<=mid)(l:mid-a<N)(F:(Z++(U++(Y++R))).length<=1099511627776)(D:∀z∈Z++(U++(Y++R)),o.ok z=true)(V:em o.lt U)(Q:em o.lt Y)
  (C:T.hw h v (O.add (.r (.mk E (Z++(bp o.lt (U++Y)++R))))) L)(A:O.rv X=.mk E (Z++(bp o.lt (U++Y)++R))->T.hw h J O L)(y:O.rv X=.mk E (Z++(bp o.lt (U++Y)++R))->T.hw h I O L):
  T.hw h (.node (.cmp .lss (.v 0) (.v 3)) (.node (.cmp .lss (.v 3) cj) (.cA d g e (.bN (N+3) o [.v 0,.v 3,cj]) false (.v X) B v) J) I) O L:=by
 have G:IE.den O (.v 0)=a:=H.va;have M:IE.den O (.v 3)=s:=H.vs;rw[rR];simp only[BE.den,ey,G,M,decide_eq_true_eq];refine ph (λx=> ?_) (λx=> ?_);rw[rR];simp only[BE.den,ey,H.Mh,M,decide_eq_true_eq];refine ph (λw=> ?_) (λw=> ?_);rw[xB];refine⟨Z++(bp o.lt (U++Y)++R), ?_, ?_⟩;simp only[gO,ayO,azT,H.Mh,G,M,RE.rv,W,RV.jk];exact Tz (by omega) (by omega) (by omega) (by omega) (by omega) (by omega) F D V Q;simp only[RE.rv,W,RV.ji];exact C;refine A ?_;rw[W,TA (.inr (ay4 (by omega))) V Q];simp;refine y ?_;rw[W,TA (.inl (ay4 (by omega))) V Q];simp
def auI(H:EB O a m b s mid e1){M J:T}{W R:List (List RV)}(V:O.rv X=.mk E (Z++(U++(W++R))))
  (x:Z.length=s)(w:U.length=m-s)(u:W.length=e1-m)(t:s<=m)(q:m<=e1)(G:(Z++(U++(W++R))).length<=1099511627776)
  (F:T.hw h v (O.add (.r (.mk E (Z++(W++(U++R)))))) L)(D:O.rv X=.mk E (Z++(W++(U++R)))->T.hw h M O L)(C:O.rv X=.mk E (Z++(W++(U++R)))->T.hw h J O L):
  T.hw h (.node (.cmp .lss (.v 3) (.v 1)) (.node (.cmp .lss (.v 1) Ix) (.cA f g e (.bN 1 o [.v 3,.v 1,Ix]) false (.v X) B v) M) J) O L:=by
 have Q:IE.den O (.v 1)=m:=H.vm;have I:IE.den O (.v 3)=s:=H.vs;rw[rR];simp only[BE.den,ey,Q,I,decide_eq_true_eq];refine ph (λz=> ?_) (λz=> ?_);rw[rR];simp only[BE.den,ey,H.ve,Q,decide_eq_true_eq];refine ph (λy=> ?_) (λy=> ?_);rw[xB];refine⟨Z++(W++(U++R)), ?_, ?_⟩;simp only[gO,ayO,azT,H.ve,Q,I,RE.rv,V,RV.jk];exact auH (by omega) (by omega) (by omega) (by omega) (by omega) G;simp only[RE.rv,V,RV.ji];exact F;refine D ?_;have:W=[]:=ay4 (by omega);rw[V,this];simp;refine C ?_;have:U=[]:=ay4 (by omega);rw[V,this];simp
end
section
variable{d f e g N:Nat}{o:aU}{O:aa}{L:List LC}{a m b s mid e1:Nat}{K:List Bool}
def TC{v:RV}(h:X=t.r.length):(t.add (.r v)).rv X=v:=by subst h;simp[aa.rv,aa.add]
def auJ(a4:jb o.lt (λx=>o.ok x=true))(H:EB O a m b s mid e1)(c:O.r.length=2)(hc:O.rv 1=.mk E Z)
  (l:a<=s)(h2:s<=m)(h3:m<=e1)(J:e1<=b)(hb:b<=Z.length)(af:s<=mid)(a9:mid+m=e1+s)(ag:mid-a<N)(D:b-mid<N)(hl:Z.length<=1099511627776)(a1:∀z∈Z,o.ok z=true)(sA:em o.lt (aK Z a m))(sB:em o.lt (aK Z m b))
  (q1:∀i j,a<=i->i<s->e1<=j->j<b->o.lt (Z.getD j []) (Z.getD i [])=false)(q2:∀i j,s<=i->i<m->m<=j->j<e1->o.lt (Z.getD j []) (Z.getD i [])=true)
  (a2:U=Z.take a++(bp o.lt (aK Z a b)++Z.drop b)):T.hw ⟨K,g,o,e,E,U⟩ (Mc e g f d N o) O L:=by
 have a5:=aus a4 a1 l h2 h3 J hb sA sB q1 q2;have e0:Z=Z.take a++(aK Z a s++(aK Z s m++(aK Z m e1++(aK Z e1 b++Z.drop b)))):=by
  have:=Iv Z (show a<=b by omega);rw[lK Z (show a<=s by omega) (show s<=b by omega),lK Z h2 (show m<=b by omega),lK Z h3 J] at this;simpa using this.symm
 have l1:(aK Z a s).length=s-a:=m5 Z (by omega);have l2:(aK Z s m).length=m-s:=m5 Z (by omega);have l3:(aK Z m e1).length=e1-m:=m5 Z (by omega);have C:(aK Z e1 b).length=b-e1:=m5 Z (by omega);have lP:(Z.take a).length=a:=by simp;omega
 rw[lK Z l h2] at sA;rw[lK Z h3 J] at sB;have al:em o.lt (aK Z a s):=(ay6.1 sA).1;have B:em o.lt (aK Z s m):=(ay6.1 sA).2.1;have an:em o.lt (aK Z m e1):=(ay6.1 sB).1;have A:em o.lt (aK Z e1 b):=(ay6.1 sB).2.1;rw[a5] at a2;have a6:∀x,(x∈Z.take a\/x∈aK Z a s\/x∈aK Z s m\/x∈aK Z m e1\/x∈aK Z e1 b\/x∈Z.drop b)->o.ok x=true:=λx hx=>a1 x (by
  rcases hx with h|h|h|h|h|h;exact azH h;exact pG h;exact pG h;exact pG h;exact pG h;exact azB h)
 rw[e0] at hc hl;generalize Z.take a=P at*;generalize aK Z a s=X at*;generalize aK Z s m=I at*;generalize aK Z m e1=W at*;generalize aK Z e1 b=F at*;generalize Z.drop b=Q at*;have y:U=(P++bp o.lt (X++W))++(bp o.lt (I++F)++Q):=by rw[a2];simp
 have a7:∀x∈bp o.lt (X++W),x∈X\/x∈W:=λx hx=>by simpa using Es hx
 have a3:(bp o.lt (X++W)).length=mid-a:=by rw[nq];simp;omega
 have bb:P.length+(X.length+(I.length+(W.length+(F.length+Q.length))))<=1099511627776:=by simpa using hl
 have ab:∀z∈P++(X++(W++(I++(F++Q)))),o.ok z=true:=λz k=>a6 z (by
  simp only[ayL] at k;rcases k with h|h|h|h|h|h;exact .inl h;exact .inr (.inl h);exact .inr (.inr (.inr (.inl h)));exact .inr (.inr (.inl h));exact .inr (.inr (.inr (.inr (.inl h))));exact .inr (.inr (.inr (.inr (.inr h)))))
 have w:∀z∈(P++bp o.lt (X++W))++(I++(F++Q)),o.ok z=true:=λz k=>ab z (by
  simp only[ayL] at k⊢;rcases k with(h|h)|h|h|h;exact .inl h;rcases a7 z h with h|h;exact .inr (.inl h);exact .inr (.inr (.inl h));exact .inr (.inr (.inr (.inl h)));exact .inr (.inr (.inr (.inr (.inl h))));exact .inr (.inr (.inr (.inr (.inr h)))))
 have lU:(P++(X++(W++(I++(F++Q))))).length<=1099511627776:=by simp;omega
 have u:((P++bp o.lt (X++W))++(I++(F++Q))).length<=1099511627776:=by simp only[ayN,a3];omega
 have t:(P++bp o.lt (X++W)).length=mid:=by simp only[ayN,a3];omega
 have q:I.length=e1-mid:=by omega
 have a8:O.rv 1=.mk E ((P++X)++(I++(W++(F++Q)))):=by rw[hc];simp
 have a0:∀R:List (List RV),(P++X)++(W++R)=P++(X++(W++R)):=λR=>by simp
 have p:∀R:List (List RV),P++(bp o.lt (X++W)++R)=(P++bp o.lt (X++W))++R:=λR=>by simp
 unfold Mc;refine auI H a8 (by simp;omega) l2 l3 h2 h3 (by simp;omega) ?_ (λn=> ?_) (λn=> ?_);have n:=TC (v:=.mk E ((P++X)++(W++(I++(F++Q))))) (show 2=O.r.length by omega);rw[a0] at n⊢;have V:=H.add (rv:=.mk E (P++(X++(W++(I++(F++Q))))));have M:(O.add (.r (.mk E (P++(X++(W++(I++(F++Q)))))))).r.length=3:=by simp[aa.add,c]
 refine abX V n lP l1 (by omega) l af ag lU ab al an ?_ (λG=> ?_) (λG=> ?_);refine zK V.add rfl ((TC (show 3=_ from M.symm)).trans (by rw[p])) (by simp[aa.add,c]) rfl y t q C (by omega) J D u w B A rfl rfl rfl;refine zK V rfl (G.trans (by rw[p])) (show 2+1=_ from M.symm) rfl y t q C (by omega) J D u w B A rfl rfl rfl;refine zK V rfl (G.trans (by rw[p])) (show 2+1=_ from M.symm) rfl y t q C (by omega) J D u w B A rfl rfl rfl;rw[a0] at n;have V:=H;have M:=c;refine abX V n lP l1 (by omega) l af ag lU ab al an ?_ (λG=> ?_) (λG=> ?_);refine zK V.add rfl ((TC (show 2=_ from M.symm)).trans (by rw[p])) (by simp[aa.add,M]) rfl y t q C (by omega) J D u w B A rfl rfl rfl;refine zK V rfl (G.trans (by rw[p])) (show 1+1=_ from M.symm) rfl y t q C (by omega) J D u w B A rfl rfl rfl;refine zK V rfl (G.trans (by rw[p])) (show 1+1=_ from M.symm) rfl y t q C (by omega) J D u w B A rfl rfl rfl;rw[a0] at n;have V:=H;have M:=c;refine abX V n lP l1 (by omega) l af ag lU ab al an ?_ (λG=> ?_) (λG=> ?_);refine zK V.add rfl ((TC (show 2=_ from M.symm)).trans (by rw[p])) (by simp[aa.add,M]) rfl y t q C (by omega) J D u w B A rfl rfl rfl;refine zK V rfl (G.trans (by rw[p])) (show 1+1=_ from M.symm) rfl y t q C (by omega) J D u w B A rfl rfl rfl;refine zK V rfl (G.trans (by rw[p])) (show 1+1=_ from M.symm) rfl y t q C (by omega) J D u w B A rfl rfl rfl
end
end
section
attribute[local simp] IE.den BE.den RE.rv RE.den ey aa.rv aa.ext aa.add SV.xv rR Ey Ez EA xB xC LE.rows ke gO
attribute[local congr] Ex
def getD_some(h:X<Z.length):Z[X]?=some (Z.getD X []):=by
 rw[ayC,ayB h];rfl
def Mi{i j:Nat}(h:i+j<=4398046511104):IntKind.i64.wrap (aP .shr .u64 (IntKind.u64.wrap (aP .add .i64 (i:Int) (j:Int))) 1)=(((i+j)/2:Nat):Int):=by
 rw[vw h];exact auG h
def Mj(h:X<Z.length):aK Z X (X+1)=[Z.getD X []]:=by
 have e:Z.getD X []=Z[X]:=by rw[ayC,ayB h];rfl
 simp only[aK,aAu];rw[azx h,e];rfl
def auK(A R:List (List RV))(y x:List RV)(Z:X=A.length):((A++(x::y::R)).set X y).set (X+1) x=A++(y::x::R):=by
 subst Z;rw[aAk _ _ (by omega),aBb,aAk _ _ (by omega),aAu];rfl
def bF(Z:List (List RV))(k:Nat):List RV:=Z.getD k []
def amr(h:X<Z.length):Z.drop X=bF Z X::Z.drop (X+1):=by
 rw[azx h,bF,ayC,ayB h];rfl
section
variable{K:List Bool}{e g:Nat}{o:aU}{d:RE->IE->List SV}
set_option maxHeartbeats 4000000 in
def auL (s:zI K d) (p:jb o.lt (λx=>o.ok x=true)) {b:Nat} (bt:Z.length=X) (hn:X<=1099511627776) (F:∀x∈Z,fH K x) (ag:∀x∈Z,o.ok x=true)
  (hm:q=A+1) (bx:q<b) (hb:b<=Z.length) (l:em o.lt (aK Z q b)) (a7:U=Z.take A++(bp o.lt (aK Z A b)++Z.drop b)):
  T.hw ⟨K,g,o,e,.slice J X H,U⟩ (abS e g d) ⟨[(A:Int),q,b],[],[.mk (.slice J X H) Z],[]⟩ []:=by
 subst hm;have Q:A<Z.length:=by omega
 have al:∀k,k<Z.length->bF Z k∈Z:=λk R=>ayW (getD_some R)
 have E:∀k,k<Z.length->fH K (bF Z k):=λk R=>F _ (al k R)
 have P:∀k,k<Z.length->o.ok (bF Z k)=true:=λk R=>ag _ (al k R)
 unfold abS;refine tO (λM=>∃(i j:Nat),M=[.r (.mk (.slice J X H) Z),.i i,.i j]/\A+1<=i/\i<=j/\j<=b/\(∀k,A+1<=k->k<i->o.lt (bF Z k) (bF Z A)=true)/\∀k,j<=k->k<b->o.lt (bF Z k) (bF Z A)=false) (λM=>match M with|[_,.i i,.i j]=>j.toNat-i.toNat|_=>0) ⟨A+1,b,rfl,by omega,by omega,by omega,by omega,by omega⟩ ?_;rintro _ ⟨i,j,rfl,an,b0,D,a0,a1⟩;by_cases a8:i<j;have C:=Mi (i:=i) (j:=j) (by omega);have a9:i<=(i+j)/2:=by omega
 have bb:(i+j)/2<j:=by omega
 generalize hq:(i+j)/2=W at C a9 bb;simp[a8,C,lenOf];refine⟨by omega,by omega, ?_⟩;refine Tx s rfl (bF Z W) (bF Z A) ?_ ?_ (E W (by omega)) (E A Q) (P W (by omega)) (P A Q) (λc hc=> ?_);simp[C];exact getD_some (by omega);simp;exact getD_some Q;simp[C];refine ph (λbd=> ?_) (λbf=> ?_);rw[zJ (by omega)];refine⟨⟨W+1,j,rfl,by omega,by omega,D,λk L I=> ?_,a1⟩, ?_⟩;have G:=hc.1 bd;by_cases R:k=W;subst R;exact G;have f:=Iw hb l (i:=k) (j:=W) (by omega) (by omega) (by omega);cases h:o.lt (bF Z k) (bF Z A);have:=p.nt _ _ _ (P W (by omega)) (P k (by omega)) (P A Q) f h;rw[G] at this;cases this;rfl;show(j:Int).toNat-((W+1:Nat):Int).toNat<j-i;omega;have G:o.lt (bF Z W) (bF Z A)=false:=by
  cases h:o.lt (bF Z W) (bF Z A);rfl;exact absurd (hc.2 h) bf
 refine⟨⟨i,W,rfl,by omega,by omega,by omega,a0,λk L I=> ?_⟩, ?_⟩;by_cases R:k=W;subst R;exact G;have f:=Iw hb l (i:=W) (j:=k) (by omega) (by omega) (by omega);exact p.nt _ _ _ (P k (by omega)) (P W (by omega)) (P A Q) f G;show((W:Nat):Int).toNat-(i:Int).toNat<j-i;omega;have bg:i=j:=by omega
 subst bg;simp;have a2:bp o.lt (aK Z A b)=aK Z (A+1) i++bF Z A::aK Z i b:=by
  have e0:aK Z A b=bF Z A::(aK Z (A+1) i++aK Z i b):=by
   rw[<-lK Z an D,lK Z (show A<=A+1 by omega) (show A+1<=b by omega)];have:aK Z A (A+1)=[bF Z A]:=Mj Q;rw[this];rfl
  rw[e0];refine aup p (λz N=> ?_) (by rw[<-lK Z an D];exact l) (λy hy=> ?_) (λy hy=> ?_);rw[<-e0] at N;exact ag z (pG N);obtain⟨k,k1,k2,_,rfl⟩:=B5 hy;exact a0 k k1 k2;obtain⟨k,k1,k2,_,rfl⟩:=B5 hy;exact a1 k k1 k2
 have bk:(Z.take A).length=A:=by simp;omega
 refine tO (λM=>∃(k:Nat)(V:List (List RV)),M=[.r (.mk (.slice J X H) V),.i k]/\A<=k/\k+1<=i/\V=(Z.take A++aK Z (A+1) (k+1))++bF Z A::Z.drop (k+1)) (λM=>match M with|[_,.i k]=>i-k.toNat|_=>0) ⟨A,Z,by simp,by omega,by omega, ?_⟩ ?_;have e1:aK Z (A+1) (A+1)=[]:=by simp[aK]
 have:=Iv Z (show A<=A+1 by omega);rw[Mj Q] at this;rw[e1,aAc];exact this.symm;rintro _ ⟨k,V,rfl,b1,b2,bA⟩;have a3:aP .sub .i64 (i:Int) 1=((i-1:Nat):Int):=Tw (by omega) (by omega);have B:(Z.take A++aK Z (A+1) (k+1)).length=k:=by rw[ayN,bk,m5 Z (by omega)];omega
 by_cases R:k<i-1;have hd:Z.drop (k+1)=bF Z (k+1)::Z.drop (k+1+1):=by
  exact amr (by omega)
 have tJ:aK Z (A+1) (k+1+1)=aK Z (A+1) (k+1)++[bF Z (k+1)]:=by
  rw[lK Z (show A+1<=k+1 by omega) (show k+1<=k+1+1 by omega),Mj (by omega)];rfl
 have u:=E A Q;have t:=E (k+1) (by omega);have a4:∀z∈V,fH K z:=λz N=>by
  rw[bA] at N;simp only[ayL,ayK] at N;rcases N with(h|h)|h|h;exact F z (azH h);exact F z (pG h);subst h;exact u;exact F z (azB h)
 rw[hd] at bA;generalize bF Z A=x at u bA a2;generalize bF Z (k+1)=y at t bA tJ;have b3:V.length=X:=by
  rw[bA,ayN,B];simp;omega
 have gx:V[k]?=some x:=by rw[bA,ayG (by omega),B];simp
 have gy:V[k+1]?=some y:=by rw[bA,ayG (by omega),B];simp
 have c1:∀O:aa,O.r=[.mk (.slice J X H) Z,.mk (.slice J X H) Z,.mk (.slice J X H) V]->O.i=[(A:Int),((A+1:Nat):Int),b,i,i,k]->aAE (SV.bu O) (d (.v 2) (.bin .add .i64 (.v 5) (.c 1)))=y:=λO L I=>s.bu O _ _ y (by simp only[RE.rv,aa.rv,IE.den,L,I,az5,azS,RV.jk,zJ (a:=k) (by omega)];exact gy) t
 have c2:∀(O:aa) rv,O.r=[.mk (.slice J X H) Z,.mk (.slice J X H) Z,.mk (.slice J X H) V,rv]->O.i=[(A:Int),((A+1:Nat):Int),b,i,i,k]->aAE (SV.bu O) (d (.v 2) (.v 5))=x:=λO rv L I=>s.bu O _ _ x (by simp only[RE.rv,aa.rv,IE.den,L,I,az5,azS,RV.jk];exact gx) u
 have m1:(V.modify k λab=>dJ ab 0 y)=V.set k y:=B7 a4 t;have m2:((V.set k y).modify (k+1) λab=>dJ ab 0 x)=(V.set k y).set (k+1) x:=B7 (λz N=>by
  rcases azs N with h|rfl;exact a4 z h;exact t) u
 have af:(k:Int)<((i-1:Nat):Int):=by omega
 have a5:=zJ (a:=k) (by omega);generalize hw:((k+1:Nat):Int)=w at a5;have bl:w.toNat=k+1:=by omega
 have a6:=auK (Z.take A++aK Z (A+1) (k+1)) (Z.drop (k+1+1)) y x B.symm;rw[<-bA] at a6;simp[a3,af,a5,lenOf];rw[c1 _ rfl rfl,c2 _ _ rfl rfl,bl,m1,m2,a6];refine⟨by omega,by omega,by omega,⟨k+1,_,by rw[hw],by omega,by omega, ?_⟩, ?_⟩;rw[tJ];simp;show i-w.toNat<i-k;omega;have af:¬(k:Int)<((i-1:Nat):Int):=by omega
 have bo:k+1=i:=by omega
 rw[bo] at bA;have hd:=Iv (Z.drop 0) (show i<=i by omega);have br:Z.drop i=aK Z i b++Z.drop b:=by
  have:=lK Z D (show b<=b by omega);simp only[aK];have e:Z.drop b=(Z.drop i).drop (b-i):=by rw[aAr];congr 1;omega
  rw[e,az1]
 have bs:V=U:=by
  rw[bA,a7,a2,br];simp
 simp[a3,af];exact⟨2,rfl,by rw[bs];rfl⟩
set_option maxHeartbeats 4000000 in
def auM (s:zI K d) (p:jb o.lt (λx=>o.ok x=true)) {b:Nat} (bt:Z.length=X) (hn:X<=1099511627776) (E:∀x∈Z,fH K x) (a0:∀x∈Z,o.ok x=true)
  (hm:b=q+1) (bx:A<q) (hb:b<=Z.length) (l:em o.lt (aK Z A q)) (a7:U=Z.take A++(bp o.lt (aK Z A b)++Z.drop b)):
  T.hw ⟨K,g,o,e,.slice J X H,U⟩ (abT e g d) ⟨[(A:Int),q,b],[],[.mk (.slice J X H) Z],[]⟩ []:=by
 subst hm;have P:q<Z.length:=by omega
 have a1:∀k,k<Z.length->bF Z k∈Z:=λk Q=>ayW (getD_some Q)
 have D:∀k,k<Z.length->fH K (bF Z k):=λk Q=>E _ (a1 k Q)
 have N:∀k,k<Z.length->o.ok (bF Z k)=true:=λk Q=>a0 _ (a1 k Q)
 unfold abT;refine tO (λR=>∃(i j:Nat),R=[.r (.mk (.slice J X H) Z),.i i,.i j]/\A<=i/\i<=j/\j<=q/\(∀k,A<=k->k<i->o.lt (bF Z q) (bF Z k)=false)/\∀k,j<=k->k<q->o.lt (bF Z q) (bF Z k)=true) (λR=>match R with|[_,.i i,.i j]=>j.toNat-i.toNat|_=>0) ⟨A,q,rfl,by omega,by omega,by omega,by omega,by omega⟩ ?_;rintro _ ⟨i,j,rfl,f,b0,ab,a2,a3⟩;by_cases a8:i<j;have C:=Mi (i:=i) (j:=j) (by omega);have a9:i<=(i+j)/2:=by omega
 have bb:(i+j)/2<j:=by omega
 generalize hq:(i+j)/2=W at C a9 bb;simp[a8,C,lenOf];refine⟨by omega,by omega, ?_⟩;refine Tx s rfl (bF Z q) (bF Z W) ?_ ?_ (D q P) (D W (by omega)) (N q P) (N W (by omega)) (λc hc=> ?_);simp;exact getD_some P;simp[C];exact getD_some (by omega);simp[C];refine ph (λb1=> ?_) (λb2=> ?_);rw[zJ (by omega)];have I:o.lt (bF Z q) (bF Z W)=false:=by
  cases h:o.lt (bF Z q) (bF Z W);rfl;have:=hc.2 h;omega
 refine⟨⟨W+1,j,rfl,by omega,by omega,ab,λk G L=> ?_,a3⟩, ?_⟩;by_cases Q:k=W;subst Q;exact I;have hs:=Iw (show q<=Z.length by omega) l (i:=k) (j:=W) (by omega) (by omega) (by omega);exact p.nt _ _ _ (N q P) (N W (by omega)) (N k (by omega)) I hs;show(j:Int).toNat-((W+1:Nat):Int).toNat<j-i;omega;have I:o.lt (bF Z q) (bF Z W)=true:=hc.1 (by omega);refine⟨⟨i,W,rfl,by omega,by omega,by omega,a2,λk G L=> ?_⟩, ?_⟩;by_cases Q:k=W;subst Q;exact I;have hs:=Iw (show q<=Z.length by omega) l (i:=W) (j:=k) (by omega) (by omega) (by omega);cases h:o.lt (bF Z q) (bF Z k);have:=p.nt _ _ _ (N q P) (N k (by omega)) (N W (by omega)) h hs;rw[I] at this;cases this;rfl;show((W:Nat):Int).toNat-(i:Int).toNat<j-i;omega;have bd:i=j:=by omega
 subst bd;simp;have bf:bp o.lt (aK Z A (q+1))=aK Z A i++bF Z q::aK Z i q:=by
  have e0:aK Z A (q+1)=aK Z A i++aK Z i q++[bF Z q]:=by
   rw[<-lK Z f ab,lK Z (show A<=q by omega) (show q<=q+1 by omega),Mj P];rfl
  rw[e0];refine auq p (λz M=> ?_) (by rw[<-lK Z f ab];exact l) (λy hy=> ?_) (λy hy=> ?_);rw[<-e0] at M;exact a0 z (pG M);obtain⟨k,k1,k2,_,rfl⟩:=B5 hy;exact a2 k k1 k2;obtain⟨k,k1,k2,_,rfl⟩:=B5 hy;exact a3 k k1 k2
 refine tO (λR=>∃(k:Nat)(V:List (List RV)),R=[.r (.mk (.slice J X H) V),.i k]/\i<=k/\k<=q/\V=Z.take k++bF Z q::(aK Z k q++Z.drop (q+1))) (λR=>match R with|[_,.i k]=>k.toNat|_=>0) ⟨q,Z,by simp,by omega,by omega, ?_⟩ ?_;have e1:aK Z q q=[]:=by simp[aK]
 rw[e1,ayU,<-amr P,az1];rintro _ ⟨k,V,rfl,b3,b4,bA⟩;by_cases Q:i<k;obtain⟨W,rfl⟩:∃W,k=W+1:=⟨k-1,by omega⟩;have af:aP .sub .i64 (((W+1:Nat)):Int) 1=(W:Int):=by rw[Tw (by omega) (by omega)];omega
 have B:(Z.take W).length=W:=by simp;omega
 have bg:Z.take (W+1)=Z.take W++[bF Z W]:=by
  rw[aCi,getD_some (show W<Z.length by omega)];rfl
 have tJ:aK Z W q=bF Z W::aK Z (W+1) q:=by
  rw[lK Z (show W<=W+1 by omega) (show W+1<=q by omega),Mj (by omega)];rfl
 have ag:=D q P;have u:=D W (by omega);have F:V=Z.take W++(bF Z W::bF Z q::(aK Z (W+1) q++Z.drop (q+1))):=by rw[bA,bg];simp
 have a4:∀z∈V,fH K z:=λz M=>by
  rw[F] at M;simp only[ayL,ayK] at M;rcases M with h|h|h|h|h;exact E z (azH h);subst h;exact u;subst h;exact ag;exact E z (pG h);exact E z (azB h)
 have a5:=amp (Z.take W) (aK Z (W+1) q++Z.drop (q+1)) (bF Z W) (bF Z q) B.symm;rw[<-F] at a5;have b5:V.length=X:=by
  rw[F,ayN,B];simp only[azn,ayN,m5 Z (show q<=Z.length by omega),az2];omega
 have gx:V[W+1]?=some (bF Z q):=by rw[F,ayG (by omega),B];simp
 have gy:V[W]?=some (bF Z W):=by rw[F,ayG (by omega),B];simp
 have a6:(i:Int)<((W+1:Nat):Int):=by omega
 have bk:((W+1:Nat):Int)<X:=by omega
 have al:((W+1:Nat):Int).toNat=W+1:=rfl;have bl:(0:Int)<=((W+1:Nat):Int):=by omega
 have bo:∀t,t=Z.take W++bF Z q::(aK Z W q++Z.drop (q+1))->Ew (some ⟨1,λR=>∃(k:Nat)(V:List (List RV)),R=[.r (.mk (.slice J X H) V),.i k]/\i<=k/\k<=q/\V=Z.take k++bF Z q::(aK Z k q++Z.drop (q+1)),λR=>match R with|[_,.i k]=>k.toNat|_=>0,W+1⟩) [.r (.mk (.slice J X H) t),.i W]:=λt L=>⟨⟨W,t,rfl,by omega,by omega,L⟩,show(W:Int).toNat<W+1 by omega⟩
 generalize hw:((W+1:Nat):Int)=w at af a6 bk al bl⊢;have c1:∀O:aa,O.r=[.mk (.slice J X H) Z,.mk (.slice J X H) Z,.mk (.slice J X H) V]->O.i=[(A:Int),q,((q+1:Nat):Int),i,i,w]->aAE (SV.bu O) (d (.v 2) (.bin .sub .i64 (.v 5) (.c 1)))=bF Z W:=λO G L=>s.bu O _ _ _ (by simp only[RE.rv,aa.rv,IE.den,G,L,az5,azS,RV.jk,af];exact gy) u
 have c2:∀(O:aa) rv,O.r=[.mk (.slice J X H) Z,.mk (.slice J X H) Z,.mk (.slice J X H) V,rv]->O.i=[(A:Int),q,((q+1:Nat):Int),i,i,w]->aAE (SV.bu O) (d (.v 2) (.v 5))=bF Z q:=λO rv G L=>s.bu O _ _ _ (by simp only[RE.rv,aa.rv,IE.den,G,L,az5,azS,RV.jk,al];exact gx) ag
 have m1:(V.modify (W+1) λan=>dJ an 0 (bF Z W))=V.set (W+1) (bF Z W):=B7 a4 u;have m2:((V.set (W+1) (bF Z W)).modify W λan=>dJ an 0 (bF Z q))=(V.set (W+1) (bF Z W)).set W (bF Z q):=B7 (λz M=>by
  rcases azs M with h|rfl;exact a4 z h;exact u) ag
 simp[af,a6,lenOf];rw[c1 _ rfl rfl,c2 _ _ rfl rfl,al,m1,m2,a5];refine⟨by omega,by omega,by omega, ?_⟩;exact bo _ (by rw[tJ];simp);have br:k=i:=by omega
 subst br;have bs:V=U:=by
  have ht:Z.take k=Z.take A++aK Z A k:=by
   have e1:=Iv Z f;have e2:(Z.take A++aK Z A k).length=k:=by rw[ayN,m5 Z (by omega)];simp;omega
   calc Z.take k=(Z.take A++aK Z A k++Z.drop k).take k:=by rw[azt,e1]
    _=_:=by rw[aAF (by omega),azX (by omega)]
  rw[bA,a7,bf,ht];simp
 simp;exact⟨2,rfl,by rw[bs];rfl⟩
end
end
section
attribute[local simp] IE.den BE.den RE.rv RE.den ey aa.rv aa.ext aa.add SV.xv rR Ey Ez EA xB xC LE.rows ke gO
attribute[local congr] Ex
section
variable{K:List Bool}{e g f l N:Nat}{o:aU}{d:RE->IE->List SV}
set_option maxHeartbeats 4000000 in
def ams (a3:zI K d) (P:jb o.lt (λx=>o.ok x=true)) {b lo hi:Nat} (bf:Z.length=X) (hn:X<=1099511627776) (hT:∀x∈Z,fH K x) (ab:∀x∈Z,o.ok x=true)
  (bg:A<q) (bk:q<b) (hb:b<=Z.length) (hN:b-A<N+1) (bl:2<=b-A) (sA:em o.lt (aK Z A q)) (sB:em o.lt (aK Z q b)) (a4:U=Z.take A++(bp o.lt (aK Z A b)++Z.drop b))
  (l1:A<=lo) (l2:lo<=hi) (l3:hi<=q) (l4:hi<=(A+b)/2) (l5:(A+b)/2+q<=lo+b) (l6:lo=A\/lo+b=(A+b)/2+q) (l7:hi=q\/hi=(A+b)/2)
   (a5:C.map (SV.xv ⟨[(A:Int),q,b],[],[.mk (.slice J X H) Z],[]⟩)=[.r (.mk (.slice J X H) Z),.i lo,.i hi]):
  T.hw ⟨K,g,o,e,.slice J X H,U⟩ (.loop 0 k C (.node (.cmp .lss (.v 3) (.v 4)) (Tt g d) (Mc e g f l N o))) ⟨[(A:Int),q,b],[],[.mk (.slice J X H) Z],[]⟩ []:=by
 have af:∀W,W<Z.length->bF Z W∈Z:=λW G=>ayW (getD_some G)
 have ag:∀W,W<Z.length->fH K (bF Z W):=λW G=>hT _ (af W G)
 have R:∀W,W<Z.length->o.ok (bF Z W)=true:=λW G=>ab _ (af W G)
 have z:=Mi (i:=A) (j:=b) (by omega);have bo:A<(A+b)/2/\(A+b)/2<b:=by omega
 generalize br:(A+b)/2=Q at*;have y:∀i j,A<=i->i<=j->j<q->o.lt (bF Z j) (bF Z i)=false:=λi j O F E=>by
  by_cases h:i=j;subst h;exact P.Tk _ (R i (by omega));exact Iw (show q<=Z.length by omega) sA O (by omega) E
 have w:∀i j,q<=i->i<=j->j<b->o.lt (bF Z j) (bF Z i)=false:=λi j O F E=>by
  by_cases h:i=j;subst h;exact P.Tk _ (R i (by omega));exact Iw hb sB O (by omega) E
 refine tO (λt=>∃(s r:Nat),t=[.r (.mk (.slice J X H) Z),.i s,.i r]/\lo<=s/\s<=r/\r<=hi/\(∀c,lo<=c->c<s->o.lt (bF Z (Q+q-1-c)) (bF Z c)=false)/\∀c,r<=c->c<hi->o.lt (bF Z (Q+q-1-c)) (bF Z c)=true) (λt=>match t with|[_,.i i,.i j]=>j.toNat-i.toNat|_=>0) ⟨lo,hi,a5,by omega,l2,by omega,by omega,by omega⟩ ?_;rintro _ ⟨s,r,rfl,bs,bt,a6,al,an⟩;by_cases a7:s<r;have D:=Mi (i:=s) (j:=r) (by omega);have a8:s<=(s+r)/2:=by omega
 have a9:(s+r)/2<r:=by omega
 generalize hq:(s+r)/2=V at D a8 a9;have a0:=vw (a:=Q) (b:=q) (by omega);have a1:=Tw (a:=Q+q) (by omega) (by omega);have a2:=tP (a:=Q+q-1) (b:=V) (by omega) (by omega);unfold Tt;simp[a7,D,lenOf,z];rw[a0,a1,a2];refine⟨by omega,by omega, ?_⟩;refine Tx a3 rfl (bF Z (Q+q-1-V)) (bF Z V) ?_ ?_ (ag _ (by omega)) (ag V (by omega)) (R _ (by omega)) (R V (by omega)) (λc hc=> ?_);simp[D,z];rw[a0,a1,a2];exact getD_some (by omega);simp[D];exact getD_some (by omega);simp[D];refine ph (λbx=> ?_) (λb0=> ?_);rw[zJ (by omega)];have p:o.lt (bF Z (Q+q-1-V)) (bF Z V)=false:=by
  cases h:o.lt (bF Z (Q+q-1-V)) (bF Z V);rfl;have:=hc.2 h;omega
 refine⟨⟨V+1,r,rfl,by omega,by omega,a6,λW O F=> ?_,an⟩, ?_⟩;have M:=y W V (by omega) (by omega) (by omega);have L:=w (Q+q-1-V) (Q+q-1-W) (by omega) (by omega) (by omega);have I:=P.nt _ _ _ (R _ (by omega)) (R _ (by omega)) (R V (by omega)) L p;exact P.nt _ _ _ (R _ (by omega)) (R V (by omega)) (R W (by omega)) I M;show(r:Int).toNat-((V+1:Nat):Int).toNat<r-s;omega;have p:o.lt (bF Z (Q+q-1-V)) (bF Z V)=true:=hc.1 (by omega);refine⟨⟨s,V,rfl,by omega,by omega,by omega,al,λW O F=> ?_⟩, ?_⟩;cases h:o.lt (bF Z (Q+q-1-W)) (bF Z W);have M:=y V W (by omega) (by omega) (by omega);have L:=w (Q+q-1-W) (Q+q-1-V) (by omega) (by omega) (by omega);have I:=P.nt _ _ _ (R _ (by omega)) (R _ (by omega)) (R W (by omega)) L h;have B:=P.nt _ _ _ (R _ (by omega)) (R W (by omega)) (R V (by omega)) I M;rw[p] at B;cases B;rfl;show((V:Nat):Int).toNat-(s:Int).toNat<r-s;omega;have bb:s=r:=by omega
 subst bb;simp;refine auJ P (a:=A) (m:=q) (b:=b) (s:=s) (mid:=Q) (e1:=Q+q-s) ⟨rfl,rfl,rfl,rfl, ?_, ?_⟩ rfl rfl (by omega) (by omega) (by omega) (by omega) hb (by omega) (by omega) (by omega) (by omega) (by omega) ab sA sB (λi j O F E h4=> ?_) (λi j O F E h4=> ?_) a4;simp[z];simp[z];rw[vw (by omega),tP (by omega) (by omega)];have bd:lo<s:=by
  rcases l6 with h|h<;>omega
 have u:=al (s-1) (by omega) (by omega);rw[show Q+q-1-(s-1)=Q+q-s by omega] at u;have M:=y i (s-1) (by omega) (by omega) (by omega);have L:=w (Q+q-s) j (by omega) (by omega) (by omega);have I:=P.nt _ _ _ (R j (by omega)) (R _ (by omega)) (R (s-1) (by omega)) L u;exact P.nt _ _ _ (R j (by omega)) (R (s-1) (by omega)) (R i (by omega)) I M;have bd:s<hi:=by
  rcases l7 with h|h<;>omega
 have u:=an s (by omega) (by omega);cases h:o.lt (bF Z j) (bF Z i);have M:=y s i (by omega) (by omega) (by omega);have L:=w j (Q+q-1-s) (by omega) (by omega) (by omega);have I:=P.nt _ _ _ (R _ (by omega)) (R j (by omega)) (R i (by omega)) L h;have B:=P.nt _ _ _ (R _ (by omega)) (R i (by omega)) (R s (by omega)) I M;rw[u] at B;cases B;exact h
def auN{b:Int}:jB (X+4) I [u,j,b] Z=if decide (0<=u)&&decide (u<j)&&decide (j<b)&&decide (b<=Z.length)&&decide (b-u<((X+1:Nat):Int))&&Z.all I.ok&&sk I.lt (aK Z u.toNat j.toNat)&&sk I.lt (aK Z j.toNat b.toNat) then some (Z.take u.toNat++(bp I.lt (aK Z u.toNat b.toNat)++Z.drop b.toNat)) else none:=rfl
set_option maxHeartbeats 4000000 in
def amt (X:zI K d) (W:jb o.lt (λx=>o.ok x=true)):Mb K e g o (N+4) 3 (Tu e g f l N o d):=by
 rintro p _ G ar t F E ⟨D,n,C,rfl,V,U⟩ R B I A;obtain⟨a,m,b,rfl⟩:=xD B;obtain⟨_,Z⟩:=vZ I;clear I;rw[auN] at Z;split at Z;rename_i H;simp only[ayz,decide_eq_true_eq,ayM,al7] at H;obtain⟨⟨⟨⟨⟨⟨⟨z,s⟩,r⟩,nu⟩,q⟩,Q⟩,P⟩,O⟩:=H;obtain⟨a,rfl⟩:=vx z;obtain⟨m,rfl⟩:=vx (a:=m) (by omega);obtain⟨b,rfl⟩:=vx (a:=b) (by omega);simp only[ayE,azN] at Z P O;have M:b<=G.length:=by omega
 refine tN ⟨K,g,o,e,.slice D n C,ar⟩ (F▸E) A _ _ _ ?_;unfold Tu;have J:=Mi (i:=a) (j:=b) (by omega);obtain⟨L,y⟩:∃L,L=(a+b)/2:=⟨_,rfl⟩;rw[<-y] at J;simp[tP (a:=m) (b:=a) (by omega) (by omega),tP (a:=b) (b:=m) (by omega) (by omega),J];refine ph (λw=> ?_) (λw=>ph (λv=> ?_) (λv=>ph (λu=> ?_) (λu=> ?_)));exact auL X W V U R Q (by omega) (by omega) M O Z.symm;exact auM X W V U R Q (by omega) (by omega) M P Z.symm;refine ams X W V U R Q (lo:=L+m-b) (hi:=L) (by omega) (by omega) M (by omega) (by omega) P O Z.symm (by omega) (by omega) (by omega) (by omega) (by omega) (by omega) (by omega) ?_;simp[J];rw[vw (by omega),tP (by omega) (by omega)];refine ams X W V U R Q (lo:=a) (hi:=m) (by omega) (by omega) M (by omega) (by omega) P O Z.symm (by omega) (by omega) (by omega) (by omega) (by omega) (by omega) (by omega) ?_;simp;cases Z
end
end
section
attribute[local simp] IE.den BE.den RE.rv RE.den ey aa.rv aa.ext aa.add SV.xv rR Ey Ez EA xB xC LE.rows ke gO
attribute[local congr] Ex
section
variable{lt:List RV->List RV->Bool}
inductive hM(lt:List RV->List RV->Bool)(s:Nat):List (List RV)->List (List RV)->Prop
 |nil:hM lt s [] []
 |last (X:List (List RV)):1<=X.length->X.length<=s->hM lt s X (bp lt X)
 |cons (X R R':List (List RV)):X.length=s->hM lt s R R'->hM lt s (X++R) (bp lt X++R')
inductive rT(lt:List RV->List RV->Bool)(s:Nat):List (List RV)->List (List RV)->Prop
 |nil:rT lt s [] []
 |snoc (A A' X:List (List RV)):X.length=s->rT lt s A A'->rT lt s (A++X) (A'++bp lt X)
def rT.jH(h:rT lt X Z U):∀{R V:List (List RV)},hM lt X R V->hM lt X (Z++R) (U++V):=by
 induction h with
 |nil=>intro R V Q;exact Q
 |snoc Z U W P _ O=>
  intro R V Q;have:=O (.cons W R V P Q);simpa using this
def rT.len(h:rT lt X Z U):U.length=Z.length:=by
 induction h with
 |nil=>rfl
 |snoc Z U W R _ V=>simp[V,nq]
def hM.len(h:hM lt X Z U):U.length=Z.length:=by
 induction h with
 |nil=>rfl
 |last W _ _=>simp[nq]
 |cons W R Q P _ V=>simp[V,nq]
def rT.mem(h:rT lt X Z U):∀x∈U,x∈Z:=by
 induction h with
 |nil=>simp
 |snoc Z U W V _ R=>
  intro x V;rcases ayL.1 V with h|h;simp[R x h];simp[Es h]
def hM.mem(h:hM lt X Z U):∀x∈U,x∈Z:=by
 induction h with
 |nil=>simp
 |last W _ _=>intro x V;exact Es V
 |cons W R P V _ Q=>
  intro x V;rcases ayL.1 V with h|h;simp[Es h];simp[Q x h]
def hM.two(J:1<=X)(h:hM lt X Z U)(P:2*X<=Z.length):∃W Y Q V,Z=W++(Y++Q)/\U=bp lt W++(bp lt Y++V)/\W.length=X/\Y.length=X/\hM lt X Q V:=by
 cases h with
 |nil=>simp at P;omega
 |last _ N M=>omega
 |cons W Z U O h=>
  simp only[ayN] at P;cases h with
  |nil=>simp at P;omega
  |last _ N M=>exact⟨W,Z,[],[],by simp,by simp,O,by omega,.nil⟩
  |cons Y Q V L h=>exact⟨W,Y,Q,V,rfl,rfl,O,L,h⟩
def hM.one(h:hM lt X Z U)(V:X<Z.length)(P:Z.length<2*X):∃W Y,Z=W++Y/\U=bp lt W++bp lt Y/\W.length=X:=by
 cases h with
 |nil=>simp at V
 |last _ V P=>omega
 |cons W Z U O h=>
  simp only[ayN] at V P;cases h with
  |nil=>simp at V;omega
  |last _ V P=>exact⟨W,Z,rfl,rfl,O⟩
  |cons Y Q N M h=>simp only[ayN] at P;omega
def hM.short(h:hM lt X Z U)(P:Z.length<=X):U=bp lt Z:=by
 cases h with
 |nil=>rfl
 |last _ N M=>rfl
 |cons W Z U L h=>
  simp only[ayN] at P;have V:Z=[]:=ay4 (by omega);have Q:=h.len;rw[V] at Q;have O:U=[]:=ay4 (by simpa using Q);rw[V,O];simp
def hM.abY(W:Z.length<=X):hM lt X Z (bp lt Z):=by
 cases Z with
 |nil=>exact .nil
 |cons x r=>exact .last _ (by simp) W
end
def amu{o:aU}{P X Q:List (List RV)}{a b:Int}(Z:a=P.length)(W:b=P.length+X.length)(V:(P++(X++Q)).length<=1099511627776)(U:∀z∈P++(X++Q),o.ok z=true):
  ln 2 o [a,b] (P++(X++Q))=some (P++(bp o.lt X++Q)):=by
 subst Z;subst W;unfold ln;rw[if_pos V];simp only[jB];have R:((P.length:Int)).toNat=P.length:=rfl;have O:((P.length:Int)+X.length).toNat=P.length+X.length:=by omega
 rw[R,O];have N:(P++(X++Q)).take P.length=P:=by simp
 have M:aK (P++(X++Q)) P.length (P.length+X.length)=X:=Mf P X _;have L:(P++(X++Q)).drop (P.length+X.length)=Q:=by
  have:P++(X++Q)=(P++X)++Q:=by simp
  rw[this,aAU (by simp)]
 rw[N,M,L,if_pos];simp only[ayz,decide_eq_true_eq,ayM,ayN];exact⟨⟨⟨by omega,by omega⟩,by omega⟩,U⟩
section
variable{K:List Bool}{e g c d:Nat}{o:aU}
set_option maxHeartbeats 4000000 in
def amv (B:jb o.lt (λx=>o.ok x=true)):To K e g o (λns O=>if ns=[]/\O.length<X then fh o true O else none) 0 (Tv e g c d X o):=by
 rintro p _ O ar ns hP bb ⟨J,n,I,rfl,a5,hn⟩ hT hN H bd;simp only at H;split at H;rename_i M;obtain⟨rfl,bx⟩:=M;have b0:=Vf H;have bf:(∀x∈O,o.ok x=true)/\ar=bp o.lt O:=by
  cases o with
  |bN k o zs=>simp[fh] at H
  |_=>
   simp only[fh] at H;split at H;rename_i f;simp only[ayz,ayM] at f;exact⟨f.2.1,(azd H).symm⟩;cases H
 obtain⟨ab,bg⟩:=bf;clear H;refine tN ⟨K,g,o,e,.slice J n I,ar⟩ (hP▸bb) bd _ _ _ ?_;unfold Tv;refine tO (λV=>∃(A W R:List (List RV)),V=[.r (.mk (.slice J n I) (W++R)),.i ((A.length+20:Nat):Int),.i A.length]/\O=A++R/\rT o.lt 20 A W) (λV=>match V with|[_,_,.i a]=>n-a.toNat|_=>0) ⟨[],[],O,by simp,rfl,.nil⟩ ?_;rintro _ ⟨A,W,R,rfl,L,G⟩;have bk:=G.len;have af:A.length+R.length=n:=by rw[<-a5,L];simp
 have y:∀z∈W++R,o.ok z=true:=λz U=>ab z (by
  rw[L];rcases ayL.1 U with h|h;simp[G.mem z h];simp[h])
 by_cases bl:A.length+20<=n;obtain⟨Z,v,rfl,C⟩:∃Z v,R=Z++v/\Z.length=20:=⟨R.take 20,R.drop 20,(az1 _ _).symm,by simp;omega⟩;have zC:=amu (o:=o) (P:=W) (X:=Z) (Q:=v) (a:=A.length) (b:=((A.length+20:Nat):Int)) (by omega) (by omega) (by simp at af⊢;omega) y;have M:((A.length+20:Nat):Int)<=n:=by omega
 have ag:=vw (a:=A.length+20) (b:=20) (by omega);have u:Ew (some ⟨0,λV=>∃(A W R:List (List RV)),V=[.r (.mk (.slice J n I) (W++R)),.i ((A.length+20:Nat):Int),.i A.length]/\O=A++R/\rT o.lt 20 A W,λV=>match V with|[_,_,.i a]=>n-a.toNat|_=>0,n-A.length⟩) [.r (.mk (.slice J n I) (W++(bp o.lt Z++v))),.i (aP .add .i64 ((A.length+20:Nat):Int) 20),.i ((A.length+20:Nat):Int)]:=by
  refine⟨⟨A++Z,W++bp o.lt Z,v, ?_,by rw[L];simp,.snoc A W Z C G⟩, ?_⟩;rw[show((20:Int))=((20:Nat):Int) from rfl,ag];simp[C];show n-((A.length+20:Nat):Int).toNat<n-A.length;omega
 generalize U:((A.length+20:Nat):Int)=z at zC M u⊢;simp[lenOf,M];exact⟨_,zC,u⟩;have M:¬((A.length+20:Nat):Int)<=n:=by omega
 have zC:=amu (o:=o) (P:=W) (X:=R) (Q:=[]) (a:=A.length) (b:=n) (by omega) (by omega) (by simp;omega) (by simpa using y);simp only[aAc] at zC;generalize U:((A.length+20:Nat):Int)=z at M⊢;have hB:hM o.lt 20 O (W++bp o.lt R):=by rw[L];exact G.jH (.abY (by omega))
 simp[lenOf,M];refine⟨_,zC, ?_⟩;clear zC;generalize b1:W++bp o.lt R=bo at hB⊢;have b2:∀{F:List (List RV)}{s:Nat},hM o.lt s O F->∀z∈F,o.ok z=true:=λh z U=>ab z (h.mem z U)
 refine tO (λV=>∃(s:Nat)(F:List (List RV)),V=[.r (.mk (.slice J n I) F),.i s]/\20<=s/\s<=2*1099511627776/\hM o.lt s O F) (λV=>match V with|[_,.i s]=>4398046511104-s.toNat|_=>0) ⟨20,bo,rfl,by omega,by omega,hB⟩ ?_;rintro _ ⟨s,F,rfl,b3,b4,a6⟩;by_cases a7:s<n;have a0:aP .mul .i64 2 (s:Int)=((2*s:Nat):Int):=by simp only[aP];rw[Me (by omega) (by omega)];omega
 have a1:aP .mul .i64 (s:Int) 2=((2*s:Nat):Int):=by simp only[aP];rw[Me (by omega) (by omega)];omega
 have a2:∀al,hM o.lt (2*s) O al->Ew (some ⟨1,λV=>∃(s:Nat)(F:List (List RV)),V=[.r (.mk (.slice J n I) F),.i s]/\20<=s/\s<=2*1099511627776/\hM o.lt s O F,λV=>match V with|[_,.i s]=>4398046511104-s.toNat|_=>0,4398046511104-s⟩) [.r (.mk (.slice J n I) al),.i ((2*s:Nat):Int)]:=λal h'=>⟨⟨2*s,al,rfl,by omega,by omega,h'⟩,show 4398046511104-((2*s:Nat):Int).toNat<4398046511104-s by omega⟩
 generalize a8:((2*s:Nat):Int)=w at a0 a1 a2;simp[a7,lenOf];refine tO (λV=>∃(A W R E:List (List RV)),V=[.r (.mk (.slice J n I) (W++E)),.i ((A.length+2*s:Nat):Int),.i A.length]/\O=A++R/\rT o.lt (2*s) A W/\hM o.lt s R E) (λV=>match V with|[_,_,.i a]=>n-a.toNat|_=>0) ⟨[],[],O,F,by simp[a0,<-a8],rfl,.nil,a6⟩ ?_;rintro _ ⟨A,W,R,E,rfl,L,G,t⟩;have bk:=G.len;have a9:=t.len;have af:A.length+R.length=n:=by rw[<-a5,L];simp
 have y:∀z∈W++E,o.ok z=true:=λz U=>ab z (by
  rw[L];rcases ayL.1 U with h|h;simp[G.mem z h];simp[t.mem z h])
 have an:∀z∈R,o.ok z=true:=λz U=>ab z (by rw[L];simp[U])
 have has:=vw (a:=A.length) (b:=s) (by omega);by_cases bl:A.length+2*s<=n;obtain⟨Z,Y,Q,Q',rfl,rfl,C,hy,f⟩:=t.two (by omega) (by omega);have br:(bp o.lt Z).length=s:=by rw[nq,C]
 have bs:(bp o.lt Y).length=s:=by rw[nq,hy]
 have q:∀z∈Z,o.ok z=true:=λz U=>an z (by simp[U])
 have l:∀z∈Y,o.ok z=true:=λz U=>an z (by simp[U])
 have D:=Tz (o:=o) (N:=X) (P:=W) (X:=bp o.lt Z) (Y:=bp o.lt Y) (Q:=Q') (a:=A.length) (m:=((A.length+s:Nat):Int)) (b:=((A.length+2*s:Nat):Int)) (by omega) (by omega) (by omega) (by omega) (by omega) (by omega) (by simp only[ayN] at a9 af⊢;omega) y (Er B q) (Er B l);rw[al3 B q l] at D;have M:((A.length+2*s:Nat):Int)<=n:=by omega
 have ag:=vw (a:=A.length+2*s) (b:=2*s) (by omega);rw[a8] at ag;have u:Ew (some ⟨2,λV=>∃(A W R E:List (List RV)),V=[.r (.mk (.slice J n I) (W++E)),.i ((A.length+2*s:Nat):Int),.i A.length]/\O=A++R/\rT o.lt (2*s) A W/\hM o.lt s R E,λV=>match V with|[_,_,.i a]=>n-a.toNat|_=>0,n-A.length⟩) [.r (.mk (.slice J n I) (W++(bp o.lt (Z++Y)++Q'))),.i (aP .add .i64 ((A.length+2*s:Nat):Int) w),.i ((A.length+2*s:Nat):Int)]:=by
  refine⟨⟨A++(Z++Y),W++bp o.lt (Z++Y),Q,Q', ?_,by rw[L];simp,.snoc A W (Z++Y) (by simp;omega) G,f⟩, ?_⟩;rw[ag];simp[C,hy];omega;show n-((A.length+2*s:Nat):Int).toNat<n-A.length;omega
 generalize U:((A.length+2*s:Nat):Int)=z at D M u⊢;simp[lenOf,M,a0,has];exact⟨_,by simpa using D,u⟩;have M:¬((A.length+2*s:Nat):Int)<=n:=by omega
 generalize U:((A.length+2*s:Nat):Int)=z at M⊢;by_cases b5:A.length+s<n;obtain⟨Z,Y,rfl,rfl,C⟩:=t.one (by omega) (by omega);simp only[ayN] at af a9;have br:(bp o.lt Z).length=s:=by rw[nq,C]
 have bs:(bp o.lt Y).length=Y.length:=nq;have q:∀z∈Z,o.ok z=true:=λz U=>an z (by simp[U])
 have l:∀z∈Y,o.ok z=true:=λz U=>an z (by simp[U])
 have D:=Tz (o:=o) (N:=X) (P:=W) (X:=bp o.lt Z) (Y:=bp o.lt Y) (Q:=[]) (a:=A.length) (m:=((A.length+s:Nat):Int)) (b:=n) (by omega) (by omega) (by omega) (by omega) (by omega) (by omega) (by simp only[ayN,aAC];omega) (by simpa using y) (Er B q) (Er B l);rw[al3 B q l] at D;simp only[aAc] at D;have j:((A.length+s:Nat):Int)<n:=by omega
 have a3:hM o.lt (2*s) O (W++bp o.lt (Z++Y)):=by rw[L];exact G.jH (.abY (by simp;omega))
 generalize bt:((A.length+s:Nat):Int)=z3 at has D j;simp[lenOf,M,has,j,a1];exact⟨_,D,a2 _ a3⟩;have j:¬((A.length+s:Nat):Int)<n:=by omega
 have a4:=t.short (by omega);have a3:hM o.lt (2*s) O (W++E):=by rw[L,a4];exact G.jH (.abY (by omega))
 generalize bt:((A.length+s:Nat):Int)=z3 at has j;simp[lenOf,M,has,j,a1];exact a2 _ a3;have a4:=a6.short (by omega);simp[a7,lenOf];exact⟨3,rfl,by rw[a4,bg];rfl⟩;cases H
end
end
end
end Go.Proofs.YtieaiocljdpebaaGreatDoor.Y
