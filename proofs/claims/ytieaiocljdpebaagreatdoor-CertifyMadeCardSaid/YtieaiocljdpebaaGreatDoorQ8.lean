/- Part 8 of the proof; the last part says what is shown. -/
import Derived.Test.YtieaiocljdpebaaGreatDoorQ7
set_option linter.all false
open List renaming cons_append->axY,mem_append->axS,nil_append->ax2,map_cons->axV,length_append->axX,range->ax6,mem_map->aya,pairwise_append->ayc,length_map->ayA,mem_range->ayR,map_nil->ay2,getElem_mem->ayT,append_nil->azf,pairwise_iff_getElem->azn,map_append->aze,map->azC,pairwise_map->azS,ne_nil_of_mem->az8,filter_append->aBn,length_range->aBr
open Nat renaming le_refl->axQ,zero_le->ayK
open List.Pairwise renaming nil->ayv
open Int renaming toNat_natCast->ayE
open List.cons renaming injEq->ayH
open List.Perm renaming refl->aAv
namespace Go.Proofs.YtieaiocljdpebaaGreatDoor.Y
open Go.RowKit
noncomputable section
variable{X:Int}
section
section
variable{R:aT->Prop}{d:List LK}{t:T}{O:aa}{L:List PC}
def arR(a b:Int)(h:b≠0):∃o,TB.Ev 371 [.i a,.i b] o/\∃Z,o=.ret Z/\dh (kI 1) Z=true:=by
 refine dw rfl rfl (.inl rfl) ?_;simp[R6,h]
def arS(a b:Int)(h:b≠0):eu TB.Ev R 371 [.i a,.i b] d t O L=eE TB.Ev R (.ret [.i (oi 371 [.i a,.i b] 0)]) d t O L:=aS (j7 _ (arR a b h))
def arT{b:Int}(h:gX X b=true):b≠0:=by
 simp[gX] at h;omega
def arU(a b c:Int):∃o,TB.Ev 354 [.i a,.i b,.i c] o/\∃Z,o=.ret Z/\dh (kI 3) Z=true:=by
 refine dw rfl rfl (.inl rfl) ?_;by_cases h:gX a b=true;simp[Im,h,arS _ _ (arT h)];simp[Im,h]
@[simp] def axE (a b c:Int):eu TB.Ev R 354 [.i a,.i b,.i c] d t O L=eE TB.Ev R (.ret [.i (oi 354 [.i a,.i b,.i c] 0),.i (oi 354 [.i a,.i b,.i c] 1),.i (oi 354 [.i a,.i b,.i c] 2)]) d t O L:=aS (j7 _ (arU a b c))
def arV(V:Int)(Z X W:RV)(Q:Sl Z)(P:Sl X)(N:Sl W)(ae:Int):∃o,TB.Ev 353 [.i V,.r Z,.r X,.r W,.i ae] o/\∃U,o=.ret U/\dh (kI 2) U=true:=by
 refine dw rfl rfl (.inl rfl) ?_;obtain⟨M,J⟩:=mR V Z X W Q P N;simp[aak,aS M];intro I H;rw[ajv V ae Z X W (J I).1 (by first|omega|(simp[gC] at H;omega))];simp
def aj7(V:Int)(Z X W:RV)(U:Sl Z)(Q:Sl X)(P:Sl W)(ae:Int):eu TB.Ev R 353 [.i V,.r Z,.r X,.r W,.i ae] d t O L=eE TB.Ev R (.ret [.i (oi 353 [.i V,.r Z,.r X,.r W,.i ae] 0),.i (oi 353 [.i V,.r Z,.r X,.r W,.i ae] 1)]) d t O L:=aS (j7 _ (arV V Z X W U Q P ae))
def arW(V:Int)(Z X W:RV)(Q:Sl Z)(P:Sl X)(N:Sl W)(ae a b:Int):∃o,TB.Ev 310 [.i V,.r Z,.r X,.r W,.i ae,.i a,.i b] o/\∃U,o=.ret U/\dh (kI 3) U=true:=by
 refine dw rfl rfl (.inl rfl) ?_;simp[Sa,aj7 V Z X W Q P N ae]
def arX(V:Int)(Z X W:RV)(U:Sl Z)(Q:Sl X)(P:Sl W)(ae a b:Int):eu TB.Ev R 310 [.i V,.r Z,.r X,.r W,.i ae,.i a,.i b] d t O L=eE TB.Ev R (.ret [.i (oi 310 [.i V,.r Z,.r X,.r W,.i ae,.i a,.i b] 0),.i (oi 310 [.i V,.r Z,.r X,.r W,.i ae,.i a,.i b] 1),.i (oi 310 [.i V,.r Z,.r X,.r W,.i ae,.i a,.i b] 2)]) d t O L:=aS (j7 _ (arW V Z X W U Q P ae a b))
def arY(V:Int)(Z X W:RV)(Q:Sl Z)(P:Sl X)(N:Sl W)(M J I H G F E D C B A z y x:Int):∃o,TB.Ev 249 [.i V,.r Z,.r X,.r W,.i M,.i J,.i I,.i H,.i G,.i F,.i E,.i D,.i C,.i B,.i A,.i z,.i y,.i x] o/\∃U,o=.ret U/\dh (kI 1) U=true:=by
 refine dw rfl rfl (.inl rfl) ?_;simp[Sb,arX V Z X W Q P N]
def aaW(V:Int)(Z X W:RV)(A:Sl Z)(z:Sl X)(y:Sl W)(U Q P N M J I H G F E D C B:Int):eu TB.Ev R 249 [.i V,.r Z,.r X,.r W,.i U,.i Q,.i P,.i N,.i M,.i J,.i I,.i H,.i G,.i F,.i E,.i D,.i C,.i B] d t O L=eE TB.Ev R (.ret [.i (oi 249 [.i V,.r Z,.r X,.r W,.i U,.i Q,.i P,.i N,.i M,.i J,.i I,.i H,.i G,.i F,.i E,.i D,.i C,.i B] 0)]) d t O L:=aS (j7 _ (arY V Z X W A z y U Q P N M J I H G F E D C B))
end
end
variable{Z:Nat→Bool}{V:Nat}{U:T}
section
section
def Mi(id:Int)(m:Nat):List RV:=[iV ((m:Int)+1),iV id]
def iZ(b:Nat->Bool)(id:Int)(js:List Nat):List (List RV):=(js.filter b).map (Mi id)
def arZ{js:List Nat}(h:Z V=true):iZ Z X (js++[V])=iZ Z X js++[Mi X V]:=by simp[iZ,aBn,h]
def ar0{js:List Nat}(h:Z V=false):iZ Z X (js++[V])=iZ Z X js:=by simp[iZ,aBn,h]
def aj8(b:Nat->Bool)(id:Int)(js:List Nat):(iZ b id js).length<=js.length:=by simp only[iZ,ayA];exact List.length_filter_le _ _
def mU(Z:RV)(id:Int)(k:Nat):Int:=match jA 1 [id,0,0] Z.rows with
 |some X=>bg (X[k]?.getD default).val
 |none=>0
def SR(Z X W V U q:Int):Int:=if q=0 then Z else if q=1 then X else if q=2 then W else if q=3 then V else if q=4 then U else 0
def ar1(v w:Nat->Int):Int:=max 0 (max (aR .sub .i64 (v 0) (w 0)) (max (aR .sub .i64 0 (aR .sub .i64 (v 0) (w 0))) (max (aR .sub .i64 (v 1) (w 1)) (max (aR .sub .i64 0 (aR .sub .i64 (v 1) (w 1))) (max (aR .sub .i64 (v 2) (w 2)) (aR .sub .i64 0 (aR .sub .i64 (v 2) (w 2))))))))
def IA(W:Int)(V U R Z:RV)(X:Nat)(x:Nat->Int)(Q P q d l:Int)(k:Nat):Bool:=decide (aR .mul .i64 (aR .mul .i64 841 (ci Z X (k+9))) (oi 249 ([.i W,.r V,.r U,.r R]++fu x) 0)<aR .mul .i64 (aR .mul .i64 1000 (ci Z X (k+6))) (ar1 (oi 248 [.i Q,.i P,.i q]) (oi 248 [.i d,.i l,.i q])))
def cT(V:Int)(U R Q Z:RV)(X:Nat)(W:RV)(x s:Nat->Int):Nat->Bool
 |0=>if x 4=3 then decide (ci Z X 12<mU W (x 0) 3) else if x 4=4\/x 4=9 then decide (ci Z X 13<mU W (x 0) 3) else if x 4=5 then decide (ci Z X 14<mU W (x 0) 3) else false
 |1=>if x 4=3 then IA V U R Q Z X x (mU W (x 0) 2) (mU W (x 0) 3) (x 5-1) (SR (s 3) (s 5) (s 7) (s 9) (s 11) (x 5-1)) (SR (s 4) (s 6) (s 8) (s 10) (s 12) (x 5-1)) 0 else if x 4=4 then IA V U R Q Z X x (mU W (x 0) 2) (mU W (x 0) 3) (x 5+1) (SR (s 3) (s 5) (s 7) (s 9) (s 11) (x 5+1)) (SR (s 4) (s 6) (s 8) (s 10) (s 12) (x 5+1)) 1 else if x 4=5 then IA V U R Q Z X x (mU W (x 0) 2) (mU W (x 0) 3) 4 (s 11) (s 12) 2 else false
 |2=>if x 4=1 then decide (ci Z X 4<x 8) else if x 4=2 then decide (ci Z X 5<x 8) else false
 |3=>if x 4=7 then decide (ci Z X 2<ci Z ((x 9).toNat-1) 1) else false
 |_=>false
def EG(l:List Int)(k:Nat):Int:=l.getD k 0
end
section
structure aj9(k bars:Int)(rl tp ps sp sg:RV)(o0:aT)(n i rn:Nat)(bd mp:RV)(rs acc:List (List RV))(b:Nat->Bool)(s:List Int):Prop where
 ho:sL o0 o0=true
 h:fF rl tp ps sp sg
 hb:b=cT bars tp ps sp bd rn mp (aZ rs i) (EG s)
 hi:i<n
 hn:n<=4096
 bp:rs.length=n
 zU:acc.length<=100000
 mh:rn<bd.rows.length
 bv:Sl bd
 iA:bd.rows.length=rl.rows.length
 j8:rl.rows.length<=64
 gD:vz rl.rows.length bars (aZ rs i)
 hk:aZ rs i 4=k
structure ar2(js:List Nat)(j:Nat)(z:Int)(b:Nat->Bool)(id:Int):Prop where
 z4:z=0/\j=0\/z=1/\j=1\/z=2/\j=2\/z=3/\j=3
 hlen:js.length<4
 cZ:eK 1 [RV.mk (Value.int IntKind.i64 z) []] (iY js)=iY (js++[j])
 co:(iY (js++[j])).length=js.length+1
 bO:aR BinOp.sub IntKind.i64 ((js.length:Int)+1) 1=(js.length:Int)
 bi:bg (cellAt (iY (js++[j])) (js.length:Int) 0).val=z
 xN:(iZ b id js).length<=js.length
 cQ:b j=true->iZ b id (js++[j])=iZ b id js++[Mi id j]
 dU:b j=false->iZ b id (js++[j])=iZ b id js
def aka(Z:List XV):Nat:=match Z.reverse with
 |.r v::_=>4-v.rows.length
 |_=>0
def vG(k:Int)(t:T):Prop:=∀{W D A B C ae x8 x9 ac af ag al an a0 a1 a2 a3 a4 a5 a6 a7 a8 a9 bb bf bk br bs bt bx bX b0 b1 b2 b3 b4 X V U R Q P O N M I H G F b5:Int}{J:Nat->List XV->Prop}{L:List PC}{re:RV}{E:aT}{z y x w v u s q p o m l j h:Int}{g f e d c:RV}{n i a:Nat}{bd mp:RV}{Z acc:List (List RV)}{b:Nat->Bool},aj9 k h g f e d c E n i a bd mp Z acc b [X,V,U,R,Q,P,O,N,M,I,H,G,F]->(∀js,js.Perm (ax6 4)->J (i+1) [.i z,.i y,.i x,.i w,.i v,.i u,.i s,.i q,.i p,.i o,.i m,.i l,.i j,.r (aF (acc++iZ b (aZ Z i 0) js))])->T.wp TB.Ev (· =E) t (⟨[W,D,A,B,C,h,(a:Int),ae,x8,x9,ac,af,ag,al,an,a0,a1,a2,a3,a4,a5,a6,a7,a8,a9,bb,bf,bk,br,bs,bt,bx,bX,b0,b1,b2,b3,b4,(i:Int),X,V,U,R,Q,P,O,N,M,I,H,G,F,z,y,x,w,v,u,s,q,p,o,m,l,j,b5],[],[g,f,e,d,c,bd,re,mp,aF Z,aF acc],[]⟩:aa) (⟨2,vy n J,tV n,n-i⟩::L)
def xO(k:Int)(t:T):Prop:=∀{W D A B C ae x8 x9 ac af ag al an a0 a1 a2 a3 a4 a5 a6 a7 a8 a9 bb bf bk br bs bt bx bX b0 b1 b2 b3 b4 x w v u s q p o l h g f e b5:Int}{J:Nat->List XV->Prop}{L:List PC}{re:RV}{d:aT}{X V U R Q P O N H G F E y c:Int}{a tp ps sp sg:RV}{n i rn:Nat}{bd mp:RV}{Z acc:List (List RV)}{b:Nat->Bool},aj9 k c a tp ps sp sg d n i rn bd mp Z acc b [x,w,v,u,s,q,p,o,l,h,g,f,e]->∀{js:List Nat}{j:Nat}{z:Int}{I:List XV->Prop}{μ:List XV->Nat}{m:Nat},ar2 js j z b (aZ Z i 0)->(∀M,M=[.i X,.i V,.i U,.i R,.i Q,.i P,.i O,.i N,.i H,.i G,.i F,.i E,.i y,.r (aF (acc++iZ b (aZ Z i 0) (js++[j]))),.r (aF (iY (js++[j])))]->L7 (some ⟨3,I,μ,m⟩) M)->T.wp TB.Ev (· =d) t (((⟨[W,D,A,B,C,c,(rn:Int),ae,x8,x9,ac,af,ag,al,an,a0,a1,a2,a3,a4,a5,a6,a7,a8,a9,bb,bf,bk,br,bs,bt,bx,bX,b0,b1,b2,b3,b4,(i:Int),x,w,v,u,s,q,p,o,l,h,g,f,e,X,V,U,R,Q,P,O,N,H,G,F,E,y,b5],[],[a,tp,ps,sp,sg,bd,re,mp,aF Z,aF acc],[]⟩:aa).ext [.i X,.i V,.i U,.i R,.i Q,.i P,.i O,.i N,.i H,.i G,.i F,.i E,.i y,.r (aF (acc++iZ b (aZ Z i 0) js)),.r (aF (iY js))]).add (.i z)) (⟨3,I,μ,m⟩::⟨2,vy n J,tV n,n-i⟩::L)
def vH(t:T):T:=match dg.at [0,1,0,0,1,0,1,0,0,0,0,0,0,0,0,1,0] with
 |.loop a b c (.pick d e f _ g)=>.loop a b c (.pick d e f t g)
 |x=>x
set_option maxHeartbeats 8000000 in
def zV (O:xO X U):vG X (vH U):=by
 unfold vG;intros;rename_i N M L J I H G F E D C B A s q p o m l n i h g f y acc b R x;rw[show vH U=T.loop _ _ _ (T.pick _ _ _ U _) from rfl];refine zP (λw=>∃js,w=[.i N,.i M,.i L,.i J,.i I,.i H,.i G,.i F,.i E,.i D,.i C,.i B,.i A,.r (aF (acc++iZ b (aZ y i 0) js)),.r (aF (iY js))]/\Pk 4 js) aka ⟨[],by simp[iZ,iY],Pk.nil _⟩ ?_;rintro _ ⟨js,rfl,V⟩;have e:=V.len;rw[ajp];refine⟨single R.ho, ?_, ?_, ?_⟩;by_cases v:4<=js.length;exact az8 (Wp (by simp[Mg];omega));obtain⟨j,Z,W⟩:=Pk.more v;refine az8 (Wo (j:=(j:Int)) (by omega) (by simp;omega) ?_);simp[SQ,W];intro z d Z W;obtain⟨j,Q⟩:∃X:Nat,(X:Int)=z:=⟨z.toNat,by omega⟩;have Z:j<4:=by simp at Z;omega
 have W:j∉js:=by rw[<-Q] at W;simp[SQ] at W;exact W
 have P:=Mh (b:=ax6 4) (V.add W Z).nd λj P=>ayR.2 ((V.add W Z).lt j P)
 simp at P;refine O (js:=js) (j:=j) (z:=z) R ⟨by omega,by omega,by rw[<-Q];exact aj2 W,by simp[iY],by simp only[aR];rw[fk (by omega) (by omega)];omega, ?_,aj8 _ _ _,arZ,ar0⟩ ?_;rw[<-Q,iY,aze];rw[show azC (λ(j:Nat)=>[iV (j:Int)]) [j]=[[iV (j:Int)]] from rfl,Iy (by simp)];rfl;rintro _ rfl;rw[zO];exact⟨⟨_,rfl,V.add W Z⟩,by simp[aka,aF,iY];omega⟩;intro Z;have Z:4<=js.length:=by simp[Mg] at Z;omega
 have u:=V.perm Z;simp[bG R.hi (show n<=140737488355328 by have:=R.hn;omega)];exact x js u
set_option maxHeartbeats 8000000 in
def br1:vG 1 (dg.at [0,1,0,0,1,0,1,0,0,0,0,0,0,0,0,1,0]):=by
 rw[show dg.at [0,1,0,0,1,0,1,0,0,0,0,0,0,0,0,1,0]=vH (dg.at [0,1,0,0,1,0,1,0,0,0,0,0,0,0,0,1,0,0,0]) from rfl];refine zV ?_;rw[show dg.at [0,1,0,0,1,0,1,0,0,0,0,0,0,0,0,1,0,0,0]=T.rows _ _ _ _ from rfl];unfold xO;intros;rename_i P O N M L J n i I H G U acc b R js j z _ _ _ Q Z;obtain⟨F,h,X,E,D,bp,zU,mh,bv,iA,j8,gD,W⟩:=R;obtain⟨C,B,cZ,co,bO,bi,xN,cQ,dU⟩:=Q;have A:(i:Int)<U.length:=by omega
 rcases(show z=0/\j=0\/z=1/\j=1\/z=2/\j=2\/z=3/\j=3 by omega) with⟨rfl,rfl⟩|⟨rfl,rfl⟩|⟨rfl,rfl⟩|⟨rfl,rfl⟩;have e:b 0=false:=by rw[X];simp[cT,W]
 simp[cZ,bO,bi,co];exact⟨by omega,Z _ (by rw[dU e])⟩;have e:b 1=false:=by rw[X];simp[cT,W]
 simp[cZ,bO,bi,co];exact⟨by omega,Z _ (by rw[dU e])⟩;simp[cZ,bO,bi,co];refine⟨by omega, ?_⟩;refine bj (λV=>⟨by omega,Z _ ?_⟩) (λV=>Z _ ?_);have e:b 2=true:=by
  rw[X];simp only[cT,W];exact decide_eq_true V
 rw[cQ e];rfl;have e:b 2=false:=by
  rw[X];simp only[cT,W];exact decide_eq_false V
 rw[dU e];have e:b 3=false:=by rw[X];simp[cT,W]
 simp[cZ,bO,bi,co];exact⟨by omega,Z _ (by rw[dU e])⟩
set_option maxHeartbeats 8000000 in
def br2:vG 2 (dg.at [0,1,0,0,1,0,1,0,0,0,0,0,0,0,0,1,1,0]):=by
 rw[show dg.at [0,1,0,0,1,0,1,0,0,0,0,0,0,0,0,1,1,0]=vH (dg.at [0,1,0,0,1,0,1,0,0,0,0,0,0,0,0,1,1,0,0,0]) from rfl];refine zV ?_;rw[show dg.at [0,1,0,0,1,0,1,0,0,0,0,0,0,0,0,1,1,0,0,0]=T.rows _ _ _ _ from rfl];unfold xO;intros;rename_i P O N M L J n i I H G U acc b R js j z _ _ _ Q Z;obtain⟨F,h,X,E,D,bp,zU,mh,bv,iA,j8,gD,W⟩:=R;obtain⟨C,B,cZ,co,bO,bi,xN,cQ,dU⟩:=Q;have A:(i:Int)<U.length:=by omega
 rcases(show z=0/\j=0\/z=1/\j=1\/z=2/\j=2\/z=3/\j=3 by omega) with⟨rfl,rfl⟩|⟨rfl,rfl⟩|⟨rfl,rfl⟩|⟨rfl,rfl⟩;have e:b 0=false:=by rw[X];simp[cT,W]
 simp[cZ,bO,bi,co];exact⟨by omega,Z _ (by rw[dU e])⟩;have e:b 1=false:=by rw[X];simp[cT,W]
 simp[cZ,bO,bi,co];exact⟨by omega,Z _ (by rw[dU e])⟩;simp[cZ,bO,bi,co];refine⟨by omega, ?_⟩;refine bj (λV=>⟨by omega,Z _ ?_⟩) (λV=>Z _ ?_);have e:b 2=true:=by
  rw[X];simp only[cT,W];exact decide_eq_true V
 rw[cQ e];rfl;have e:b 2=false:=by
  rw[X];simp only[cT,W];exact decide_eq_false V
 rw[dU e];have e:b 3=false:=by rw[X];simp[cT,W]
 simp[cZ,bO,bi,co];exact⟨by omega,Z _ (by rw[dU e])⟩
set_option maxHeartbeats 8000000 in
def br3:vG 3 (dg.at [0,1,0,0,1,0,1,0,0,0,0,0,0,0,0,1,1,1,0]):=by
 rw[show dg.at [0,1,0,0,1,0,1,0,0,0,0,0,0,0,0,1,1,1,0]=vH (dg.at [0,1,0,0,1,0,1,0,0,0,0,0,0,0,0,1,1,1,0,0,0]) from rfl];refine zV ?_;rw[show dg.at [0,1,0,0,1,0,1,0,0,0,0,0,0,0,0,1,1,1,0,0,0]=T.rows _ _ _ _ from rfl];unfold xO;intros;rename_i P H O N M G n i F E D X acc b L js j z _ _ _ J W;obtain⟨C,h,V,B,A,bp,zU,mh,bv,iA,j8,gD,U⟩:=L;obtain⟨y,x,cZ,co,bO,bi,xN,cQ,dU⟩:=J;have w:(i:Int)<X.length:=by omega
 have I:bg (cellAt X (i:Int) 5).val=1\/bg (cellAt X (i:Int) 5).val=2:=by
  have:=gD.side;rw[if_pos (by omega)] at this;simp only[aZ] at this;omega
 have R:aR .sub .i64 (bg (cellAt X (i:Int) 5).val) 1=bg (cellAt X (i:Int) 5).val-1:=by simp only[aR];rw[fk (by omega) (by omega)]
 have Q:aR .quo .i64 (bg (cellAt X (i:Int) 5).val-1) 2=0:=by rcases I with h|h<;>rw[h]<;>decide
 rcases(show z=0/\j=0\/z=1/\j=1\/z=2/\j=2\/z=3/\j=3 by omega) with⟨rfl,rfl⟩|⟨rfl,rfl⟩|⟨rfl,rfl⟩|⟨rfl,rfl⟩;simp[cZ,bO,bi,co,R,Q];refine⟨by omega, ?_⟩;refine bj (λZ=>⟨by omega,W _ ?_⟩) (λZ=>W _ ?_);have e:b 0=true:=by
  rw[V];simp only[cT,U];exact decide_eq_true Z
 rw[cQ e];rfl;have e:b 0=false:=by
  rw[V];simp only[cT,U];exact decide_eq_false Z
 rw[dU e];simp[cZ,bO,bi,co,R,Q,aaW P O N M h.tp h.ps h.sp];refine⟨by omega,⟨by omega,by omega⟩,by omega, ?_⟩;refine bj (λZ=>⟨by omega,W _ ?_⟩) (λZ=>W _ ?_);have e:b 1=true:=by
  rw[V];simp only[cT,U];exact decide_eq_true Z
 rw[cQ e];rfl;have e:b 1=false:=by
  rw[V];simp only[cT,U];exact decide_eq_false Z
 rw[dU e];have e:b 2=false:=by rw[V];simp[cT,U]
 simp[cZ,bO,bi,co];exact⟨by omega,W _ (by rw[dU e])⟩;have e:b 3=false:=by rw[V];simp[cT,U]
 simp[cZ,bO,bi,co];exact⟨by omega,W _ (by rw[dU e])⟩
set_option maxHeartbeats 8000000 in
def br4:vG 4 (dg.at [0,1,0,0,1,0,1,0,0,0,0,0,0,0,0,1,1,1,1,0]):=by
 rw[show dg.at [0,1,0,0,1,0,1,0,0,0,0,0,0,0,0,1,1,1,1,0]=vH (dg.at [0,1,0,0,1,0,1,0,0,0,0,0,0,0,0,1,1,1,1,0,0,0]) from rfl];refine zV ?_;rw[show dg.at [0,1,0,0,1,0,1,0,0,0,0,0,0,0,0,1,1,1,1,0,0,0]=T.rows _ _ _ _ from rfl];unfold xO;intros;rename_i P H O N M G n i F E D X acc b L js j z _ _ _ J W;obtain⟨C,h,V,B,A,bp,zU,mh,bv,iA,j8,gD,U⟩:=L;obtain⟨y,x,cZ,co,bO,bi,xN,cQ,dU⟩:=J;have w:(i:Int)<X.length:=by omega
 have I:bg (cellAt X (i:Int) 5).val=1\/bg (cellAt X (i:Int) 5).val=2:=by
  have:=gD.side;rw[if_pos (by omega)] at this;simp only[aZ] at this;omega
 have R:aR .add .i64 (bg (cellAt X (i:Int) 5).val) 1=bg (cellAt X (i:Int) 5).val+1:=by simp only[aR];rw[fk (by omega) (by omega)]
 have Q:aR .quo .i64 (bg (cellAt X (i:Int) 5).val+1) 2=1:=by rcases I with h|h<;>rw[h]<;>decide
 rcases(show z=0/\j=0\/z=1/\j=1\/z=2/\j=2\/z=3/\j=3 by omega) with⟨rfl,rfl⟩|⟨rfl,rfl⟩|⟨rfl,rfl⟩|⟨rfl,rfl⟩;simp[cZ,bO,bi,co,R,Q];refine⟨by omega, ?_⟩;refine bj (λZ=>⟨by omega,W _ ?_⟩) (λZ=>W _ ?_);have e:b 0=true:=by
  rw[V];simp only[cT,U];exact decide_eq_true Z
 rw[cQ e];rfl;have e:b 0=false:=by
  rw[V];simp only[cT,U];exact decide_eq_false Z
 rw[dU e];simp[cZ,bO,bi,co,R,Q,aaW P O N M h.tp h.ps h.sp];refine⟨by omega,⟨by omega,by omega⟩,by omega, ?_⟩;refine bj (λZ=>⟨by omega,W _ ?_⟩) (λZ=>W _ ?_);have e:b 1=true:=by
  rw[V];simp only[cT,U];exact decide_eq_true Z
 rw[cQ e];rfl;have e:b 1=false:=by
  rw[V];simp only[cT,U];exact decide_eq_false Z
 rw[dU e];have e:b 2=false:=by rw[V];simp[cT,U]
 simp[cZ,bO,bi,co];exact⟨by omega,W _ (by rw[dU e])⟩;have e:b 3=false:=by rw[V];simp[cT,U]
 simp[cZ,bO,bi,co];exact⟨by omega,W _ (by rw[dU e])⟩
set_option maxHeartbeats 8000000 in
def br5:vG 5 (dg.at [0,1,0,0,1,0,1,0,0,0,0,0,0,0,0,1,1,1,1,1,0]):=by
 rw[show dg.at [0,1,0,0,1,0,1,0,0,0,0,0,0,0,0,1,1,1,1,1,0]=vH (dg.at [0,1,0,0,1,0,1,0,0,0,0,0,0,0,0,1,1,1,1,1,0,0,0]) from rfl];refine zV ?_;rw[show dg.at [0,1,0,0,1,0,1,0,0,0,0,0,0,0,0,1,1,1,1,1,0,0,0]=T.rows _ _ _ _ from rfl];unfold xO;intros;rename_i U L R Q P J n i I H G O acc b N js j z _ _ _ M X;obtain⟨F,h,W,E,D,bp,zU,mh,bv,iA,j8,gD,V⟩:=N;obtain⟨C,B,cZ,co,bO,bi,xN,cQ,dU⟩:=M;have A:(i:Int)<O.length:=by omega
 rcases(show z=0/\j=0\/z=1/\j=1\/z=2/\j=2\/z=3/\j=3 by omega) with⟨rfl,rfl⟩|⟨rfl,rfl⟩|⟨rfl,rfl⟩|⟨rfl,rfl⟩;simp[cZ,bO,bi,co];refine⟨by omega, ?_⟩;refine bj (λZ=>⟨by omega,X _ ?_⟩) (λZ=>X _ ?_);have e:b 0=true:=by
  rw[W];simp only[cT,V];exact decide_eq_true Z
 rw[cQ e];rfl;have e:b 0=false:=by
  rw[W];simp only[cT,V];exact decide_eq_false Z
 rw[dU e];simp[cZ,bO,bi,co,aaW U R Q P h.tp h.ps h.sp];refine⟨by omega, ?_⟩;refine bj (λZ=>⟨by omega,X _ ?_⟩) (λZ=>X _ ?_);have e:b 1=true:=by
  rw[W];simp only[cT,V];exact decide_eq_true Z
 rw[cQ e];rfl;have e:b 1=false:=by
  rw[W];simp only[cT,V];exact decide_eq_false Z
 rw[dU e];have e:b 2=false:=by rw[W];simp[cT,V]
 simp[cZ,bO,bi,co];exact⟨by omega,X _ (by rw[dU e])⟩;have e:b 3=false:=by rw[W];simp[cT,V]
 simp[cZ,bO,bi,co];exact⟨by omega,X _ (by rw[dU e])⟩
set_option maxHeartbeats 8000000 in
def br6:vG 6 (dg.at [0,1,0,0,1,0,1,0,0,0,0,0,0,0,0,1,1,1,1,1,1,0]):=by
 rw[show dg.at [0,1,0,0,1,0,1,0,0,0,0,0,0,0,0,1,1,1,1,1,1,0]=vH (dg.at [0,1,0,0,1,0,1,0,0,0,0,0,0,0,0,1,1,1,1,1,1,0,0,0]) from rfl];refine zV ?_;rw[show dg.at [0,1,0,0,1,0,1,0,0,0,0,0,0,0,0,1,1,1,1,1,1,0,0,0]=T.rows _ _ _ _ from rfl];unfold xO;intros;rename_i Q P O N M L n i J I H V acc b U js j z _ _ _ R Z;obtain⟨G,h,X,F,E,bp,zU,mh,bv,iA,j8,gD,W⟩:=U;obtain⟨D,C,cZ,co,bO,bi,xN,cQ,dU⟩:=R;have B:(i:Int)<V.length:=by omega
 rcases(show z=0/\j=0\/z=1/\j=1\/z=2/\j=2\/z=3/\j=3 by omega) with⟨rfl,rfl⟩|⟨rfl,rfl⟩|⟨rfl,rfl⟩|⟨rfl,rfl⟩;have e:b 0=false:=by rw[X];simp[cT,W]
 simp[cZ,bO,bi,co];exact⟨by omega,Z _ (by rw[dU e])⟩;have e:b 1=false:=by rw[X];simp[cT,W]
 simp[cZ,bO,bi,co];exact⟨by omega,Z _ (by rw[dU e])⟩;have e:b 2=false:=by rw[X];simp[cT,W]
 simp[cZ,bO,bi,co];exact⟨by omega,Z _ (by rw[dU e])⟩;have e:b 3=false:=by rw[X];simp[cT,W]
 simp[cZ,bO,bi,co];exact⟨by omega,Z _ (by rw[dU e])⟩
set_option maxHeartbeats 8000000 in
def br7:vG 7 (dg.at [0,1,0,0,1,0,1,0,0,0,0,0,0,0,0,1,1,1,1,1,1,1,0]):=by
 rw[show dg.at [0,1,0,0,1,0,1,0,0,0,0,0,0,0,0,1,1,1,1,1,1,1,0]=vH (dg.at [0,1,0,0,1,0,1,0,0,0,0,0,0,0,0,1,1,1,1,1,1,1,0,0,0]) from rfl];refine zV ?_;rw[show dg.at [0,1,0,0,1,0,1,0,0,0,0,0,0,0,0,1,1,1,1,1,1,1,0,0,0]=T.rows _ _ _ _ from rfl];unfold xO;intros;rename_i N R M L J I n i H G F Z acc b Q js j z _ _ _ P X;obtain⟨E,h,W,D,C,bp,zU,mh,bv,iA,j8,gD,V⟩:=Q;obtain⟨B,A,cZ,co,bO,bi,xN,cQ,dU⟩:=P;have y:(i:Int)<Z.length:=by omega
 have x:1<=aZ Z i 9/\aZ Z i 9<=R.rows.length:=by
  have:=gD.wth;rw[if_pos (by omega)] at this;exact this
 have O:aR .sub .i64 (bg (cellAt Z (i:Int) 9).val) 1=(((aZ Z i 9).toNat-1:Nat):Int):=by
  have:bg (cellAt Z (i:Int) 9).val=aZ Z i 9:=rfl;rw[this];simp only[aR];rw[fk (by omega) (by omega)];omega
 rcases(show z=0/\j=0\/z=1/\j=1\/z=2/\j=2\/z=3/\j=3 by omega) with⟨rfl,rfl⟩|⟨rfl,rfl⟩|⟨rfl,rfl⟩|⟨rfl,rfl⟩;have e:b 0=false:=by rw[W];simp[cT,V]
 simp[cZ,bO,bi,co];exact⟨by omega,X _ (by rw[dU e])⟩;have e:b 1=false:=by rw[W];simp[cT,V]
 simp[cZ,bO,bi,co];exact⟨by omega,X _ (by rw[dU e])⟩;have e:b 2=false:=by rw[W];simp[cT,V]
 simp[cZ,bO,bi,co];exact⟨by omega,X _ (by rw[dU e])⟩;simp[cZ,bO,bi,co,bv.len,O];refine⟨by omega,by omega, ?_⟩;refine bj (λU=>⟨by omega,X _ ?_⟩) (λU=>X _ ?_);have e:b 3=true:=by
  rw[W];simp only[cT,V];exact decide_eq_true U
 rw[cQ e];rfl;have e:b 3=false:=by
  rw[W];simp only[cT,V];exact decide_eq_false U
 rw[dU e]
set_option maxHeartbeats 8000000 in
def br9:vG 9 (dg.at [0,1,0,0,1,0,1,0,0,0,0,0,0,0,0,1,1,1,1,1,1,1,1,0]):=by
 rw[show dg.at [0,1,0,0,1,0,1,0,0,0,0,0,0,0,0,1,1,1,1,1,1,1,1,0]=vH (dg.at [0,1,0,0,1,0,1,0,0,0,0,0,0,0,0,1,1,1,1,1,1,1,1,0,0,0]) from rfl];refine zV ?_;rw[show dg.at [0,1,0,0,1,0,1,0,0,0,0,0,0,0,0,1,1,1,1,1,1,1,1,0,0,0]=T.rows _ _ _ _ from rfl];unfold xO;intros;rename_i M L J I H G n i F E D Z acc b R js j z _ _ _ Q X;obtain⟨C,h,W,B,A,bp,zU,mh,bv,iA,j8,gD,V⟩:=R;obtain⟨y,x,cZ,co,bO,bi,xN,cQ,dU⟩:=Q;have w:(i:Int)<Z.length:=by omega
 have P:bg (cellAt Z (i:Int) 5).val=1\/bg (cellAt Z (i:Int) 5).val=2:=by
  have:=gD.side;rw[if_pos (by omega)] at this;simp only[aZ] at this;omega
 have O:aR .add .i64 (bg (cellAt Z (i:Int) 5).val) 1=bg (cellAt Z (i:Int) 5).val+1:=by simp only[aR];rw[fk (by omega) (by omega)]
 have N:aR .quo .i64 (bg (cellAt Z (i:Int) 5).val+1) 2=1:=by rcases P with h|h<;>rw[h]<;>decide
 rcases(show z=0/\j=0\/z=1/\j=1\/z=2/\j=2\/z=3/\j=3 by omega) with⟨rfl,rfl⟩|⟨rfl,rfl⟩|⟨rfl,rfl⟩|⟨rfl,rfl⟩;simp[cZ,bO,bi,co,O,N];refine⟨by omega, ?_⟩;refine bj (λU=>⟨by omega,X _ ?_⟩) (λU=>X _ ?_);have e:b 0=true:=by
  rw[W];simp only[cT,V];exact decide_eq_true U
 rw[cQ e];rfl;have e:b 0=false:=by
  rw[W];simp only[cT,V];exact decide_eq_false U
 rw[dU e];have e:b 1=false:=by rw[W];simp[cT,V]
 simp[cZ,bO,bi,co];exact⟨by omega,X _ (by rw[dU e])⟩;have e:b 2=false:=by rw[W];simp[cT,V]
 simp[cZ,bO,bi,co];exact⟨by omega,X _ (by rw[dU e])⟩;have e:b 3=false:=by rw[W];simp[cT,V]
 simp[cZ,bO,bi,co];exact⟨by omega,X _ (by rw[dU e])⟩
set_option maxHeartbeats 8000000 in
def br8:vG 8 (dg.at [0,1,0,0,1,0,1,0,0,0,0,0,0,0,0,1,1,1,1,1,1,1,1,1]):=by
 rw[show dg.at [0,1,0,0,1,0,1,0,0,0,0,0,0,0,0,1,1,1,1,1,1,1,1,1]=vH (dg.at [0,1,0,0,1,0,1,0,0,0,0,0,0,0,0,1,1,1,1,1,1,1,1,1,0,0]) from rfl];refine zV ?_;rw[show dg.at [0,1,0,0,1,0,1,0,0,0,0,0,0,0,0,1,1,1,1,1,1,1,1,1,0,0]=T.rows _ _ _ _ from rfl];unfold xO;intros;rename_i P O N M L J n i I H G V acc b R js j z _ _ _ Q X;obtain⟨F,h,W,E,D,bp,zU,mh,bv,iA,j8,gD,Z⟩:=R;obtain⟨C,B,cZ,co,bO,bi,xN,cQ,dU⟩:=Q;have A:(i:Int)<V.length:=by omega
 have U:bg (cellAt V (i:Int) 4).val=8:=Z;rcases(show z=0/\j=0\/z=1/\j=1\/z=2/\j=2\/z=3/\j=3 by omega) with⟨rfl,rfl⟩|⟨rfl,rfl⟩|⟨rfl,rfl⟩|⟨rfl,rfl⟩;have e:b 0=false:=by rw[W];simp[cT,Z]
 simp[cZ,bO,bi,co];exact⟨by omega,X _ (by rw[dU e])⟩;have e:b 1=false:=by rw[W];simp[cT,Z]
 simp[cZ,bO,bi,co,U];exact⟨by omega,X _ (by rw[dU e])⟩;have e:b 2=false:=by rw[W];simp[cT,Z]
 simp[cZ,bO,bi,co];exact⟨by omega,X _ (by rw[dU e])⟩;have e:b 3=false:=by rw[W];simp[cT,Z]
 simp[cZ,bO,bi,co,U];exact⟨by omega,X _ (by rw[dU e])⟩
end
end
section
section
variable{g:FuncId->List XV->aT->Prop}{R:aT->Prop}{O:aa}{L:List PC}
def asc{N:List LK}{P:List SV}(X:aT->Prop)(M:∀o,X o->R o)(n:Nat)(J:Nat->List XV->Prop)(I:vy n J (P.map (SV.xv O)))(h:∀(i:Nat) Z,i<=n->J i Z->U.wp g X (O.ext (.i i::Z)) [⟨V,vy n J,tV n,n-i⟩]):T.wp g R (.loop V N P U) O L:=by
 refine ajq X M (vy n J) (tV n) I λH Q=> ?_
 match H,Q with
 |.i j::Z,Q=>
  obtain⟨i,rfl,G,F⟩:=Q;have:=h i Z G F;simpa[tV] using this
def IB(Z:RV)(id:Int)(k:Nat):Bool:=match jA 1 [id,0,0] Z.rows with
 |some X=>gV (X[k]?.getD default).val
 |none=>false
def be(X:RV)(Z:List (List RV))(V:Nat->Int):Nat->Nat->Int
 |0,j=>V j
 |k+1,j=>oi 227 ([.i (be X Z V k 0),.i (be X Z V k 1),.i (be X Z V k 2),.i (be X Z V k 3),.i (be X Z V k 4),.i (be X Z V k 5),.i (be X Z V k 6),.i (be X Z V k 7),.i (be X Z V k 8),.i (be X Z V k 9),.i (be X Z V k 10),.i (be X Z V k 11),.i (be X Z V k 12)]++fu (aZ Z k)++[.i (mU X (aZ Z k 0) 1),.i (mU X (aZ Z k 0) 2),.i (mU X (aZ Z k 0) 3),.b (IB X (aZ Z k 0) 4)]) j
def iJ(a:Int)(c d e U:RV)(Q:Nat)(X:RV)(Z:List (List RV))(V:Nat->Int):Nat->List (List RV)
 |0=>[]
 |k+1=>iJ a c d e U Q X Z V k++if IB X (aZ Z k 0) 4 then[] else iZ (cT a c d e U Q X (aZ Z k) (EG [be X Z V k 0,be X Z V k 1,be X Z V k 2,be X Z V k 3,be X Z V k 4,be X Z V k 5,be X Z V k 6,be X Z V k 7,be X Z V k 8,be X Z V k 9,be X Z V k 10,be X Z V k 11,be X Z V k 12])) (aZ Z k 0) (ax6 4)
def asd{js V:List Nat}(h:js.Perm V):(iZ Z X js).Perm (iZ Z X V):=(h.filter Z).map _
def SS(a:Int)(c d e U:RV)(Q:Nat)(X:RV)(Z:List (List RV))(V:Nat->Int):∀k,(iJ a c d e U Q X Z V k).length<=4*k
 |0=>by simp[iJ]
 |k+1=>by
  have N:=SS a c d e U Q X Z V k;have P:=aj8 (cT a c d e U Q X (aZ Z k) (EG [be X Z V k 0,be X Z V k 1,be X Z V k 2,be X Z V k 3,be X Z V k 4,be X Z V k 5,be X Z V k 6,be X Z V k 7,be X Z V k 8,be X Z V k 9,be X Z V k 10,be X Z V k 11,be X Z V k 12])) (aZ Z k 0) (ax6 4);simp only[iJ,axX];split;simp;omega;simp only[aBr] at P;omega
def akb(a:Int)(c d e V:RV)(U:Nat)(Q:RV)(X:List (List RV))(P:Nat->Int):∀k,∀x∈iJ a c d e V U Q X P k,∃q<k,aP 1 x=aZ X q 0
 |0,x,Z=>by simp[iJ] at Z
 |k+1,x,Z=>by
  rw[iJ] at Z;rcases axS.1 Z with h|h;obtain⟨q,M,N⟩:=akb a c d e V U Q X P k x h;exact⟨q,by omega,N⟩;split at h;simp at h;obtain⟨m,-,rfl⟩:=aya.1 h;exact⟨k,by omega,rfl⟩
def ase(b:Nat->Bool)(id:Int){js:List Nat}(h:js.Nodup):vE [1,0] (iZ b id js):=by
 refine azS.2 ((h.sublist List.filter_sublist).imp λ{x y} Z=>⟨0,by simp, ?_⟩);simp[Mi,aP,iV,bg];omega
def akc:∀{l:List (List RV)},(∀x∈l,wC x x=true)->uI l l=true
 |[],_=>rfl
 |x::l,h=>by
  rw[uI,h x (by simp),akc λy Z=>h y (by simp[Z])];rfl
def akd(a:Int)(c d e X:RV)(V:Nat)(U:RV)(Q:List (List RV))(P:Nat->Int):∀k,∀x∈iJ a c d e X V U Q P k,wC x x=true
 |0,x,Z=>by simp[iJ] at Z
 |k+1,x,Z=>by
  rw[iJ] at Z;rcases axS.1 Z with h|h;exact akd a c d e X V U Q P k x h;split at h;simp at h;obtain⟨m,-,rfl⟩:=aya.1 h;simp[wC,uI,Mi,AK,iV]
def asf{Z:List (List RV)}(U:qC Z){k:Nat}(Q:V<k)(X:k<Z.length):aZ Z V 0≠aZ Z k 0:=by
 have:=azn.1 U V k (by omega) X Q;simpa[aZ,cellAt,aP,X,show V<Z.length by omega] using this
def ake(a:Int)(c d e X:RV)(V:Nat)(U:RV)(Z:List (List RV))(Q:Nat->Int)(N:qC Z):∀k≤Z.length,vE [1,0] (iJ a c d e X V U Z Q k)
 |0,_=>ayv
 |k+1,h=>by
  rw[iJ];refine ayc.2 ⟨ake a c d e X V U Z Q N k (by omega), ?_, ?_⟩;split;exact ayv;exact ase _ _ List.nodup_range;intro x M y P;obtain⟨q,J,I⟩:=akb a c d e X V U Z Q k x M;split at P;simp at P;obtain⟨m,-,rfl⟩:=aya.1 P;refine⟨1,by simp, ?_⟩;rw[I];exact asf N J (by omega)
end
section
variable(W D A B C a:Int)(f c d e p:RV)
set_option maxHeartbeats 16000000 in
def asg (R:aT->Prop) (L:List PC) (h:fF f c d e p) (Q:Nat) (ae E z y w v u t s q n m k j ag al an a0 a1 a2 a3 a4 a5 a6 a7 a8 a9 bb bf bk br:Int) (U re V:RV) (Z:List (List RV)) (X:Nat->Int) (g:[E,z,y,w,v,u,t,s,q,n,m,k,j]=[X 0,X 1,X 2,X 3,X 4,X 5,X 6,X 7,X 8,X 9,X 10,X 11,X 12])
  (J:Z.length<=4096) (mh:Q<U.rows.length) (bv:Sl U) (iA:U.rows.length=f.rows.length) (j8:f.rows.length<=64) (gD:∀i<Z.length,vz f.rows.length a (aZ Z i)) (hk:qC Z)
  (hR:R (.ret [.r (aF (aU (aI.lex [1,0] false).lt (iJ a c d e U Q V Z X Z.length))),.i 0])):
  T.wp TB.Ev R (dg.at [0,1,0,0,1,0,1,0,0,0]) ⟨[W,D,A,B,C,a,(Q:Int),ae,E,z,y,w,v,u,t,s,q,n,m,k,j,ag,al,an,a0,a1,a2,a3,a4,a5,a6,a7,a8,a9,bb,bf,bk,br],[],[f,c,d,e,p,U,re,V,aF Z],[]⟩ L:=by
 rw[show dg.at [0,1,0,0,1,0,1,0,0,0]=(T.loop _ _ _ (T.node _ (T.az _ (T.az _ (T.call _ _ _ _ _ _ (T.node _ _ (T.node _ (dg.at [0,1,0,0,1,0,1,0,0,0,0,0,0,0,0,1,0]) (T.node _ (dg.at [0,1,0,0,1,0,1,0,0,0,0,0,0,0,0,1,1,0]) (T.node _ (dg.at [0,1,0,0,1,0,1,0,0,0,0,0,0,0,0,1,1,1,0]) (T.node _ (dg.at [0,1,0,0,1,0,1,0,0,0,0,0,0,0,0,1,1,1,1,0]) (T.node _ (dg.at [0,1,0,0,1,0,1,0,0,0,0,0,0,0,0,1,1,1,1,1,0]) (T.node _ (dg.at [0,1,0,0,1,0,1,0,0,0,0,0,0,0,0,1,1,1,1,1,1,0]) (T.node _ (dg.at [0,1,0,0,1,0,1,0,0,0,0,0,0,0,0,1,1,1,1,1,1,1,0]) (T.node _ (dg.at [0,1,0,0,1,0,1,0,0,0,0,0,0,0,0,1,1,1,1,1,1,1,1,0]) (dg.at [0,1,0,0,1,0,1,0,0,0,0,0,0,0,0,1,1,1,1,1,1,1,1,1]))))))))))))) _)) from rfl];simp only[ayH,and_true] at g;obtain⟨rfl,rfl,rfl,rfl,rfl,rfl,rfl,rfl,rfl,rfl,rfl,rfl,rfl⟩:=g;have bs:∀acc:List (List RV),acc.Perm (iJ a c d e U Q V Z X Z.length)->dB (.lex [1,0] false) false acc=some (aU (aI.lex [1,0] false).lt (iJ a c d e U Q V Z X Z.length)):=λacc G=>ajV (by have:=SS a c d e U Q V Z X Z.length;omega) (ake a c d e U Q V Z X hk _ (axQ _)) G
 have I:sL (.ret [.r (aF (aU (aI.lex [1,0] false).lt (iJ a c d e U Q V Z X Z.length))),.i 0]) (.ret [.r (aF (aU (aI.lex [1,0] false).lt (iJ a c d e U Q V Z X Z.length))),.i 0])=true:=by
  have:=akc (l:=aU (aI.lex [1,0] false).lt (iJ a c d e U Q V Z X Z.length)) λx hx=>akd a c d e U Q V Z X Z.length x ((zR _).mem_iff.1 hx)
  simp[sL,De,Dd,aF,AK,this]
 refine asc (· =.ret [.r (aF (aU (aI.lex [1,0] false).lt (iJ a c d e U Q V Z X Z.length))),.i 0]) (λo h=>h▸hR) Z.length (λi bt=>∃acc,bt=[.i (be V Z X i 0),.i (be V Z X i 1),.i (be V Z X i 2),.i (be V Z X i 3),.i (be V Z X i 4),.i (be V Z X i 5),.i (be V Z X i 6),.i (be V Z X i 7),.i (be V Z X i 8),.i (be V Z X i 9),.i (be V Z X i 10),.i (be V Z X i 11),.i (be V Z X i 12),.r (aF acc)]/\acc.Perm (iJ a c d e U Q V Z X i)) ⟨0,rfl,ayK _,[],rfl,aAv _⟩ ?_;rintro i _ N ⟨acc,rfl,G⟩;have bx:=G.length_eq;have xN:=SS a c d e U Q V Z X i;simp;refine bj (λN=> ?_) (λb1=> ?_);have ac:=j7 _ (SB (be V Z X i 0) (be V Z X i 1) (be V Z X i 2) (be V Z X i 3) (be V Z X i 4) (be V Z X i 5) (be V Z X i 6) (be V Z X i 7) (be V Z X i 8) (be V Z X i 9) (be V Z X i 10) (be V Z X i 11) (be V Z X i 12) (aZ Z i) (mU V (aZ Z i 0) 1) (mU V (aZ Z i 0) 2) (mU V (aZ Z i 0) 3) (IB V (aZ Z i 0) 4));simp only[fu,axY,ax2,Ir,Sz,qB] at ac;change _/\eu TB.Ev _ 227 [.i (be V Z X i 0),.i (be V Z X i 1),.i (be V Z X i 2),.i (be V Z X i 3),.i (be V Z X i 4),.i (be V Z X i 5),.i (be V Z X i 6),.i (be V Z X i 7),.i (be V Z X i 8),.i (be V Z X i 9),.i (be V Z X i 10),.i (be V Z X i 11),.i (be V Z X i 12),.i (aZ Z i 0),.i (aZ Z i 1),.i (aZ Z i 2),.i (aZ Z i 3),.i (aZ Z i 4),.i (aZ Z i 5),.i (aZ Z i 6),.i (aZ Z i 7),.i (aZ Z i 8),.i (aZ Z i 9),.i (aZ Z i 10),.i (aZ Z i 11),.i (aZ Z i 12),.i (aZ Z i 13),.i (mU V (aZ Z i 0) 1),.i (mU V (aZ Z i 0) 2),.i (mU V (aZ Z i 0) 3),.b (IB V (aZ Z i 0) 4)] _ _ _ _;rw[aS ac];simp[N,bG N (show Z.length<=140737488355328 by omega)];have M:=gD i N;refine bj (λF=> ?_) (λF=> ?_);refine⟨acc,⟨rfl,rfl,rfl,rfl,rfl,rfl,rfl,rfl,rfl,rfl,rfl,rfl,rfl,rfl⟩, ?_⟩;rw[iJ,if_pos (show IB V (aZ Z i 0) 4=true from F),azf];exact G;have bX:IB V (aZ Z i 0) 4=false:=Bool.eq_false_iff.2 F;have H:∀js,js.Perm (ax6 4)->∃af,[.i (be V Z X (i+1) 0),.i (be V Z X (i+1) 1),.i (be V Z X (i+1) 2),.i (be V Z X (i+1) 3),.i (be V Z X (i+1) 4),.i (be V Z X (i+1) 5),.i (be V Z X (i+1) 6),.i (be V Z X (i+1) 7),.i (be V Z X (i+1) 8),.i (be V Z X (i+1) 9),.i (be V Z X (i+1) 10),.i (be V Z X (i+1) 11),.i (be V Z X (i+1) 12),XV.r (aF (acc++iZ (cT a c d e U Q V (aZ Z i) (EG [be V Z X i 0,be V Z X i 1,be V Z X i 2,be V Z X i 3,be V Z X i 4,be V Z X i 5,be V Z X i 6,be V Z X i 7,be V Z X i 8,be V Z X i 9,be V Z X i 10,be V Z X i 11,be V Z X i 12])) (aZ Z i 0) js))]=[.i (be V Z X (i+1) 0),.i (be V Z X (i+1) 1),.i (be V Z X (i+1) 2),.i (be V Z X (i+1) 3),.i (be V Z X (i+1) 4),.i (be V Z X (i+1) 5),.i (be V Z X (i+1) 6),.i (be V Z X (i+1) 7),.i (be V Z X (i+1) 8),.i (be V Z X (i+1) 9),.i (be V Z X (i+1) 10),.i (be V Z X (i+1) 11),.i (be V Z X (i+1) 12),.r (aF af)]/\af.Perm (iJ a c d e U Q V Z X (i+1)):=λjs hj=>⟨_,rfl,by
  rw[iJ,bX];exact G.append (asd hj)⟩
 have h4:=M.kind;refine bj (λP=>br1 ⟨I,h,rfl,N,J,rfl,by omega,mh,bv,iA,j8,M,P⟩ H) (λb2=> ?_);refine bj (λP=>br2 ⟨I,h,rfl,N,J,rfl,by omega,mh,bv,iA,j8,M,P⟩ H) (λb3=> ?_);refine bj (λP=>br3 ⟨I,h,rfl,N,J,rfl,by omega,mh,bv,iA,j8,M,P⟩ H) (λb4=> ?_);refine bj (λP=>br4 ⟨I,h,rfl,N,J,rfl,by omega,mh,bv,iA,j8,M,P⟩ H) (λb5=> ?_);refine bj (λP=>br5 ⟨I,h,rfl,N,J,rfl,by omega,mh,bv,iA,j8,M,P⟩ H) (λb6=> ?_);refine bj (λP=>br6 ⟨I,h,rfl,N,J,rfl,by omega,mh,bv,iA,j8,M,P⟩ H) (λb7=> ?_);refine bj (λP=>br7 ⟨I,h,rfl,N,J,rfl,by omega,mh,bv,iA,j8,M,P⟩ H) (λb8=> ?_);refine bj (λP=>br9 ⟨I,h,rfl,N,J,rfl,by omega,mh,bv,iA,j8,M,P⟩ H) (λca=> ?_);exact br8 ⟨I,h,rfl,N,J,rfl,by omega,mh,bv,iA,j8,M,(by simp only[aZ] at h4⊢;omega)⟩ H;have b0:i=Z.length:=by omega
 subst b0;rw[nM];refine⟨_,bs acc G, ?_⟩;simp[aF,bx,(zR _).length_eq]
end
end
section
section
variable(W D A B C b:Int)(a c g l d:RV)
def ash(h:fF a c g l d)(aN ae:Int)(V U R Q P O N M L J I H G:Int)(r:RV)(E:Sl r):∃o,TB.Ev 89 (wk W D A B C b a c g l d++[.i aN,.i ae,.i V,.i U,.i R,.i Q,.i P,.i O,.i N,.i M,.i L,.i J,.i I,.i H,.i G,.r r]) o/\∃Z,o=.ret Z/\dh (kI 14) Z=true/\(xi Z 13=0->jo W D A B C b a c g l d aN ae=0):=by
 by_cases F:jo W D A B C b a c g l d aN ae=0;obtain⟨o,X,Z,z,y⟩:=t89 W D A B C b a c g l d mR SB h aN ae V U R Q P O N M L J I H G r E;exact⟨o,X,Z,z,y,λ_=>F⟩;refine dw rfl rfl (.inl rfl) ?_;have X:=Ey W D A B C b a c g l d mR h aN ae;simp only[wk,axY,ax2] at X;simp[Sk,wk,aS X,F,xi]
def IC(r:RV):Nat->List (List RV)
 |0=>[]
 |k+1=>eK 1 [.mk (.int .i64 (ci r k 0)) [],.mk (.int .i64 (ci r k 0)) [],.mk (.int .i64 (ci r k 1)) [],.mk (.int .i64 (ci r k 2)) [],.mk (.bool (cb r k 3)) []] (IC r k)
def akf{ae:Int}(U:jR W D A B C b a c g l d=0->oJ W D b a c d)(Z:V<(cm W D A B C b a c g l d X ae).length):vz a.rows.length b (aZ (cm W D A B C b a c g l d X ae) V):=by
 obtain⟨k,_,R,_,_,Q⟩:=aaM W D A B C b a c g l d U (ayT Z);have e:∀j<14,aZ (cm W D A B C b a c g l d X ae) V j=ci d k j:=λj P=>by
  rw[<-Ex (ci d k) j P,<-R];simp[aZ,cellAt,aP,Z]
 have:=Q;constructor;rw[e 4 (by omega)];exact this.kind;rw[e 1 (by omega)];exact this.aN;rw[e 2 (by omega)];exact this.ae;rw[e 3 (by omega)];exact this.mark;rw[e 4 (by omega),e 5 (by omega)];exact this.side;rw[e 4 (by omega),e 6 (by omega)];exact this.dir;rw[e 4 (by omega),e 7 (by omega)];exact this.aqP;rw[e 4 (by omega),e 8 (by omega)];exact this.size;rw[e 4 (by omega),e 9 (by omega)];exact this.wth;rw[e 10 (by omega),e 11 (by omega)];exact this.from_;rw[e 12 (by omega),e 13 (by omega)];exact this.to
set_option maxHeartbeats 16000000 in
def aaX (h:fF a c g l d) (aN ae:Int) (V U R Q P O N M L J I H G:Int) (Z r:RV) (bv:Sl Z) (y:Sl r):∃o,TB.Ev 104 (wk W D A B C b a c g l d++[.i aN,.i ae,.i V,.i U,.i R,.i Q,.i P,.i O,.i N,.i M,.i L,.i J,.i I,.i H,.i G,.r Z,.r r]) o/\∃v e,o=.ret [.r (aF v),.i e]/\v.length<=100000/\(¬e=0->v=[])/\(e=0->v=aU (aI.lex [1,0] false).lt (iJ b c g l Z aN.toNat (aF (IC r r.rows.length)) (cm W D A B C b a c g l d aN ae) (EG [V,U,R,Q,P,O,N,M,L,J,I,H,G]) (cm W D A B C b a c g l d aN ae).length))/\((oi 89 (wk W D A B C b a c g l d++[.i aN,.i ae,.i V,.i U,.i R,.i Q,.i P,.i O,.i N,.i M,.i L,.i J,.i I,.i H,.i G,.r r]) 13=0/\Z.rows.length=a.rows.length/\∀k<Z.rows.length,tY Z k=0)->e=0):=by
 generalize x:(oi 89 (wk W D A B C b a c g l d++[.i aN,.i ae,.i V,.i U,.i R,.i Q,.i P,.i O,.i N,.i M,.i L,.i J,.i I,.i H,.i G,.r r]) 13=0/\Z.rows.length=a.rows.length/\∀k<Z.rows.length,tY Z k=0)=K;refine dw rfl rfl (.inl rfl) ?_;obtain⟨o,E,ys,rfl,n,s⟩:=ash W D A B C b a c g l d h aN ae V U R Q P O N M L J I H G r y;obtain⟨f,rfl⟩:=It n;rw[show ax6 14=[0,1,2,3,4,5,6,7,8,9,10,11,12,13] from rfl] at E s;have m:K->f 13=0:=λk=>by
  rw[<-x] at k;have:=k.1;rw[oi,mQ E] at this;exact this
 simp only[wk,axY,ax2,axV,ay2] at E;rw[show dg=(T.call _ _ _ _ _ _ (T.node _ _ (T.node _ (T.loop _ _ _ (T.node _ (T.az _ (T.az _ (T.call _ _ _ _ _ _ (T.node _ (T.node _ _ (dg.at [0,1,0,0,0,0,0,0,0,1])) _)))) (dg.at [0,1,0,0,1]))) _))) from rfl];simp[wk,aS E];refine bj (λj=> ?_) (λhb=>⟨[],_,⟨rfl,rfl⟩,by simp,λ_=>rfl,λh=>absurd h hb,m⟩);have w:=s j;have z:oJ W D b a c d:=(rZ W D A B C b a c g l d mR h).2 (by
  have:=w;unfold jo at this;by_cases F:jR W D A B C b a c g l d=0;exact F;rw[if_neg F] at this;exact this)
 have a2:0<=aN/\aN<a.rows.length:=by
  have F:jR W D A B C b a c g l d=0:=by
   have:=w;unfold jo at this;by_cases F:jR W D A B C b a c g l d=0;exact F;rw[if_neg F] at this;exact this
  have:=w;unfold jo at this;rw[if_pos F] at this;by_cases X:(gC aN 0 (a.rows.length-1)&&gC ae 0 (b-1))=true;simp[gC] at X;omega;rw[if_neg X] at this;omega
 have ac:=SS b c g l Z aN.toNat (aF (IC r r.rows.length)) (cm W D A B C b a c g l d aN ae) (EG [V,U,R,Q,P,O,N,M,L,J,I,H,G]) (cm W D A B C b a c g l d aN ae).length;have bp:=L9 W D A B C b a c g l d (aN:=aN) (ae:=ae) (λ_=>z);have af:=Sy W D A B C b a c g l d (aN:=aN) (ae:=ae) (λ_=>z);have ag:∀i<(cm W D A B C b a c g l d aN ae).length,vz a.rows.length b (aZ (cm W D A B C b a c g l d aN ae) i):=λi X=>akf W D A B C b a c g l d (λ_=>z) X
 have p:=Ey W D A B C b a c g l d mR h aN ae;simp only[wk,axY,ax2] at p;have al:=bv.sm;refine bj (λiA=> ?_) (λan=>⟨[],_,⟨rfl,rfl⟩,by simp,λ_=>rfl,λh=>absurd h (by omega),λk=>absurd (by rw[<-x] at k;rw[bv.len,h.rl.len,k.2.1]) an⟩);rw[bv.len,h.rl.len] at iA;refine bM Z.rows.length (λi u=>u=[]) ⟨0,rfl,ayK _,rfl⟩ ?_;rintro i _ X rfl;simp[bv.len];refine bj (λX=> ?_) (λa3=> ?_);simp[bG X al,X];refine λa0=>⟨[],280,⟨rfl,rfl⟩,by simp,by simp,by simp,λk=>absurd (by rw[<-x] at k;exact k.2.2 i X) a0⟩
 rw[show dg.at [0,1,0,0,1]=(T.loop _ _ _ (T.node _ _ (T.call _ _ _ _ _ _ (T.az _ (T.az _ (dg.at [0,1,0,0,1,0,1,0,0,0])))))) from rfl];refine bM r.rows.length (λi u=>u=[.r (aF (IC r i))]) ⟨0,rfl,ayK _,rfl⟩ ?_;rintro q _ t rfl;simp[y.len];refine bj (λt=> ?_) (λa4=> ?_);simp[bG t y.sm,t,IC,ci,cb];have a1:q=r.rows.length:=by omega
 subst a1;obtain⟨rn,rfl⟩:∃k:Nat,aN=k:=⟨aN.toNat,by omega⟩;rw[aS p];simp[bv.len];refine⟨by omega, ?_⟩;refine asg W D A B C b a c g l d _ _ h rn ae _ _ _ _ _ _ _ _ _ _ _ _ _ _ _ _ _ _ _ _ _ _ _ _ _ _ _ _ _ _ Z r (aF (IC r r.rows.length)) _ (EG [V,U,R,Q,P,O,N,M,L,J,I,H,G]) rfl bp (by omega) bv (by omega) z.nr.2 ag af ?_;refine⟨_,0,rfl, ?_,by simp,by simp,λ_=>rfl⟩;rw[(zR _).length_eq];simp only[ayE] at ac;omega
end
end
end
end Go.Proofs.YtieaiocljdpebaaGreatDoor.Y
