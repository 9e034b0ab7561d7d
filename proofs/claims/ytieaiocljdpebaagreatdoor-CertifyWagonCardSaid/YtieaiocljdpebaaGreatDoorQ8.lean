/- Part 8 of the proof; the last part says what is shown. -/
import Derived.Test.YtieaiocljdpebaaGreatDoorQ7
set_option linter.defProp false
set_option linter.unusedVariables false
set_option linter.unusedSimpArgs false
set_option linter.unnecessarySimpa false
open List renaming length_append→awQ,mem_append→awR,map_cons→awT,cons_append→awV,nil_append→awX,range→aw3,mem_map→aw7,pairwise_append→aw8,length_map→axB,mem_range→axR,map_nil→ax0,getElem_mem→ax6,append_nil→aya,pairwise_iff_getElem→ayh,map_append→ayq,map→ayy,pairwise_map→ayQ,ne_nil_of_mem→ay5,filter_append→aAk,length_range→aAn
open Nat renaming le_refl→awN,zero_le→axN
open List.Pairwise renaming nil→axt
open Int renaming toNat_natCast→axy
open List.cons renaming injEq→axH
open List.Perm renaming refl→azu
namespace Go.Proofs.YtieaiocljdpebaaGreatDoor.Y
open Go.RowKit
noncomputable section
section
section
variable{R:aV->Prop}{ks:List LK}{t:T}{ρ:aa}{L:List PC}
def aqR(a b:Int)(h:b≠0):∃o,TB.Ev 371 [.i a,.i b] o/\∃ys,o=.ret ys/\dg (kI 1) ys=true:=by
 refine eA rfl rfl (.inl rfl) ?_;simp[Zd,h]
def aqS(a b:Int)(h:b≠0):eP TB.Ev R 371 [.i a,.i b] ks t ρ L=eX TB.Ev R (.ret [.i (oi 371 [.i a,.i b] 0)]) ks t ρ L:=bo (jT _ (aqR a b h))
def aqT{a b:Int}(h:jL a b=true):b≠0:=by
 simp[jL] at h;omega
def aqU(a b c:Int):∃o,TB.Ev 354 [.i a,.i b,.i c] o/\∃ys,o=.ret ys/\dg (kI 3) ys=true:=by
 refine eA rfl rfl (.inl rfl) ?_;by_cases h:jL a b=true;simp[Q9,h,aqS _ _ (aqT h)];simp[Q9,h]
@[simp] def awC (a b c:Int):eP TB.Ev R 354 [.i a,.i b,.i c] ks t ρ L=eX TB.Ev R (.ret [.i (oi 354 [.i a,.i b,.i c] 0),.i (oi 354 [.i a,.i b,.i c] 1),.i (oi 354 [.i a,.i b,.i c] 2)]) ks t ρ L:=bo (jT _ (aqU a b c))
def aqV(X:Int)(Z ps sp:RV)(W:Sl Z)(V:Sl ps)(U:Sl sp)(ae:Int):∃o,TB.Ev 353 [.i X,.r Z,.r ps,.r sp,.i ae] o/\∃ys,o=.ret ys/\dg (kI 2) ys=true:=by
 refine eA rfl rfl (.inl rfl) ?_;obtain⟨Q,P⟩:=pZ X Z ps sp W V U;simp[Zr,bo Q];intro O N;rw[aiV X ae Z ps sp (P O).1 (by first|omega|(simp[gt] at N;omega))];simp
def aqW(X:Int)(Z ps sp:RV)(W:Sl Z)(V:Sl ps)(U:Sl sp)(ae:Int):eP TB.Ev R 353 [.i X,.r Z,.r ps,.r sp,.i ae] ks t ρ L=eX TB.Ev R (.ret [.i (oi 353 [.i X,.r Z,.r ps,.r sp,.i ae] 0),.i (oi 353 [.i X,.r Z,.r ps,.r sp,.i ae] 1)]) ks t ρ L:=bo (jT _ (aqV X Z ps sp W V U ae))
def aqX(X:Int)(Z ps sp:RV)(W:Sl Z)(V:Sl ps)(U:Sl sp)(ae a b:Int):∃o,TB.Ev 310 [.i X,.r Z,.r ps,.r sp,.i ae,.i a,.i b] o/\∃ys,o=.ret ys/\dg (kI 3) ys=true:=by
 refine eA rfl rfl (.inl rfl) ?_;simp[Zs,aqW X Z ps sp W V U ae]
def aqY(X:Int)(Z ps sp:RV)(W:Sl Z)(V:Sl ps)(U:Sl sp)(ae a b:Int):eP TB.Ev R 310 [.i X,.r Z,.r ps,.r sp,.i ae,.i a,.i b] ks t ρ L=eX TB.Ev R (.ret [.i (oi 310 [.i X,.r Z,.r ps,.r sp,.i ae,.i a,.i b] 0),.i (oi 310 [.i X,.r Z,.r ps,.r sp,.i ae,.i a,.i b] 1),.i (oi 310 [.i X,.r Z,.r ps,.r sp,.i ae,.i a,.i b] 2)]) ks t ρ L:=bo (jT _ (aqX X Z ps sp W V U ae a b))
def aqZ(X:Int)(Z ps sp:RV)(W:Sl Z)(V:Sl ps)(U:Sl sp)(Q P O N M J I H G F E D C B:Int):∃o,TB.Ev 249 [.i X,.r Z,.r ps,.r sp,.i Q,.i P,.i O,.i N,.i M,.i J,.i I,.i H,.i G,.i F,.i E,.i D,.i C,.i B] o/\∃ys,o=.ret ys/\dg (kI 1) ys=true:=by
 refine eA rfl rfl (.inl rfl) ?_;simp[Zt,aqY X Z ps sp W V U]
def tC(X:Int)(Z ps sp:RV)(D:Sl Z)(C:Sl ps)(B:Sl sp)(W V U Q P O N M J I H G F E:Int):eP TB.Ev R 249 [.i X,.r Z,.r ps,.r sp,.i W,.i V,.i U,.i Q,.i P,.i O,.i N,.i M,.i J,.i I,.i H,.i G,.i F,.i E] ks t ρ L=eX TB.Ev R (.ret [.i (oi 249 [.i X,.r Z,.r ps,.r sp,.i W,.i V,.i U,.i Q,.i P,.i O,.i N,.i M,.i J,.i I,.i H,.i G,.i F,.i E] 0)]) ks t ρ L:=bo (jT _ (aqZ X Z ps sp D C B W V U Q P O N M J I H G F E))
end
end
section
section
def LJ(id:Int)(m:Nat):List RV:=[iV ((m:Int)+1),iV id]
def jU(b:Nat->Bool)(id:Int)(js:List Nat):List (List RV):=(js.filter b).map (LJ id)
def aq0{b:Nat->Bool}{id:Int}{js:List Nat}{m:Nat}(h:b m=true):jU b id (js++[m])=jU b id js++[LJ id m]:=by simp[jU,aAk,h]
def aq1{b:Nat->Bool}{id:Int}{js:List Nat}{m:Nat}(h:b m=false):jU b id (js++[m])=jU b id js:=by simp[jU,aAk,h]
def ajx(b:Nat->Bool)(id:Int)(js:List Nat):(jU b id js).length<=js.length:=by simp only[jU,axB];exact List.length_filter_le _ _
def mH(Z:RV)(id:Int)(k:Nat):Int:=match jo 1 [id,0,0] Z.rows with
 |some row=>ba (row[k]?.getD default).val
 |none=>0
def RL(a0 Z a2 a3 a4 q:Int):Int:=if q=0 then a0 else if q=1 then Z else if q=2 then a2 else if q=3 then a3 else if q=4 then a4 else 0
def aq2(v w:Nat->Int):Int:=max 0 (max (bh .sub .i64 (v 0) (w 0)) (max (bh .sub .i64 0 (bh .sub .i64 (v 0) (w 0))) (max (bh .sub .i64 (v 1) (w 1)) (max (bh .sub .i64 0 (bh .sub .i64 (v 1) (w 1))) (max (bh .sub .i64 (v 2) (w 2)) (bh .sub .i64 0 (bh .sub .i64 (v 2) (w 2))))))))
def spB(W:Int)(V ps sp Z:RV)(X:Nat)(x:Nat->Int)(U R q d l:Int)(k:Nat):Bool:=decide (bh .mul .i64 (bh .mul .i64 841 (ci Z X (k+9))) (oi 249 ([.i W,.r V,.r ps,.r sp]++fJ x) 0)<bh .mul .i64 (bh .mul .i64 1000 (ci Z X (k+6))) (aq2 (oi 248 [.i U,.i R,.i q]) (oi 248 [.i d,.i l,.i q])))
def dt(V:Int)(U ps sp Z:RV)(X:Nat)(W:RV)(x s:Nat->Int):Nat->Bool
 |0=>if x 4=3 then decide (ci Z X 12<mH W (x 0) 3) else if x 4=4\/x 4=9 then decide (ci Z X 13<mH W (x 0) 3) else if x 4=5 then decide (ci Z X 14<mH W (x 0) 3) else false
 |1=>if x 4=3 then spB V U ps sp Z X x (mH W (x 0) 2) (mH W (x 0) 3) (x 5-1) (RL (s 3) (s 5) (s 7) (s 9) (s 11) (x 5-1)) (RL (s 4) (s 6) (s 8) (s 10) (s 12) (x 5-1)) 0 else if x 4=4 then spB V U ps sp Z X x (mH W (x 0) 2) (mH W (x 0) 3) (x 5+1) (RL (s 3) (s 5) (s 7) (s 9) (s 11) (x 5+1)) (RL (s 4) (s 6) (s 8) (s 10) (s 12) (x 5+1)) 1 else if x 4=5 then spB V U ps sp Z X x (mH W (x 0) 2) (mH W (x 0) 3) 4 (s 11) (s 12) 2 else false
 |2=>if x 4=1 then decide (ci Z X 4<x 8) else if x 4=2 then decide (ci Z X 5<x 8) else false
 |3=>if x 4=7 then decide (ci Z X 2<ci Z ((x 9).toNat-1) 1) else false
 |_=>false
def D9(l:List Int)(k:Nat):Int:=l.getD k 0
end
section
structure ajy(k bars:Int)(rl tp ps sp sg:RV)(o0:aV)(n i rn:Nat)(bd mp:RV)(rs acc:List (List RV))(b:Nat->Bool)(s:List Int):Prop where
 ho:se o0 o0=true
 h:iL rl tp ps sp sg
 hb:b=dt bars tp ps sp bd rn mp (bm rs i) (D9 s)
 hi:i<n
 hn:n<=4096
 aM:rs.length=n
 zx:acc.length<=100000
 cZ:rn<bd.rows.length
 aO:Sl bd
 gY:bd.rows.length=rl.rows.length
 jV:rl.rows.length<=64
 fT:vd rl.rows.length bars (bm rs i)
 hk:bm rs i 4=k
structure aq3(js:List Nat)(j:Nat)(z:Int)(b:Nat->Bool)(id:Int):Prop where
 z4:z=0/\j=0\/z=1/\j=1\/z=2/\j=2\/z=3/\j=3
 hlen:js.length<4
 cT:eD 1 [RV.mk (Value.int IntKind.i64 z) []] (iN js)=iN (js++[j])
 cj:(iN (js++[j])).length=js.length+1
 bJ:bh BinOp.sub IntKind.i64 ((js.length:Int)+1) 1=(js.length:Int)
 bg:ba (cellAt (iN (js++[j])) (js.length:Int) 0).val=z
 xk:(jU b id js).length<=js.length
 cL:b j=true->jU b id (js++[j])=jU b id js++[LJ id j]
 dV:b j=false->jU b id (js++[j])=jU b id js
def ajz(xs:List XV):Nat:=match xs.reverse with
 |.r v::_=>4-v.rows.length
 |_=>0
def vj(k:Int)(t:T):Prop:=∀{W D A B C ae c a af ag an a0 a1 a2 a3 a4 a5 a6 a7 a8 a9 bb bf bk br bs bt bx b0 b1 b2 b3 b4 b5 b6 b7 s0 Z X V U R Q P O N M I H b8:Int}{J:Nat->List XV->Prop}{L:List PC}{re:RV}{G:aV}{F E z y x w v u s q p o m l:Int}{j h ps sp g:RV}{n i f:Nat}{e d:RV}{rs acc:List (List RV)}{b:Nat->Bool},ajy k l j h ps sp g G n i f e d rs acc b [s0,Z,X,V,U,R,Q,P,O,N,M,I,H]->(∀js,js.Perm (aw3 4)->J (i+1) [.i F,.i E,.i z,.i y,.i x,.i w,.i v,.i u,.i s,.i q,.i p,.i o,.i m,.r (aH (acc++jU b (bm rs i 0) js))])->T.wp TB.Ev (· =G) t (⟨[W,D,A,B,C,l,(f:Int),ae,c,a,af,ag,an,a0,a1,a2,a3,a4,a5,a6,a7,a8,a9,bb,bf,bk,br,bs,bt,bx,b0,b1,b2,b3,b4,b5,b6,b7,(i:Int),s0,Z,X,V,U,R,Q,P,O,N,M,I,H,F,E,z,y,x,w,v,u,s,q,p,o,m,b8],[],[j,h,ps,sp,g,e,re,d,aH rs,aH acc],[]⟩:aa) (⟨2,vc n J,tw n,n-i⟩::L)
def xl(k:Int)(t:T):Prop:=∀{W D A B C ae x8 x9 af ag an a0 a1 a2 a3 a4 a5 a6 a7 a8 a9 bb bf bk br bs bt bx b0 b1 b2 b3 b4 b5 b6 b7 s0 y x w v u s q p o l h g b8:Int}{J:Nat->List XV->Prop}{L:List PC}{re:RV}{f:aV}{Z X V U R Q P O N H G F E e:Int}{d c ps sp a:RV}{n i rn:Nat}{bd mp:RV}{rs acc:List (List RV)}{b:Nat->Bool},ajy k e d c ps sp a f n i rn bd mp rs acc b [s0,y,x,w,v,u,s,q,p,o,l,h,g]->∀{js:List Nat}{j:Nat}{z:Int}{I:List XV->Prop}{μ:List XV->Nat}{m:Nat},aq3 js j z b (bm rs i 0)->(∀M,M=[.i Z,.i X,.i V,.i U,.i R,.i Q,.i P,.i O,.i N,.i H,.i G,.i F,.i E,.r (aH (acc++jU b (bm rs i 0) (js++[j]))),.r (aH (iN (js++[j])))]->ZT (some ⟨3,I,μ,m⟩) M)->T.wp TB.Ev (· =f) t (((⟨[W,D,A,B,C,e,(rn:Int),ae,x8,x9,af,ag,an,a0,a1,a2,a3,a4,a5,a6,a7,a8,a9,bb,bf,bk,br,bs,bt,bx,b0,b1,b2,b3,b4,b5,b6,b7,(i:Int),s0,y,x,w,v,u,s,q,p,o,l,h,g,Z,X,V,U,R,Q,P,O,N,H,G,F,E,b8],[],[d,c,ps,sp,a,bd,re,mp,aH rs,aH acc],[]⟩:aa).ext [.i Z,.i X,.i V,.i U,.i R,.i Q,.i P,.i O,.i N,.i H,.i G,.i F,.i E,.r (aH (acc++jU b (bm rs i 0) js)),.r (aH (iN js))]).add (.i z)) (⟨3,I,μ,m⟩::⟨2,vc n J,tw n,n-i⟩::L)
def vk(t:T):T:=match cY.at [0,1,0,0,1,0,1,0,0,0,0,0,0,0,0,1,0] with
 |.loop a b c (.pick d e f _ g)=>.loop a b c (.pick d e f t g)
 |x=>x
set_option maxHeartbeats 8000000 in
def zy {k:Int} {t:T} (Q:xl k t):vj k (vk t):=by
 unfold vj;intros;rename_i P O N M L J I H G F E D C x w v ps sp u n i s q p rs acc b V B;rw[show vk t=T.loop _ _ _ (T.pick _ _ _ t _) from rfl];refine Bz (λxs=>∃js,xs=[.i P,.i O,.i N,.i M,.i L,.i J,.i I,.i H,.i G,.i F,.i E,.i D,.i C,.r (aH (acc++jU b (bm rs i 0) js)),.r (aH (iN js))]/\Pk 4 js) ajz ⟨[],by simp[jU,iN],Pk.nil _⟩ ?_;rintro _ ⟨js,rfl,W⟩;have o:=W.len;rw[aiP];refine⟨single V.ho, ?_, ?_, ?_⟩;by_cases A:4<=js.length;exact ay5 (Vj (by simp[eB];omega));obtain⟨j,Z,X⟩:=Pk.more A;refine ay5 (Vi (j:=(j:Int)) (by omega) (by simp;omega) ?_);simp[RJ,X];intro z m Z X;obtain⟨j,U⟩:∃k:Nat,(k:Int)=z:=⟨z.toNat,by omega⟩;have Z:j<4:=by simp at Z;omega
 have X:j∉js:=by rw[<-U] at X;simp[RJ] at X;exact X
 have R:=LI (b:=aw3 4) (W.add X Z).nd λj R=>axR.2 ((W.add X Z).lt j R)
 simp at R;refine Q (js:=js) (j:=j) (z:=z) V ⟨by omega,by omega,by rw[<-U];exact ajs X,by simp[iN],by simp only[bh];rw[iK (by omega) (by omega)];omega, ?_,ajx _ _ _,aq0,aq1⟩ ?_;rw[<-U,iN,ayq];rw[show ayy (λ(j:Nat)=>[iV (j:Int)]) [j]=[[iV (j:Int)]] from rfl,H5 (by simp)];rfl;rintro _ rfl;rw[Bw];exact⟨⟨_,rfl,W.add X Z⟩,by simp[ajz,aH,iN];omega⟩;intro Z;have Z:4<=js.length:=by simp[eB] at Z;omega
 have y:=W.perm Z;simp[bF V.hi (show n<=140737488355328 by have:=V.hn;omega)];exact B js y
set_option maxHeartbeats 8000000 in
def br1:vj 1 (cY.at [0,1,0,0,1,0,1,0,0,0,0,0,0,0,0,1,0]):=by
 rw[show cY.at [0,1,0,0,1,0,1,0,0,0,0,0,0,0,0,1,0]=vk (cY.at [0,1,0,0,1,0,1,0,0,0,0,0,0,0,0,1,0,0,0]) from rfl];refine zy ?_;rw[show cY.at [0,1,0,0,1,0,1,0,0,0,0,0,0,0,0,1,0,0,0]=T.rows _ _ _ _ from rfl];unfold xl;intros;rename_i P O N ps sp M n i L J I rs acc b R js j z _ _ _ Q Z;obtain⟨H,h,X,hi,G,aM,zx,cZ,aO,gY,jV,fT,W⟩:=R;obtain⟨F,E,cT,cj,bJ,bg,xk,cL,dV⟩:=Q;have V:(i:Int)<rs.length:=by omega
 rcases(show z=0/\j=0\/z=1/\j=1\/z=2/\j=2\/z=3/\j=3 by omega) with⟨rfl,rfl⟩|⟨rfl,rfl⟩|⟨rfl,rfl⟩|⟨rfl,rfl⟩;have e:b 0=false:=by rw[X];simp[dt,W]
 simp[eB,cT,bJ,bg,cj,V,aO.len,cZ,aM];exact⟨by omega,Z _ (by rw[dV e])⟩;have e:b 1=false:=by rw[X];simp[dt,W]
 simp[eB,cT,bJ,bg,cj,V,aO.len,cZ,aM];exact⟨by omega,Z _ (by rw[dV e])⟩;simp[eB,cT,bJ,bg,cj,V,aO.len,cZ,aM];refine⟨by omega, ?_⟩;refine bB (λU=>⟨by omega,Z _ ?_⟩) (λU=>Z _ ?_);have e:b 2=true:=by
  rw[X];simp only[dt,W];exact decide_eq_true U
 rw[cL e];rfl;have e:b 2=false:=by
  rw[X];simp only[dt,W];exact decide_eq_false U
 rw[dV e];have e:b 3=false:=by rw[X];simp[dt,W]
 simp[eB,cT,bJ,bg,cj,V,aO.len,cZ,aM];exact⟨by omega,Z _ (by rw[dV e])⟩
set_option maxHeartbeats 8000000 in
def br2:vj 2 (cY.at [0,1,0,0,1,0,1,0,0,0,0,0,0,0,0,1,1,0]):=by
 rw[show cY.at [0,1,0,0,1,0,1,0,0,0,0,0,0,0,0,1,1,0]=vk (cY.at [0,1,0,0,1,0,1,0,0,0,0,0,0,0,0,1,1,0,0,0]) from rfl];refine zy ?_;rw[show cY.at [0,1,0,0,1,0,1,0,0,0,0,0,0,0,0,1,1,0,0,0]=T.rows _ _ _ _ from rfl];unfold xl;intros;rename_i P O N ps sp M n i L J I rs acc b R js j z _ _ _ Q Z;obtain⟨H,h,X,hi,G,aM,zx,cZ,aO,gY,jV,fT,W⟩:=R;obtain⟨F,E,cT,cj,bJ,bg,xk,cL,dV⟩:=Q;have V:(i:Int)<rs.length:=by omega
 rcases(show z=0/\j=0\/z=1/\j=1\/z=2/\j=2\/z=3/\j=3 by omega) with⟨rfl,rfl⟩|⟨rfl,rfl⟩|⟨rfl,rfl⟩|⟨rfl,rfl⟩;have e:b 0=false:=by rw[X];simp[dt,W]
 simp[eB,cT,bJ,bg,cj,V,aO.len,cZ,aM];exact⟨by omega,Z _ (by rw[dV e])⟩;have e:b 1=false:=by rw[X];simp[dt,W]
 simp[eB,cT,bJ,bg,cj,V,aO.len,cZ,aM];exact⟨by omega,Z _ (by rw[dV e])⟩;simp[eB,cT,bJ,bg,cj,V,aO.len,cZ,aM];refine⟨by omega, ?_⟩;refine bB (λU=>⟨by omega,Z _ ?_⟩) (λU=>Z _ ?_);have e:b 2=true:=by
  rw[X];simp only[dt,W];exact decide_eq_true U
 rw[cL e];rfl;have e:b 2=false:=by
  rw[X];simp only[dt,W];exact decide_eq_false U
 rw[dV e];have e:b 3=false:=by rw[X];simp[dt,W]
 simp[eB,cT,bJ,bg,cj,V,aO.len,cZ,aM];exact⟨by omega,Z _ (by rw[dV e])⟩
set_option maxHeartbeats 8000000 in
def br3:vj 3 (cY.at [0,1,0,0,1,0,1,0,0,0,0,0,0,0,0,1,1,1,0]):=by
 rw[show cY.at [0,1,0,0,1,0,1,0,0,0,0,0,0,0,0,1,1,1,0]=vk (cY.at [0,1,0,0,1,0,1,0,0,0,0,0,0,0,0,1,1,1,0,0,0]) from rfl];refine zy ?_;rw[show cY.at [0,1,0,0,1,0,1,0,0,0,0,0,0,0,0,1,1,1,0,0,0]=T.rows _ _ _ _ from rfl];unfold xl;intros;rename_i U J R ps sp I n i H G F rs acc b N js j z _ _ _ M X;obtain⟨E,h,W,hi,D,aM,zx,cZ,aO,gY,jV,fT,V⟩:=N;obtain⟨C,B,cT,cj,bJ,bg,xk,cL,dV⟩:=M;have Q:(i:Int)<rs.length:=by omega
 have L:ba (cellAt rs (i:Int) 5).val=1\/ba (cellAt rs (i:Int) 5).val=2:=by
  have:=fT.side;rw[if_pos (by omega)] at this;simp only[bm] at this;omega
 have P:bh .sub .i64 (ba (cellAt rs (i:Int) 5).val) 1=ba (cellAt rs (i:Int) 5).val-1:=by simp only[bh];rw[iK (by omega) (by omega)]
 have O:bh .quo .i64 (ba (cellAt rs (i:Int) 5).val-1) 2=0:=by rcases L with h|h<;>rw[h]<;>decide
 rcases(show z=0/\j=0\/z=1/\j=1\/z=2/\j=2\/z=3/\j=3 by omega) with⟨rfl,rfl⟩|⟨rfl,rfl⟩|⟨rfl,rfl⟩|⟨rfl,rfl⟩;simp[eB,cT,bJ,bg,cj,Q,aO.len,cZ,aM,P,O,tC U R ps sp h.tp h.ps h.sp];refine⟨by omega, ?_⟩;refine bB (λZ=>⟨by omega,X _ ?_⟩) (λZ=>X _ ?_);have e:b 0=true:=by
  rw[W];simp only[dt,V];exact decide_eq_true Z
 rw[cL e];rfl;have e:b 0=false:=by
  rw[W];simp only[dt,V];exact decide_eq_false Z
 rw[dV e];simp[eB,cT,bJ,bg,cj,Q,aO.len,cZ,aM,P,O,tC U R ps sp h.tp h.ps h.sp];refine⟨by omega,⟨by omega,by omega⟩,by omega, ?_⟩;refine bB (λZ=>⟨by omega,X _ ?_⟩) (λZ=>X _ ?_);have e:b 1=true:=by
  rw[W];simp only[dt,V];exact decide_eq_true Z
 rw[cL e];rfl;have e:b 1=false:=by
  rw[W];simp only[dt,V];exact decide_eq_false Z
 rw[dV e];have e:b 2=false:=by rw[W];simp[dt,V]
 simp[eB,cT,bJ,bg,cj,Q,aO.len,cZ,aM,P,O,tC U R ps sp h.tp h.ps h.sp];exact⟨by omega,X _ (by rw[dV e])⟩;have e:b 3=false:=by rw[W];simp[dt,V]
 simp[eB,cT,bJ,bg,cj,Q,aO.len,cZ,aM,P,O,tC U R ps sp h.tp h.ps h.sp];exact⟨by omega,X _ (by rw[dV e])⟩
set_option maxHeartbeats 8000000 in
def br4:vj 4 (cY.at [0,1,0,0,1,0,1,0,0,0,0,0,0,0,0,1,1,1,1,0]):=by
 rw[show cY.at [0,1,0,0,1,0,1,0,0,0,0,0,0,0,0,1,1,1,1,0]=vk (cY.at [0,1,0,0,1,0,1,0,0,0,0,0,0,0,0,1,1,1,1,0,0,0]) from rfl];refine zy ?_;rw[show cY.at [0,1,0,0,1,0,1,0,0,0,0,0,0,0,0,1,1,1,1,0,0,0]=T.rows _ _ _ _ from rfl];unfold xl;intros;rename_i U J R ps sp I n i H G F rs acc b N js j z _ _ _ M X;obtain⟨E,h,W,hi,D,aM,zx,cZ,aO,gY,jV,fT,V⟩:=N;obtain⟨C,B,cT,cj,bJ,bg,xk,cL,dV⟩:=M;have Q:(i:Int)<rs.length:=by omega
 have L:ba (cellAt rs (i:Int) 5).val=1\/ba (cellAt rs (i:Int) 5).val=2:=by
  have:=fT.side;rw[if_pos (by omega)] at this;simp only[bm] at this;omega
 have P:bh .add .i64 (ba (cellAt rs (i:Int) 5).val) 1=ba (cellAt rs (i:Int) 5).val+1:=by simp only[bh];rw[iK (by omega) (by omega)]
 have O:bh .quo .i64 (ba (cellAt rs (i:Int) 5).val+1) 2=1:=by rcases L with h|h<;>rw[h]<;>decide
 rcases(show z=0/\j=0\/z=1/\j=1\/z=2/\j=2\/z=3/\j=3 by omega) with⟨rfl,rfl⟩|⟨rfl,rfl⟩|⟨rfl,rfl⟩|⟨rfl,rfl⟩;simp[eB,cT,bJ,bg,cj,Q,aO.len,cZ,aM,P,O,tC U R ps sp h.tp h.ps h.sp];refine⟨by omega, ?_⟩;refine bB (λZ=>⟨by omega,X _ ?_⟩) (λZ=>X _ ?_);have e:b 0=true:=by
  rw[W];simp only[dt,V];exact decide_eq_true Z
 rw[cL e];rfl;have e:b 0=false:=by
  rw[W];simp only[dt,V];exact decide_eq_false Z
 rw[dV e];simp[eB,cT,bJ,bg,cj,Q,aO.len,cZ,aM,P,O,tC U R ps sp h.tp h.ps h.sp];refine⟨by omega,⟨by omega,by omega⟩,by omega, ?_⟩;refine bB (λZ=>⟨by omega,X _ ?_⟩) (λZ=>X _ ?_);have e:b 1=true:=by
  rw[W];simp only[dt,V];exact decide_eq_true Z
 rw[cL e];rfl;have e:b 1=false:=by
  rw[W];simp only[dt,V];exact decide_eq_false Z
 rw[dV e];have e:b 2=false:=by rw[W];simp[dt,V]
 simp[eB,cT,bJ,bg,cj,Q,aO.len,cZ,aM,P,O,tC U R ps sp h.tp h.ps h.sp];exact⟨by omega,X _ (by rw[dV e])⟩;have e:b 3=false:=by rw[W];simp[dt,V]
 simp[eB,cT,bJ,bg,cj,Q,aO.len,cZ,aM,P,O,tC U R ps sp h.tp h.ps h.sp];exact⟨by omega,X _ (by rw[dV e])⟩
set_option maxHeartbeats 8000000 in
def br5:vj 5 (cY.at [0,1,0,0,1,0,1,0,0,0,0,0,0,0,0,1,1,1,1,1,0]):=by
 rw[show cY.at [0,1,0,0,1,0,1,0,0,0,0,0,0,0,0,1,1,1,1,1,0]=vk (cY.at [0,1,0,0,1,0,1,0,0,0,0,0,0,0,0,1,1,1,1,1,0,0,0]) from rfl];refine zy ?_;rw[show cY.at [0,1,0,0,1,0,1,0,0,0,0,0,0,0,0,1,1,1,1,1,0,0,0]=T.rows _ _ _ _ from rfl];unfold xl;intros;rename_i U N R ps sp M n i L J I rs acc b P js j z _ _ _ O X;obtain⟨H,h,W,hi,G,aM,zx,cZ,aO,gY,jV,fT,V⟩:=P;obtain⟨F,E,cT,cj,bJ,bg,xk,cL,dV⟩:=O;have Q:(i:Int)<rs.length:=by omega
 rcases(show z=0/\j=0\/z=1/\j=1\/z=2/\j=2\/z=3/\j=3 by omega) with⟨rfl,rfl⟩|⟨rfl,rfl⟩|⟨rfl,rfl⟩|⟨rfl,rfl⟩;simp[eB,cT,bJ,bg,cj,Q,aO.len,cZ,aM,tC U R ps sp h.tp h.ps h.sp];refine⟨by omega, ?_⟩;refine bB (λZ=>⟨by omega,X _ ?_⟩) (λZ=>X _ ?_);have e:b 0=true:=by
  rw[W];simp only[dt,V];exact decide_eq_true Z
 rw[cL e];rfl;have e:b 0=false:=by
  rw[W];simp only[dt,V];exact decide_eq_false Z
 rw[dV e];simp[eB,cT,bJ,bg,cj,Q,aO.len,cZ,aM,tC U R ps sp h.tp h.ps h.sp];refine⟨by omega, ?_⟩;refine bB (λZ=>⟨by omega,X _ ?_⟩) (λZ=>X _ ?_);have e:b 1=true:=by
  rw[W];simp only[dt,V];exact decide_eq_true Z
 rw[cL e];rfl;have e:b 1=false:=by
  rw[W];simp only[dt,V];exact decide_eq_false Z
 rw[dV e];have e:b 2=false:=by rw[W];simp[dt,V]
 simp[eB,cT,bJ,bg,cj,Q,aO.len,cZ,aM,tC U R ps sp h.tp h.ps h.sp];exact⟨by omega,X _ (by rw[dV e])⟩;have e:b 3=false:=by rw[W];simp[dt,V]
 simp[eB,cT,bJ,bg,cj,Q,aO.len,cZ,aM,tC U R ps sp h.tp h.ps h.sp];exact⟨by omega,X _ (by rw[dV e])⟩
set_option maxHeartbeats 8000000 in
def br6:vj 6 (cY.at [0,1,0,0,1,0,1,0,0,0,0,0,0,0,0,1,1,1,1,1,1,0]):=by
 rw[show cY.at [0,1,0,0,1,0,1,0,0,0,0,0,0,0,0,1,1,1,1,1,1,0]=vk (cY.at [0,1,0,0,1,0,1,0,0,0,0,0,0,0,0,1,1,1,1,1,1,0,0,0]) from rfl];refine zy ?_;rw[show cY.at [0,1,0,0,1,0,1,0,0,0,0,0,0,0,0,1,1,1,1,1,1,0,0,0]=T.rows _ _ _ _ from rfl];unfold xl;intros;rename_i Q P O ps sp N n i M L J rs acc b U js j z _ _ _ R Z;obtain⟨I,h,X,hi,H,aM,zx,cZ,aO,gY,jV,fT,W⟩:=U;obtain⟨G,F,cT,cj,bJ,bg,xk,cL,dV⟩:=R;have V:(i:Int)<rs.length:=by omega
 rcases(show z=0/\j=0\/z=1/\j=1\/z=2/\j=2\/z=3/\j=3 by omega) with⟨rfl,rfl⟩|⟨rfl,rfl⟩|⟨rfl,rfl⟩|⟨rfl,rfl⟩;have e:b 0=false:=by rw[X];simp[dt,W]
 simp[eB,cT,bJ,bg,cj,V,aO.len,cZ,aM];exact⟨by omega,Z _ (by rw[dV e])⟩;have e:b 1=false:=by rw[X];simp[dt,W]
 simp[eB,cT,bJ,bg,cj,V,aO.len,cZ,aM];exact⟨by omega,Z _ (by rw[dV e])⟩;have e:b 2=false:=by rw[X];simp[dt,W]
 simp[eB,cT,bJ,bg,cj,V,aO.len,cZ,aM];exact⟨by omega,Z _ (by rw[dV e])⟩;have e:b 3=false:=by rw[X];simp[dt,W]
 simp[eB,cT,bJ,bg,cj,V,aO.len,cZ,aM];exact⟨by omega,Z _ (by rw[dV e])⟩
set_option maxHeartbeats 8000000 in
def br7:vj 7 (cY.at [0,1,0,0,1,0,1,0,0,0,0,0,0,0,0,1,1,1,1,1,1,1,0]):=by
 rw[show cY.at [0,1,0,0,1,0,1,0,0,0,0,0,0,0,0,1,1,1,1,1,1,1,0]=vk (cY.at [0,1,0,0,1,0,1,0,0,0,0,0,0,0,0,1,1,1,1,1,1,1,0,0,0]) from rfl];refine zy ?_;rw[show cY.at [0,1,0,0,1,0,1,0,0,0,0,0,0,0,0,1,1,1,1,1,1,1,0,0,0]=T.rows _ _ _ _ from rfl];unfold xl;intros;rename_i N Q M ps sp L n i J I H rs acc b P js j z _ _ _ O Z;obtain⟨G,h,X,hi,F,aM,zx,cZ,aO,gY,jV,fT,W⟩:=P;obtain⟨E,D,cT,cj,bJ,bg,xk,cL,dV⟩:=O;have V:(i:Int)<rs.length:=by omega
 have C:1<=bm rs i 9/\bm rs i 9<=Q.rows.length:=by
  have:=fT.wth;rw[if_pos (by omega)] at this;exact this
 have U:bh .sub .i64 (ba (cellAt rs (i:Int) 9).val) 1=(((bm rs i 9).toNat-1:Nat):Int):=by
  have:ba (cellAt rs (i:Int) 9).val=bm rs i 9:=rfl;rw[this];simp only[bh];rw[iK (by omega) (by omega)];omega
 rcases(show z=0/\j=0\/z=1/\j=1\/z=2/\j=2\/z=3/\j=3 by omega) with⟨rfl,rfl⟩|⟨rfl,rfl⟩|⟨rfl,rfl⟩|⟨rfl,rfl⟩;have e:b 0=false:=by rw[X];simp[dt,W]
 simp[eB,cT,bJ,bg,cj,V,aO.len,cZ,aM,U];exact⟨by omega,Z _ (by rw[dV e])⟩;have e:b 1=false:=by rw[X];simp[dt,W]
 simp[eB,cT,bJ,bg,cj,V,aO.len,cZ,aM,U];exact⟨by omega,Z _ (by rw[dV e])⟩;have e:b 2=false:=by rw[X];simp[dt,W]
 simp[eB,cT,bJ,bg,cj,V,aO.len,cZ,aM,U];exact⟨by omega,Z _ (by rw[dV e])⟩;simp[eB,cT,bJ,bg,cj,V,aO.len,cZ,aM,U];refine⟨by omega,by omega, ?_⟩;refine bB (λR=>⟨by omega,Z _ ?_⟩) (λR=>Z _ ?_);have e:b 3=true:=by
  rw[X];simp only[dt,W];exact decide_eq_true R
 rw[cL e];rfl;have e:b 3=false:=by
  rw[X];simp only[dt,W];exact decide_eq_false R
 rw[dV e]
set_option maxHeartbeats 8000000 in
def br9:vj 9 (cY.at [0,1,0,0,1,0,1,0,0,0,0,0,0,0,0,1,1,1,1,1,1,1,1,0]):=by
 rw[show cY.at [0,1,0,0,1,0,1,0,0,0,0,0,0,0,0,1,1,1,1,1,1,1,1,0]=vk (cY.at [0,1,0,0,1,0,1,0,0,0,0,0,0,0,0,1,1,1,1,1,1,1,1,0,0,0]) from rfl];refine zy ?_;rw[show cY.at [0,1,0,0,1,0,1,0,0,0,0,0,0,0,0,1,1,1,1,1,1,1,1,0,0,0]=T.rows _ _ _ _ from rfl];unfold xl;intros;rename_i M L J ps sp I n i H G F rs acc b P js j z _ _ _ O Z;obtain⟨E,h,X,hi,D,aM,zx,cZ,aO,gY,jV,fT,W⟩:=P;obtain⟨C,B,cT,cj,bJ,bg,xk,cL,dV⟩:=O;have V:(i:Int)<rs.length:=by omega
 have N:ba (cellAt rs (i:Int) 5).val=1\/ba (cellAt rs (i:Int) 5).val=2:=by
  have:=fT.side;rw[if_pos (by omega)] at this;simp only[bm] at this;omega
 have U:bh .add .i64 (ba (cellAt rs (i:Int) 5).val) 1=ba (cellAt rs (i:Int) 5).val+1:=by simp only[bh];rw[iK (by omega) (by omega)]
 have R:bh .quo .i64 (ba (cellAt rs (i:Int) 5).val+1) 2=1:=by rcases N with h|h<;>rw[h]<;>decide
 rcases(show z=0/\j=0\/z=1/\j=1\/z=2/\j=2\/z=3/\j=3 by omega) with⟨rfl,rfl⟩|⟨rfl,rfl⟩|⟨rfl,rfl⟩|⟨rfl,rfl⟩;simp[eB,cT,bJ,bg,cj,V,aO.len,cZ,aM,U,R];refine⟨by omega, ?_⟩;refine bB (λQ=>⟨by omega,Z _ ?_⟩) (λQ=>Z _ ?_);have e:b 0=true:=by
  rw[X];simp only[dt,W];exact decide_eq_true Q
 rw[cL e];rfl;have e:b 0=false:=by
  rw[X];simp only[dt,W];exact decide_eq_false Q
 rw[dV e];have e:b 1=false:=by rw[X];simp[dt,W]
 simp[eB,cT,bJ,bg,cj,V,aO.len,cZ,aM,U,R];exact⟨by omega,Z _ (by rw[dV e])⟩;have e:b 2=false:=by rw[X];simp[dt,W]
 simp[eB,cT,bJ,bg,cj,V,aO.len,cZ,aM,U,R];exact⟨by omega,Z _ (by rw[dV e])⟩;have e:b 3=false:=by rw[X];simp[dt,W]
 simp[eB,cT,bJ,bg,cj,V,aO.len,cZ,aM,U,R];exact⟨by omega,Z _ (by rw[dV e])⟩
set_option maxHeartbeats 8000000 in
def br8:vj 8 (cY.at [0,1,0,0,1,0,1,0,0,0,0,0,0,0,0,1,1,1,1,1,1,1,1,1]):=by
 rw[show cY.at [0,1,0,0,1,0,1,0,0,0,0,0,0,0,0,1,1,1,1,1,1,1,1,1]=vk (cY.at [0,1,0,0,1,0,1,0,0,0,0,0,0,0,0,1,1,1,1,1,1,1,1,1,0,0]) from rfl];refine zy ?_;rw[show cY.at [0,1,0,0,1,0,1,0,0,0,0,0,0,0,0,1,1,1,1,1,1,1,1,1,0,0]=T.rows _ _ _ _ from rfl];unfold xl;intros;rename_i P O N ps sp M n i L J I rs acc b R js j z _ _ _ Q X;obtain⟨H,h,W,hi,G,aM,zx,cZ,aO,gY,jV,fT,Z⟩:=R;obtain⟨F,E,cT,cj,bJ,bg,xk,cL,dV⟩:=Q;have V:(i:Int)<rs.length:=by omega
 have U:ba (cellAt rs (i:Int) 4).val=8:=Z;rcases(show z=0/\j=0\/z=1/\j=1\/z=2/\j=2\/z=3/\j=3 by omega) with⟨rfl,rfl⟩|⟨rfl,rfl⟩|⟨rfl,rfl⟩|⟨rfl,rfl⟩;have e:b 0=false:=by rw[W];simp[dt,Z]
 simp[eB,cT,bJ,bg,cj,V,aO.len,cZ,aM,U];exact⟨by omega,X _ (by rw[dV e])⟩;have e:b 1=false:=by rw[W];simp[dt,Z]
 simp[eB,cT,bJ,bg,cj,V,aO.len,cZ,aM,U];exact⟨by omega,X _ (by rw[dV e])⟩;have e:b 2=false:=by rw[W];simp[dt,Z]
 simp[eB,cT,bJ,bg,cj,V,aO.len,cZ,aM,U];exact⟨by omega,X _ (by rw[dV e])⟩;have e:b 3=false:=by rw[W];simp[dt,Z]
 simp[eB,cT,bJ,bg,cj,V,aO.len,cZ,aM,U];exact⟨by omega,X _ (by rw[dV e])⟩
end
end
section
section
variable{I:FuncId->List XV->aV->Prop}{R:aV->Prop}{ρ:aa}{L:List PC}
def ard{al:Nat}{ks:List LK}{V:List SV}{t:T}(Z:aV->Prop)(U:∀o,Z o->R o)(n:Nat)(J:Nat->List XV->Prop)(Q:vc n J (V.map (SV.xv ρ)))(h:∀(i:Nat) rest,i<=n->J i rest->t.wp I Z (ρ.ext (.i i::rest)) [⟨al,vc n J,tw n,n-i⟩]):T.wp I R (.loop al ks V t) ρ L:=by
 refine aiQ Z U (vc n J) (tw n) Q λxs X=> ?_
 match xs,X with
 |.i j::rest,X=>
  obtain⟨i,rfl,P,O⟩:=X;have:=h i rest P O;simpa[tw] using this
def H7(Z:RV)(id:Int)(k:Nat):Bool:=match jo 1 [id,0,0] Z.rows with
 |some row=>jm (row[k]?.getD default).val
 |none=>false
def aZ(Z:RV)(rs:List (List RV))(s0:Nat->Int):Nat->Nat->Int
 |0,j=>s0 j
 |k+1,j=>oi 227 ([.i (aZ Z rs s0 k 0),.i (aZ Z rs s0 k 1),.i (aZ Z rs s0 k 2),.i (aZ Z rs s0 k 3),.i (aZ Z rs s0 k 4),.i (aZ Z rs s0 k 5),.i (aZ Z rs s0 k 6),.i (aZ Z rs s0 k 7),.i (aZ Z rs s0 k 8),.i (aZ Z rs s0 k 9),.i (aZ Z rs s0 k 10),.i (aZ Z rs s0 k 11),.i (aZ Z rs s0 k 12)]++fJ (bm rs k)++[.i (mH Z (bm rs k 0) 1),.i (mH Z (bm rs k 0) 2),.i (mH Z (bm rs k 0) 3),.b (H7 Z (bm rs k 0) 4)]) j
def jF(c:Int)(u ps sp X:RV)(V:Nat)(Z:RV)(rs:List (List RV))(s0:Nat->Int):Nat->List (List RV)
 |0=>[]
 |k+1=>jF c u ps sp X V Z rs s0 k++if H7 Z (bm rs k 0) 4 then[] else jU (dt c u ps sp X V Z (bm rs k) (D9 [aZ Z rs s0 k 0,aZ Z rs s0 k 1,aZ Z rs s0 k 2,aZ Z rs s0 k 3,aZ Z rs s0 k 4,aZ Z rs s0 k 5,aZ Z rs s0 k 6,aZ Z rs s0 k 7,aZ Z rs s0 k 8,aZ Z rs s0 k 9,aZ Z rs s0 k 10,aZ Z rs s0 k 11,aZ Z rs s0 k 12])) (bm rs k 0) (aw3 4)
def are{b:Nat->Bool}{id:Int}{js ks:List Nat}(h:js.Perm ks):(jU b id js).Perm (jU b id ks):=(h.filter b).map _
def RM(c:Int)(u ps sp X:RV)(V:Nat)(Z:RV)(rs:List (List RV))(s0:Nat->Int):∀k,(jF c u ps sp X V Z rs s0 k).length<=4*k
 |0=>by simp[jF]
 |k+1=>by
  have Q:=RM c u ps sp X V Z rs s0 k;have U:=ajx (dt c u ps sp X V Z (bm rs k) (D9 [aZ Z rs s0 k 0,aZ Z rs s0 k 1,aZ Z rs s0 k 2,aZ Z rs s0 k 3,aZ Z rs s0 k 4,aZ Z rs s0 k 5,aZ Z rs s0 k 6,aZ Z rs s0 k 7,aZ Z rs s0 k 8,aZ Z rs s0 k 9,aZ Z rs s0 k 10,aZ Z rs s0 k 11,aZ Z rs s0 k 12])) (bm rs k 0) (aw3 4);simp only[jF,awQ];split;simp;omega;simp only[aAn] at U;omega
def ajA(c:Int)(u ps sp X:RV)(V:Nat)(U:RV)(rs:List (List RV))(s0:Nat->Int):∀k,∀x∈jF c u ps sp X V U rs s0 k,∃q<k,aK 1 x=bm rs q 0
 |0,x,Z=>by simp[jF] at Z
 |k+1,x,Z=>by
  rw[jF] at Z;rcases awR.1 Z with h|h;obtain⟨q,P,Q⟩:=ajA c u ps sp X V U rs s0 k x h;exact⟨q,by omega,Q⟩;split at h;simp at h;obtain⟨m,-,rfl⟩:=aw7.1 h;exact⟨k,by omega,rfl⟩
def arf(b:Nat->Bool)(id:Int){js:List Nat}(h:js.Nodup):vi [1,0] (jU b id js):=by
 refine ayQ.2 ((h.sublist List.filter_sublist).imp λ{x y} Z=>⟨0,by simp, ?_⟩);simp[LJ,aK,iV,ba];omega
def ajB:∀{l:List (List RV)},(∀x∈l,wb x x=true)->uk l l=true
 |[],_=>rfl
 |x::l,h=>by
  rw[uk,h x (by simp),ajB λy Z=>h y (by simp[Z])];rfl
def ajC(c:Int)(u ps sp X:RV)(V:Nat)(U:RV)(rs:List (List RV))(s0:Nat->Int):∀k,∀x∈jF c u ps sp X V U rs s0 k,wb x x=true
 |0,x,Z=>by simp[jF] at Z
 |k+1,x,Z=>by
  rw[jF] at Z;rcases awR.1 Z with h|h;exact ajC c u ps sp X V U rs s0 k x h;split at h;simp at h;obtain⟨m,-,rfl⟩:=aw7.1 h;simp[wb,uk,LJ,Ak,iV]
def arh{rs:List (List RV)}(X:pX rs){q k:Nat}(V:q<k)(Z:k<rs.length):bm rs q 0≠bm rs k 0:=by
 have:=ayh.1 X q k (by omega) Z V;simpa[bm,cellAt,aK,Z,show q<rs.length by omega] using this
def ajD(c:Int)(u ps sp Z:RV)(X:Nat)(V:RV)(rs:List (List RV))(s0:Nat->Int)(Q:pX rs):∀k≤rs.length,vi [1,0] (jF c u ps sp Z X V rs s0 k)
 |0,_=>axt
 |k+1,h=>by
  rw[jF];refine aw8.2 ⟨ajD c u ps sp Z X V rs s0 Q k (by omega), ?_, ?_⟩;split;exact axt;exact arf _ _ List.nodup_range;intro x P y U;obtain⟨q,O,N⟩:=ajA c u ps sp Z X V rs s0 k x P;split at U;simp at U;obtain⟨m,-,rfl⟩:=aw7.1 U;refine⟨1,by simp, ?_⟩;rw[N];exact arh Q O (by omega)
end
section
variable(W D A B C c:Int)(H u ps sp O:RV)
set_option maxHeartbeats 16000000 in
def ari (R:aV->Prop) (L:List PC) (h:iL H u ps sp O) (V:Nat) (ae G F E z y w v t s q p n m f e d a af ag an a0 a1 a2 a3 a4 a5 a6 a7 a8 a9:Int) (X re Z:RV) (rs:List (List RV)) (s0:Nat->Int) (k:[G,F,E,z,y,w,v,t,s,q,p,n,m]=[s0 0,s0 1,s0 2,s0 3,s0 4,s0 5,s0 6,s0 7,s0 8,s0 9,s0 10,s0 11,s0 12])
  (P:rs.length<=4096) (cZ:V<X.rows.length) (aO:Sl X) (gY:X.rows.length=H.rows.length) (jV:H.rows.length<=64) (fT:∀i<rs.length,vd H.rows.length c (bm rs i)) (hk:pX rs)
  (hR:R (.ret [.r (aH (be (aJ.lex [1,0] false).lt (jF c u ps sp X V Z rs s0 rs.length))),.i 0])):
  T.wp TB.Ev R (cY.at [0,1,0,0,1,0,1,0,0,0]) ⟨[W,D,A,B,C,c,(V:Int),ae,G,F,E,z,y,w,v,t,s,q,p,n,m,f,e,d,a,af,ag,an,a0,a1,a2,a3,a4,a5,a6,a7,a8,a9],[],[H,u,ps,sp,O,X,re,Z,aH rs],[]⟩ L:=by
 rw[show cY.at [0,1,0,0,1,0,1,0,0,0]=(T.loop _ _ _ (T.node _ (T.az _ (T.az _ (T.call _ _ _ _ _ _ (T.node _ _ (T.node _ (cY.at [0,1,0,0,1,0,1,0,0,0,0,0,0,0,0,1,0]) (T.node _ (cY.at [0,1,0,0,1,0,1,0,0,0,0,0,0,0,0,1,1,0]) (T.node _ (cY.at [0,1,0,0,1,0,1,0,0,0,0,0,0,0,0,1,1,1,0]) (T.node _ (cY.at [0,1,0,0,1,0,1,0,0,0,0,0,0,0,0,1,1,1,1,0]) (T.node _ (cY.at [0,1,0,0,1,0,1,0,0,0,0,0,0,0,0,1,1,1,1,1,0]) (T.node _ (cY.at [0,1,0,0,1,0,1,0,0,0,0,0,0,0,0,1,1,1,1,1,1,0]) (T.node _ (cY.at [0,1,0,0,1,0,1,0,0,0,0,0,0,0,0,1,1,1,1,1,1,1,0]) (T.node _ (cY.at [0,1,0,0,1,0,1,0,0,0,0,0,0,0,0,1,1,1,1,1,1,1,1,0]) (cY.at [0,1,0,0,1,0,1,0,0,0,0,0,0,0,0,1,1,1,1,1,1,1,1,1]))))))))))))) _)) from rfl];simp only[axH,and_true] at k;obtain⟨rfl,rfl,rfl,rfl,rfl,rfl,rfl,rfl,rfl,rfl,rfl,rfl,rfl⟩:=k;have bb:∀acc:List (List RV),acc.Perm (jF c u ps sp X V Z rs s0 rs.length)->dw (.lex [1,0] false) false acc=some (be (aJ.lex [1,0] false).lt (jF c u ps sp X V Z rs s0 rs.length)):=λacc J=>ajj (by have:=RM c u ps sp X V Z rs s0 rs.length;omega) (ajD c u ps sp X V Z rs s0 hk _ (awN _)) J
 have N:se (.ret [.r (aH (be (aJ.lex [1,0] false).lt (jF c u ps sp X V Z rs s0 rs.length))),.i 0]) (.ret [.r (aH (be (aJ.lex [1,0] false).lt (jF c u ps sp X V Z rs s0 rs.length))),.i 0])=true:=by
  have:=ajB (l:=be (aJ.lex [1,0] false).lt (jF c u ps sp X V Z rs s0 rs.length)) λx hx=>ajC c u ps sp X V Z rs s0 rs.length x ((zr _).mem_iff.1 hx)
  simp[se,CP,CO,aH,Ak,this]
 refine ard (· =.ret [.r (aH (be (aJ.lex [1,0] false).lt (jF c u ps sp X V Z rs s0 rs.length))),.i 0]) (λo h=>h▸hR) rs.length (λi rest=>∃acc,rest=[.i (aZ Z rs s0 i 0),.i (aZ Z rs s0 i 1),.i (aZ Z rs s0 i 2),.i (aZ Z rs s0 i 3),.i (aZ Z rs s0 i 4),.i (aZ Z rs s0 i 5),.i (aZ Z rs s0 i 6),.i (aZ Z rs s0 i 7),.i (aZ Z rs s0 i 8),.i (aZ Z rs s0 i 9),.i (aZ Z rs s0 i 10),.i (aZ Z rs s0 i 11),.i (aZ Z rs s0 i 12),.r (aH acc)]/\acc.Perm (jF c u ps sp X V Z rs s0 i)) ⟨0,rfl,axN _,[],rfl,azu _⟩ ?_;rintro i _ hi ⟨acc,rfl,J⟩;have bf:=J.length_eq;have xk:=RM c u ps sp X V Z rs s0 i;simp[aO.len];refine bB (λhi=> ?_) (λbs=> ?_);have j:=jT _ (Rq (aZ Z rs s0 i 0) (aZ Z rs s0 i 1) (aZ Z rs s0 i 2) (aZ Z rs s0 i 3) (aZ Z rs s0 i 4) (aZ Z rs s0 i 5) (aZ Z rs s0 i 6) (aZ Z rs s0 i 7) (aZ Z rs s0 i 8) (aZ Z rs s0 i 9) (aZ Z rs s0 i 10) (aZ Z rs s0 i 11) (aZ Z rs s0 i 12) (bm rs i) (mH Z (bm rs i 0) 1) (mH Z (bm rs i 0) 2) (mH Z (bm rs i 0) 3) (H7 Z (bm rs i 0) 4));simp only[fJ,awV,awX,HV,Ro,pW] at j;change _/\eP TB.Ev _ 227 [.i (aZ Z rs s0 i 0),.i (aZ Z rs s0 i 1),.i (aZ Z rs s0 i 2),.i (aZ Z rs s0 i 3),.i (aZ Z rs s0 i 4),.i (aZ Z rs s0 i 5),.i (aZ Z rs s0 i 6),.i (aZ Z rs s0 i 7),.i (aZ Z rs s0 i 8),.i (aZ Z rs s0 i 9),.i (aZ Z rs s0 i 10),.i (aZ Z rs s0 i 11),.i (aZ Z rs s0 i 12),.i (bm rs i 0),.i (bm rs i 1),.i (bm rs i 2),.i (bm rs i 3),.i (bm rs i 4),.i (bm rs i 5),.i (bm rs i 6),.i (bm rs i 7),.i (bm rs i 8),.i (bm rs i 9),.i (bm rs i 10),.i (bm rs i 11),.i (bm rs i 12),.i (bm rs i 13),.i (mH Z (bm rs i 0) 1),.i (mH Z (bm rs i 0) 2),.i (mH Z (bm rs i 0) 3),.b (H7 Z (bm rs i 0) 4)] _ _ _ _;rw[bo j];simp[hi,bF hi (show rs.length<=140737488355328 by omega)];have Q:=fT i hi;refine bB (λI=> ?_) (λI=> ?_);refine⟨acc,⟨rfl,rfl,rfl,rfl,rfl,rfl,rfl,rfl,rfl,rfl,rfl,rfl,rfl,rfl⟩, ?_⟩;rw[jF,if_pos (show H7 Z (bm rs i 0) 4=true from I),aya];exact J;have bk:H7 Z (bm rs i 0) 4=false:=Bool.eq_false_iff.2 I;have M:∀js,js.Perm (aw3 4)->∃g,[.i (aZ Z rs s0 (i+1) 0),.i (aZ Z rs s0 (i+1) 1),.i (aZ Z rs s0 (i+1) 2),.i (aZ Z rs s0 (i+1) 3),.i (aZ Z rs s0 (i+1) 4),.i (aZ Z rs s0 (i+1) 5),.i (aZ Z rs s0 (i+1) 6),.i (aZ Z rs s0 (i+1) 7),.i (aZ Z rs s0 (i+1) 8),.i (aZ Z rs s0 (i+1) 9),.i (aZ Z rs s0 (i+1) 10),.i (aZ Z rs s0 (i+1) 11),.i (aZ Z rs s0 (i+1) 12),XV.r (aH (acc++jU (dt c u ps sp X V Z (bm rs i) (D9 [aZ Z rs s0 i 0,aZ Z rs s0 i 1,aZ Z rs s0 i 2,aZ Z rs s0 i 3,aZ Z rs s0 i 4,aZ Z rs s0 i 5,aZ Z rs s0 i 6,aZ Z rs s0 i 7,aZ Z rs s0 i 8,aZ Z rs s0 i 9,aZ Z rs s0 i 10,aZ Z rs s0 i 11,aZ Z rs s0 i 12])) (bm rs i 0) js))]=[.i (aZ Z rs s0 (i+1) 0),.i (aZ Z rs s0 (i+1) 1),.i (aZ Z rs s0 (i+1) 2),.i (aZ Z rs s0 (i+1) 3),.i (aZ Z rs s0 (i+1) 4),.i (aZ Z rs s0 (i+1) 5),.i (aZ Z rs s0 (i+1) 6),.i (aZ Z rs s0 (i+1) 7),.i (aZ Z rs s0 (i+1) 8),.i (aZ Z rs s0 (i+1) 9),.i (aZ Z rs s0 (i+1) 10),.i (aZ Z rs s0 (i+1) 11),.i (aZ Z rs s0 (i+1) 12),.r (aH g)]/\g.Perm (jF c u ps sp X V Z rs s0 (i+1)):=λjs hj=>⟨_,rfl,by
  rw[jF,bk];exact J.append (are hj)⟩
 have h4:=Q.kind;refine bB (λU=>br1 ⟨N,h,rfl,hi,P,rfl,by omega,cZ,aO,gY,jV,Q,U⟩ M) (λbt=> ?_);refine bB (λU=>br2 ⟨N,h,rfl,hi,P,rfl,by omega,cZ,aO,gY,jV,Q,U⟩ M) (λbx=> ?_);refine bB (λU=>br3 ⟨N,h,rfl,hi,P,rfl,by omega,cZ,aO,gY,jV,Q,U⟩ M) (λb0=> ?_);refine bB (λU=>br4 ⟨N,h,rfl,hi,P,rfl,by omega,cZ,aO,gY,jV,Q,U⟩ M) (λb1=> ?_);refine bB (λU=>br5 ⟨N,h,rfl,hi,P,rfl,by omega,cZ,aO,gY,jV,Q,U⟩ M) (λb2=> ?_);refine bB (λU=>br6 ⟨N,h,rfl,hi,P,rfl,by omega,cZ,aO,gY,jV,Q,U⟩ M) (λb3=> ?_);refine bB (λU=>br7 ⟨N,h,rfl,hi,P,rfl,by omega,cZ,aO,gY,jV,Q,U⟩ M) (λb4=> ?_);refine bB (λU=>br9 ⟨N,h,rfl,hi,P,rfl,by omega,cZ,aO,gY,jV,Q,U⟩ M) (λb5=> ?_);exact br8 ⟨N,h,rfl,hi,P,rfl,by omega,cZ,aO,gY,jV,Q,(by simp only[bm] at h4⊢;omega)⟩ M;have br:i=rs.length:=by omega
 subst br;rw[pV];refine⟨_,bb acc J, ?_⟩;simp[aH,bf,(zr _).length_eq]
end
end
section
section
variable(W D A B C u:Int)(c H ps sp I:RV)
def arj(h:iL c H ps sp I)(aQ ae:Int)(X V U R Q P O N M L J G F:Int)(r:RV)(z:Sl r):∃o,TB.Ev 89 (wk W D A B C u c H ps sp I++[.i aQ,.i ae,.i X,.i V,.i U,.i R,.i Q,.i P,.i O,.i N,.i M,.i L,.i J,.i G,.i F,.r r]) o/\∃ys,o=.ret ys/\dg (kI 14) ys=true/\(xi ys 13=0->jc W D A B C u c H ps sp I aQ ae=0):=by
 by_cases E:jc W D A B C u c H ps sp I aQ ae=0;obtain⟨o,Z,ys,y,x⟩:=t89 W D A B C u c H ps sp I pZ Rq h aQ ae X V U R Q P O N M L J G F r z;exact⟨o,Z,ys,y,x,λ_=>E⟩;refine eA rfl rfl (.inl rfl) ?_;have Z:=D3 W D A B C u c H ps sp I pZ h aQ ae;simp only[wk,awV,awX] at Z;simp[Rf,wk,bo Z,E,xi]
def H8(r:RV):Nat->List (List RV)
 |0=>[]
 |k+1=>eD 1 [.mk (.int .i64 (ci r k 0)) [],.mk (.int .i64 (ci r k 0)) [],.mk (.int .i64 (ci r k 1)) [],.mk (.int .i64 (ci r k 2)) [],.mk (.bool (cb r k 3)) []] (H8 r k)
def ark{aQ ae:Int}(Z:jE W D A B C u c H ps sp I=0->vf W D u c H I){i:Nat}(hi:i<(cm W D A B C u c H ps sp I aQ ae).length):vd c.rows.length u (bm (cm W D A B C u c H ps sp I aQ ae) i):=by
 obtain⟨k,_,X,_,_,V⟩:=ai2 W D A B C u c H ps sp I Z (ax6 hi);have e:∀j<14,bm (cm W D A B C u c H ps sp I aQ ae) i j=ci I k j:=λj U=>by
  rw[<-HT (ci I k) j U,<-X];simp[bm,cellAt,aK,hi]
 have:=V;constructor;rw[e 4 (by omega)];exact this.kind;rw[e 1 (by omega)];exact this.aQ;rw[e 2 (by omega)];exact this.ae;rw[e 3 (by omega)];exact this.mark;rw[e 4 (by omega),e 5 (by omega)];exact this.side;rw[e 4 (by omega),e 6 (by omega)];exact this.dir;rw[e 4 (by omega),e 7 (by omega)];exact this.apP;rw[e 4 (by omega),e 8 (by omega)];exact this.size;rw[e 4 (by omega),e 9 (by omega)];exact this.wth;rw[e 10 (by omega),e 11 (by omega)];exact this.from_;rw[e 12 (by omega),e 13 (by omega)];exact this.to
set_option maxHeartbeats 16000000 in
def arl (h:iL c H ps sp I) (aQ ae:Int) (V U R Q P O N M L J G F E:Int) (X r:RV) (aO:Sl X) (y:Sl r):∃o,TB.Ev 104 (wk W D A B C u c H ps sp I++[.i aQ,.i ae,.i V,.i U,.i R,.i Q,.i P,.i O,.i N,.i M,.i L,.i J,.i G,.i F,.i E,.r X,.r r]) o/\∃v e,o=.ret [.r (aH v),.i e]/\v.length<=100000/\(¬e=0->v=[])/\(e=0->v=be (aJ.lex [1,0] false).lt (jF u H ps sp X aQ.toNat (aH (H8 r r.rows.length)) (cm W D A B C u c H ps sp I aQ ae) (D9 [V,U,R,Q,P,O,N,M,L,J,G,F,E]) (cm W D A B C u c H ps sp I aQ ae).length)):=by
 refine eA rfl rfl (.inl rfl) ?_;obtain⟨o,x,ys,rfl,n,s⟩:=arj W D A B C u c H ps sp I h aQ ae V U R Q P O N M L J G F E r y;obtain⟨f,rfl⟩:=HZ n;rw[show aw3 14=[0,1,2,3,4,5,6,7,8,9,10,11,12,13] from rfl] at x s;simp only[wk,awV,awX,awT,ax0] at x;rw[show cY=(T.call _ _ _ _ _ _ (T.node _ _ (T.node _ (T.loop _ _ _ (T.node _ (T.az _ (T.az _ (T.call _ _ _ _ _ _ (T.node _ (T.node _ _ (cY.at [0,1,0,0,0,0,0,0,0,1])) _)))) (cY.at [0,1,0,0,1]))) _))) from rfl];simp[wk,bo x];refine bB (λm=> ?_) (λl=>⟨[],_,⟨rfl,rfl⟩,by simp,λ_=>rfl,λh=>absurd h l⟩);have w:=s m;have z:vf W D u c H I:=(xf W D A B C u c H ps sp I pZ h).2 (by
  have:=w;unfold jc at this;by_cases Z:jE W D A B C u c H ps sp I=0;exact Z;rw[if_neg Z] at this;exact this)
 have af:0<=aQ/\aQ<c.rows.length:=by
  have Z:jE W D A B C u c H ps sp I=0:=by
   have:=w;unfold jc at this;by_cases Z:jE W D A B C u c H ps sp I=0;exact Z;rw[if_neg Z] at this;exact this
  have:=w;unfold jc at this;rw[if_pos Z] at this;by_cases hi:(gt aQ 0 (c.rows.length-1)&&gt ae 0 (u-1))=true;simp[gt] at hi;omega;rw[if_neg hi] at this;omega
 have j:=RM u H ps sp X aQ.toNat (aH (H8 r r.rows.length)) (cm W D A B C u c H ps sp I aQ ae) (D9 [V,U,R,Q,P,O,N,M,L,J,G,F,E]) (cm W D A B C u c H ps sp I aQ ae).length;have aM:=Lx W D A B C u c H ps sp I (aQ:=aQ) (ae:=ae) (λ_=>z);have g:=Rm W D A B C u c H ps sp I (aQ:=aQ) (ae:=ae) (λ_=>z);have d:∀i<(cm W D A B C u c H ps sp I aQ ae).length,vd c.rows.length u (bm (cm W D A B C u c H ps sp I aQ ae) i):=λi hi=>ark W D A B C u c H ps sp I (λ_=>z) hi
 have p:=D3 W D A B C u c H ps sp I pZ h aQ ae;simp only[wk,awV,awX] at p;have b:=aO.sm;refine bB (λgY=> ?_) (λ_=>⟨[],_,⟨rfl,rfl⟩,by simp,λ_=>rfl,λh=>absurd h (by omega)⟩);rw[aO.len,h.rl.len] at gY;refine cd X.rows.length (λi rest=>rest=[]) ⟨0,rfl,axN _,rfl⟩ ?_;rintro i _ hi rfl;simp[aO.len];refine bB (λhi=> ?_) (λag=> ?_);simp[bF hi b,hi];refine λ_=>⟨[],280,⟨rfl,rfl⟩,by simp,by simp,by simp⟩
 rw[show cY.at [0,1,0,0,1]=(T.loop _ _ _ (T.node _ _ (T.call _ _ _ _ _ _ (T.az _ (T.az _ (cY.at [0,1,0,0,1,0,1,0,0,0])))))) from rfl];refine cd r.rows.length (λi rest=>rest=[.r (aH (H8 r i))]) ⟨0,rfl,axN _,rfl⟩ ?_;rintro q _ t rfl;simp[y.len,aO.len];refine bB (λt=> ?_) (λan=> ?_);simp[bF t y.sm,t,H8,ci,cb];have a:q=r.rows.length:=by omega
 subst a;obtain⟨rn,rfl⟩:∃k:Nat,aQ=k:=⟨aQ.toNat,by omega⟩;rw[bo p];simp[aO.len];refine⟨by omega, ?_⟩;refine ari W D A B C u c H ps sp I _ _ h rn ae _ _ _ _ _ _ _ _ _ _ _ _ _ _ _ _ _ _ _ _ _ _ _ _ _ _ _ _ _ _ X r (aH (H8 r r.rows.length)) _ (D9 [V,U,R,Q,P,O,N,M,L,J,G,F,E]) rfl aM (by omega) aO (by omega) z.nr.2 d g ?_;refine⟨_,0,rfl, ?_,by simp,by simp⟩;rw[(zr _).length_eq];simp only[axy] at j;omega
end
end
end
end Go.Proofs.YtieaiocljdpebaaGreatDoor.Y
