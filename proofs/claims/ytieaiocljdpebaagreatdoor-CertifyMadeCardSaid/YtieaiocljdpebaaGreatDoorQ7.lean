/- Part 7 of the proof; the last part says what is shown. -/
import Derived.Test.YtieaiocljdpebaaGreatDoorQ6
set_option linter.all false
open Bool renaming and_eq_true->axI,false_eq_true->ax3,or_eq_true->ayb
open List renaming getElem?_eq_getElem->axK,getElem?_append_left->axL,getD_eq_getElem?_getD->axN,getElem?_map->axO,getElem?_append_right->axP,cons_append->axY,mem_cons->axT,mem_append->axS,nil_append->ax2,map_cons->axV,all_eq_true->axU,range->ax6,pairwise_cons->ax5,mem_of_getElem?->ax4,length_cons->ayu,length_eq_zero_iff->ayl,nodup_append->ayJ,take_of_length_le->ay0,mem_range->ayR,map_nil->ay2,map_append->aze,nodup_cons->azu,map->azC,pairwise_map->azS,length_erase_of_mem->az7,ne_nil_of_mem->az8,range_succ_eq_map->aAc,mem_erase_of_ne->aAq,take_add_one->aBq,pairwise_singleton->aAM,find?_cons->aAO,length_pos_of_mem->aAT
open Nat renaming zero_le->ayK
open List.Pairwise renaming nil->ayv
open Int renaming toNat_natCast->ayE,tdiv_eq_ediv_of_nonneg->aDO
namespace Go.Proofs.YtieaiocljdpebaaGreatDoor.Y
open Go.RowKit
noncomputable section
section
section
variable{R:aT->Prop}{E:List LK}{t:T}{O:aa}{L:List PC}
variable(W D A B C w:Int)(a d m s u:RV)
def Aft:Prop:=∀(X V U Q P N M J I H G F E:Int)(c:Nat->Int)(p q r:Int)(b:Bool),∃o,TB.Ev 227 ([.i X,.i V,.i U,.i Q,.i P,.i N,.i M,.i J,.i I,.i H,.i G,.i F,.i E]++fu c++[.i p,.i q,.i r,.b b]) o/\∃Z,o=.ret Z/\dh (kI 14) Z=true
set_option maxHeartbeats 4000000 in
def SB:Aft:=by
 intro G F E z y x w v u s o n m c p q r b;refine dw rfl rfl (.inl rfl) ?_;by_cases Z:c 4=1\/c 4=2\/c 4=3\/c 4=4\/c 4=5\/c 4=6\/c 4=7\/c 4=8\/c 4=9
 ·rcases Z with h|h|h|h|h|h|h|h|h
  all_goals
   simp(config:={maxSteps:=10000000}) [Sm,fu,h]
   try
    (repeat'(first|intro _|split)
     all_goals
      have X:aR .sub .i64 (c 5) 1=c 5-1:=by simp only[aR];exact fk (by omega) (by omega)
      have V:aR .add .i64 (c 5) 1=c 5+1:=by simp only[aR];exact fk (by omega) (by omega)
      simp only[X,V] at*
      first|omega|(exfalso;omega))
 simp only[not_or] at Z;obtain⟨U,Q,P,N,M,J,I,H,k9⟩:=Z;simp(config:={maxSteps:=10000000}) [Sm,fu,U,Q,P,N,M,J,I,H,k9]
def It:∀{n:Nat}{ys:List XV},dh (kI n) ys=true->∃f:Nat->Int,ys=(ax6 n).map λk=>.i (f k)
 |0,[],_=>⟨λ_=>0,rfl⟩
 |0,_::_,h=>by simp at h
 |n+1,[],h=>by simp at h
 |n+1,y::ys,h=>by
  simp only[Ir,dh,axI] at h;obtain⟨f,Z⟩:=It (n:=n) (ys:=ys) h.2;cases y<;>simp only[Gm,ax3,false_and] at h;rename_i x;refine⟨λk=>match k with
   |0=>x
   |k+1=>f k, ?_⟩
  rw[Z,aAc];simp
def t89(U:rY)(M:Aft)(h:fF a d m s u)(aN ae:Int)(J I H G F E z y x q p n k:Int)(r:RV)(j:Sl r):∃o,TB.Ev 89 (wk W D A B C w a d m s u++[.i aN,.i ae,.i J,.i I,.i H,.i G,.i F,.i E,.i z,.i y,.i x,.i q,.i p,.i n,.i k,.r r]) o/\∃Z,o=.ret Z/\dh (kI 14) Z=true:=by
 refine dw rfl rfl (.inl rfl) ?_;have Q:=Ey W D A B C w a d m s u U h aN ae;have P:=(rZ W D A B C w a d m s u U h).2;have c:=L9 W D A B C w a d m s u (aN:=aN) (ae:=ae) P;have hk:=Sy W D A B C w a d m s u (aN:=aN) (ae:=ae) P;simp only[wk,axY,ax2] at Q;generalize cm W D A B C w a d m s u aN ae=l at*;generalize jo W D A B C w a d m s u aN ae=e at*;obtain⟨o,h2,v,b,rfl,h3,h4⟩:=ajD l r j c hk;simp[Sk,wk,aS Q,aS h2];intro _ _ hb;have hv:v.length<=4096:=by have:=(h4 hb).1;omega
 refine bM v.length (λi N=>dh (kI 26) N=true) ⟨0,rfl,by omega,rfl⟩ ?_;rintro i N X ac;obtain⟨f,rfl⟩:=It ac;rw[show ax6 26=[0,1,2,3,4,5,6,7,8,9,10,11,12,13,14,15,16,17,18,19,20,21,22,23,24,25] from rfl];simp;intro X;obtain⟨o,V,Z,rfl,g2⟩:=M (f 13) (f 14) (f 15) (f 16) (f 17) (f 18) (f 19) (f 20) (f 21) (f 22) (f 23) (f 24) (f 25) (aZ v i) (aZ v i 14) (aZ v i 15) (aZ v i 16) (gV (cellAt v i 17).val);obtain⟨g,rfl⟩:=It g2;rw[show ax6 14=[0,1,2,3,4,5,6,7,8,9,10,11,12,13] from rfl] at V;simp only[fu,aZ,axY,ax2,axV,ay2] at V;simp[aS V,bG X (show v.length<=140737488355328 by omega),X]
end
end
section
section
variable{R:aT->Prop}{a:List LK}{t:T}{O:aa}{L:List PC}
def t81(X:Int)(V Q P:RV)(U:Sl V)(N:Sl Q)(M:Sl P):∃o,TB.Ev 81 [.i X,.r V,.r Q,.r P] o/\∃e,o=.ret [.i e]/\(e=0->Io V/\1<=X/\X<=4096):=by
 refine dw rfl rfl (.inr λv I=>by obtain⟨_,h,_⟩:=I;cases h) ?_;simp[T81,U.len,N.len,M.len]
 repeat'(first|intro _|split)
 refine⟨by assumption, ?_⟩;intro H;have G:0<V.rows.length:=by assumption
 have J:Io V:=⟨U,G,by simpa[ci] using H⟩;have F:1<=X/\X<=4096:=by omega
 refine bM V.rows.length (λ_ W=>∃n:Int,W=[.i n]) ⟨0,rfl,by omega,_,rfl⟩ ?_;rintro i _ Z ⟨n,rfl⟩;simp[U.len];split;rename_i Z;simp[bG Z U.sm,Z];refine bM X.toNat (λ_ W=>W=[]) ⟨0,rfl,by omega,rfl⟩ ?_;rintro i _ Z rfl;simp;split;rename_i Z;have E:i<X.toNat:=by omega
 rw[ajv _ _ _ _ _ J (by omega)];simp[bG E (show X.toNat<=140737488355328 by omega)];refine bM Q.rows.length (λ_ W=>∃n:Int,W=[.i n]) ⟨0,rfl,by omega,_,rfl⟩ ?_;rintro i _ Z ⟨n,rfl⟩;simp[N.len];split;rename_i Z;simp[bG Z N.sm,Z];refine bM P.rows.length (λ_ W=>W=[]) ⟨0,rfl,by omega,rfl⟩ ?_;rintro i _ Z rfl;simp[M.len];split;rename_i Z;simp[bG Z M.sm,Z];exact⟨J,F⟩
def mR:rY:=λZ X W V U Q P=>Ew (t81 Z X W V U Q P)
end
end
section
section
variable{R:aT->Prop}{q:List LK}{t:T}{O:aa}{L:List PC}
variable(W D A B C p:Int)(g l m n f:RV)
def aaP{v:RV}{Z:T}{e:TypeId}{X U Q:List RK}(V:Sl v)(N:v.rows.length<=536870912)(P:Z=.ey (.c true) (.cmp .leq (.len (.v 0)) (.c 0)) (.az (.cmp .leq (.len (.v 0)) (.c 536870912)) (.new e (.jr (.lit []) (.ref (.v 0))) X U (.ret (.ref (.v 1)) [] Q))) (.ret (.ref (.k (.slice none 0 0))) [] X)):T.wp TB.Ev (· =.ret [.r (aF v.rows)]) Z (de [] [.r v]) []:=by
 subst P;rw[L8];refine⟨.inl rfl,λ_=> ?_,λh=> ?_,λ_ h=> ?_⟩;simp[aaC,V.len];omega
 all_goals
  have h:v.rows=[]:=by
   simp[V.len] at h;exact h
 simp[aaC,h];exact single (by rw[h];rfl)
def e86(v:RV)(Z:Sl v)(h:v.rows.length<=536870912):TB.Ev 86 [.r v] (.ret [.r (aF v.rows)]):=kR rfl rfl (.inl rfl) (aaP Z h rfl)
def e87(v:RV)(Z:Sl v)(h:v.rows.length<=536870912):TB.Ev 87 [.r v] (.ret [.r (aF v.rows)]):=kR rfl rfl (.inl rfl) (aaP Z h rfl)
def e88(v:RV)(Z:Sl v)(h:v.rows.length<=536870912):TB.Ev 88 [.r v] (.ret [.r (aF v.rows)]):=kR rfl rfl (.inl rfl) (aaP Z h rfl)
def arp(v:RV)(X:Sl v)(a b c:Int)(d:Bool):∃o,TB.Ev 173 [.r v,.i a,.i b,.i c,.b d] o/\∃V,o=.ret V/\dh (kI 1) V=true:=by
 refine dw rfl rfl (.inl rfl) ?_;simp[Se];refine bM v.rows.length (λ_ U=>U=[]) ⟨0,rfl,by omega,rfl⟩ ?_;rintro i _ Z rfl;simp[X.len];intro Z;simp[bG Z X.sm,Z]
def arq(v:RV)(X:Sl v)(a b c:Int)(d:Bool):∃o,TB.Ev 102 [.r v,.i a,.i b,.i c,.b d] o/\∃Z,o=.ret Z/\dh [.bool] Z=true:=by
 refine dw rfl rfl (.inl rfl) ?_;have h:=j7 _ (arp v X a b c d);simp[Sd,aS h,qB]
def ajL(v:RV)(Z:Sl v)(a b c:Int)(d:Bool):eu TB.Ev R 102 [.r v,.i a,.i b,.i c,.b d] q t O L=eE TB.Ev R (.ret [.b (ob 102 [.r v,.i a,.i b,.i c,.b d] 0)]) q t O L:=aS (j7 [.bool] (arq v Z a b c d))
def ars(U:rY)(h:fF g l m n f)(id:Int):∃o,TB.Ev 143 (wk W D A B C p g l m n f++[.i id]) o/\∃X,o=.ret X/\dh (kI 15) X=true:=by
 refine dw rfl rfl (.inl rfl) ?_;obtain⟨V,M⟩:=rZ W D A B C p g l m n f U h;simp only[wk] at V;simp[Sq,wk,aS V];intro J;have I:=h.sg.sm;refine zP (λZ=>∃i j:Nat,Z=[.i i,.i j]/\i<=j/\j<=f.rows.length) (λZ=>(xi Z 1-xi Z 0).toNat) ⟨0,f.rows.length,by simp[h.sg.len],by omega,by omega⟩ ?_;rintro _ ⟨i,j,rfl,Q,H⟩;simp[xi,zO,h.sg.len,aaL (show j<=140737488355328 by omega) Q];split;rename_i G;refine⟨by omega, ?_⟩;have P:((i:Int)+j)/2=(((i+j)/2:Nat):Int):=by omega
 have N:=B6 (i:=(i+j)/2) (by omega);rw[P,N];split;exact⟨⟨(i+j)/2+1,j,⟨rfl,rfl⟩,by omega,by omega⟩,by omega⟩;exact⟨⟨i,(i+j)/2,⟨rfl,rfl⟩,by omega,by omega⟩,by omega⟩;intro F;omega
def art(P:oJ W D p g l f)(h:fF g l m n f)(ae:Int)(V N M Z J:RV)(c:Nat->Int)(I:Sl V)(H:Sl Z)(z:V.rows.length=g.rows.length)(y:Z.rows.length=g.rows.length)(bp:∀i<Z.rows.length,Sl (cr 96 Z i)):∃o,TB.Ev 103 (wk W D A B C p g l m n f++[.i ae,.r V,.r N,.r M,.r Z,.r J]++fu c) o/\∃Q,o=.ret Q/\dh [.bool] Q=true:=by
 refine dw rfl rfl (.inl rfl) ?_;simp[aaq,wk,fu];refine bM f.rows.length (λ_ G=>G=[]) ⟨0,rfl,by omega,rfl⟩ ?_;rintro i _ X rfl;simp[h.sg.len,I.len,H.len];intro X;simp[bG X h.sg.sm,X];intros;have F:=(P.Iq i X).aN;simp only[ci] at F;refine⟨by omega,λ_=>⟨by omega, ?_⟩⟩;have E:(bg (cellAt f.rows (i:Int) 1).val).toNat<Z.rows.length:=by omega
 have U:=bp _ E;simp only[cr] at U;rw[show(((bg (cellAt f.rows (i:Int) 1).val).toNat:Nat):Int)=bg (cellAt f.rows (i:Int) 1).val by omega] at U;rw[ajL _ U];simp[bG X h.sg.sm]
end
end
section
section
variable{R:aT->Prop}{G:List LK}{t:T}{O:aa}{L:List PC}
variable(W D A B C q:Int)(p w E F d:RV)
def kB:Nat->List LK
 |0=>[]
 |n+1=>.bool::kB n
@[simp] def kB0:kB 0=[]:=rfl
@[simp] def kBs (n:Nat):kB (n+1)=.bool::kB n:=rfl
def SC:∀{n:Nat}{ys:List XV},dh (kB n) ys=true->∃f:Nat->Bool,ys=(ax6 n).map λk=>.b (f k)
 |0,[],_=>⟨λ_=>false,rfl⟩
 |0,_::_,h=>by simp at h
 |n+1,[],h=>by simp at h
 |n+1,y::ys,h=>by
  simp only[kBs,dh,axI] at h;obtain⟨f,Z⟩:=SC (n:=n) (ys:=ys) h.2;cases y<;>simp only[Gm,ax3,false_and] at h;rename_i x;refine⟨λk=>match k with
   |0=>x
   |k+1=>f k, ?_⟩
  rw[Z,aAc];simp
def ajM:∀{n:Nat}{ys:List XV},dh (kI n++[.bool]) ys=true->∃(f:Nat->Int)(b:Bool),ys=(ax6 n).map (λk=>.i (f k))++[.b b]
 |0,[],h=>by simp at h
 |0,[.b b],_=>⟨λ_=>0,b,rfl⟩
 |0,[.i _],h=>by simp at h
 |0,[.r _],h=>by simp at h
 |0,_::_::_,h=>by simp at h
 |n+1,[],h=>by simp at h
 |n+1,y::ys,h=>by
  simp only[Ir,axY,dh,axI] at h;obtain⟨f,b,Z⟩:=ajM (n:=n) (ys:=ys) h.2;cases y<;>simp only[Gm,ax3,false_and] at h;rename_i x;refine⟨λk=>match k with
   |0=>x
   |k+1=>f k,b, ?_⟩
  rw[Z,aAc];simp
def gl0:RV:=lX[0]?.getD default
def Ez:RV:=lX[1]?.getD default
def gl2:RV:=lX[2]?.getD default
def arx:lX=[gl0,Ez,gl2]:=rfl
def ajN:lenOf Ez.val=10:=rfl
def mS(k:Int)(j:Nat):RV:=cd (.sl 3) (cellAt Ez.rows k j)
def ary{k s:Int}(U:1<=k/\k<=9)(X:if k=1\/k=3\/k=4\/k=9 then 1<=s/\s<=2 else s=0):
  (lenOf (mS k 0).val=(mS k 0).rows.length/\(mS k 0).rows.length<=2/\∀i:Nat,i<(mS k 0).rows.length->0<=bg (cellAt (mS k 0).rows i 0).val/\bg (cellAt (mS k 0).rows i 0).val<=2/\1<=s/\s<=2)/\
  (lenOf (mS k 1).val=(mS k 1).rows.length/\(mS k 1).rows.length<=2/\∀i:Nat,i<(mS k 1).rows.length->0<=bg (cellAt (mS k 1).rows i 0).val/\bg (cellAt (mS k 1).rows i 0).val<=4):=by
 have:k=1\/k=2\/k=3\/k=4\/k=5\/k=6\/k=7\/k=8\/k=9:=by omega
 rcases this with rfl|rfl|rfl|rfl|rfl|rfl|rfl|rfl|rfl
 all_goals
  simp at X;refine⟨⟨rfl,by decide,λi Z=> ?_⟩,rfl,by decide,λi Z=> ?_⟩
  all_goals
   simp[mS,Ez,lX,uL,sV,iV,cellAt,cd,-ajw] at Z
   try
    have V:i=0\/i=1:=by omega
    rcases V with rfl|rfl
    all_goals simp[mS,Ez,lX,uL,sV,iV,cellAt,cd,bg,-ajw] at Z⊢
    all_goals(try omega)
def arz{aN ae:Int}{v:List (List RV)}{r:RV}(U:jR W D A B C q p w E F d=0->oJ W D q p w d)(h:tW (cm W D A B C q p w E F d aN ae) r (cm W D A B C q p w E F d aN ae).length v){i:Nat}(X:i<v.length):∃c,vz p.rows.length q c/\∀j<14,bg (cellAt v (i:Int) j).val=c j:=by
 rw[h.1] at X;obtain⟨k,I,Q,H⟩:=h.2 i X;obtain⟨x,V⟩:∃x,(cm W D A B C q p w E F d aN ae)[i]?=some x:=⟨_,axK X⟩;obtain⟨m,G,P,z,y,N⟩:=aaM W D A B C q p w E F d U (ax4 V);refine⟨ci d m,N,λj Z=> ?_⟩;have M:∀j<14,aZ (cm W D A B C q p w E F d aN ae) i j=ci d m j:=λj Z=>by
  have:=Ex (ci d m) j Z;simp only[aZ,cellAt,ayE,axN,V,P];simpa[aP] using this
 have J:∀j<14,bg ((aaN (aZ (cm W D A B C q p w E F d aN ae) i) r k).getD j default).val=aZ (cm W D A B C q p w E F d aN ae) i j:=λj Z=>by
  match j,Z with
  |0,_|1,_|2,_|3,_|4,_|5,_|6,_|7,_|8,_|9,_|10,_|11,_|12,_|13,_=>rfl
 rw[<-M j Z,<-J j Z];simp only[cellAt,ayE,axN,Q];rfl
set_option maxHeartbeats 8000000 in
def t90 (hc:rY) (h:fF p w E F d) (aN ae:Int) (x0 x1 x2 x3 x4 x5 x6 x7 x8 x9 an a0 a1:Int) (P:RV) (a2:vA P) (y0 y1 y2 y3 y4 y5 y6 y7 y8 y9 a3 a4 a5 a6 a7 a8:Int) (r:RV) (hr:Sl r):∃o,TB.Ev 90 (wk W D A B C q p w E F d++[.i aN,.i ae,.i x0,.i x1,.i x2,.i x3,.i x4,.i x5,.i x6,.i x7,.i x8,.i x9,.i an,.i a0,.i a1,.r P,.i y0,.i y1,.i y2,.i y3,.i y4,.i y5,.i y6,.i y7,.i y8,.i y9,.i a3,.i a4,.i a5,.i a6,.i a7,.i a8,.r r]) o/\∃N,o=.ret N/\dh (kI 5) N=true:=by
 refine dw rfl rfl (.inl rfl) ?_;have h1:=Ey W D A B C q p w E F d hc h aN ae;have M:=(rZ W D A B C q p w E F d hc h).2;have hl:=L9 W D A B C q p w E F d (aN:=aN) (ae:=ae) M;have hk:=Sy W D A B C q p w E F d (aN:=aN) (ae:=ae) M;have gD:= @arz W D A B C q p w E F d aN ae;simp only[wk,axY,ax2] at h1;generalize cm W D A B C q p w E F d aN ae=l at*;generalize jo W D A B C q p w E F d aN ae=e at*;obtain⟨o,h2,v,b,rfl,h3,h4⟩:=ajD l r hr hl hk;simp[Sn,wk,arx,aS h1,aS h2,c75 P a2];intro _ _ _ hb;have ac:=h4 hb;have hv:v.length<=4096:=by have:=ac.1;omega
 have J:v.length<=140737488355328:=by omega
 refine bM v.length (λi Z=>dh (kB 6) Z=true) ⟨0,rfl,by omega,rfl⟩ ?_;rintro i Z X V;obtain⟨f,rfl⟩:=SC V;rw[show ax6 6=[0,1,2,3,4,5] from rfl];simp;split
 ·rename_i X;obtain⟨c,I,af⟩:=gD M ac X;have H:=af 4 (by omega);have a9:=af 5 (by omega);obtain⟨G,z⟩:=ary I.kind I.side;have bb:=I.kind;have ag:cd (.sl 3) (cellAt Ez.rows (c 4) 0)=mS (c 4) 0:=rfl;have al:cd (.sl 3) (cellAt Ez.rows (c 4) 1)=mS (c 4) 1:=rfl;generalize mS (c 4) 0=y at G ag;generalize mS (c 4) 1=s at z al;simp[bG X J,X,H,ajN];intro _;split
  all_goals
   refine⟨by omega, ?_⟩;refine bM y.rows.length (λ_ Z=>dh (kB 5) Z=true) ⟨0,rfl,by omega,rfl⟩ ?_;rintro a Z U V;obtain⟨g,rfl⟩:=SC V;rw[show ax6 5=[0,1,2,3,4] from rfl];simp[H,a9,ag,G.1,ajN];split;rename_i U;have m:=G.2.2 a U;generalize bg (cellAt y.rows (a:Int) 0).val=x at m;rw[show aR .sub .i64 (aR .add .i64 x (c 5)) 1=x+c 5-1 by simp only[aR];rw[fk (n:=x+c 5) (by omega) (by omega),fk (by omega) (by omega)]];simp[bG U (show y.rows.length<=140737488355328 by omega),U];omega;refine⟨by omega, ?_⟩;refine bM s.rows.length (λ_ Z=>dh (kB 5) Z=true) ⟨0,rfl,by omega,rfl⟩ ?_;rintro a' Z Q V;obtain⟨g',rfl⟩:=SC V;rw[show ax6 5=[0,1,2,3,4] from rfl];simp[H,al,z.1];split;rename_i Q;have m:=z.2.2 a' Q;generalize bg (cellAt s.rows (a':Int) 0).val=x at m;simp[bG Q (show s.rows.length<=140737488355328 by omega),Q];omega;simp[bG X J]
 refine bM 5 (λ_ Z=>dh (kI 4) Z=true) ⟨0,rfl,by omega,rfl⟩ ?_;rintro k Z j V;obtain⟨g,rfl⟩:=It V;rw[show ax6 4=[0,1,2,3] from rfl];have hq:aR .quo .i64 (k:Int) 2=((k/2:Nat):Int):=by
  simp only[aR];rw[show(k:Int).tdiv 2=((k/2:Nat):Int) by rw[aDO (by omega)];omega];exact fk (by omega) (by omega)
 simp[hq];split;rename_i j;have j:k<5:=by omega
 simp[bG j (show 5<=140737488355328 by omega)];omega;intro _;refine bM v.length (λ_ Z=>dh (kI 17++[.bool]) Z=true) ⟨0,rfl,by omega,rfl⟩ ?_;rintro i Z X V;obtain⟨f,b',rfl⟩:=ajM V;rw[show ax6 17=[0,1,2,3,4,5,6,7,8,9,10,11,12,13,14,15,16] from rfl];simp;intro X;obtain⟨o,q1,N,rfl,q2⟩:=SB (f 4) (f 5) (f 6) (f 7) (f 8) (f 9) (f 10) (f 11) (f 12) (f 13) (f 14) (f 15) (f 16) (aZ v i) (aZ v i 14) (aZ v i 15) (aZ v i 16) (gV (cellAt v i 17).val);obtain⟨u,rfl⟩:=It q2;rw[show ax6 14=[0,1,2,3,4,5,6,7,8,9,10,11,12,13] from rfl] at q1;simp only[fu,aZ,axY,ax2,axV,ay2] at q1;refine⟨X, ?_⟩;rw[aS q1];simp[bG X J]
end
end
variable{Q:List Nat}{U:Bool}{Z:List (List RV)}
section
section
variable{R:aT->Prop}{p:List LK}{t:T}{O:aa}{L:List PC}
variable(W D A B C m:Int)(a b c f l:RV)
def Iu(X:Z.length<=1099511627776):dB (.lex Q U) true Z=some (aU (aI.lex Q U).lt Z):=by
 simp only[dB];rw[if_pos (by simp[X,aI.ok])]
set_option maxHeartbeats 8000000 in
def t78 (hc:rY) (h:fF a b c f l) (id:Int) (y:RV) (a2:vA y) (x w s p d y5 y6 y7 y8 y9 ac N M J af ag:Int):∃o,TB.Ev 78 (wk W D A B C m a b c f l++[.i id,.r y,.i x,.i w,.i s,.i p,.i d,.i y5,.i y6,.i y7,.i y8,.i y9,.i ac,.i N,.i M,.i J,.i af,.i ag]) o/\∃v e,o=.ret [.r (aF v),.i e]/\v.length<=100:=by
 refine dw rfl rfl (.inl rfl) ?_;have V:=j7 _ (ars W D A B C m a b c f l hc h id);have U:=SA y a2 x w s p d y5 y6 y7 y8 y9 ac N M J af ag;simp only[wk,axY,ax2,Ir,Sz,qB] at V;generalize xi (out 143 [XV.i W,XV.i D,XV.i A,XV.i B,XV.i C,XV.r a,XV.i m,XV.r b,XV.r c,XV.r f,XV.r l,XV.i id])=g at V;generalize vC y x w s p d y5 y6 y7 y8 y9 ac N M J af ag=a3 at U;by_cases Q:g 14=0;by_cases P:a3=0;have ht:=U.2 P;have X:g 4=1\/g 4=2\/g 4=9\/g 4=3\/g 4=4\/g 4=5\/(g 4≠1/\g 4≠2/\g 4≠9/\g 4≠3/\g 4≠4/\g 4≠5):=by omega
 rcases X with X|X|X|X|X|X|⟨k1,k2,k3,k4,k5,k6⟩
 ·simp(config:={maxSteps:=10000000}) [T78,wk,aS V,aS U.1,Q,P,X]
  repeat' split
  all_goals exact⟨_,rfl,by simp⟩
 ·simp(config:={maxSteps:=10000000}) [T78,wk,aS V,aS U.1,Q,P,X]
  repeat' split
  all_goals exact⟨_,rfl,by simp⟩
 ·simp(config:={maxSteps:=10000000}) [T78,wk,aS V,aS U.1,Q,P,X]
  repeat' split
  all_goals exact⟨_,rfl,by simp⟩
 simp(config:={maxSteps:=10000000}) [T78,wk,aS V,aS U.1,Q,P,X];have hT:1<=N/\N<=3:=ht.1;obtain⟨bw,I⟩:∃n:Nat,N=n:=⟨N.toNat,by omega⟩;subst I;refine bM 9 (λi Z=>∃v,Z=[.r (aF v)]/\v.length<=3*i) ⟨0,rfl,by omega,[],rfl,by simp⟩ ?_;rintro i _ hi ⟨v,rfl,H⟩;simp;split;rename_i al;have G:i<9:=by omega
 refine bM (bw+1) (λj Z=>1<=j/\∃v,Z=[.r (aF v)]/\v.length+1<=3*i+j) ⟨1,rfl,by omega,by omega,v,rfl,by omega⟩ ?_;rintro j _ hj ⟨an,v,rfl,H⟩;simp;split
 ·rename_i a0;have F:j<bw+1:=by omega
  simp[bG F (show bw+1<=140737488355328 by omega)]
  repeat'(first|intro _|split)
  all_goals first
   |exact⟨v,rfl,by omega⟩
   |(refine⟨by omega,_,rfl,by simp;omega⟩)
   |(refine⟨⟨by omega,by omega⟩,_,rfl,by simp;omega⟩)
 simp[bG G (show 9<=140737488355328 by omega)];exact⟨v,rfl,by omega⟩;rw[nM];refine⟨_,Iu (by simp;omega), ?_⟩;have E:(aU (aI.lex [4] true).lt v).length=v.length:=jC;simp;generalize hq:aU (aI.lex [4] true).lt v=q at E;refine bM q.length (λi Z=>∃u,Z=[.r (aF u)]/\u.length=i) ⟨0,rfl,by omega,[],rfl,rfl⟩ ?_;rintro k _ a1 ⟨u,rfl,hu⟩;simp;split;rename_i z;refine⟨z,by omega, ?_⟩;rw[bG (show k<q.length by omega) (show q.length<=140737488355328 by omega)];exact⟨_,rfl,by simp;omega⟩
 ·repeat'(first|intro _|split)
  all_goals first
   |exact⟨u,rfl,by omega⟩
   |(refine⟨by omega,_,rfl, ?_⟩;simp;omega)
   |(refine⟨⟨by omega,by omega⟩,_,rfl, ?_⟩;simp;omega)
 simp(config:={maxSteps:=10000000}) [T78,wk,aS V,aS U.1,Q,P,X];have hT:1<=M/\M<=3:=ht.2.1;obtain⟨bw,I⟩:∃n:Nat,M=n:=⟨M.toNat,by omega⟩;subst I;refine bM 9 (λi Z=>∃v,Z=[.r (aF v)]/\v.length<=3*i) ⟨0,rfl,by omega,[],rfl,by simp⟩ ?_;rintro i _ hi ⟨v,rfl,H⟩;simp;split;rename_i al;have G:i<9:=by omega
 refine bM (bw+1) (λj Z=>1<=j/\∃v,Z=[.r (aF v)]/\v.length+1<=3*i+j) ⟨1,rfl,by omega,by omega,v,rfl,by omega⟩ ?_;rintro j _ hj ⟨an,v,rfl,H⟩;simp;split
 ·rename_i a0;have F:j<bw+1:=by omega
  simp[bG F (show bw+1<=140737488355328 by omega)]
  repeat'(first|intro _|split)
  all_goals first
   |exact⟨v,rfl,by omega⟩
   |(refine⟨by omega,_,rfl,by simp;omega⟩)
   |(refine⟨⟨by omega,by omega⟩,_,rfl,by simp;omega⟩)
 simp[bG G (show 9<=140737488355328 by omega)];exact⟨v,rfl,by omega⟩;rw[nM];refine⟨_,Iu (by simp;omega), ?_⟩;have E:(aU (aI.lex [4] true).lt v).length=v.length:=jC;simp;generalize hq:aU (aI.lex [4] true).lt v=q at E;refine bM q.length (λi Z=>∃u,Z=[.r (aF u)]/\u.length=i) ⟨0,rfl,by omega,[],rfl,rfl⟩ ?_;rintro k _ a1 ⟨u,rfl,hu⟩;simp;split;rename_i z;refine⟨z,by omega, ?_⟩;rw[bG (show k<q.length by omega) (show q.length<=140737488355328 by omega)];exact⟨_,rfl,by simp;omega⟩
 ·repeat'(first|intro _|split)
  all_goals first
   |exact⟨u,rfl,by omega⟩
   |(refine⟨by omega,_,rfl, ?_⟩;simp;omega)
   |(refine⟨⟨by omega,by omega⟩,_,rfl, ?_⟩;simp;omega)
 simp(config:={maxSteps:=10000000}) [T78,wk,aS V,aS U.1,Q,P,X];have hT:1<=J/\J<=3:=ht.2.2;obtain⟨bw,I⟩:∃n:Nat,J=n:=⟨J.toNat,by omega⟩;subst I;refine bM 9 (λi Z=>∃v,Z=[.r (aF v)]/\v.length<=3*i) ⟨0,rfl,by omega,[],rfl,by simp⟩ ?_;rintro i _ hi ⟨v,rfl,H⟩;simp;split;rename_i al;have G:i<9:=by omega
 refine bM (bw+1) (λj Z=>1<=j/\∃v,Z=[.r (aF v)]/\v.length+1<=3*i+j) ⟨1,rfl,by omega,by omega,v,rfl,by omega⟩ ?_;rintro j _ hj ⟨an,v,rfl,H⟩;simp;split
 ·rename_i a0;have F:j<bw+1:=by omega
  simp[bG F (show bw+1<=140737488355328 by omega)]
  repeat'(first|intro _|split)
  all_goals first
   |exact⟨v,rfl,by omega⟩
   |(refine⟨by omega,_,rfl,by simp;omega⟩)
   |(refine⟨⟨by omega,by omega⟩,_,rfl,by simp;omega⟩)
 simp[bG G (show 9<=140737488355328 by omega)];exact⟨v,rfl,by omega⟩;rw[nM];refine⟨_,Iu (by simp;omega), ?_⟩;have E:(aU (aI.lex [4] true).lt v).length=v.length:=jC;simp;generalize hq:aU (aI.lex [4] true).lt v=q at E;refine bM q.length (λi Z=>∃u,Z=[.r (aF u)]/\u.length=i) ⟨0,rfl,by omega,[],rfl,rfl⟩ ?_;rintro k _ a1 ⟨u,rfl,hu⟩;simp;split;rename_i z;refine⟨z,by omega, ?_⟩;rw[bG (show k<q.length by omega) (show q.length<=140737488355328 by omega)];exact⟨_,rfl,by simp;omega⟩
 ·repeat'(first|intro _|split)
  all_goals first
   |exact⟨u,rfl,by omega⟩
   |(refine⟨by omega,_,rfl, ?_⟩;simp;omega)
   |(refine⟨⟨by omega,by omega⟩,_,rfl, ?_⟩;simp;omega)
 ·simp(config:={maxSteps:=10000000}) [T78,wk,aS V,aS U.1,Q,P,k1,k2,k3,k4,k5,k6]
  repeat' split
  all_goals exact⟨_,rfl,by simp⟩
 simp(config:={maxSteps:=10000000}) [T78,wk,aS V,aS U.1,Q,P];exact⟨_,rfl,by simp⟩
 ·simp(config:={maxSteps:=10000000}) [T78,wk,aS V,aS U.1,Q]
  repeat'(first|intro _|split)
  all_goals exact⟨_,rfl,by simp⟩
end
end
variable{X P:Nat}
section
section
variable{R:aT->Prop}{s:List LK}{t:T}{O:aa}{L:List PC}
variable(W D A B C f:Int)(d l m p q:RV)
def vB(v:RV)(i:Nat):Bool:=cK (ci v i 0) (ci v i 1) (ci v i 2) (ci v i 3)
def eO(u:RV)(i:Nat)(w:RV)(k:Nat):Bool:=vB u i&&vB w k&&vu (ci u i 0) (ci u i 1) (ci u i 2) (ci u i 3) (ci w k 0) (ci w k 1) (ci w k 2) (ci w k 3)
def qE(W D:Int)(u:RV)(i:Nat):Bool:=vB u i&&cK 0 (aR .mul .i64 841 W) 0 (aR .mul .i64 841 D)&&B5 (ci u i 0) (ci u i 1) (ci u i 2) (ci u i 3) 0 (aR .mul .i64 841 W) 0 (aR .mul .i64 841 D)
def gM(Z:RV):Nat->List (List RV)
 |0=>[]
 |i+1=>eK 2 [.mk (.int .i64 (ci Z i 0)) [],.mk (.int .i64 (ci Z i 1)) [],.mk (.bool true) []] (gM Z i)
def fw(Z:List (List RV))(a b:Nat):Bool:=BE.den ⟨[(a:Int),(b:Int)],[],[aF Z],[]⟩ (.look (.v 0) 2 (.v 0) (.v 1) (.c 0) 2)
def B7(Z:RV)(ae:Int):Nat->List (List RV)
 |0=>[]
 |i+1=>B7 Z ae i++[[.mk (.int .i64 (iX (ci Z i) ae 0)) [],.mk (.int .i64 (iX (ci Z i) ae 1)) [],.mk (.int .i64 (iX (ci Z i) ae 2)) [],.mk (.int .i64 (iX (ci Z i) ae 3)) []]]
def Iv(Z:RV)(ae:Int):∀i,(B7 Z ae i).length=i
 |0=>rfl
 |i+1=>by simp[B7,Iv Z ae i]
def ajP(Z:RV)(ae:Int){k:Nat}:∀{i},k<i->(B7 Z ae i)[k]?=some [.mk (.int .i64 (iX (ci Z k) ae 0)) [],.mk (.int .i64 (iX (ci Z k) ae 1)) [],.mk (.int .i64 (iX (ci Z k) ae 2)) [],.mk (.int .i64 (iX (ci Z k) ae 3)) []]
 |0,h=>by omega
 |i+1,h=>by
  by_cases X:k=i;subst X;rw[B7,axP (by rw[Iv];omega),Iv];simp;rw[B7,axL (by rw[Iv];omega)];exact ajP Z ae (by omega)
def lC(u:RV)(i:Nat)(Z:RV)(ae:Int)(g:Nat):Bool:=vB u i&&cK (iX (ci Z g) ae 0) (iX (ci Z g) ae 1) (iX (ci Z g) ae 2) (iX (ci Z g) ae 3)&&vu (ci u i 0) (ci u i 1) (ci u i 2) (ci u i 3) (iX (ci Z g) ae 0) (iX (ci Z g) ae 1) (iX (ci Z g) ae 2) (iX (ci Z g) ae 3)
def SD(Z:RV)(ae:Int)(h:P<X)(j:Nat)(V:j<4):bg (cellAt (B7 Z ae X) (P:Int) j).val=iX (ci Z P) ae j:=by
 simp only[cellAt,ayE,axN,ajP Z ae h]
 match j,V with
 |0,_|1,_|2,_|3,_=>rfl
def SE{N:Type}{v:List N}{Q:Prop}{P:Nat->Prop}(h:v=[]<->Q/\∀Z<X,P Z)(M:P X):v=[]<->Q/\∀Z<X+1,P Z:=by
 rw[h];refine⟨λ⟨V,U⟩=>⟨V,λZ J=> ?_⟩,λ⟨V,U⟩=>⟨V,λZ J=>U Z (by omega)⟩⟩;by_cases I:Z=X;subst I;exact M;exact U Z (by omega)
def SF{Z:Type}{v:List Z}{x:Z}{Q:Prop}{P:Nat->Prop}(V:¬P X):v++[x]=[]<->Q/\∀U<X+1,P U:=
 ⟨λh=>by simp at h,λ⟨_,N⟩=>absurd (N X (by omega)) V⟩
def arB{I:Type}{v:List I}{Q:Prop}{Z:Nat->Nat->Prop}(h:v=[]<->(Q/\∀V<X,∀b<P,Z V b)/\∀H<P,Z X H):v=[]<->Q/\∀V<X+1,∀b<P,Z V b:=by
 rw[h];refine⟨λ⟨⟨N,U⟩,M⟩=>⟨N,λV F b J=> ?_⟩,λ⟨N,U⟩=>⟨⟨N,λV M=>U V (by omega)⟩,U X (by omega)⟩⟩;by_cases G:V=X;subst G;exact M b J;exact U V (by omega) b J
structure ClE(wg:RV)(ae:Int)(mv hd pr:RV):Prop where
 wk:jR W D A B C f d l m p q=0
 nw:wg.rows.length<=8
 SH:gC ae 0 (f-1)=true
 lm:mv.rows.length=d.rows.length
 lh:hd.rows.length=d.rows.length
 vm:∀i<mv.rows.length,vB mv i=true
 vh:∀i<hd.rows.length,vB hd i=true
 B8:∀i<pr.rows.length,0<=ci pr i 0/\ci pr i 0<ci pr i 1/\ci pr i 1<d.rows.length
 pth:∀g<wg.rows.length,iX (ci wg g) ae 4=0
structure ClN(wg:RV)(ae:Int)(mv hd pr:RV):Prop where
 n1:∀a<d.rows.length,∀b,a<b->b<d.rows.length->fw (gM pr pr.rows.length) a b=true\/eO mv a mv b=true
 n2:∀a<d.rows.length,∀b,a<b->b<d.rows.length->fw (gM pr pr.rows.length) a b=true\/eO mv a hd b=true
 n3:∀a<d.rows.length,∀b,a<b->b<d.rows.length->fw (gM pr pr.rows.length) a b=true\/eO hd a mv b=true
 n4:∀a<d.rows.length,∀b,a<b->b<d.rows.length->fw (gM pr pr.rows.length) a b=true\/eO hd a hd b=true
 wgs:∀a<d.rows.length,∀g<wg.rows.length,lC mv a wg ae g=true/\lC hd a wg ae g=true
 arD:∀a<d.rows.length,qE W D mv a=true/\qE W D hd a=true
structure Mb(wg:RV)(ae:Int)(mv hd pr:RV):Prop extends ClE W D A B C f d l m p q wg ae mv hd pr,ClN W D d wg ae mv hd pr
def oK{P:Nat->Prop}(h:∀k<X,P k)(Z:P X):∀k<X+1,P k:=λk U=>by
 by_cases V:k=X;subst V;exact Z;exact h k (by omega)
def B9{A Q:Prop}{P:Nat->Prop}(h:A<->Q):A<->Q/\∀Z<0,P Z:=by simp[h]
def SI{A Q:Prop}{P:Nat->Prop}(h:A<->Q):A<->Q/\∀Z,X<Z->Z<X+1->P Z:=by
 rw[h];exact⟨λh=>⟨h,λZ V U=>by omega⟩,λh=>h.1⟩
def Ca{J:Type}{v:List J}{Q:Prop}{Z:Nat->Prop}(h:v=[]<->Q/\∀V,X<V->V<P->Z V)(I:Z P):v=[]<->Q/\∀V,X<V->V<P+1->Z V:=by
 rw[h];refine⟨λ⟨U,N⟩=>⟨U,λV M H=> ?_⟩,λ⟨U,N⟩=>⟨U,λV M H=>N V M (by omega)⟩⟩;by_cases G:V=P;subst G;exact I;exact N V M (by omega)
def SJ{V:Type}{v:List V}{x:V}{Q:Prop}{P:Nat->Prop}{b:Nat}(U:X<b)(N:¬P b):v++[x]=[]<->Q/\∀Z,X<Z->Z<b+1->P Z:=by
 refine⟨λh=>by simp at h,λ⟨J,M⟩=>absurd (M b U (by omega)) N⟩
def SK{G:Type}{v:List G}{Q:Prop}{Z:Nat->Nat->Prop}(h:v=[]<->(Q/\∀V<X,∀b,V<b->b<P->Z V b)/\∀N,X<N->N<P->Z X N):v=[]<->Q/\∀V<X+1,∀b,V<b->b<P->Z V b:=by
 rw[h];refine⟨λ⟨⟨M,U⟩,J⟩=>⟨M,λV E b I H=> ?_⟩,λ⟨M,U⟩=>⟨⟨M,λV J=>U V (by omega)⟩,U X (by omega)⟩⟩;by_cases F:V=X;subst F;exact J b I H;exact U V (by omega) b I H
def vD{e:Int}{K N:Prop}(X:e≠0)(V:¬K):∃v Z,(aF []=aF v/\e=Z)/\(¬Z=0->v=[])/\v.length<=1000000/\(Z=0<->K)/\(Z=0->(v=[]<->N)):=⟨[],e,⟨rfl,rfl⟩,λ_=>rfl,by simp,by simp[X,V],λh=>absurd h X⟩
set_option maxHeartbeats 8000000 in
def aCo (h:fF d l m p q) (M:RV) (ae:Int) (V U X:RV) (a3:Sl M) (a1:Sl V) (a2:Sl U) (bd:Sl X):∃o,TB.Ev 106 (wk W D A B C f d l m p q++[.r M,.i ae,.r V,.r U,.r X]) o/\∃v e,o=.ret [.r (aF v),.i e]/\(e≠0->v=[])/\v.length<=1000000/\(e=0<->ClE W D A B C f d l m p q M ae V U X)/\(e=0->(v=[]<->ClN W D d M ae V U X)):=by
 refine dw rfl rfl (.inl rfl) ?_;obtain⟨h1,h2⟩:=rZ W D A B C f d l m p q mR h;simp only[wk] at h1;simp(config:={maxSteps:=10000000}) [aaD,wk,h.rl.len,a3.len,a1.len,a2.len,aS h1];split
 case isFalse bf=>exact vD bf λK=>bf K.wk
 rename_i h0;have hw:=h2 h0;have hn:=hw.nr;have b6:=hw.br;split
 case isTrue h8=>exact vD (by omega) λK=>by have:=K.nw;omega
 rename_i h8;rw[show aR .sub .i64 f 1=f-1 by simp only[aR];exact fk (by omega) (by omega)];split
 case isFalse hb=>exact vD (by omega) λK=>hb (by simpa using K.SH)
 rename_i hb;split
 case isFalse hl=>exact vD (by omega) λK=>by have:=K.lm;omega
 rename_i b1;split
 case isFalse hl=>exact vD (by omega) λK=>by have:=K.lh;omega
 rename_i b2;refine bM V.rows.length (λi J=>J=[]/\∀k<i,vB V k=true) ⟨0,rfl,by omega,rfl,by omega⟩ ?_;rintro i _ E ⟨rfl,bk⟩;simp[a1.len];split;rename_i E;simp[bG E a1.sm,E];split;rename_i x;exact oK bk x;rename_i x;exact vD (by omega) λK=>x (K.vm i E)
 rename_i a4;have ac:i=V.rows.length:=by omega
 subst ac;refine bM U.rows.length (λi J=>J=[]/\∀k<i,vB U k=true) ⟨0,rfl,by omega,rfl,by omega⟩ ?_;rintro i _ E ⟨rfl,bs⟩;simp[a2.len];split;rename_i E;simp[bG E a2.sm,E];split;rename_i x;exact oK bs x;rename_i x;exact vD (by omega) λK=>x (K.vh i E)
 rename_i a4;have ac:i=U.rows.length:=by omega
 subst ac;refine bM X.rows.length (λi J=>J=[.r (aF []),.r (aF (gM X i))]/\∀k<i,0<=ci X k 0/\ci X k 0<ci X k 1/\ci X k 1<d.rows.length) ⟨0,rfl,by omega,rfl,by omega⟩ ?_;rintro i _ E ⟨rfl,bt⟩;simp[h.rl.len,bd.len];split;rename_i E;simp[bG E bd.sm,E];split;rename_i x;exact vD (by omega) λK=>by have:=K.B8 i E;simp only[ci] at this;omega
 split;rename_i x;exact vD (by omega) λK=>by have:=K.B8 i E;simp only[ci] at this;omega
 split;rename_i x;exact vD (by omega) λK=>by have:=K.B8 i E;simp only[ci] at this;omega
 exact⟨rfl,oK bt (by simp only[ci];omega)⟩;rename_i a4;have ac:i=X.rows.length:=by omega
 subst ac;refine bM M.rows.length (λi J=>J=[.r (aF (B7 M ae i)),.r (aF [])]/\∀k<i,iX (ci M k) ae 4=0) ⟨0,rfl,by omega,rfl,by omega⟩ ?_;rintro i _ E ⟨rfl,bx⟩;simp[a3.len];split;rename_i E;have bX:=f25 (ci M i) ae;simp only[Is,ci,axY,ax2] at bX;simp[bG E a3.sm,E,aS bX];split;rename_i x;exact⟨by rw[Iv];omega,rfl,oK bx x⟩;rename_i x;exact vD x λK=>x (K.pth i E)
 rename_i a4;have ac:i=M.rows.length:=by omega
 subst ac;have af:lenOf V.val=(d.rows.length:Int):=by rw[a1.len];exact b1
 have ag:lenOf U.val=(d.rows.length:Int):=by rw[a2.len];exact b2
 have b3:=Iv M ae M.rows.length;have s:d.rows.length<=140737488355328:=by omega
 obtain⟨Q1,b0⟩:∃Q:Prop,Q:=⟨True,trivial⟩;refine bM 0 (λi J=>J=[.r (aF [])]) ⟨0,rfl,by omega,rfl⟩ ?_;rintro z _ hz rfl;have b4:z=0:=by omega
 subst b4;simp;refine bM d.rows.length (λa J=>∃v,J=[.r (aF v)]/\v.length<=0+64*a/\(v=[]<->Q1/\∀Z<a,∀b,Z<b->b<d.rows.length->fw (gM X X.rows.length) Z b=true\/eO V Z V b=true)) ⟨0,rfl,by omega,_,rfl,by simp,B9 (by simp[b0]:([]:List (List RV))=[]<->Q1)⟩ ?_;rintro a _ G ⟨v,rfl,n,N⟩;simp[af];split;rename_i G;refine bM d.rows.length (λb J=>a<b/\∃v,J=[.r (aF v)]/\v.length<=0+64*a+b/\(v=[]<->(Q1/\∀Z<a,∀b,Z<b->b<d.rows.length->fw (gM X X.rows.length) Z b=true\/eO V Z V b=true)/\∀I,a<I->I<b->fw (gM X X.rows.length) a I=true\/eO V a V I=true)) ⟨a+1,B6 (by omega),by omega,by omega,v,rfl,by omega,SI N⟩ ?_;rintro b _ a5 ⟨al,v,rfl,n,N⟩;simp[h.rl.len,af];split;rename_i w;simp[bG w s];by_cases y:fw (gM X X.rows.length) a b=true;have F:=y;simp[fw] at F;rw[if_pos F];exact⟨by omega,v,rfl,by omega,Ca N (.inl y)⟩;have F:=y;simp[fw] at F;rw[F,if_neg (by simp)];refine⟨G,w, ?_⟩;by_cases H:eO V a V b=true;have bO:=H;simp[eO,vB,ci] at bO;rw[if_neg (by simp[bO])];exact⟨by omega,v,rfl,by omega,Ca N (.inr H)⟩;have bO:=H;simp[eO,vB,ci] at bO;rw[if_pos (by grind)];exact⟨by omega,by omega,_,rfl,by simp;omega,SJ (P:=λI=>fw (gM X X.rows.length) a I=true\/eO V a V I=true) al (by simp[y,H])⟩;rename_i w;have an:b=d.rows.length:=by omega
 subst an;simp[bG G s];exact⟨v,rfl,by omega,SK N⟩;rename_i a0;have u:a=d.rows.length:=by omega
 subst u;obtain⟨Q2,a6⟩:∃Q:Prop,Q<->(Q1/\∀Z<d.rows.length,∀b,Z<b->b<d.rows.length->fw (gM X X.rows.length) Z b=true\/eO V Z V b=true):=⟨_,Iff.rfl⟩;rw[<-a6] at N;refine bM d.rows.length (λa J=>∃v,J=[.r (aF v)]/\v.length<=5000+64*a/\(v=[]<->Q2/\∀Z<a,∀b,Z<b->b<d.rows.length->fw (gM X X.rows.length) Z b=true\/eO V Z U b=true)) ⟨0,rfl,by omega,_,rfl,by omega,B9 N⟩ ?_;rintro a _ G ⟨v,rfl,n,N⟩;simp[af];split;rename_i G;refine bM d.rows.length (λb J=>a<b/\∃v,J=[.r (aF v)]/\v.length<=5000+64*a+b/\(v=[]<->(Q2/\∀Z<a,∀b,Z<b->b<d.rows.length->fw (gM X X.rows.length) Z b=true\/eO V Z U b=true)/\∀I,a<I->I<b->fw (gM X X.rows.length) a I=true\/eO V a U I=true)) ⟨a+1,B6 (by omega),by omega,by omega,v,rfl,by omega,SI N⟩ ?_;rintro b _ a5 ⟨al,v,rfl,n,N⟩;simp[h.rl.len,af,ag];split;rename_i w;simp[bG w s];by_cases y:fw (gM X X.rows.length) a b=true;have F:=y;simp[fw] at F;rw[if_pos F];exact⟨by omega,v,rfl,by omega,Ca N (.inl y)⟩;have F:=y;simp[fw] at F;rw[F,if_neg (by simp)];refine⟨G,w, ?_⟩;by_cases H:eO V a U b=true;have bO:=H;simp[eO,vB,ci] at bO;rw[if_neg (by simp[bO])];exact⟨by omega,v,rfl,by omega,Ca N (.inr H)⟩;have bO:=H;simp[eO,vB,ci] at bO;rw[if_pos (by grind)];exact⟨by omega,by omega,_,rfl,by simp;omega,SJ (P:=λI=>fw (gM X X.rows.length) a I=true\/eO V a U I=true) al (by simp[y,H])⟩;rename_i w;have an:b=d.rows.length:=by omega
 subst an;simp[bG G s];exact⟨v,rfl,by omega,SK N⟩;rename_i a0;have u:a=d.rows.length:=by omega
 subst u;obtain⟨Q3,a7⟩:∃Q:Prop,Q<->(Q2/\∀Z<d.rows.length,∀b,Z<b->b<d.rows.length->fw (gM X X.rows.length) Z b=true\/eO V Z U b=true):=⟨_,Iff.rfl⟩;rw[<-a7] at N;refine bM d.rows.length (λa J=>∃v,J=[.r (aF v)]/\v.length<=10000+64*a/\(v=[]<->Q3/\∀Z<a,∀b,Z<b->b<d.rows.length->fw (gM X X.rows.length) Z b=true\/eO U Z V b=true)) ⟨0,rfl,by omega,_,rfl,by omega,B9 N⟩ ?_;rintro a _ G ⟨v,rfl,n,N⟩;simp[ag];split;rename_i G;refine bM d.rows.length (λb J=>a<b/\∃v,J=[.r (aF v)]/\v.length<=10000+64*a+b/\(v=[]<->(Q3/\∀Z<a,∀b,Z<b->b<d.rows.length->fw (gM X X.rows.length) Z b=true\/eO U Z V b=true)/\∀I,a<I->I<b->fw (gM X X.rows.length) a I=true\/eO U a V I=true)) ⟨a+1,B6 (by omega),by omega,by omega,v,rfl,by omega,SI N⟩ ?_;rintro b _ a5 ⟨al,v,rfl,n,N⟩;simp[h.rl.len,af,ag];split;rename_i w;simp[bG w s];by_cases y:fw (gM X X.rows.length) a b=true;have F:=y;simp[fw] at F;rw[if_pos F];exact⟨by omega,v,rfl,by omega,Ca N (.inl y)⟩;have F:=y;simp[fw] at F;rw[F,if_neg (by simp)];refine⟨G,w, ?_⟩;by_cases H:eO U a V b=true;have bO:=H;simp[eO,vB,ci] at bO;rw[if_neg (by simp[bO])];exact⟨by omega,v,rfl,by omega,Ca N (.inr H)⟩;have bO:=H;simp[eO,vB,ci] at bO;rw[if_pos (by grind)];exact⟨by omega,by omega,_,rfl,by simp;omega,SJ (P:=λI=>fw (gM X X.rows.length) a I=true\/eO U a V I=true) al (by simp[y,H])⟩;rename_i w;have an:b=d.rows.length:=by omega
 subst an;simp[bG G s];exact⟨v,rfl,by omega,SK N⟩;rename_i a0;have u:a=d.rows.length:=by omega
 subst u;obtain⟨Q4,a8⟩:∃Q:Prop,Q<->(Q3/\∀Z<d.rows.length,∀b,Z<b->b<d.rows.length->fw (gM X X.rows.length) Z b=true\/eO U Z V b=true):=⟨_,Iff.rfl⟩;rw[<-a8] at N;refine bM d.rows.length (λa J=>∃v,J=[.r (aF v)]/\v.length<=15000+64*a/\(v=[]<->Q4/\∀Z<a,∀b,Z<b->b<d.rows.length->fw (gM X X.rows.length) Z b=true\/eO U Z U b=true)) ⟨0,rfl,by omega,_,rfl,by omega,B9 N⟩ ?_;rintro a _ G ⟨v,rfl,n,N⟩;simp[ag];split;rename_i G;refine bM d.rows.length (λb J=>a<b/\∃v,J=[.r (aF v)]/\v.length<=15000+64*a+b/\(v=[]<->(Q4/\∀Z<a,∀b,Z<b->b<d.rows.length->fw (gM X X.rows.length) Z b=true\/eO U Z U b=true)/\∀I,a<I->I<b->fw (gM X X.rows.length) a I=true\/eO U a U I=true)) ⟨a+1,B6 (by omega),by omega,by omega,v,rfl,by omega,SI N⟩ ?_;rintro b _ a5 ⟨al,v,rfl,n,N⟩;simp[h.rl.len,ag];split;rename_i w;simp[bG w s];by_cases y:fw (gM X X.rows.length) a b=true;have F:=y;simp[fw] at F;rw[if_pos F];exact⟨by omega,v,rfl,by omega,Ca N (.inl y)⟩;have F:=y;simp[fw] at F;rw[F,if_neg (by simp)];refine⟨G,w, ?_⟩;by_cases H:eO U a U b=true;have bO:=H;simp[eO,vB,ci] at bO;rw[if_neg (by simp[bO])];exact⟨by omega,v,rfl,by omega,Ca N (.inr H)⟩;have bO:=H;simp[eO,vB,ci] at bO;rw[if_pos (by grind)];exact⟨by omega,by omega,_,rfl,by simp;omega,SJ (P:=λI=>fw (gM X X.rows.length) a I=true\/eO U a U I=true) al (by simp[y,H])⟩;rename_i w;have an:b=d.rows.length:=by omega
 subst an;simp[bG G s];exact⟨v,rfl,by omega,SK N⟩;rename_i a0;have u:a=d.rows.length:=by omega
 subst u;obtain⟨Q5,a9⟩:∃Q:Prop,Q<->(Q4/\∀Z<d.rows.length,∀b,Z<b->b<d.rows.length->fw (gM X X.rows.length) Z b=true\/eO U Z U b=true):=⟨_,Iff.rfl⟩;rw[<-a9] at N;have b7:M.rows.length<=8:=by omega
 refine bM d.rows.length (λa J=>∃v,J=[.r (aF v)]/\v.length<=20000+64*a/\(v=[]<->Q5/\∀Z<a,∀g<M.rows.length,lC V Z M ae g=true/\lC U Z M ae g=true)) ⟨0,rfl,by omega,_,rfl,by omega,B9 N⟩ ?_;rintro a _ G ⟨v,rfl,n,N⟩;simp[h.rl.len];split;rename_i G;refine bM M.rows.length (λg J=>∃v,J=[.r (aF v)]/\v.length<=20000+64*a+g/\(v=[]<->(Q5/\∀Z<a,∀g<M.rows.length,lC V Z M ae g=true/\lC U Z M ae g=true)/\∀g'<g,lC V a M ae g'=true/\lC U a M ae g'=true)) ⟨0,rfl,by omega,v,rfl,by omega,B9 N⟩ ?_;rintro g _ hg ⟨v,rfl,n,N⟩;simp[af,ag,b3];split;rename_i hg;have c0:=SD M ae hg 0 (by omega);have c1:=SD M ae hg 1 (by omega);have c2:=SD M ae hg 2 (by omega);have c3:=SD M ae hg 3 (by omega);simp[bG hg (show M.rows.length<=140737488355328 by omega),c0,c1,c2,c3];refine⟨hg,G, ?_⟩;by_cases H:lC V a M ae g=true;have bO:=H;simp[lC,vB,ci] at bO;rw[if_neg (by simp[bO])];refine⟨G, ?_⟩;by_cases j:lC U a M ae g=true;have c:=j;simp[lC,vB,ci] at c;rw[if_neg (by simp[c])];exact⟨v,rfl,by omega,SE N ⟨H,j⟩⟩;have c:=j;simp[lC,vB,ci] at c;rw[if_pos (by grind)];exact⟨by omega,_,rfl,by simp;omega,SF (P:=λg'=>lC V a M ae g'=true/\lC U a M ae g'=true) (by simp[j])⟩;have bO:=H;simp[lC,vB,ci] at bO;rw[if_pos (by grind)];exact⟨by omega,_,rfl,by simp;omega,SF (P:=λg'=>lC V a M ae g'=true/\lC U a M ae g'=true) (by simp[H])⟩;rename_i b8;have b5:g=M.rows.length:=by omega
 subst b5;simp[bG G s];exact⟨v,rfl,by omega,arB N⟩;rename_i a0;have u:a=d.rows.length:=by omega
 subst u;obtain⟨Q6,bb⟩:∃Q:Prop,Q<->(Q5/\∀Z<d.rows.length,∀g<M.rows.length,lC V Z M ae g=true/\lC U Z M ae g=true):=⟨_,Iff.rfl⟩;rw[<-bb] at N;refine bM d.rows.length (λa J=>∃v,J=[.r (aF v)]/\v.length<=30000+a/\(v=[]<->Q6/\∀Z<a,qE W D V Z=true/\qE W D U Z=true)) ⟨0,rfl,by omega,_,rfl,by omega,B9 N⟩ ?_;rintro a _ G ⟨v,rfl,n,N⟩;simp[h.rl.len,af,ag];split;rename_i G;simp[bG G s];refine⟨G, ?_⟩;by_cases H:qE W D V a=true;have bO:=H;simp[qE,vB,ci] at bO;by_cases j:qE W D U a=true;have c:=j;simp[qE,vB,ci] at c;simp[bO,c];exact⟨v,rfl,by omega,SE N ⟨H,j⟩⟩;have c:=j;simp[qE,vB,ci] at c;rw[if_neg (by simp[bO]),if_pos (by grind)];exact⟨by omega,_,rfl,by simp;omega,SF (P:=λZ=>qE W D V Z=true/\qE W D U Z=true) (by simp[j])⟩;have bO:=H;simp[qE,vB,ci] at bO;rw[if_pos (by grind)];exact⟨by omega,_,rfl,by simp;omega,SF (P:=λZ=>qE W D V Z=true/\qE W D U Z=true) (by simp[H])⟩;rename_i a0;have u:a=d.rows.length:=by omega
 subst u;refine⟨v,0,⟨rfl,rfl⟩,by simp,by omega,⟨λ_=>⟨h0,by omega,by simpa using hb,by omega,by omega,bk,bs,bt,bx⟩,λ_=>rfl⟩,λ_=> ?_⟩;rw[N];refine⟨λ⟨q6,ed⟩=> ?_,λK=>⟨bb.2 ⟨a9.2 ⟨a8.2 ⟨a7.2 ⟨a6.2 ⟨b0,K.n1⟩,K.n2⟩,K.n3⟩,K.n4⟩,K.wgs⟩,K.arD⟩⟩;obtain⟨q5,w1⟩:=bb.1 q6;obtain⟨q4,n4⟩:=a9.1 q5;obtain⟨q3,n3⟩:=a8.1 q4;obtain⟨q2,n2⟩:=a7.1 q3;obtain⟨_,n1⟩:=a6.1 q2;exact⟨n1,n2,n3,n4,w1,ed⟩
end
end
variable{N:Bool}
section
section
variable{lt:List RV->List RV->Bool}
def xK(lt:List RV->List RV->Bool)(l:List (List RV)):Prop:=l.Pairwise λx y=>lt x y=true
def xK.eq(V:∀x,lt x x=false)(U:∀x y z,lt x y=true->lt y z=true->lt x z=true):∀{l Z:List (List RV)},xK lt l->xK lt Z->l.Perm Z->l=Z
 |[],Z,_,_,h=>(List.Perm.nil_eq h)
 |x::l,[],_,_,h=>(by have:=h.length_eq;simp at this)
 |x::l,y::Z,P,O,h=>by
  have R:=ax5.1 P;have Q:=ax5.1 O;have N:x=y:=by
   have X:x∈y::Z:=h.mem_iff.1 (by simp);have W:y∈x::l:=h.mem_iff.2 (by simp);rcases axT.1 X with X|X;exact X;rcases axT.1 W with W|W;exact W.symm;have:=U _ _ _ (R.1 y W) (Q.1 x X);rw[V] at this;cases this
  subst N;rw[xK.eq V U R.2 Q.2 (List.perm_cons x|>.1 h)]
def ajQ(W:∀x y z,lt x y=true->lt y z=true->lt x z=true){x:List RV}:∀{l:List (List RV)},xK lt l->(∀y∈l,lt x y=true\/lt y x=true)->xK lt (cU lt x l)
 |[],_,_=>aAM _ _
 |y::r,h,V=>by
  have g:=ax5.1 h;simp only[cU];split;rename_i X;refine ax5.2 ⟨λz Z=> ?_,h⟩;rcases axT.1 Z with rfl|Z;exact X;exact W _ _ _ X (g.1 z Z);rename_i X;have U:lt y x=true:=(V y (by simp)).resolve_left X;refine ax5.2 ⟨λz Z=> ?_,ajQ W g.2 λz Z=>V z (by simp[Z])⟩;rcases NN.1 Z with rfl|Z;exact U;exact g.1 z Z
def ajR(X:∀x y z,lt x y=true->lt y z=true->lt x z=true):∀(l acc:List (List RV)),xK lt acc->(∀x∈l,∀y∈acc,lt x y=true\/lt y x=true)->l.Pairwise (λx y=>lt x y=true\/lt y x=true)->xK lt (l.foldl (λacc x=>cU lt x acc) acc)
 |[],acc,h,_,_=>h
 |x::l,acc,h,W,U=>by
  have g:=ax5.1 U;refine ajR X l _ (ajQ X h λy Z=>W x (by simp) y Z) (λz V y Z=> ?_) g.2;rcases NN.1 Z with rfl|Z;exact(g.1 z V).symm;exact W z (by simp[V]) y Z
def ajS(X:∀x y z,lt x y=true->lt y z=true->lt x z=true)(h:Z.Pairwise (λx y=>lt x y=true\/lt y x=true)):xK lt (aU lt Z):=ajR X Z [] ayv (by simp) h
def ajT(U:∀x,lt x x=false)(W:∀x y z,lt x y=true->lt y z=true->lt x z=true){X:List (List RV)}(V:X.Perm Z)(h:Z.Pairwise (λx y=>lt x y=true\/lt y x=true)):aU lt X=aU lt Z:=by
 have R:X.Pairwise (λx y=>lt x y=true\/lt y x=true):=(V.symm.pairwise_iff (λ{x y} h=>h.symm)).1 h;exact xK.eq U W (ajS W R) (ajS W h) (((zR X).trans V).trans (zR Z).symm)
end
def aaR(d:Bool):∀(Z:List Nat)(x:List RV),fJ d Z x x=false
 |[],_=>rfl
 |c::Z,x=>by simp[fJ,aaR d Z x]
def aaS(d:Bool):∀(U:List Nat)(x y z:List RV),fJ d U x y=true->fJ d U y z=true->fJ d U x z=true
 |[],_,_,_,h,_=>by simp[fJ] at h
 |c::U,x,y,z,W,Z=>by
  simp only[fJ] at W Z⊢;by_cases V:aP c x=aP c y;by_cases X:aP c y=aP c z;rw[if_pos V] at W;rw[if_pos X] at Z;rw[if_pos (V.trans X)];exact aaS d U x y z W Z;rw[if_neg X] at Z;rw[if_neg (by rw[V];exact X),V];exact Z;rw[if_neg V] at W;by_cases X:aP c y=aP c z;rw[if_neg (by rw[<-X];exact V),<-X];exact W;rw[if_neg X] at Z;cases d;simp at W Z;rw[if_neg (by omega)];simp;omega;simp at W Z;rw[if_neg (by omega)];simp;omega
def aaT(d:Bool):∀(Z:List Nat)(x y:List RV),(∃c∈Z,aP c x≠aP c y)->fJ d Z x y=true\/fJ d Z y x=true
 |[],_,_,⟨_,h,_⟩=>by cases h
 |c::Z,x,y,h=>by
  simp only[fJ];by_cases e:aP c x=aP c y;rw[if_pos e,if_pos e.symm];obtain⟨V,X,W⟩:=h;rcases axT.1 X with rfl|X;exact absurd e W;exact aaT d Z x y ⟨V,X,W⟩;clear h;have U:¬aP c y=aP c x:=λR=>e R.symm
  rw[if_neg e,if_neg U];cases d<;>simp<;>omega
def vE(Z:List Nat)(X:List (List RV)):Prop:=X.Pairwise λx y=>∃c∈Z,aP c x≠aP c y
def ajU{Z:List Nat}{d:Bool}:∀{X:List (List RV)},vE Z X->pU (aI.lex Z d).lt X=true
 |[],_=>rfl
 |x::r,h=>by
  have g:=ax5.1 h;simp only[pU,axI,axU,ayb];exact⟨λy W=>aaT d Z x y (g.1 y W),ajU g.2⟩
def ajV{aA:List (List RV)}(W:Z.length<=1099511627776)(h:vE Q Z)(X:aA.Perm Z):dB (.lex Q U) N aA=some (aU (aI.lex Q U).lt Z):=by
 have V:vE Q aA:=(X.symm.pairwise_iff (λ{x y} h=>by obtain⟨c,R,P⟩:=h;exact⟨c,R,λe=>P e.symm⟩)).1 h;have O:aA.length<=1099511627776:=by rw[X.length_eq];exact W
 simp only[dB];rw[if_pos (by simp[O,ajU V,aI.ok])];exact congrArg some (ajT (aaR U Q) (aaS U Q) X (h.imp λM=>aaT U Q _ _ M))
end
variable{V:List RV}
def pG(n:Nat)(Z:List RV):∀m:List (List RV),(eK n Z m).length<=m.length+1
 |[]=>by simp[eK]
 |r::X=>by
  have:=pG n Z X;simp only[eK];split<;>simp<;>omega
def aaU{n:Nat}{Z y:List RV}:∀{m:List (List RV)},y∈eK n Z m->y=Z\/y∈m
 |[],h=>by simp[eK] at h;exact .inl h
 |r::X,h=>by
  simp only[eK] at h;split at h;rcases axT.1 h with h|h;exact .inl h;exact .inr (by simp[h]);rcases axT.1 h with h|h;exact .inr (by simp[h]);rcases aaU h with h|h;exact .inl h;exact .inr (by simp[h])
def arG{r:List RV}(Z:V.length=4)(X:r.length=4):i8 3 ((V.take 3).map λc=>bg c.val) r=true<->∀c∈[0,1,2],aP c r=aP c V:=by
 match V,Z,r,X with
 |[a,b,c,d],_,[W,U,R,Q],_=>simp[i8,aP]
structure gp(m:List (List RV)):Prop where
 keys:vE [0,1,2] m
 four:∀x∈m,x.length=4
def gp.nil:gp []:=⟨ayv,by simp⟩
def gp.ins{Q:List RV}(V:Q.length=4):∀{m:List (List RV)},gp m->gp (eK 3 Q m)
 |[],_=>⟨by simp[eK,vE],by simp[eK,V]⟩
 |r::O,h=>by
  have g:=ax5.1 h.keys;have bp:gp O:=⟨g.2,λx Z=>h.four x (by simp[Z])⟩;have N:=gp.ins V bp;have P:=arG V (h.four r (by simp));refine⟨?_,λx Z=> ?_⟩;simp only[eK];split;rename_i X;have X:=P.1 X;refine ax5.2 ⟨λy W=> ?_,g.2⟩;obtain⟨c,U,R⟩:=g.1 y W;exact⟨c,U,by rw[<-X c U];exact R⟩;rename_i X;refine ax5.2 ⟨λy W=> ?_,N.keys⟩;rcases aaU W with rfl|W;have:¬∀c∈[0,1,2],aP c r=aP c y:=λM=>X (P.2 M)
  simp only[Classical.not_forall] at this;obtain⟨c,U,R⟩:=this;exact⟨c,U,R⟩;exact g.1 y W;rcases aaU Z with rfl|Z;exact V;exact h.four x Z
section
section
variable{R:aT->Prop}{E:List LK}{t:T}{O:aa}{L:List PC}
variable(W D A B C l:Int)(d q u x y:RV)
@[simp] def axC (v:RV) (Z X V U Q P N M J I H G F z y x:Int):eu TB.Ev R 75 [.r (cd .str v),.i Z,.i X,.i V,.i U,.i Q,.i P,.i N,.i M,.i J,.i I,.i H,.i G,.i F,.i z,.i y,.i x] E t O L=eE TB.Ev R (.ret [.i (vC (cd .str v) Z X V U Q P N M J I H G F z y x)]) E t O L:=c75 _ (tX v) Z X V U Q P N M J I H G F z y x
def EA(Z X V U Q P N M J I H G F:Int)(s:RV)(E z y x w v u q p o n m l j h g:Int)(k:Nat):Int:=oi 27 [.i Z,.i X,.i V,.i U,.i Q,.i P,.i N,.i M,.i J,.i I,.i H,.i G,.i F,.r s,.i E,.i z,.i y,.i x,.i w,.i v,.i u,.i q,.i p,.i o,.i n,.i m,.i l,.i j,.i h,.i g] k
@[simp] def c27 (Z X V U Q P N M J I H G F:Int) (v:RV) (z y x w u s q p o n m l k j h g:Int):eu TB.Ev R 27 [.i Z,.i X,.i V,.i U,.i Q,.i P,.i N,.i M,.i J,.i I,.i H,.i G,.i F,.r (cd .str v),.i z,.i y,.i x,.i w,.i u,.i s,.i q,.i p,.i o,.i n,.i m,.i l,.i k,.i j,.i h,.i g] E t O L=eE TB.Ev R (.ret [.i (EA Z X V U Q P N M J I H G F (cd .str v) z y x w u s q p o n m l k j h g 0),.i (EA Z X V U Q P N M J I H G F (cd .str v) z y x w u s q p o n m l k j h g 1),.i (EA Z X V U Q P N M J I H G F (cd .str v) z y x w u s q p o n m l k j h g 2),.i (EA Z X V U Q P N M J I H G F (cd .str v) z y x w u s q p o n m l k j h g 3),.i (EA Z X V U Q P N M J I H G F (cd .str v) z y x w u s q p o n m l k j h g 4)]) E t O L:=aS (j7 (kI 5) (t27 Z X V U Q P N M J I H G F _ (tX v) z y x w u s q p o n m l k j h g))
def tY(Z:RV)(i:Nat):Int:=vC (cd .str (cellAt Z.rows (i:Int) 0)) (ci Z i 1) (ci Z i 2) (ci Z i 3) (ci Z i 4) (ci Z i 5) (ci Z i 6) (ci Z i 7) (ci Z i 8) (ci Z i 9) (ci Z i 10) (ci Z i 11) (ci Z i 12) (ci Z i 13) (ci Z i 14) (ci Z i 15) (ci Z i 16)
def SL(v:RV)(i:Nat):Int:=o74 (ci v i 0) (ci v i 1) (ci v i 2) (ci v i 3) (ci v i 4) (ci v i 5) (ci v i 6) (ci v i 7) (ci v i 8) (ci v i 9) (ci v i 10) (ci v i 11) (ci v i 12)
def eF(v Z:RV)(i k:Nat):Int:=EA (ci v i 0) (ci v i 1) (ci v i 2) (ci v i 3) (ci v i 4) (ci v i 5) (ci v i 6) (ci v i 7) (ci v i 8) (ci v i 9) (ci v i 10) (ci v i 11) (ci v i 12) (cd .str (cellAt Z.rows (i:Int) 0)) (ci Z i 1) (ci Z i 2) (ci Z i 3) (ci Z i 4) (ci Z i 5) (ci Z i 6) (ci Z i 7) (ci Z i 8) (ci Z i 9) (ci Z i 10) (ci Z i 11) (ci Z i 12) (ci Z i 13) (ci Z i 14) (ci Z i 15) (ci Z i 16) k
def m85(ae:Int)(Z:RV)(i:Nat):Int:=oi 85 (wk W D A B C l d q u x y++[.i i,.i ae,.r (cr 96 Z i)]) 0
def m89(ae:Int)(Z X:RV)(i k:Nat):Int:=oi 89 (wk W D A B C l d q u x y++[.i i,.i ae,.i (ci Z i 0),.i (ci Z i 1),.i (ci Z i 2),.i (ci Z i 3),.i (ci Z i 4),.i (ci Z i 5),.i (ci Z i 6),.i (ci Z i 7),.i (ci Z i 8),.i (ci Z i 9),.i (ci Z i 10),.i (ci Z i 11),.i (ci Z i 12),.r (cr 96 X i)]) k
def Mc(ae:Int)(X Z V:RV)(i k:Nat):Int:=oi 90 (wk W D A B C l d q u x y++[.i i,.i ae,.i (ci X i 0),.i (ci X i 1),.i (ci X i 2),.i (ci X i 3),.i (ci X i 4),.i (ci X i 5),.i (ci X i 6),.i (ci X i 7),.i (ci X i 8),.i (ci X i 9),.i (ci X i 10),.i (ci X i 11),.i (ci X i 12),.r (cd .str (cellAt Z.rows (i:Int) 0)),.i (ci Z i 1),.i (ci Z i 2),.i (ci Z i 3),.i (ci Z i 4),.i (ci Z i 5),.i (ci Z i 6),.i (ci Z i 7),.i (ci Z i 8),.i (ci Z i 9),.i (ci Z i 10),.i (ci Z i 11),.i (ci Z i 12),.i (ci Z i 13),.i (ci Z i 14),.i (ci Z i 15),.i (ci Z i 16),.r (cr 96 V i)]) k
def gS(ae:Int)(X Z V:RV)(i k:Nat):Int:=if cb X i 0 then m89 W D A B C l d q u x y ae Z V i k else ci Z i k
def gB(ae:Int)(V Z X U:RV)(i k:Nat):Int:=if cb V i 0 then Mc W D A B C l d q u x y ae Z X U i k else eF Z X i k
structure EB(d wg bd mv bf af re bx:RV):Prop where
 wg:Sl wg
 bd:Sl bd
 mv:Sl mv
 bf:Sl bf
 af:Sl af
 rsl:Sl re
 bx:Sl bx
 eP:∀i<re.rows.length,Sl (cr 96 re i)/\(cr 96 re i).rows.length<=100
structure ajX(ae:Int)(wg bd mv bf af re bx:RV):Prop where
 wk:jR W D A B C l d q u x y=0
 nw:wg.rows.length<=8
 br:0<=ae/\ae<l
 EC:af.rows.length=d.rows.length
 Me:bx.rows.length=d.rows.length
 xL:bd.rows.length=d.rows.length
 Mf:mv.rows.length=d.rows.length
 ED:bf.rows.length=d.rows.length
 Iw:re.rows.length=d.rows.length
 eB:∀i<d.rows.length,tY bd i=0/\SL bf i=0/\(if cb mv i 0 then m85 W D A B C l d q u x y ae re i=0 else(cr 96 re i).rows=[])
 box:∀i<d.rows.length,vB bx i=true/\SL af i=0
 pth:∀g<wg.rows.length,iX (ci wg g) ae 4=0
def zS(ae:Int)(U Z X V:RV)(i:Nat):Prop:=if cb U i 0 then m89 W D A B C l d q u x y ae Z V i 13=0/\Mc W D A B C l d q u x y ae Z X V i 4=0 else eF Z X i 4=0
def Fst(v:RV)(id:Int)(m:Nat):Prop:=m<v.rows.length/\ci v m 0=id/\∀Z<m,ci v Z 0≠id
def Cb(Z:RV)(id:Int)(i:Nat):List XV:=out 78 (wk W D A B C l d q u x y++[.i id,.r (cd .str (cellAt Z.rows (i:Int) 0)),.i (ci Z i 1),.i (ci Z i 2),.i (ci Z i 3),.i (ci Z i 4),.i (ci Z i 5),.i (ci Z i 6),.i (ci Z i 7),.i (ci Z i 8),.i (ci Z i 9),.i (ci Z i 10),.i (ci Z i 11),.i (ci Z i 12),.i (ci Z i 13),.i (ci Z i 14),.i (ci Z i 15),.i (ci Z i 16)])
def SM(ae:Int)(Z X V U Q:RV)(c:Nat->Int):Bool:=ob 103 (wk W D A B C l d q u x y++[.i ae,.r Z,.r X,.r V,.r U,.r Q]++fu c) 0
def SN(ae:Int)(X V U Q Z P:RV)(i k:Nat):Prop:=∀m,Fst (cr 96 Z i) (aZ (cm W D A B C l d q u x y i ae) k 0) m->
 xi (Cb W D A B C l d q u x y X (aZ (cm W D A B C l d q u x y i ae) k 0) i) 1=0/\
 ob 102 [.r (xr (Cb W D A B C l d q u x y X (aZ (cm W D A B C l d q u x y i ae) k 0) i) 0),.i (ci (cr 96 Z i) m 0),.i (ci (cr 96 Z i) m 1),.i (ci (cr 96 Z i) m 2),.b (cb (cr 96 Z i) m 3)] 0=true/\
 (aZ (cm W D A B C l d q u x y i ae) k 4=7\/aZ (cm W D A B C l d q u x y i ae) k 4=8->cb (cr 96 Z i) m 3=true\/SM W D A B C l d q u x y ae V U Q Z P (aZ (cm W D A B C l d q u x y i ae) k)=true)
def vF(ae:Int)(Z X V:RV)(i:Nat):List XV:=out 104 (wk W D A B C l d q u x y++[.i i,.i ae,.i (ci Z i 0),.i (ci Z i 1),.i (ci Z i 2),.i (ci Z i 3),.i (ci Z i 4),.i (ci Z i 5),.i (ci Z i 6),.i (ci Z i 7),.i (ci Z i 8),.i (ci Z i 9),.i (ci Z i 10),.i (ci Z i 11),.i (ci Z i 12),.r X,.r (cr 96 V i)])
structure EE(ae:Int)(bd mv bf af re bx:RV)(i:Nat):Prop where
 aft:∀j<13,ci af i j=gS W D A B C l d q u x y ae mv bf re i j
 SH:cK (gB W D A B C l d q u x y ae mv bf bd re i 0) (gB W D A B C l d q u x y ae mv bf bd re i 1) (gB W D A B C l d q u x y ae mv bf bd re i 2) (gB W D A B C l d q u x y ae mv bf bd re i 3)=true/\vB bx i=true
 ins:B5 (gB W D A B C l d q u x y ae mv bf bd re i 0) (gB W D A B C l d q u x y ae mv bf bd re i 1) (gB W D A B C l d q u x y ae mv bf bd re i 2) (gB W D A B C l d q u x y ae mv bf bd re i 3) (ci bx i 0) (ci bx i 1) (ci bx i 2) (ci bx i 3)=true
 Iq:cb mv i 0=true->(∀k<(cm W D A B C l d q u x y i ae).length,SN W D A B C l d q u x y ae bd mv bf af re bx i k)/\xi (vF W D A B C l d q u x y ae bf bd re i) 1=0/\(xr (vF W D A B C l d q u x y ae bf bd re i) 0).rows=[]
def nN(ae:Int):List XV:=out 23 (wk W D A B C l d q u x y++[.i ae])
def oL(v Z:RV):Nat->List (List RV)
 |0=>[]
 |i+1=>oL v Z i++[[.mk (.int .i64 (eF v Z i 0)) [],.mk (.int .i64 (eF v Z i 1)) [],.mk (.int .i64 (eF v Z i 2)) [],.mk (.int .i64 (eF v Z i 3)) []]]
def tZ(v Z:RV)(i k:Nat):Bool:=cK (eF v Z i 0) (eF v Z i 1) (eF v Z i 2) (eF v Z i 3)&&cK (eF v Z k 0) (eF v Z k 1) (eF v Z k 2) (eF v Z k 3)&&vu (eF v Z i 0) (eF v Z i 1) (eF v Z i 2) (eF v Z i 3) (eF v Z k 0) (eF v Z k 1) (eF v Z k 2) (eF v Z k 3)
structure zT(ae:Int)(wg bd mv bf af re bx:RV):Prop where
 ex:ajX W D A B C l d q u x y ae wg bd mv bf af re bx
 Ix:∀i<d.rows.length,zS W D A B C l d q u x y ae mv bf bd re i
 ro:∀i<d.rows.length,EE W D A B C l d q u x y ae bd mv bf af re bx i
 B8:xi (nN W D A B C l d q u x y ae) 1=0
 st1:∀i<d.rows.length,eF bf bd i 4=0
 st2:∀i<d.rows.length,eF af bd i 4=0
 cl:Mb W D A B C l d q u x y wg ae bx (aF (oL bf bd d.rows.length)) (xr (nN W D A B C l d q u x y ae) 0)
 eO:∀p<(xr (nN W D A B C l d q u x y ae) 0).rows.length,tZ bf bd (ci (xr (nN W D A B C l d q u x y ae) 0) p 0).toNat (ci (xr (nN W D A B C l d q u x y ae) 0) p 1).toNat=true/\tZ af bd (ci (xr (nN W D A B C l d q u x y ae) 0) p 0).toNat (ci (xr (nN W D A B C l d q u x y ae) 0) p 1).toNat=true
def SO:Prop:=∀(W D A B C l:Int)(d q u x y:RV)(_:fF d q u x y)(aN ae:Int)(X V U Q P N M J I H G F E:Int)(Z r:RV)(_:Sl Z)(_:Sl r),∃o,TB.Ev 104 (wk W D A B C l d q u x y++[.i aN,.i ae,.i X,.i V,.i U,.i Q,.i P,.i N,.i M,.i J,.i I,.i H,.i G,.i F,.i E,.r Z,.r r]) o/\∃v e,o=.ret [.r (aF v),.i e]/\v.length<=100000
def Iy{j:Nat}(h:Z.length=X):cellAt (Z++[V]) (X:Int) j=V.getD j default:=by
 subst h;simp[cellAt]
def SP{w:List (List RV)}{j:Nat}(h:X<Z.length):cellAt (Z++w) (X:Int) j=cellAt Z (X:Int) j:=by
 simp[cellAt,axL h]
def Cc(h:U=true->N=false):¬(U=true/\N=true):=by cases U<;>cases N<;>simp_all
def arI{c:Bool}(h:¬(U=true->N=false))(Z:(U=false\/N=false)\/c=false):¬c=true:=by cases U<;>cases N<;>cases c<;>simp_all
def arJ{c:Bool}(h:¬(U=true->N=false))(Z:¬((U=false\/N=false)\/c=false)):c=true:=by cases U<;>cases N<;>cases c<;>simp_all
def arK{P:Nat->Prop}(Z:P 0)(X:P 1)(V:P 2)(U:P 3)(Q:P 4)(N:P 5)(M:P 6)(J:P 7)(I:P 8)(H:P 9)(G:P 10)(F:P 11)(E:P 12):∀j<13,P j:=λj z=>by
 match j,z with
 |0,_=>exact Z
 |1,_=>exact X
 |2,_=>exact V
 |3,_=>exact U
 |4,_=>exact Q
 |5,_=>exact N
 |6,_=>exact M
 |7,_=>exact J
 |8,_=>exact I
 |9,_=>exact H
 |10,_=>exact G
 |11,_=>exact F
 |12,_=>exact E
def Cd(v Z:RV):∀i,(oL v Z i).length=i
 |0=>rfl
 |i+1=>by simp[oL,Cd v Z i]
def aj1(v Z:RV){k:Nat}:∀{i},k<i->(oL v Z i)[k]?=some [.mk (.int .i64 (eF v Z k 0)) [],.mk (.int .i64 (eF v Z k 1)) [],.mk (.int .i64 (eF v Z k 2)) [],.mk (.int .i64 (eF v Z k 3)) []]
 |0,h=>by omega
 |i+1,h=>by
  by_cases X:k=i;subst X;rw[oL,axP (by rw[Cd];omega),Cd];simp;rw[oL,axL (by rw[Cd];omega)];exact aj1 v Z (by omega)
def oM(v Z:RV){z:Int}(h:z.toNat<X)(j:Nat)(V:j<4):bg (cellAt (oL v Z X) z j).val=eF v Z z.toNat j:=by
 simp only[cellAt,axN,aj1 v Z h]
 match j,V with
 |0,_|1,_|2,_|3,_=>rfl
def bj{c:Prop}[Decidable c]{A B:Prop}(Z:c->A)(X:¬c->B):if c then A else B:=by
 by_cases h:c;rw[if_pos h];exact Z h;rw[if_neg h];exact X h
end
def T.at:List Nat->T->T
 |[],t=>t
 |0::p,.node _ t _=>t.at p
 |_::p,.node _ _ f=>f.at p
 |_::p,.az _ t=>t.at p
 |_::p,.call _ _ _ _ _ _ t=>t.at p
 |_::p,.loop _ _ _ t=>t.at p
 |_::p,.new _ _ _ _ t=>t.at p
 |_::p,.rows _ _ _ t=>t.at p
 |0::p,.ey _ _ t _=>t.at p
 |_::p,.ey _ _ _ f=>f.at p
 |0::p,.pick _ _ _ t _=>t.at p
 |_::p,.pick _ _ _ _ f=>f.at p
 |_::p,.dq _ _ _ _ _ _ _ t=>t.at p
 |_,t=>t
end
section
section
def mT(x:List RV):List RV:=[iV (aP 0 x),iV (aP 1 x),iV (aP 2 x)]
def iY(js:List Nat):List (List RV):=js.map λ(j:Nat)=>[iV (j:Int)]
def Mg(js:List Nat):(iY js).length=js.length:=by simp[iY]
def SQ{js:List Nat}{j:Nat}:(jA 1 [(j:Int),0,0] (iY js)).isSome=decide (j∈js):=by
 induction js with
 |nil=>rfl
 |cons a l Z=>
  simp only[iY,axV,jA,aAO] at Z⊢;by_cases h:a=j;subst h;simp[i8,iV,bg];have X:¬j=a:=λe=>h e.symm
  have:i8 1 [(j:Int),0,0] [iV a]=false:=by simp[i8,iV,bg];omega
  rw[this];simp only[Z,axT,X,false_or]
def aj2{js:List Nat}{j:Nat}(h:j∉js):eK 1 [iV j] (iY js)=iY (js++[j]):=by
 induction js with
 |nil=>rfl
 |cons a l Z=>
  simp only[axT,not_or] at h;have:¬i8 1 (([iV j].take 1).map λc=>bg c.val) [iV a]=true:=by simp[i8,iV,bg];omega
  simp only[iY,axV,eK,axY] at Z⊢;rw[if_neg this,Z h.2]
def Mh{Z:Type}[DecidableEq Z]:∀{a b:List Z},a.Nodup->(∀x∈a,x∈b)->a.length<=b.length
 |[],_,_,_=>ayK _
 |x::a,b,U,X=>by
  have g:=azu.1 U;have W:x∈b:=X x (by simp);have:=Mh (a:=a) (b:=b.erase x) g.2 λy V=>(aAq (λe=>g.1 (by rw[<-e];exact V))).2 (X y (by simp[V]))
  rw[az7 W] at this;have R:0<b.length:=aAT W;simp only[ayu];omega
def aj3{X:Type}[DecidableEq X]:∀{a b:List X},a.Nodup->(∀x∈a,x∈b)->b.length<=a.length->a.Perm b
 |[],b,_,_,Z=>by
  have:b=[]:=ayl.1 (Nat.le_zero.1 Z);rw[this]
 |x::a,b,R,W,Z=>by
  have g:=azu.1 R;have V:x∈b:=W x (by simp);have:=aj3 (a:=a) (b:=b.erase x) g.2 (λy U=>(aAq (λe=>g.1 (by rw[<-e];exact U))).2 (W y (by simp[U]))) (by rw[az7 V];simp only[ayu] at Z;omega);exact(this.cons x).trans (List.perm_cons_erase V).symm
structure Pk(n:Nat)(js:List Nat):Prop where
 nd:js.Nodup
 lt:∀j∈js,j<n
def Pk.nil(n:Nat):Pk n []:=⟨List.nodup_nil,by simp⟩
def Pk.add{j:Nat}{js:List Nat}(h:Pk X js)(V:j∉js)(R:j<X):Pk X (js++[j]):=⟨ayJ.2 ⟨h.nd,by simp,by intro a U b W e;simp at W;subst W;subst e;exact V U⟩,by
 intro k Z;rcases axS.1 Z with Z|Z;exact h.lt k Z;simp at Z;omega⟩
def Pk.len{js:List Nat}(h:Pk X js):js.length<=X:=by
 have:=Mh (b:=ax6 X) h.nd λj Z=>ayR.2 (h.lt j Z)
 simpa using this
def Pk.perm{js:List Nat}(h:Pk X js)(Z:X<=js.length):js.Perm (ax6 X):=aj3 h.nd (λj W=>ayR.2 (h.lt j W)) (by simpa using Z)
def Pk.more{js:List Nat}(U:¬X<=js.length):∃j<X,j∉js:=by
 apply Classical.byContradiction;intro Z;have:∀x∈ax6 X,x∈js:=λx W=>Classical.byContradiction λV=>Z ⟨x,ayR.1 W,V⟩
 have:=Mh List.nodup_range this;simp at this;omega
def EF(M:List (List RV))(js:List Nat):List (List RV):=js.map λj=>mT (M.getD j [])
def aj4(M:List (List RV))(js:List Nat):(EF M js).length=js.length:=by simp[EF]
def arL(M:List (List RV)):(ax6 M.length).map (λj=>mT (M.getD j []))=M.map mT:=by
 apply List.ext_getElem;simp;intro i Z X;simp at Z;simp[Z]
def arM{js:List Nat}(h:Pk Z.length js)(X:Z.length<=js.length):(EF Z js).Perm (Z.map mT):=by
 rw[<-arL];exact(h.perm X).map _
def aj5:∀c∈[0,1,2],aP c (mT V)=aP c V:=by
 intro c Z;simp at Z;rcases Z with rfl|rfl|rfl<;>simp[mT,aP,iV,bg]
def vE.arN(h:vE [0,1,2] Z):vE [0,1,2] (Z.map mT):=by
 refine azS.2 (h.imp λ{x y} W=> ?_);obtain⟨c,X,V⟩:=W;exact⟨c,X,by rw[aj5 c X,aj5 c X];exact V⟩
def arO(l:List (List RV)):uI (l.map mT) (l.map mT)=true:=by
 induction l with
 |nil=>rfl
 |cons x l Z=>simp[uI,Z,mT,wC,AK,iV]
def Iz(M:List (List RV)):List (List RV):=(aU (aI.lex [0,1,2] false).lt (M.map mT)).map mT
end
section
variable{L:List PC}
def aj6:List Nat:=[0,1,1,0,0,0,1,0,0,0,1,0,1,0,1,0,1,0,0,0,1,0,1,0,1,0,1,0,1,0,0,0,1,0,1,0,1]
set_option maxHeartbeats 8000000 in
def arQ (R:aT->Prop) (N J I H G E D C B A z y x w u t s q p:Int) (n m l g f e d c a r9 ac af ag al an a0 a1 a2 a3 a4 a5 a6 a7:RV) (M:List (List RV)) (a8:gp M) (hl:M.length<=536870912) (hR:R (.ret [.r (aF (Iz M)),.i 0])):
  T.wp TB.Ev R (Ag.at aj6) ⟨[N,J,I,H,G,E,D,C,B,A,z,y,x,w,u,t,s,q,p],[],[n,m,l,g,f,e,d,c,a,r9,ac,af,ag,al,an,a0,a1,a2,a3,a4,a5,a6,a7,aF M],[]⟩ L:=by
 rw[show Ag.at aj6=T.loop _ _ _ _ from rfl];refine ajq (· =.ret [.r (aF (Iz M)),.i 0]) (λo h=>h▸hR) (λV=>∃js,V=[.r (aF (EF M js)),.r (aF (iY js))]/\Pk M.length js) (λV=>match V with|[_,.r v]=>M.length-v.rows.length|_=>0) ⟨[],rfl,Pk.nil _⟩ ?_;rintro _ ⟨js,rfl,W⟩;have bf:=W.len;rw[ajp];refine⟨single ?_, ?_, ?_, ?_⟩;simp[sL,De,Dd,aF,AK,Iz,arO];by_cases hn:M.length<=js.length;exact az8 (Wp (by simp[Mg];omega));obtain⟨j,Z,X⟩:=Pk.more hn;refine az8 (Wo (j:=(j:Int)) (by omega) (by simp;omega) ?_);simp[SQ,X];intro j h0 Z X;obtain⟨j,rfl⟩:∃k:Nat,j=k:=⟨j.toNat,by omega⟩;have Z:j<M.length:=by simp at Z;omega
 have X:j∉js:=by simp[SQ] at X;exact X
 have U:=Mh (b:=ax6 M.length) (W.add X Z).nd λj U=>ayR.2 ((W.add X Z).lt j U)
 simp at U;have cZ:eK 1 [RV.mk (Value.int IntKind.i64 (j:Int)) []] (iY js)=iY (js++[j]):=aj2 X;have co:(iY (js++[j])).length=js.length+1:=by simp[iY]
 have bO:aR BinOp.sub IntKind.i64 ((js.length:Int)+1) 1=(js.length:Int):=by
  simp only[aR];rw[fk (by omega) (by omega)];omega
 have bi:bg (cellAt (iY (js++[j])) (js.length:Int) 0).val=(j:Int):=by
  rw[iY,aze];rw[show azC (λ(j:Nat)=>[iV (j:Int)]) [j]=[[iV (j:Int)]] from rfl,Iy (by simp)];rfl
 simp[Mg,aj4,cZ,bO,bi];rw[zO];refine⟨⟨by omega,Z⟩,by omega,⟨js++[j], ?_,W.add X Z⟩, ?_⟩;have:EF M (js++[j])=EF M js++[mT (M.getD j [])]:=by simp[EF]
 rw[this];simp[mT,aP,cellAt,iV];simp[aF,iY];omega;intro Z;have Z:M.length<=js.length:=by simp[Mg] at Z;omega
 have a9:=arM W Z;rw[nM];refine⟨_,ajV (by simp;omega) (vE.arN a8.keys) (by simpa using a9), ?_⟩;generalize Q:aU (aI.lex [0,1,2] false).lt (M.map mT)=F;have bk:F.length=M.length:=by rw[<-Q,(zR _).length_eq];simp
 have bb:=aj4 M js;refine bM M.length (λi bd=>bd=[.r (aF ((F.take i).map mT))]) ⟨0,rfl,ayK _,rfl⟩ ?_;rintro i _ P rfl;simp[bb];refine bj (λP=>⟨P,by omega, ?_⟩) (λbr=> ?_);have O:i<F.length:=by omega
 rw[bG (by omega) (by omega),aBq,axO,axK O];simp[mT,aP,cellAt,iV,O];have:F.length<=i:=by omega
 rw[ay0 (by simpa using this),Iz,Q]
end
end
end
end Go.Proofs.YtieaiocljdpebaaGreatDoor.Y
