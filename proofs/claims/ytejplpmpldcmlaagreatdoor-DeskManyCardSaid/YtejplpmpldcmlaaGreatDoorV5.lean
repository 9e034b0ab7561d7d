/- Part 5 of the proof. -/
import Derived.Test.YtejplpmpldcmlaaGreatDoorV4
set_option linter.all false
set_option maxRecDepth 100000
set_option maxHeartbeats 100000000
open Bool renaming and_eq_true->aw,and_self->we,not_eq_false->Hn,true_and->Hu,eq_false_iff->ajd,true->J,false->E
open List renaming getD_eq_getElem?_getD->cw,getElem?_eq_getElem->cP,cons_append->ef,nil_append->eK,mem_append->eW,map_cons->dU,mem_cons->dV,mem_of_getElem?->jK,pairwise_cons->jC,length_cons->kV,getElem_mem->pM,length_drop->Df,pairwise_iff_getElem->Oe,take_append_drop->J9,length_take->E4,mem_of_find?_eq_some->SK,length_pos_iff->Og,getElem_of_mem->SQ,find?_some->SU,pairwise_singleton->aI0,take_succ_cons->aJh,length->Y
open Nat renaming le_trans->pO,eq_zero_or_pos->Bm,gcd->lG,mul_le_mul->Dg,zero_le->Hx,mod_lt->Hy,gcd_comm->Oq,le_of_not_lt->aji,gcd_rec->ZU,le_antisymm->avI
open Option renaming some->U,none->Z
open Int renaming toNat_natCast->su,tmod_eq_emod_of_nonneg->Zz,mul_le_mul_of_nonneg_right->ai5,natAbs_tmod->Kc,natAbs_mul->ZP,natCast_mul->ajl,mul_le_mul_of_nonpos_right->aIR,toNat_of_nonneg->avw,le_refl->ajt
open List.Pairwise renaming nil->xR
open List.cons renaming injEq->xU
open Go.IntKind renaming i64->I
namespace Go.Proofs.YtejplpmpldcmlaaGreatDoor.Y
open Go.RowKit
noncomputable section
variable{X V F D B z:Int}{P:RV}{H:ar}{W M:Nat→Int}{Q:Nat}{N:Nat→Bool}{A:aF}
def ay{c:Prop}[Decidable c]{A B:Prop}(X:c->A)(W:¬c->B):if c then A else B:=by
 by_cases h:c;rw[aL h];exact X h;rw[aT h];exact W h
section
variable{R:bq->Prop}{G:aU}{t:T}{O:ai}{L:db}
variable[Inhabited dh]
def V8(x:Int):Prop:=-841<=x/\x<=841
def aAS(a b:Int):∃o,TB.Ev 115 [.i a,.i b] o/\∃X,o=.ret X/\V8 (xi X 0)/\V8 (xi X 1):=by
 refine dZ ?_;simp[Yc,V8,xi]
 repeat'(first|intro _|split)
 all_goals
  try
   have W:lenOf (lw[2]?.getD default).val=8:=rfl;rw[show aH .sub I a 1=a-1 by simp only[aH];exact cG aa aa,W];have V:a=1\/a=2\/a=3\/a=4\/a=5\/a=6\/a=7\/a=8:=aa;refine⟨aa,aa, ?_⟩;rcases V with rfl|rfl|rfl|rfl|rfl|rfl|rfl|rfl<;>decide
 all_goals simp
def ast(a b:Int):V8 (oi 115 [.i a,.i b] 0)/\V8 (oi 115 [.i a,.i b] 1):=by
 obtain⟨o,X,V,rfl,W⟩:=aAS a b;simp only[oi,RI X];exact W
def aAT(s:RV)(G:qA s)(X W a2 V Q a5 a6 a7 a8 P N fW fY gO M H:Int)(h:C0 s X W a2 V Q a5 a6 a7 a8 P N fW fY gO M H=0):(1<=a2/\a2<=4)/\(1<=a5/\a5<=8)/\(1<=a6/\a6<=8)/\1<=a7/\a7<=8:=by
 have F:∃o,TB.Ev 49 [.r s,.i X,.i W,.i a2,.i V,.i Q,.i a5,.i a6,.i a7,.i a8,.i P,.i N,.i fW,.i fY,.i gO,.i M,.i H] o/\∃e,o=.ret [.i e]/\(e=0->(1<=a2/\a2<=4)/\(1<=a5/\a5<=8)/\(1<=a6/\a6<=8)/\1<=a7/\a7<=8):=by
  refine dZ ?_;simp[Rw,ahm s G];intros;omega
 exact(uC F).2 h
def RU{x m:Int}(W:-m<=x/\x<=m)(Q:-V<=X/\X<=V):-(m*V)<=x*X/\x*X<=m*V:=by
 have P:(x*X).natAbs<=(m*V).natAbs:=by rw[ZP,ZP];exact Dg aa aa
 have N:0<=m*V:=Int.mul_nonneg aa aa;omega
def Lm(d l:Int):Prop:=(d=0/\l=0)\/(0<=d/\d<=8/\1<=l/\l<=3)
structure G0(x y f d0 l0 d1 l1 d2 l2 d3 l3 d4 l4:Int):Prop where
 x:-1073741824<=x/\x<=1073741824
 y:-1073741824<=y/\y<=1073741824
 f:0<=f/\f<=7
 m0:Lm d0 l0
 m1:Lm d1 l1
 m2:Lm d2 l2
 m3:Lm d3 l3
 m4:Lm d4 l4
def aho(x y f X W V Q P N M H G F:Int):CZ x y f X W V Q P N M H G F=0<->G0 x y f X W V Q P N M H G F:=by
 have D:∃o,TB.Ev 35 [.i x,.i y,.i f,.i X,.i W,.i V,.i Q,.i P,.i N,.i M,.i H,.i G,.i F] o/\∃e,o=.ret [.i e]/\(e=0<->G0 x y f X W V Q P N M H G F):=by
  refine dZ ?_;have B:G0 x y f X W V Q P N M H G F<->(-1073741824<=x/\x<=1073741824)/\(-1073741824<=y/\y<=1073741824)/\(0<=f/\f<=7)/\Lm X W/\Lm V Q/\Lm P N/\Lm M H/\Lm G F:=⟨λh=>⟨h.x,h.y,h.f,h.m0,h.m1,h.m2,h.m3,h.m4⟩,λh=>⟨h.1,h.2.1,h.2.2.1,h.2.2.2.1,h.2.2.2.2.1,h.2.2.2.2.2.1,h.2.2.2.2.2.2.1,h.2.2.2.2.2.2.2⟩⟩;rw[B];simp[Rv,Lm]
  grind
 exact(uC D).2
end
section
variable{R:bq->Prop}{G:aU}{t:T}{O:ai}{L:db}
def rS(f:Nat->Int):Prop:=CZ (f 0) (f 1) (f 2) (f 3) (f 4) (f 5) (f 6) (f 7) (f 8) (f 9) (f 10) (f 11) (f 12)=0
def Tc(k s j:Int):Prop:=(k=1/\j=s-1)\/(k=2/\(j=0\/j=1))\/(k=3/\j=s-1)\/(k=4/\j=s+1)\/(k=5/\j=4)\/(k=7/\(j=2\/j=3))\/(k=8/\(j=0\/j=1))\/(k=9/\j=s+1)
def YG(k s:Int)(b:Bool)(X W V Q P N M H G F D B A z y x w v u r q p:Int):Prop:=(b=J\/k≠6->B=X)/\(b=J\/¬Tc k s 0->A=W/\z=V)/\(b=J\/¬Tc k s 1->y=Q/\x=P)/\(b=J\/¬Tc k s 2->w=N/\v=M)/\(b=J\/¬Tc k s 3->u=H/\r=G)/\(b=J\/¬Tc k s 4->q=F/\p=D)
def asu(k s:Int)(b:Bool)(z y x w v u r q p n m:Int)(o:bq):Prop:=∃B A X W V Q P N M H G F D e,o=.ret [.i B,.i A,.i X,.i W,.i V,.i Q,.i P,.i N,.i M,.i H,.i G,.i F,.i D,.i e]/\(e=0->CZ B A X W V Q P N M H G F D=0/\YG k s b z y x w v u r q p n m X W V Q P N M H G F D)
def asv(k s:Int)(b:Bool)(B A z y x w v u r q p o n X W V Q P N M H G F D e:Int):asu k s b B A z y x w v u r q p (.ret [.i o,.i n,.i X,.i W,.i V,.i Q,.i P,.i N,.i M,.i H,.i G,.i F,.i D,.i e])<->(e=0->CZ o n X W V Q P N M H G F D=0/\YG k s b B A z y x w v u r q p X W V Q P N M H G F D):=⟨λ⟨_,_,_,_,_,_,_,_,_,_,_,_,_,_,h,k⟩=>by cases h;exact k,λk=>⟨_,_,_,_,_,_,_,_,_,_,_,_,_,_,rfl,k⟩⟩
def asw(A z W V Q P N M H G F D B:Int)(c:Nat->Int)(p q r:Int)(b:Bool):∃o,TB.Ev 165 ([.i A,.i z,.i W,.i V,.i Q,.i P,.i N,.i M,.i H,.i G,.i F,.i D,.i B]++i7 c++[.i p,.i q,.i r,.b b]) o/\asu (c 4) (c 5) b W V Q P N M H G F D B o:=by
 refine dZ ?_;by_cases X:c 4=1\/c 4=2\/c 4=3\/c 4=4\/c 4=5\/c 4=6\/c 4=7\/c 4=8\/c 4=9
 ·rcases X with h|h|h|h|h|h|h|h|h
  all_goals
   simp(maxSteps:=9999999) [Ys,i7,h,asv,YG,Tc]
   try
    (repeat'(first|intro _|split)
     all_goals
      have y:aH .sub I (c 5) 1=c 5-1:=by simp only[aH];exact cG aa aa
      have x:aH .add I (c 5) 1=c 5+1:=by simp only[aH];exact cG aa aa
      simp only[y,x] at*
      repeat'(first|intro _|apply And.intro|split)
      all_goals first|assumption|rfl|omega|(exfalso;omega)|(simp_all;done)|(simp_all;omega))
 ·simp only[not_or] at X;obtain⟨w,v,u,s,n,m,l,k,j⟩:=X;simp(maxSteps:=9999999) [Ys,i7,w,v,u,s,n,m,l,k,j,asv]
  repeat'(first|intro _|split)
  all_goals first|assumption|omega
def Aft:Prop:=∀(W V Q P N M H G F D B A z:Int)(c:Nat->Int)(p q r:Int)(b:Bool),∃o,TB.Ev 165 ([.i W,.i V,.i Q,.i P,.i N,.i M,.i H,.i G,.i F,.i D,.i B,.i A,.i z]++i7 c++[.i p,.i q,.i r,.b b]) o/\∃X,o=.ret X/\kz (kI 14) X=J
def aAV:Aft:=by
 intro X W V Q P N M H G F D B A c p q r b;obtain⟨o,h,_,_,_,_,_,_,_,_,_,_,_,_,_,_,rfl,_⟩:=asw X W V Q P N M H G F D B A c p q r b;exact⟨_,h,_,rfl,rfl⟩
def gX(x:Nat->Int)(v:ar)(i:Nat):Nat->Int:=xi (out 165 ([.i (x 0),.i (x 1),.i (x 2),.i (x 3),.i (x 4),.i (x 5),.i (x 6),.i (x 7),.i (x 8),.i (x 9),.i (x 10),.i (x 11),.i (x 12)]++i7 (dm v i)++[.i (dm v i 14),.i (dm v i 15),.i (dm v i 16),.b (gA (aQ v i 17).val)]))
def cL(x:Nat->Int)(v:ar):Nat->Nat->Int
 |0=>x
 |k+1=>gX (cL x v k) v k
def asx(x:Nat->Int)(v:ar)(i:Nat):TB.Ev 165 ([.i (x 0),.i (x 1),.i (x 2),.i (x 3),.i (x 4),.i (x 5),.i (x 6),.i (x 7),.i (x 8),.i (x 9),.i (x 10),.i (x 11),.i (x 12)]++i7 (dm v i)++[.i (dm v i 14),.i (dm v i 15),.i (dm v i 16),.b (gA (aQ v i 17).val)]) (.ret [.i (gX x v i 0),.i (gX x v i 1),.i (gX x v i 2),.i (gX x v i 3),.i (gX x v i 4),.i (gX x v i 5),.i (gX x v i 6),.i (gX x v i 7),.i (gX x v i 8),.i (gX x v i 9),.i (gX x v i 10),.i (gX x v i 11),.i (gX x v i 12),.i (gX x v i 13)]):=by
 have h:=zt _ (aAV (x 0) (x 1) (x 2) (x 3) (x 4) (x 5) (x 6) (x 7) (x 8) (x 9) (x 10) (x 11) (x 12) (dm v i) (dm v i 14) (dm v i 15) (dm v i 16) (gA (aQ v i 17).val));simp only[kIs,kI0,A4] at h;exact h
def ahp(x:Nat->Int)(v:ar)(i:Nat)(X:gX x v i 13=0):rS (gX x v i)/\YG (dm v i 4) (dm v i 5) (gA (aQ v i 17).val) (x 2) (x 3) (x 4) (x 5) (x 6) (x 7) (x 8) (x 9) (x 10) (x 11) (x 12) (gX x v i 2) (gX x v i 3) (gX x v i 4) (gX x v i 5) (gX x v i 6) (gX x v i 7) (gX x v i 8) (gX x v i 9) (gX x v i 10) (gX x v i 11) (gX x v i 12):=by
 obtain⟨o,W,V,Q,P,N,M,H,G,F,D,B,A,z,y,e,rfl,w⟩:=asw (x 0) (x 1) (x 2) (x 3) (x 4) (x 5) (x 6) (x 7) (x 8) (x 9) (x 10) (x 11) (x 12) (dm v i) (dm v i 14) (dm v i 15) (dm v i 16) (gA (aQ v i 17).val);have u:∀k,gX x v i k=xi [.i V,.i Q,.i P,.i N,.i M,.i H,.i G,.i F,.i D,.i B,.i A,.i z,.i y,.i e] k:=λk=>by simp only[gX,RI W]
 simp only[rS,u] at X⊢;exact w X

def t81(W:Int)(Q N M:RV)(P:Sl Q)(H:Sl N)(G:Sl M):∃o,TB.Ev 54 [.i W,.r Q,.r N,.r M] o/\∃e,o=.ret [.i e]/\(e=0->NN Q/\1<=W/\W<=4096):=by
 refine YA rfl rfl (.inr λv D=>by obtain⟨_,h,_⟩:=D;cases h) ?_;simp[Yt,P.len,H.len,G.len]
 repeat'(first|intro _|split)
 refine⟨qF, ?_⟩;intro B;have A:0<Y Q.ac:=qF;have F:NN Q:=⟨P,A,by simpa[ci] using B⟩;have z:1<=W/\W<=4096:=aa;refine bW (Y Q.ac) (λ_ V=>∃n:Int,V=[.i n]) ⟨0,rfl,aa,_,rfl⟩ ?_;rintro i _ X ⟨n,rfl⟩;simp[P.len];split;rename_i X;simp[bK X P.sm,X];refine bW W.toNat (λ_ V=>V=[]) ⟨0,rfl,aa,rfl⟩ ?_;rintro i _ X rfl;simp;split;rename_i X;have y:i<W.toNat:=aa;rw[aAu _ _ _ _ _ F aa];simp[bK y (show W.toNat<=140737488355328 from aa)];refine bW (Y N.ac) (λ_ V=>∃n:Int,V=[.i n]) ⟨0,rfl,aa,_,rfl⟩ ?_;rintro i _ X ⟨n,rfl⟩;simp[H.len];split;rename_i X;simp[bK X H.sm,X];refine bW (Y M.ac) (λ_ V=>V=[]) ⟨0,rfl,aa,rfl⟩ ?_;rintro i _ X rfl;simp[G.len];split;rename_i X;simp[bK X G.sm,X];exact⟨F,z⟩
def tD:GY:=λX W V Q P N M=>uC (t81 X W V Q P N M)

variable[Inhabited dh]
def ER(aJ ak:Int)(r:RV)(v:ar):Prop:=TB.Ev 93 [.r (aI (dW aJ ak)),.r r] (.ret [.r (aI v),.b J])
def ER.RW{W:ar}(h:ER X V P H)(Q:ER X V P W):H=W:=by
 have:=Qd h Q;injection this with this;injection this with this _;injection this with this;exact ko RV.ac this
def R89(aJ ak:Int)(r:RV)(x:Nat->Int)(o:bq):Prop:=∃X W V Q P N M H G F D B A e,o=.ret [.i X,.i W,.i V,.i Q,.i P,.i N,.i M,.i H,.i G,.i F,.i D,.i B,.i A,.i e]/\(e=0->∃v,ER aJ ak r v/\rS (cL x v (Y v))/\[X,W,V,Q,P,N,M,H,G,F,D,B,A]=[cL x v (Y v) 0,cL x v (Y v) 1,cL x v (Y v) 2,cL x v (Y v) 3,cL x v (Y v) 4,cL x v (Y v) 5,cL x v (Y v) 6,cL x v (Y v) 7,cL x v (Y v) 8,cL x v (Y v) 9,cL x v (Y v) 10,cL x v (Y v) 11,cL x v (Y v) 12])
def r89(Q N M H G F D B A z y w u e:Int):R89 X V P W (.ret [.i Q,.i N,.i M,.i H,.i G,.i F,.i D,.i B,.i A,.i z,.i y,.i w,.i u,.i e])<->(e=0->∃v,ER X V P v/\rS (cL W v (Y v))/\[Q,N,M,H,G,F,D,B,A,z,y,w,u]=[cL W v (Y v) 0,cL W v (Y v) 1,cL W v (Y v) 2,cL W v (Y v) 3,cL W v (Y v) 4,cL W v (Y v) 5,cL W v (Y v) 6,cL W v (Y v) 7,cL W v (Y v) 8,cL W v (Y v) 9,cL W v (Y v) 10,cL W v (Y v) 11,cL W v (Y v) 12]):=⟨λ⟨_,_,_,_,_,_,_,_,_,_,_,_,_,_,h,k⟩=>by cases h;exact k,λk=>⟨_,_,_,_,_,_,_,_,_,_,_,_,_,_,rfl,k⟩⟩
def aAX(h:fD)(aJ ak:Int)(x:Nat->Int)(r:RV)(G:Sl r):∃o,TB.Ev 79 (wk++[.i aJ,.i ak,.i (x 0),.i (x 1),.i (x 2),.i (x 3),.i (x 4),.i (x 5),.i (x 6),.i (x 7),.i (x 8),.i (x 9),.i (x 10),.i (x 11),.i (x 12),.r r]) o/\R89 aJ ak r x o:=by
 refine dZ ?_;have W:=RT tD h aJ ak;have Q:=(xI tD h).2;have F:=YE (aJ:=aJ) (ak:=ak) Q;have D:=YD (aJ:=aJ) (ak:=ak) Q;obtain⟨o,X,v,b,rfl,p,B⟩:=asq _ r G F D;have A:b=J->ER aJ ak r v:=λe=>by rw[e] at X;exact X
 simp only[wk,ef,eK] at W;simp[T89,wk,bh W,bh X,r89];generalize dW aJ ak=l at*;generalize gm aJ ak=e at*;refine ay (λ_=>ay (λz P=> ?_) (λW X=>aZ X W)) (λW X=>aZ X W);have y:Y v<=140737488355328:=by have:=(B P).1;omega
 refine bW (Y v) (λi w=>w=[.i (cL x v i 0),.i (cL x v i 1),.i (cL x v i 2),.i (cL x v i 3),.i (cL x v i 4),.i (cL x v i 5),.i (cL x v i 6),.i (cL x v i 7),.i (cL x v i 8),.i (cL x v i 9),.i (cL x v i 10),.i (cL x v i 11),.i (cL x v i 12),.i (cL x v i 0),.i (cL x v i 1),.i (cL x v i 2),.i (cL x v i 3),.i (cL x v i 4),.i (cL x v i 5),.i (cL x v i 6),.i (cL x v i 7),.i (cL x v i 8),.i (cL x v i 9),.i (cL x v i 10),.i (cL x v i 11),.i (cL x v i 12)]/\rS (cL x v i)) ⟨0,rfl,Hx _,rfl,z⟩ ?_;rintro i _ V ⟨rfl,u⟩;have N:=asx (cL x v i) v i;simp only[i7,dm,ef,eK] at N;simp[r89];refine ay (λV=>⟨V, ?_⟩) (λs=> ?_);rw[bh N];simp[bK V y,r89];refine ay (λM=>ay (λ_=>⟨⟨rfl,rfl,rfl,rfl,rfl,rfl,rfl,rfl,rfl,rfl,rfl,rfl,rfl,rfl,rfl,rfl,rfl,rfl,rfl,rfl,rfl,rfl,rfl,rfl,rfl,rfl⟩,(ahp (cL x v i) v i M).1⟩) (λq=>aZ M q)) (λa b=>aZ b a);have H:i=Y v:=avI V (aji s);exact⟨v,A P,by subst H;exact u,by subst H;exact⟨rfl,rfl,rfl,rfl,rfl,rfl,rfl,rfl,rfl,rfl,rfl,rfl,rfl⟩⟩
def t89(h:fD)(aJ ak:Int)(x:Nat->Int)(r:RV)(W:Sl r):∃o,TB.Ev 79 (wk++[.i aJ,.i ak,.i (x 0),.i (x 1),.i (x 2),.i (x 3),.i (x 4),.i (x 5),.i (x 6),.i (x 7),.i (x 8),.i (x 9),.i (x 10),.i (x 11),.i (x 12),.r r]) o/\∃X,o=.ret X/\kz (kI 14) X=true:=by
 obtain⟨_,V,_,_,_,_,_,_,_,_,_,_,_,_,_,_,rfl,_⟩:=aAX h aJ ak x r W;exact⟨_,V,_,rfl,rfl⟩


def ahr{X:T}{e:TypeId}{W Q N:bz}(V:Sl P)(H:Y P.ac<=536870912)(M:X=.gQ (.c J) (.cmp .leq (.len (.v 0)) (.c 0)) (.bi (.cmp .leq (.len (.v 0)) (.c 536870912)) (.new e (.kq (.lit []) (.ah (.v 0))) W Q (.ret (.ah (.v 1)) [] N))) (.ret (.ah (.k (.slice Z 0 0))) [] W)):T.wp TB.Ev (· =.ret [.r (aI P.ac)]) X (gg [] [.r P]) []:=by
 subst M;rw[NK];refine⟨.inl rfl,λ_=> ?_,λh=> ?_,λ_ h=> ?_⟩;simp[yz,V.len];omega
 all_goals
  have h:P.ac=[]:=by
   simp[V.len] at h;exact h
 simp[yz,h];exact single (acr _)
def e86(v:RV)(X:Sl v)(h:Y v.ac<=536870912):TB.Ev 76 [.r v] (.ret [.r (aI v.ac)]):=fC (ahr X h rfl)
def e87(v:RV)(X:Sl v)(h:Y v.ac<=536870912):TB.Ev 77 [.r v] (.ret [.r (aI v.ac)]):=fC (ahr X h rfl)
def e88(v:RV)(X:Sl v)(h:Y v.ac<=536870912):TB.Ev 78 [.r v] (.ret [.r (aI v.ac)]):=fC (ahr X h rfl)

def gl0:RV:=lw[0]?.getD default
def rm:RV:=lw[1]?.getD default
def gl2:RV:=lw[2]?.getD default
def aA4:lw=[gl0,rm,gl2]:=rfl
def asz:lenOf rm.val=10:=rfl
def jO(k:Int)(j:Nat):RV:=cg (.sl 3) (aQ rm.ac k j)
def aA5(N:1<=X/\X<=9)(Q:if X=1\/X=3\/X=4\/X=9 then 1<=V/\V<=2 else V=0):
  (lenOf (jO X 0).val=(jO X 0).ac.length/\(jO X 0).ac.length<=2/\∀i:Nat,i<(jO X 0).ac.length->0<=bn (aQ (jO X 0).ac i 0).val/\bn (aQ (jO X 0).ac i 0).val<=2/\1<=V/\V<=2)/\
  (lenOf (jO X 1).val=(jO X 1).ac.length/\(jO X 1).ac.length<=2/\∀i:Nat,i<(jO X 1).ac.length->0<=bn (aQ (jO X 1).ac i 0).val/\bn (aQ (jO X 1).ac i 0).val<=4):=by
 have:X=1\/X=2\/X=3\/X=4\/X=5\/X=6\/X=7\/X=8\/X=9:=aa;rcases this with rfl|rfl|rfl|rfl|rfl|rfl|rfl|rfl|rfl
 all_goals
  simp at Q;refine⟨⟨rfl,dX,λi W=> ?_⟩,rfl,dX,λi W=> ?_⟩
  all_goals
   simp[jO,rm,lw,nR,sV,iV,aQ,cg,-xH] at W
   try
    have P:i=0\/i=1:=aa;rcases P with rfl|rfl
    all_goals simp[jO,rm,lw,nR,sV,iV,aQ,cg,bn,-xH] at W⊢
    all_goals(try omega)
def aA6{aJ ak:Int}{v:ar}{r:RV}(Q:lB=0->JK)(h:vP (dW aJ ak) r (dW aJ ak).length v){i:Nat}(W:i<Y v):∃c,CX (Y aK.ac) fy c/\∀j<14,bn (aQ v (i:Int) j).val=c j:=by
 rw[h.1] at W;obtain⟨k,F,P,D⟩:=h.2 i W;obtain⟨x,V⟩:∃x,(dW aJ ak)[i]?=U x:=⟨_,cP W⟩;obtain⟨m,B,N,A,z,M⟩:=aso Q (jK V);refine⟨ci bw m,M,λj X=> ?_⟩;have H:∀j<14,dm (dW aJ ak) i j=ci bw m j:=λj X=>by
  have:=vO (ci bw m) j X;simp only[dm,aQ,su,cw,V,N];simpa[aM] using this
 have G:∀j<14,bn ((ahj (dm (dW aJ ak) i) r k).getD j default).val=dm (dW aJ ak) i j:=λj X=>by
  match j,X with
  |0,_|1,_|2,_|3,_|4,_|5,_|6,_|7,_|8,_|9,_|10,_|11,_|12,_|13,_=>rfl
 rw[<-H j X,<-G j X];simp only[aQ,su,cw,P];rfl

def G1(a b c d:Int):Prop:=bQ a b c d=J/\a<b/\c<d
def Fg(a b c d:Int):Prop:=(-10000<=a/\a<0)/\(0<b/\b<=10000)/\(-10000<=c/\c<0)/\0<d/\d<=10000
def S6(p X:Int):Prop:=-10000<=p/\p<=X/\X<=10000
def Fg.jn1{q W:Int}(h:Fg X V F D)(a:S6 B z)(b:S6 q W):Fg (jn (bQ X V F D&&bQ B z q W) (min X B)) (jn (bQ X V F D&&bQ B z q W) (max V z)) (jn (bQ X V F D&&bQ B z q W) (min F q)) (jn (bQ X V F D&&bQ B z q W) (max D W)):=by
 simp only[Fg,S6] at*;have e:(bQ X V F D&&bQ B z q W)=true:=by simp[bQ];omega
 rw[e];simp only[Y.jn,cS];omega
def Fg.sh(h:Fg X V F D)(e:gN X V F D B z=0):G1 (jn (gN X V F D B z==0) (IntKind.i64.wrap (X+B))) (jn (gN X V F D B z==0) (IntKind.i64.wrap (V+B))) (jn (gN X V F D B z==0) (IntKind.i64.wrap (F+z))) (jn (gN X V F D B z==0) (IntKind.i64.wrap (D+z))):=by
 have W:=e;unfold gN at W;split at W;omega;split at W;omega;split at W;rename_i N Q P;simp at Q;simp only[Fg] at h;rw[e];simp only[Y.jn,beq_self_eq_true,cS];refine⟨P, ?_, ?_⟩;rw[cG aa aa,cG aa aa];omega;rw[cG aa aa,cG aa aa];omega;omega
def G1.join{W Q:Int}(h:G1 X V F D)(M:G1 B z W Q):G1 (jn (bQ X V F D&&bQ B z W Q) (min X B)) (jn (bQ X V F D&&bQ B z W Q) (max V z)) (jn (bQ X V F D&&bQ B z W Q) (min F W)) (jn (bQ X V F D&&bQ B z W Q) (max D Q)):=by
 obtain⟨P,H,G⟩:=h;obtain⟨N,A,y⟩:=M;rw[P,N];simp only[Y.jn,we,cS];refine⟨?_,aa,aa⟩;simp[bQ] at P N⊢;omega
def ahs{r:Int}(X:1<=r/\r<=8):S6 (aH .sub I 0 (aH .mul I 841 r)) (aH .mul I 841 r):=by
 simp only[aH,S6];rw[cG (n:=841*r) aa aa,cG aa aa];omega
def asA(Q:1<=X/\X<=8)(W:V8 V):S6 (aH .mul I X V) (aH .mul I X V):=by
 have:=RU (x:=X) (m:=8) aa W;simp only[aH,S6];rw[cG aa aa];omega
def vX(d f l:Int):Int:=oi 115 [.i (oi 114 [.i d,.i f] 0),.i l] 0
def vY(d f l:Int):Int:=oi 115 [.i (oi 114 [.i d,.i f] 0),.i l] 1
def aht(d f l:Int):V8 (vX d f l):=(ast _ _).1
def ahu(d f l:Int):V8 (vY d f l):=(ast _ _).2
def A5(X W V Q r d f l:Int):Prop:=(X<=r*vX d f l/\r*vX d f l<=W)/\V<=r*vY d f l/\r*vY d f l<=Q
def rch(X W V:Int)(j:Nat):Int:=if j/2=0 then X else if j/2=1 then W else if j/2=2 then V else 0
def asB(m X:Bool)(d l f W V Q:Int):Prop:=(m=E->W=d/\V=l)/\(X=E->Q=f)
structure xJ(f0 f1 f2 f3 g:Int)(rc:Nat->Int)(F:Nat->Bool)(x:Nat->Int)(n:Nat):Prop where
 fg:Fg f0 f1 f2 f3
 g1:f0≤-(841*g)/\841*g<=f1
 g2:f2≤-(841*g)/\841*g<=f3
 lb:∀j<n,∀d' l' f',asB (F (1+j)) (F 0) (x (3+2*j)) (x (4+2*j)) (x 2) d' l' f'->l'≠0->A5 f0 f1 f2 f3 (rc j) d' f' l'
def ahw(a b c d g:Int)(X:Nat->Int)(s:Nat->Int):Prop:=(a<=29*s 0-841*g/\29*s 0+841*g<=b)/\(c<=29*s 1-841*g/\29*s 1+841*g<=d)/\∀j<5,s (4+2*j)≠0->(a<=29*s 0+X j*vX (s (3+2*j)) (s 2) (s (4+2*j))/\29*s 0+X j*vX (s (3+2*j)) (s 2) (s (4+2*j))<=b)/\c<=29*s 1+X j*vY (s (3+2*j)) (s 2) (s (4+2*j))/\29*s 1+X j*vY (s (3+2*j)) (s 2) (s (4+2*j))<=d
def asC(aJ ak:Int)(r:RV)(x:Nat->Int)(g:Int)(X:Nat->Int)(o:bq):Prop:=∃a b c d e,o=.ret [.i a,.i b,.i c,.i d,.i e]/\(e=0->G1 a b c d/\∃v,ER aJ ak r v/\ahw a b c d g X (cL x v (Y v)))
def YI(a b c d e:Int):asC X V P W F M (.ret [.i a,.i b,.i c,.i d,.i e])<->(e=0->G1 a b c d/\∃v,ER X V P v/\ahw a b c d F M (cL W v (Y v))):=⟨λ⟨_,_,_,_,_,h,k⟩=>by cases h;exact k,λk=>⟨_,_,_,_,_,rfl,k⟩⟩
def Mk(v:ar)(n:Nat)(F:Nat->Bool):Prop:=∀i<n,gA (aQ v i 17).val=E->(dm v i 4=6->F 0=J)/\∀j:Nat,j<5->Tc (dm v i 4) (dm v i 5) j->F (1+j)=J
def aA8(W:1<=X/\X<=9)(h:Tc X V Q):(∃a<(jO X 0).ac.length,(Q:Int)=bn (aQ (jO X 0).ac (a:Int) 0).val+V-1)\/∃a<(jO X 1).ac.length,(Q:Int)=bn (aQ (jO X 1).ac (a:Int) 0).val:=by
 have:X=1\/X=2\/X=3\/X=4\/X=5\/X=6\/X=7\/X=8\/X=9:=aa;rcases this with rfl|rfl|rfl|rfl|rfl|rfl|rfl|rfl|rfl
 all_goals simp[Tc] at h
 exact .inl ⟨0,dX,by simp[jO,rm,lw,nR,sV,iV,aQ,cg,bn,-xH];omega⟩;rcases h with h|h;exact .inr ⟨0,dX,by simp[jO,rm,lw,nR,sV,iV,aQ,cg,bn,-xH];omega⟩;exact .inr ⟨1,dX,by simp[jO,rm,lw,nR,sV,iV,aQ,cg,bn,-xH];omega⟩;exact .inl ⟨0,dX,by simp[jO,rm,lw,nR,sV,iV,aQ,cg,bn,-xH];omega⟩;exact .inl ⟨0,dX,by simp[jO,rm,lw,nR,sV,iV,aQ,cg,bn,-xH];omega⟩;exact .inr ⟨0,dX,by simp[jO,rm,lw,nR,sV,iV,aQ,cg,bn,-xH];omega⟩;rcases h with h|h;exact .inr ⟨0,dX,by simp[jO,rm,lw,nR,sV,iV,aQ,cg,bn,-xH];omega⟩;exact .inr ⟨1,dX,by simp[jO,rm,lw,nR,sV,iV,aQ,cg,bn,-xH];omega⟩;rcases h with h|h;exact .inr ⟨0,dX,by simp[jO,rm,lw,nR,sV,iV,aQ,cg,bn,-xH];omega⟩;exact .inr ⟨1,dX,by simp[jO,rm,lw,nR,sV,iV,aQ,cg,bn,-xH];omega⟩;exact .inl ⟨0,dX,by simp[jO,rm,lw,nR,sV,iV,aQ,cg,bn,-xH];omega⟩
def A5.mono{W Q r d f l:Int}(h:A5 X V F D r d f l)(P:B<=X)(N:V<=z)(M:W<=F)(H:D<=Q):A5 B z W Q r d f l:=by
 simp only[A5] at*;omega
def aA9(W:1<=X/\X<=8):A5 (aH .sub I 0 (aH .mul I 841 X)) (aH .mul I 841 X) (aH .sub I 0 (aH .mul I 841 X)) (aH .mul I 841 X) X V F D:=by
 have a:=RU (x:=X) (m:=X) aa (aht V F D);have b:=RU (x:=X) (m:=X) aa (ahu V F D);simp only[aH,A5];rw[cG (n:=841*X) aa aa,cG aa aa];omega
def aBa(W:1<=X/\X<=8):A5 (aH .mul I X (vX V F D)) (aH .mul I X (vX V F D)) (aH .mul I X (vY V F D)) (aH .mul I X (vY V F D)) X V F D:=by
 have a:=RU (x:=X) (m:=8) aa (aht V F D);have b:=RU (x:=X) (m:=8) aa (ahu V F D);simp only[aH,A5];rw[cG (n:=X*vX V F D) aa aa,cG (n:=X*vY V F D) aa aa];omega
def xJ.join{P q H:Int}(h:xJ X V F D B W N M Q)(a:S6 z P)(b:S6 q H)(u:∀A G y,asB (N (1+Q)) (N 0) (M (3+2*Q)) (M (4+2*Q)) (M 2) A G y->G≠0->A5 z P q H (W Q) A y G):
  xJ (jn (bQ X V F D&&bQ z P q H) (min X z)) (jn (bQ X V F D&&bQ z P q H) (max V P)) (jn (bQ X V F D&&bQ z P q H) (min F q)) (jn (bQ X V F D&&bQ z P q H) (max D H)) B W N M (Q+1):=by
 have w:=h.fg.jn1 a b;have o:=h.g1;have m:=h.g2;have s:=h.fg;have e:(bQ X V F D&&bQ z P q H)=true:=by simp only[Fg,S6] at s a b;simp[bQ];omega
 rw[e] at w⊢;simp only[Y.jn,cS] at w⊢;refine⟨w,aa,aa,λj l A G y k v=> ?_⟩;by_cases r:j=Q;subst r;exact(u A G y k v).mono aa aa aa aa;exact(h.lb j aa A G y k v).mono aa aa aa aa
def xJ.skip(h:xJ X V F D B W N M Q)(H:N (1+Q)=E)(G:M (4+2*Q)=0):xJ X V F D B W N M (Q+1):=by
 refine⟨h.fg,h.g1,h.g2,λj v A z y k P=> ?_⟩;by_cases w:j=Q;subst w;exact(P ((k.1 H).2.trans G)).elim;exact h.lb j aa A z y k P
def xJ.any{d l:Int}(h:xJ X V F D B W N M Q)(H:1<=z/\z<=8)(e:W Q=z)(G:M (3+2*Q)=d)(A:M (4+2*Q)=l){b q:Bool}(y:N (1+Q)=b)(p:N 0=q){s t u v w:Int}(o:aH .sub I 0 (aH .mul I 841 z)=s)(j:aH .mul I 841 z=t)(f:M 2=u)(c:aH .mul I z (oi 115 [.i (oi 114 [.i d,.i u] 0),.i l] 0)=v)(a:aH .mul I z (oi 115 [.i (oi 114 [.i d,.i u] 0),.i l] 1)=w){m:Nat}(hm:Q+1=m):
  (¬b=J->l=0->xJ X V F D B W N M m)/\xJ (jn (bQ X V F D&&bQ s t s t) (min X s)) (jn (bQ X V F D&&bQ s t s t) (max V t)) (jn (bQ X V F D&&bQ s t s t) (min F s)) (jn (bQ X V F D&&bQ s t s t) (max D t)) B W N M m/\
  (¬b=J->¬q=J->xJ (jn (bQ X V F D&&bQ v v w w) (min X v)) (jn (bQ X V F D&&bQ v v w w) (max V v)) (jn (bQ X V F D&&bQ v v w w) (min F w)) (jn (bQ X V F D&&bQ v v w w) (max D w)) B W N M m):=by
 subst G A y p o j f c a hm;refine⟨λm P=>h.skip (ajd.2 m) P,h.join (ahs H) (ahs H) (λ_ _ _ _ _=>by rw[e];exact aA9 H),λm t=>h.join (asA H (aht _ _ _)) (asA H (ahu _ _ _)) λd' l' f' k _=> ?_⟩;rw[e,(k.1 (ajd.2 m)).1,(k.1 (ajd.2 m)).2,k.2 (ajd.2 t)];exact aBa H
def Fg.shv(h:Fg X V F D)(e:gN X V F D B z=0):jn (gN X V F D B z==0) (IntKind.i64.wrap (X+B))=X+B/\jn (gN X V F D B z==0) (IntKind.i64.wrap (V+B))=V+B/\jn (gN X V F D B z==0) (IntKind.i64.wrap (F+z))=F+z/\jn (gN X V F D B z==0) (IntKind.i64.wrap (D+z))=D+z:=by
 have W:=e;unfold gN at W;split at W;omega;split at W;omega;rename_i P Q;simp at Q;simp only[Fg] at h;rw[e];simp only[Y.jn,beq_self_eq_true,cS];refine⟨cG aa aa,cG aa aa,cG aa aa,cG aa aa⟩
def OnB(X W V Q a b c d:Int)(s:Nat->Int):Prop:=(a<=X+29*s 0/\W+29*s 0<=b)/\c<=V+29*s 1/\Q+29*s 1<=d
def YJ(F:Nat->Bool)(x s:Nat->Int):Prop:=(F 0=E->s 2=x 2)/\∀j<5,F (1+j)=E->s (3+2*j)=x (3+2*j)/\s (4+2*j)=x (4+2*j)
def aBb{c d g:Int}{s:Nat->Int}(h:xJ X V F D g W N M 5)(o:OnB X V F D B z c d s)(k:YJ N M s):ahw B z c d g W s:=by
 have H:=h.g1;have G:=h.g2;obtain⟨A,y⟩:=o;refine⟨aa,aa,λj Q P=> ?_⟩;have:=h.lb j Q _ _ _ ⟨k.2 j Q,k.1⟩ P;simp only[A5] at this;omega
def aBc(A:Mk H (Y H) N)(w:Q<Y H)(k:YJ N W M)(u:gX M H Q 13=0):YJ N W (gX M H Q):=by
 obtain⟨-,e⟩:=ahp M H Q u;obtain⟨z,V,P,G,D,B⟩:=e;have A:=A Q w;cases y:gA (aQ H (Q:Int) 17).val with
 |true=>
  rw[y] at z V P G D B;refine⟨λf=>(z (.inl rfl)).trans (k.1 f),λj X f=> ?_⟩;obtain⟨p,q⟩:=k.2 j X f
  match j,X with
  |0,_=>exact⟨(V (.inl rfl)).1.trans p,(V (.inl rfl)).2.trans q⟩
  |1,_=>exact⟨(P (.inl rfl)).1.trans p,(P (.inl rfl)).2.trans q⟩
  |2,_=>exact⟨(G (.inl rfl)).1.trans p,(G (.inl rfl)).2.trans q⟩
  |3,_=>exact⟨(D (.inl rfl)).1.trans p,(D (.inl rfl)).2.trans q⟩
  |4,_=>exact⟨(B (.inl rfl)).1.trans p,(B (.inl rfl)).2.trans q⟩
 |false=>
  obtain⟨r,o⟩:=A y;have m:∀j(X:j<5),N (1+j)=E->¬Tc (dm H Q 4) (dm H Q 5) j:=λj X f t=>by
   rw[o j X t] at f;cases f
  refine⟨λf=>(z (.inr λq=>by rw[r q] at f;cases f)).trans (k.1 f),λj X f=> ?_⟩;obtain⟨p,q⟩:=k.2 j X f;have n:=m j X f
  match j,X with
  |0,_=>exact⟨(V (.inr n)).1.trans p,(V (.inr n)).2.trans q⟩
  |1,_=>exact⟨(P (.inr n)).1.trans p,(P (.inr n)).2.trans q⟩
  |2,_=>exact⟨(G (.inr n)).1.trans p,(G (.inr n)).2.trans q⟩
  |3,_=>exact⟨(D (.inr n)).1.trans p,(D (.inr n)).2.trans q⟩
  |4,_=>exact⟨(B (.inr n)).1.trans p,(B (.inr n)).2.trans q⟩
def aBd(h:fD)(aJ ak:Int)(x:Nat->Int)(nm:RV)(bk:qA nm)(y:Nat->Int)(r:RV)(hr:Sl r):∃o,TB.Ev 80 (wk++[.i aJ,.i ak,.i (x 0),.i (x 1),.i (x 2),.i (x 3),.i (x 4),.i (x 5),.i (x 6),.i (x 7),.i (x 8),.i (x 9),.i (x 10),.i (x 11),.i (x 12),.r nm,.i (y 1),.i (y 2),.i (y 3),.i (y 4),.i (y 5),.i (y 6),.i (y 7),.i (y 8),.i (y 9),.i (y 10),.i (y 11),.i (y 12),.i (y 13),.i (y 14),.i (y 15),.i (y 16),.r r]) o/\asC aJ ak r x (y 3) (rch (y 6) (y 7) (y 8)) o:=by
 refine dZ ?_;have h1:=RT tD h aJ ak;have hw:=(xI tD h).2;have hl:=YE (aJ:=aJ) (ak:=ak) hw;have p:=YD (aJ:=aJ) (ak:=ak) hw;have cc:= @aA6 _ aJ ak;obtain⟨o,h2,v,b,rfl,h3,h4⟩:=asq _ r hr hl p;have hS:b=J->ER aJ ak r v:=λe=>by rw[e] at h2;exact h2
 simp only[wk,ef,eK] at h1;generalize dW aJ ak=l at*;generalize gm aJ ak=e at*;simp[T90,wk,aA4,bh h1,bh h2,c75 nm bk,YI];refine ay (λ_=>ay (λbl=>ay (λcf hb=> ?_) (λa b=>aZ b a)) (λa b=>aZ b a)) (λa b=>aZ b a);have br:=h4 hb;have hv:Y v<=4096:=by have:=br.1;omega
 have an:Y v<=140737488355328:=aa;refine bW (Y v) (λi Q=>∃F:Nat->Bool,Q=[.b (F 0),.b (F 1),.b (F 2),.b (F 3),.b (F 4),.b (F 5)]/\Mk v i F) ⟨0,rfl,aa,λ_=>E,rfl,λk p=>aa⟩ ?_;rintro i Q P ⟨F,rfl,hM⟩;simp;refine ay (λP=> ?_) (λaA=> ?_)
 ·obtain⟨c,ag,bs⟩:=cc hw br P;have al:=bs 4 aa;have bt:=bs 5 aa;obtain⟨aC,a0⟩:=aA5 ag.kind ag.side;have hT:∀{j:Nat},Tc (c 4) (c 5) j->_:=λq=>aA8 ag.kind q
  have cy:=ag.kind;have bx:cg (.sl 3) (aQ rm.ac (c 4) 0)=jO (c 4) 0:=rfl;have b0:cg (.sl 3) (aQ rm.ac (c 4) 1)=jO (c 4) 1:=rfl;generalize jO (c 4) 0=D at aC bx hT;generalize jO (c 4) 1=B at a0 b0 hT;have b1:∀W:Nat->Bool,(∀j<6,F j=J->W j=J)->(gA (aQ v (i:Int) 17).val=E->(c 4=6->W 0=J)/\∀j:Nat,j<5->Tc (c 4) (c 5) j->W (1+j)=J)->Mk v (i+1) W:=λW g hn k p hd=>by
   by_cases e:k=i;subst e;simp only[dm,al,bt];exact hn hd;obtain⟨m1,m2⟩:=hM k aa hd;exact⟨λe=>g 0 aa (m1 e),λj X e=>g (1+j) aa (m2 j X e)⟩
  have b2:∀(G:Nat->Bool)(tu:Bool),(F 0=J->tu=J)->(c 4=6->tu=J)->(∀j:Nat,j<5->F (1+j)=J->G j=J)->(∀a<Y D.ac,∀j:Nat,j<5->(j:Int)=bn (aQ D.ac (a:Int) 0).val+c 5-1->G j=J)->(∀a<Y B.ac,∀j:Nat,j<5->(j:Int)=bn (aQ B.ac (a:Int) 0).val->G j=J)->∃W:Nat->Bool,(tu=W 0/\G 0=W 1/\G 1=W 2/\G 2=W 3/\G 3=W 4/\G 4=W 5)/\Mk v (i+1) W:=by
   intro G tu t1 t2 k1 k2 k3;refine⟨λj=>match j with|0=>tu|j+1=>G j,⟨rfl,rfl,rfl,rfl,rfl,rfl⟩,b1 _ (λj X hf=> ?_) λ_=>⟨t2,λj X ht=> ?_⟩⟩
   match j,X,hf with
   |0,_,hf=>exact t1 hf
   |j+1,X,hf=>exact k1 j aa (by rw[Nat.add_comm];exact hf)
   rw[Nat.add_comm];show G j=J;rcases hT ht with⟨a,V,q⟩|⟨a,V,q⟩;exact k2 a V j X q;exact k3 a V j X q
  simp[bK P an,P,al,asz];refine ay (λhd=>⟨F,⟨rfl,rfl,rfl,rfl,rfl,rfl⟩,b1 F (λ_ _ h=>h) λq=>by rw[hd] at q;cases q⟩) (λhd=>ay (λb3=> ?_) (λb3=> ?_))
  all_goals
   refine⟨aa, ?_⟩;refine bW (Y D.ac) (λa Q=>∃G:Nat->Bool,Q=[.b (G 0),.b (G 1),.b (G 2),.b (G 3),.b (G 4)]/\(∀j:Nat,j<5->F (1+j)=J->G j=J)/\∀H<a,∀j:Nat,j<5->(j:Int)=bn (aQ D.ac (H:Int) 0).val+c 5-1->G j=J) ⟨0,rfl,aa,λj=>F (1+j),rfl,λ_ _ h=>h,aa⟩ ?_;rintro a Q V ⟨G,rfl,a1,a3⟩;simp[al,bt,bx,aC.1,asz];refine ay (λV=> ?_) (λa4=> ?_);have hx:=aC.2.2 a V;obtain⟨z,hz⟩:∃z,bn (aQ D.ac (a:Int) 0).val=z:=⟨_,rfl⟩;rw[hz] at hx⊢;rw[show aH .sub I (aH .add I z (c 5)) 1=z+c 5-1 by simp only[aH];rw[cG (n:=z+c 5) aa aa,cG aa aa]];simp[bK V (show Y D.ac<=140737488355328 from aa),V];refine⟨aa,aa,λj=>decide (z+c 5-1=(j:Int))||G j,⟨rfl,rfl,rfl,rfl,rfl⟩,λj X q=>by simp[a1 j X q],λH a4 j X q=> ?_⟩;by_cases e:H=a;subst e;rw[hz] at q;simp[q];simp[a3 H aa j X q];refine⟨aa, ?_⟩;have a9:a=Y D.ac:=aa;subst a9;refine bW (Y B.ac) (λa Q=>∃N:Nat->Bool,Q=[.b (N 0),.b (N 1),.b (N 2),.b (N 3),.b (N 4)]/\(∀j:Nat,j<5->G j=J->N j=J)/\∀H<a,∀j:Nat,j<5->(j:Int)=bn (aQ B.ac (H:Int) 0).val->N j=J) ⟨0,rfl,aa,G,rfl,λ_ _ h=>h,aa⟩ ?_;rintro a Q V ⟨N,rfl,af,ba⟩;simp[al,b0,a0.1];refine ay (λV=> ?_) (λa4=> ?_);have hx:=a0.2.2 a V;obtain⟨z,hz⟩:∃z,bn (aQ B.ac (a:Int) 0).val=z:=⟨_,rfl⟩;rw[hz] at hx⊢;simp[bK V (show Y B.ac<=140737488355328 from aa),V];refine⟨aa,aa,λj=>decide (z=(j:Int))||N j,⟨rfl,rfl,rfl,rfl,rfl⟩,λj X q=>by simp[af j X q],λH a4 j X q=> ?_⟩;by_cases e:H=a;subst e;rw[hz] at q;simp[q];simp[ba H aa j X q];have a9:a=Y B.ac:=aa;subst a9;simp[bK P an]
   first
    |(obtain⟨W,⟨e0,f⟩,g⟩:=b2 N J (λ_=>rfl) (λ_=>rfl) (λj X q=>af j X (a1 j X q)) (λa V j X q=>af j X (a3 a V j X q)) ba
      exact⟨W,⟨e0.symm,f⟩,g⟩)
    |(obtain⟨W,⟨e0,f⟩,g⟩:=b2 N (c 4==6) (λq=>aZ q b3) (λq=>by simp[q]) (λj X q=>af j X (a1 j X q)) (λa V j X q=>af j X (a3 a V j X q)) ba
      exact⟨W,⟨e0,f⟩,g⟩)
 have bb:i=Y v:=avI P (aji aA);subst bb;have b4:=(aho _ _ _ _ _ _ _ _ _ _ _ _ _).1 bl;obtain⟨g1,g2,g3,g4⟩:=aAT nm bk _ _ _ _ _ _ _ _ _ _ _ _ _ _ _ _ cf;refine bW 5 (λk Q=>∃A w u s,Q=[.i A,.i w,.i u,.i s]/\xJ A w u s (y 3) (rch (y 6) (y 7) (y 8)) F x k) ⟨0,av,aa, ?_⟩ ?_;have hs:=ahs (r:=(y 3)) aa;have f:aH .mul I 841 (y 3)=841*(y 3):=by simp only[aH];exact cG aa aa
 have e2:aH .sub I 0 (841*(y 3))=-(841*(y 3)):=by simp only[aH];rw[cG aa aa];omega
 refine⟨_,_,_,_,rfl, ?_⟩;simp[f,e2];rw[f,e2] at hs;simp only[S6] at hs;refine⟨?_,aa,aa,aa⟩;simp only[Fg];omega;rintro k Q b5 ⟨A,w,u,s,rfl,M⟩;simp[YI];refine ay (λp=> ?_) (λb6=> ?_)
 ·have b6:k<5:=aa;have p:k=0\/k=1\/k=2\/k=3\/k=4:=aa;simp only[bK b6 (show 5<=140737488355328 from aa)];rcases p with rfl|rfl|rfl|rfl|rfl;obtain⟨s1,s0,s2⟩:=M.any (b:=F 1) (d:=x 3) (l:=x 4) g2 rfl rfl rfl rfl rfl rfl rfl rfl rfl rfl (m:=1) rfl
  rotate_left
  obtain⟨s1,s0,s2⟩:=M.any (b:=F 2) (d:=x 5) (l:=x 6) g2 rfl rfl rfl rfl rfl rfl rfl rfl rfl rfl (m:=2) rfl
  rotate_left
  obtain⟨s1,s0,s2⟩:=M.any (b:=F 3) (d:=x 7) (l:=x 8) g3 rfl rfl rfl rfl rfl rfl rfl rfl rfl rfl (m:=3) rfl
  rotate_left
  obtain⟨s1,s0,s2⟩:=M.any (b:=F 4) (d:=x 9) (l:=x 10) g3 rfl rfl rfl rfl rfl rfl rfl rfl rfl rfl (m:=4) rfl
  rotate_left
  obtain⟨s1,s0,s2⟩:=M.any (b:=F 5) (d:=x 11) (l:=x 12) g4 rfl rfl rfl rfl rfl rfl rfl rfl rfl rfl (m:=5) rfl
  rotate_left
  all_goals
   simp[show aH .quo I 0 2=0 from rfl,show aH .quo I 1 2=0 from rfl,show aH .quo I 2 2=1 from rfl,show aH .quo I 3 2=1 from rfl,show aH .quo I 4 2=2 from rfl];clear M hM
   repeat'(refine ay (λ_=> ?_) (λ_=> ?_))
   all_goals with_reducible first|exact⟨_,_,_,_,⟨rfl,rfl,rfl,rfl⟩,s0⟩|exact⟨_,_,_,_,⟨rfl,rfl,rfl,rfl⟩,s1 qF qF⟩|exact⟨_,_,_,_,⟨rfl,rfl,rfl,rfl⟩,s2 qF qF⟩|contradiction
 have b5:k=5:=aa;subst b5;refine ay (λhe=> ?_) (λa b=>aZ b a);have px:=b4.x;have py:=b4.y;have ex:aH .mul I 29 (x 0)=29*x 0:=by simp only[aH];exact cG aa aa
 have ey:aH .mul I 29 (x 1)=29*x 1:=by simp only[aH];exact cG aa aa
 rw[ex,ey] at he⊢;obtain⟨v0,v1,v2,v3⟩:=M.fg.shv he;have hP:=M.fg.sh he;rw[v0,v1,v2,v3] at hP⊢;have hp:=hP.1;rw[hp];refine bW (Y v) (λi Q=>∃a b c d,Q=[.i a,.i b,.i c,.i d,.i (cL x v i 0),.i (cL x v i 1),.i (cL x v i 2),.i (cL x v i 3),.i (cL x v i 4),.i (cL x v i 5),.i (cL x v i 6),.i (cL x v i 7),.i (cL x v i 8),.i (cL x v i 9),.i (cL x v i 10),.i (cL x v i 11),.i (cL x v i 12),.b E]/\G1 a b c d/\OnB A w u s a b c d (cL x v i)/\YJ F x (cL x v i)/\rS (cL x v i)) ⟨0,rfl,Hx _,A+29*x 0,w+29*x 0,u+29*x 1,s+29*x 1,rfl,hP,⟨⟨ajt _,ajt _⟩,ajt _,ajt _⟩,⟨λ_=>rfl,λ_ _ _=>⟨rfl,rfl⟩⟩,bl⟩ ?_;rintro i Q P ⟨a,b',c,d,rfl,bc,hO,b7,hR⟩;have ch:=bc.1;have g1:=asx (cL x v i) v i;simp only[i7,dm,ef,eK] at g1;simp[YI];refine ay (λP=>⟨P, ?_⟩) (λaA=> ?_);rw[bh g1];simp[bK P an,YI];refine ay (λbd=>ay (λbf=>ay (λ_=> ?_) (λn=>aZ bd n)) (λa b=>aZ b a)) (λa b=>aZ b a);have cl:=aBc hM P b7 bd;have b8:=(ahp (cL x v i) v i bd).1;have p':=(aho _ _ _ _ _ _ _ _ _ _ _ _ _).1 b8;have cA:=p'.x;have cB:=p'.y;have cn:aH .mul I 29 (gX (cL x v i) v i 0)=29*gX (cL x v i) v i 0:=by simp only[aH];exact cG aa aa
 have co:aH .mul I 29 (gX (cL x v i) v i 1)=29*gX (cL x v i) v i 1:=by simp only[aH];exact cG aa aa
 rw[cn,co] at bf⊢;obtain⟨cp,cs,ct,cv⟩:=M.fg.shv bf;have bg:=M.fg.sh bf;rw[cp,cs,ct,cv] at bg⊢;have cx:=bg.1;have ca:(bQ a b' c d&&bQ (A+29*gX (cL x v i) v i 0) (w+29*gX (cL x v i) v i 0) (u+29*gX (cL x v i) v i 1) (s+29*gX (cL x v i) v i 1))=true:=by rw[ch,cx];rfl
 rw[ca];refine⟨min a (A+29*gX (cL x v i) v i 0),max b' (w+29*gX (cL x v i) v i 0),min c (u+29*gX (cL x v i) v i 1),max d (s+29*gX (cL x v i) v i 1),⟨rfl,rfl,rfl,rfl,rfl,rfl,rfl,rfl,rfl,rfl,rfl,rfl,rfl,rfl,rfl,rfl,rfl⟩, ?_, ?_,cl,b8⟩;have:=bc.join bg;rw[ca] at this;exact this;show(_/\_)/\_/\_;simp only[cL];omega;have bb:i=Y v:=avI P (aji aA);subst bb;exact⟨bc,v,hS hb,aBb M hO b7⟩
def t90(h:fD)(aJ ak:Int)(x:Nat->Int)(X:RV)(V:qA X)(y:Nat->Int)(r:RV)(Q:Sl r):∃o,TB.Ev 80 (wk++[.i aJ,.i ak,.i (x 0),.i (x 1),.i (x 2),.i (x 3),.i (x 4),.i (x 5),.i (x 6),.i (x 7),.i (x 8),.i (x 9),.i (x 10),.i (x 11),.i (x 12),.r X,.i (y 1),.i (y 2),.i (y 3),.i (y 4),.i (y 5),.i (y 6),.i (y 7),.i (y 8),.i (y 9),.i (y 10),.i (y 11),.i (y 12),.i (y 13),.i (y 14),.i (y 15),.i (y 16),.r r]) o/\∃W,o=.ret W/\kz (kI 5) W=true:=by
 obtain⟨_,P,_,_,_,_,_,rfl,_⟩:=aBd h aJ ak x X V y r Q;exact⟨_,P,_,rfl,rfl⟩
end
def ES(v:ar):Prop:=∀x∈v,gA (x.getD 3 default).val=E
def ES.nil:ES []:=λx X=>by simp at X
def ES.kq(h:ES H)(W:gA (A.getD 3 default).val=E):ES (H++[A]):=λy X=>by
 rcases eW.1 X with X|X;exact h y X;simp at X;subst X;exact W
def ES.at(h:ES H)(X:Q<Y H):gA (H[Q].getD 3 default).val=false:=h _ (pM X)
def ES.cell(h:ES H)(X:Q<Y H):gA (aQ H (Q:Int) 3).val=false:=by
 have:=h.at X;simpa[aQ,X] using this
section
variable{R:bq->Prop}{G:aU}{t:T}{O:ai}{L:db}
variable[Inhabited dh]

def vB(v:RV)(i:Nat):Bool:=bQ (ci v i 0) (ci v i 1) (ci v i 2) (ci v i 3)
def RX(u:RV)(i:Nat)(w:RV)(k:Nat):Bool:=vB u i&&vB w k&&JG (ci u i 0) (ci u i 1) (ci u i 2) (ci u i 3) (ci w k 0) (ci w k 1) (ci w k 2) (ci w k 3)
def flB(uD uE:Int)(u:RV)(i:Nat):Bool:=vB u i&&bQ 0 (aH .mul I 841 uD) 0 (aH .mul I 841 uE)&&ase (ci u i 0) (ci u i 1) (ci u i 2) (ci u i 3) 0 (aH .mul I 841 uD) 0 (aH .mul I 841 uE)
def RY(X:RV):Nat->ar
 |0=>[]
 |i+1=>gq 2 [.mk (.int I (ci X i 0)) [],.mk (.int I (ci X i 1)) [],.mk (.bool J) []] (RY X i)
def YK(X:ar)(a b:Nat):Bool:=BE.ab ⟨[(a:Int),(b:Int)],[],[aI X],[]⟩ (.look (.v 0) 2 (.v 0) (.v 1) (.c 0) 2)
def asG(u:RV)(i:Nat)(X:RV)(ak:Int)(g:Nat):Bool:=vB u i&&bQ (rk (ci X g) ak 0) (rk (ci X g) ak 1) (rk (ci X g) ak 2) (rk (ci X g) ak 3)&&JG (ci u i 0) (ci u i 1) (ci u i 2) (ci u i 3) (rk (ci X g) ak 0) (rk (ci X g) ak 1) (rk (ci X g) ak 2) (rk (ci X g) ak 3)
structure ClE(wg:RV)(ak:Int)(mv hd pr:RV):Prop where
 wk:lB=0
 nw:Y wg.ac<=8
 inb:jm ak 0 (fy-1)=J
 lm:Y mv.ac=Y aK.ac
 lh:Y hd.ac=Y aK.ac
 vm:∀i<Y mv.ac,vB mv i=J
 vh:∀i<Y hd.ac,vB hd i=J
 prs:∀i<Y pr.ac,0<=ci pr i 0/\ci pr i 0<ci pr i 1/\ci pr i 1<Y aK.ac
 pth:∀g<Y wg.ac,rk (ci wg g) ak 4=0
structure ClN(uD uE:Int)(aK:RV)(wg:RV)(ak:Int)(mv hd pr:RV):Prop where
 n1:∀a<Y aK.ac,∀b,a<b->b<Y aK.ac->YK (RY pr (Y pr.ac)) a b=J\/RX mv a mv b=J
 n2:∀a<Y aK.ac,∀b,a<b->b<Y aK.ac->YK (RY pr (Y pr.ac)) a b=J\/RX mv a hd b=J
 n3:∀a<Y aK.ac,∀b,a<b->b<Y aK.ac->YK (RY pr (Y pr.ac)) a b=J\/RX hd a mv b=J
 n4:∀a<Y aK.ac,∀b,a<b->b<Y aK.ac->YK (RY pr (Y pr.ac)) a b=J\/RX hd a hd b=J
 wgs:∀a<Y aK.ac,∀g<Y wg.ac,asG mv a wg ak g=J/\asG hd a wg ak g=J
 aJV:∀a<Y aK.ac,flB uD uE mv a=J/\flB uD uE hd a=J
structure aBk(wg:RV)(ak:Int)(mv hd pr:RV):Prop extends ClE wg ak mv hd pr,ClN uD uE aK wg ak mv hd pr
def asI{P:Nat->Prop}(h:∀k<Q,P k)(X:P Q):∀k<Q+1,P k:=λk V=>by
 by_cases W:k=Q;subst W;exact X;exact h k aa
end
section
variable{lt:aF->aF->Bool}
def C1(lt:aF->aF->Bool)(l:ar):Prop:=l.Pairwise λx y=>lt x y=J
def C1.eq(R:∀x,lt x x=E)(Q:∀x y z,lt x y=J->lt y z=J->lt x z=J):∀{l X:ar},C1 lt l->C1 lt X->l.Perm X->l=X
 |[],X,_,_,h=>(List.Perm.nil_eq h)
 |x::l,[],_,_,h=>(by have:=h.length_eq;simp at this)
 |x::l,y::X,N,M,h=>by
  have P:=jC.1 N;have O:=jC.1 M;have L:x=y:=by
   have W:x∈y::X:=h.mem_iff.1 av;have V:y∈x::l:=h.mem_iff.2 av;rcases dV.1 W with W|W;exact W;rcases dV.1 V with V|V;exact V.symm;have:=Q _ _ _ (P.1 y V) (O.1 x W);rw[R] at this;cases this
  subst L;rw[C1.eq R Q P.2 O.2 (List.perm_cons x|>.1 h)]
def asJ(V:∀x y z,lt x y=J->lt y z=J->lt x z=J){x:aF}:∀{l:ar},C1 lt l->(∀y∈l,lt x y=J\/lt y x=J)->C1 lt (eI lt x l)
 |[],_,_=>aI0 _ _
 |y::r,h,R=>by
  have g:=jC.1 h;simp only[eI];split;rename_i W;refine jC.2 ⟨λz X=> ?_,h⟩;rcases dV.1 X with rfl|X;exact W;exact V _ _ _ W (g.1 z X);rename_i W;have Q:lt y x=true:=(R y av).resolve_left W;refine jC.2 ⟨λz X=> ?_,asJ V g.2 λz X=>R z (by simp[X])⟩;rcases T8.1 X with rfl|X;exact Q;exact g.1 z X
def asL(W:∀x y z,lt x y=J->lt y z=J->lt x z=J):∀(l acc:ar),C1 lt acc->(∀x∈l,∀y∈acc,lt x y=J\/lt y x=J)->l.Pairwise (λx y=>lt x y=J\/lt y x=J)->C1 lt (l.foldl (λacc x=>eI lt x acc) acc)
 |[],acc,h,_,_=>h
 |x::l,acc,h,V,Q=>by
  have g:=jC.1 Q;refine asL W l _ (asJ W h λy X=>V x av y X) (λz R y X=> ?_) g.2;rcases T8.1 X with rfl|X;exact(g.1 z R).symm;exact V z (by simp[R]) y X
def asM(X:∀x y z,lt x y=J->lt y z=J->lt x z=J)(h:H.Pairwise (λx y=>lt x y=J\/lt y x=J)):C1 lt (bT lt H):=asL X H [] xR av h
def aBl(R:∀x,lt x x=E)(W:∀x y z,lt x y=J->lt y z=J->lt x z=J){X:ar}(V:X.Perm H)(h:H.Pairwise (λx y=>lt x y=J\/lt y x=J)):bT lt X=bT lt H:=by
 have Q:X.Pairwise (λx y=>lt x y=J\/lt y x=J):=(V.symm.pairwise_iff (λ{x y} h=>h.symm)).1 h;exact C1.eq R W (asM W Q) (asM W h) (((CY X).trans V).trans (CY H).symm)
end
def asN(d:Bool):∀(X:aq)(x:aF),jR d X x x=E
 |[],_=>rfl
 |c::X,x=>by simp[jR,asN d X x]
def asO(d:Bool):∀(Q:aq)(x y z:aF),jR d Q x y=J->jR d Q y z=J->jR d Q x z=J
 |[],_,_,_,h,_=>by simp[jR] at h
 |c::Q,x,y,z,V,X=>by
  simp only[jR] at V X⊢;by_cases R:aM c x=aM c y;by_cases W:aM c y=aM c z;rw[aL R] at V;rw[aL W] at X;rw[aL (R.trans W)];exact asO d Q x y z V X;rw[aT W] at X;rw[aT (by rw[R];exact W),R];exact X;rw[aT R] at V;by_cases W:aM c y=aM c z;rw[aT (by rw[<-W];exact R),<-W];exact V;rw[aT W] at X;cases d;simp at V X;rw[aT aa];simp;omega;simp at V X;rw[aT aa];simp;omega
def asP(X:aq)(W:ar):Prop:=W.Pairwise λx y=>∃c∈X,aM c x≠aM c y
section
variable{R:bq->Prop}{G:aU}{t:T}{O:ai}{L:db}
variable[Inhabited dh]
variable{wg bd cs br co:RV}
def ee(wg bd cs br co:RV):bv:=wk++[.r wg,.r bd,.r cs,.r br,.r co]
structure Mny(wg bd cs br:RV):Prop where
 wg:Y wg.ac<=8
 rl:Y aK.ac<=12
 bd:Y bd.ac<=16
 cs:Y cs.ac<=8
 bars:fy<=64
 br:∀i<Y br.ac,(cr 69 br i).ac.length<=8
def aBm(h:fD)(Q:Sl wg)(P:Sl bd)(N:Sl cs)(W:Sl br)(M:∀i<Y br.ac,Sl (cr 69 br i)):∃o,TB.Ev 59 (ee wg bd cs br co) o/\∃b,o=.ret [.b b]/\(b=E->Mny wg bd cs br):=by
 refine dZ ?_;simp[agP,ee,wk,Q.len,h.rl.len,P.len,N.len]
 repeat'(first|intro _|split)
 all_goals try(exact⟨_,rfl,av⟩)
 refine bW (Y br.ac) (λj H=>H=[]/\∀i<j,(cr 69 br i).ac.length<=8) ⟨0,rfl,aa,rfl,λi G=>aa⟩ ?_;rintro i _ G ⟨rfl,V⟩;simp[W.len];refine ay (λX=>⟨X,λF=> ?_⟩) (λA=> ?_);have e:=(M i X).len;simp only[cr] at e;rw[e] at F;simp[bK X W.sm];intro q D;by_cases B:q=i;subst B;simp only[cr];omega;exact V q aa;exact⟨aa,aa,aa,aa,aa,λq D=>V q aa⟩
structure Cst(bd cs:RV):Prop where
 aBn:0<Y cs.ac
 len:∀i<Y cs.ac,(cr 3 cs i).ac.length=Y aK.ac
 idx:∀i<Y cs.ac,∀j<(cr 3 cs i).ac.length,0<=ci (cr 3 cs i) j 0/\ci (cr 3 cs i) j 0<Y bd.ac
 apart:∀i<Y cs.ac,∀j<(cr 3 cs i).ac.length,∀k<j,ci (cr 3 cs i) k 0≠ci (cr 3 cs i) j 0
def aBo(h:fD)(z:Sl bd)(B:Sl cs)(y:∀i<Y cs.ac,Sl (cr 3 cs i)):∃o,TB.Ev 62 (ee wg bd cs br co) o/\∃b,o=.ret [.b b]/\(b=J->Cst bd cs):=by
 refine dZ ?_;simp[agR,ee,wk];refine bW (Y cs.ac) (λn V=>V=[]/\∀i<n,(cr 3 cs i).ac.length=Y aK.ac/\(∀j<(cr 3 cs i).ac.length,(0<=ci (cr 3 cs i) j 0/\ci (cr 3 cs i) j 0<Y bd.ac)/\∀k<j,ci (cr 3 cs i) k 0≠ci (cr 3 cs i) j 0)) ⟨0,rfl,aa,rfl,λi G=>aa⟩ ?_;rintro i _ G ⟨rfl,P⟩;simp[B.len,h.rl.len];refine ay (λF=>⟨F,λx=> ?_⟩) (λr=> ?_);have D:=y i F;have e:=D.len;have p:=e;simp only[cr] at e;rw[e] at x;have w:(cr 3 cs i).ac.length=Y aK.ac:=by simp only[cr];omega
 refine bW (cr 3 cs i).ac.length (λn V=>V=[]/\∀j<n,(0<=ci (cr 3 cs i) j 0/\ci (cr 3 cs i) j 0<Y bd.ac)/\∀k<j,ci (cr 3 cs i) k 0≠ci (cr 3 cs i) j 0) ⟨0,rfl,aa,rfl,λi G=>aa⟩ ?_;rintro j _ X ⟨rfl,W⟩;simp[e,z.len];refine ay (λN=>⟨N,λM=>⟨N,λH=> ?_⟩⟩) (λm=> ?_);refine bW j (λn V=>V=[]/\∀k<n,ci (cr 3 cs i) k 0≠ci (cr 3 cs i) j 0) ⟨0,rfl,aa,rfl,λi G=>aa⟩ ?_;rintro k _ v ⟨rfl,A⟩;simp[e];refine ay (λu=>⟨aa,N,λs=> ?_⟩) (λl=> ?_);rw[bK u (by have:=D.sm;simp only[cr] at this;omega)];refine⟨rfl,λq W=> ?_⟩;by_cases Q:q=k;subst Q;exact s;exact A q aa;rw[bK (n:=(cr 3 cs i).ac.length) (show j<(cr 3 cs i).ac.length from N) D.sm];refine⟨rfl,λq g=> ?_⟩;by_cases Q:q=j;subst Q;exact⟨⟨M,H⟩,λk v=>A k aa⟩;exact W q aa;rw[bK F B.sm];refine⟨rfl,λq f=> ?_⟩;by_cases Q:q=i;subst Q;exact⟨w,λj X=>W j (by simp only[cr] at X;omega)⟩;exact P q aa;by_cases M:cs.ac=[];exact .inl M;have H:0<Y cs.ac:=Og.2 M;exact .inr ⟨H,H,λq W=>(P q aa).1,λq W j X=>((P q aa).2 j X).1,λq W j X=>((P q aa).2 j X).2⟩
end
def NQ:T->T
 |.aV _ _ f=>f
 |t=>t
section
variable{R:bq->Prop}{G:aU}{t:T}{O:ai}{L:db}
variable[Inhabited dh]
variable{a c d g k:RV}
def aBp(h:fD):∃o,TB.Ev 26 wk o/\∃b,o=.ret [.b b]:=by
 refine dZ ?_;simp[agM,wk]
 repeat'(first|intro _|split)
 all_goals omega
def aBq{X V:RV}{dM:Int}{cl:Bool}(N:Sl P)(Q:Sl X)(M:Sl V)(H:∀i<Y X.ac,Sl (cr 76 X i)):∃o,TB.Ev 7 [.r P,.i dM,.r X,.r V,.b cl] o/\∃b,o=.ret [.b b]:=by
 refine dZ ?_;simp[agL];refine bW (Y X.ac) (λ_ G=>G=[]) ⟨0,rfl,aa,rfl⟩ ?_;rintro i _ F rfl;simp[Q.len,N.len,M.len];refine ay (λW=> ?_) (λD=> ?_);have e:=(H i W).len;simp only[cr] at e;simp[W,bK W Q.sm]
 ·repeat'(first|intro _|split)
  all_goals first|omega|simp
def aBr(W:Sl P)(M:∀i<Y P.ac,Sl (cg (.sl 4) (aQ P.ac i 0))/\Sl (cg (.sl 67) (aQ P.ac i 1))/\∀j<(cg (.sl 67) (aQ P.ac i 1)).ac.length,Sl (cr 134 (cg (.sl 67) (aQ P.ac i 1)) j)):
  T.wp TB.Ev (λo=>o=bq.ret [XV.b E]\/o=bq.ret [XV.b J]) (NQ (NQ RA)) ⟨[],[],[P],[]⟩ []:=by
 simp only[RA,NQ];refine bW (Y P.ac) (λ_ V=>V=[]) ⟨0,rfl,aa,rfl⟩ ?_;rintro i _ G rfl;simp[W.len];intro X;obtain⟨F,N,H⟩:=M i X;refine⟨X,λ_=>⟨X,λ_=> ?_⟩⟩;refine bW (cg (.sl 67) (aQ P.ac i 1)).ac.length (λ_ V=>V=[]) ⟨0,rfl,aa,rfl⟩ ?_;rintro j _ D rfl;simp[W.len,N.len,X];refine ay (λQ=> ?_) (λB=> ?_);have e:=(H j Q).len;simp only[cr] at e;simp[Q,bK Q N.sm];simp[bK X W.sm]
def aBs(X:Sl P)(W:∀i<Y P.ac,Sl (cg (.sl 4) (aQ P.ac i 0))/\Sl (cg (.sl 67) (aQ P.ac i 1))/\∀j<(cg (.sl 67) (aQ P.ac i 1)).ac.length,Sl (cr 134 (cg (.sl 67) (aQ P.ac i 1)) j)):∃o,TB.Ev 25 [.r P] o/\∃x,o=.ret [.b x]:=by
 refine dZ ?_;simp[RA]
 repeat'(first|exact aBr X W|intro _|split)
end
def YL:Nat->T->T
 |0,t=>t
 |n+1,t=>YL n (NQ t)
section
variable{R:bq->Prop}{G:aU}{t:T}{O:ai}{L:db}
variable[Inhabited dh]
variable{a c d g f:RV}
structure tE(a c d g f:RV):Prop where
 sw:Sl a
 sb:Sl c
 sc:Sl d
 sr:Sl g
 so:Sl f
 YM:∀i<Y d.ac,Sl (cr 3 d i)
 A6:∀i<Y g.ac,Sl (cr 69 g i)
 A7:∀k<Y g.ac,∀i<(cr 69 g k).ac.length,Sl (cg (.sl 4) (aQ (cr 69 g k).ac i 0))/\Sl (cg (.sl 67) (aQ (cr 69 g k).ac i 1))/\∀j<(cg (.sl 67) (aQ (cr 69 g k).ac i 1)).ac.length,Sl (cr 134 (cg (.sl 67) (aQ (cr 69 g k).ac i 1)) j)
def aBt(h:fD)(s:tE a c d g f):T.wp TB.Ev (λo=>∃x,o=.ret [.b x]) (YL 12 GQ) ⟨[uD,uE,RO,RP,YC,fy],[],[aK,qz,sj,sn,bw,a,c,d,g,f],[]⟩ []:=by
 simp only[GQ,YL,NQ];refine bW (Y d.ac) (λ_ V=>V=[]) ⟨0,rfl,aa,rfl⟩ ?_;rintro i _ P rfl;simp[s.sc.len];refine ay (λQ=> ?_) (λ_=> ?_);have e:=(s.YM i Q).len;simp only[cr] at e;simp[Q,bK Q s.sc.sm];refine bW (Y g.ac) (λ_ V=>V=[]) ⟨0,rfl,aa,rfl⟩ ?_;rintro k _ N rfl;simp[s.sr.len];refine ay (λW=> ?_) (λ_=> ?_);obtain⟨o,X,x,rfl⟩:=aBs (s.A6 k W) (s.A7 k W);simp only[cr] at X;cases x<;>simp[W,bh X,bK W s.sr.sm];obtain⟨o,X,x,rfl⟩:=aBp h;simp only[wk] at X;cases x<;>simp[bh X]
def aBu(h:fD)(s:tE a c d g f):∃o,TB.Ev 6 (ee a c d g f) o/\∃x,o=.ret [.b x]:=by
 refine dZ ?_;show T.wp TB.Ev (λo=>∃x,o=.ret [.b x]) GQ ⟨[uD,uE,RO,RP,YC,fy],[],[aK,qz,sj,sn,bw,a,c,d,g,f],[]⟩ [];have l:=aBt h s;simp only[GQ,YL,NQ] at l;unfold GQ
 repeat'(first|exact l|(rw[RG];exact⟨_,rfl⟩)|(rw[NJ];refine ay (λ_=> ?_) (λ_=> ?_)))
end
section
variable{R:bq->Prop}{G:aU}{t:T}{O:ai}{L:db}
def aBv(h:jb (Q+1) [X,V,F] H=U A):A∈H/\aM 0 A=X:=by
 unfold jb at h;refine⟨SK h, ?_⟩;have:=SU h;unfold kZ at this;have this:=tP this;rw[aJh] at this;cases A with
 |nil=>simp at this
 |cons r W=>
  simp only[aJh,dU,xU] at this;simpa[aM] using this.1
def asS{n:Nat}{X y:aF}:∀{m:ar},y∈gq n X m->y=X\/y∈m
 |[],h=>by simp[gq] at h;exact .inl h
 |r::W,h=>by
  simp only[gq] at h;split at h;rcases dV.1 h with h|h;exact .inl h;exact .inr (by simp[h]);rcases dV.1 h with h|h;exact .inr (by simp[h]);rcases asS h with h|h;exact .inl h;exact .inr (by simp[h])
def asT{n:Nat}{row:aF}:∀{m:ar},(gq n row m).length<=Y m+1
 |[]=>by simp[gq]
 |r::X=>by
  have:=asT (n:=n) (row:=row) (m:=X);simp only[gq];split;simp;simp only[kV];omega
def aBw(N:Sl P)(n:Int)(G:∀j<Y P.ac,0<=ci P j 0/\ci P j 0<n)(F:∀j<Y P.ac,∀k<j,ci P k 0≠ci P j 0):TB.Ev 50 [.r P,.i n] (.ret [.b J]):=by
 refine fC ?_;simp[agY];refine bW (Y P.ac) (λi D=>∃m,D=[.r (aI m)]/\Y m<=i/\∀X∈m,∃k<i,aM 0 X=ci P k 0) ⟨0,rfl,aa,[],rfl,av,av⟩ ?_;rintro i _ y ⟨m,rfl,x,M⟩;simp[N.len];intro W;have e:=G i W;simp only[ci] at e;refine⟨W,e.1,e.2, ?_, ?_⟩;split;rename_i X B;exfalso;obtain⟨A,z⟩:=aBv B;obtain⟨k,H,V⟩:=M X A;exact F i W k H (by rw[<-V,z];rfl);rfl;rw[bK W N.sm];refine⟨_,rfl,pO asT aa,λX Q=> ?_⟩;rcases asS Q with rfl|Q;exact⟨i,aa,rfl⟩;obtain⟨k,H,V⟩:=M X Q;exact⟨k,aa,V⟩

def aBx(a:RV)(v e:Int):Prop:=(e=-1/\∀j<Y a.ac,ci a j 0≠v)\/∃j:Nat,j<Y a.ac/\e=j/\ci a j 0=v
def aBy(W:Sl P)(v:Int):∃o,TB.Ev 106 [.r P,.i v] o/\∃e,o=.ret [.i e]/\aBx P v e:=by
 refine dZ ?_;simp[agV];refine bW (Y P.ac) (λi N=>N=[]/\∀j<i,ci P j 0≠v) ⟨0,rfl,aa,rfl,λj V=>aa⟩ ?_;rintro i _ F ⟨rfl,Q⟩;simp[W.len];refine ay (λX=>⟨X,ay (λM=>.inr ⟨i,X,rfl,M⟩) (λH=> ?_)⟩) (λD=> ?_);rw[bK X W.sm];refine⟨rfl,λj V=> ?_⟩;by_cases G:j=i;subst G;exact H;exact Q j aa;exact .inl ⟨rfl,λj V=>Q j aa⟩
variable[Inhabited dh]
variable{wg bd cs br co:RV}
structure Cns(co:RV):Prop where
 fnd:∀i<Y co.ac,∃j<Y bw.ac,ci bw j 0=ci co i 0/\ci bw j 3≠1
 ord:∀i<Y co.ac,0<i->ci co (i-1) 0<ci co i 0
def aBA(h:fD)(X:Sl co):∃o,TB.Ev 64 (ee wg bd cs br co) o/\∃b,o=.ret [.b b]/\(b=J->Cns co):=by
 refine dZ ?_;simp[agT,ee,wk];refine bW (Y co.ac) (λn F=>F=[]/\∀i<n,(∃j<Y bw.ac,ci bw j 0=ci co i 0/\ci bw j 3≠1)/\(0<i->ci co (i-1) 0<ci co i 0)) ⟨0,rfl,aa,rfl,λi D=>aa⟩ ?_;rintro i _ D ⟨rfl,W⟩;simp[X.len];refine ay (λV=>⟨V, ?_⟩) (λv=> ?_);obtain⟨o,B,e,rfl,Q⟩:=aBy h.sg (bn (aQ co.ac i 0).val);simp[bh B,h.sg.len];intro A;obtain⟨j,M,rfl,H⟩:∃j:Nat,j<Y bw.ac/\e=j/\ci bw j 0=ci co i 0:=by
  rcases Q with⟨rfl,_⟩|Q;omega;exact Q
 refine⟨⟨A,aa⟩,λG=> ?_⟩;have u:=X.sm;have z:0<i->aH .sub I (i:Int) 1=((i-1:Nat):Int):=λW=>by
  rw[show aH .sub I (i:Int) 1=(i:Int)-1 by simp only[aH];exact cG aa aa];omega
 refine ay (λy=> ?_) (λx=> ?_);rw[X.len,z y];refine⟨aa,⟨aa,aa⟩,λw=> ?_⟩;rw[bK V X.sm];refine⟨rfl,λq P=> ?_⟩;by_cases N:q=i;subst N;exact⟨⟨j,M,H,G⟩,λ_=>w⟩;exact W q aa;rw[bK V X.sm];refine⟨rfl,λq P=> ?_⟩;by_cases N:q=i;subst N;exact⟨⟨j,M,H,G⟩,λh=>aZ h x⟩;exact W q aa;exact⟨λq P=>(W q aa).1,λq P=>(W q aa).2⟩
end
def Er(P:Prop)(c e:Int):Prop:=(P->e=0)/\(¬P->e=c)
def Er.eq{P:Prop}(h:Er P X V)(Q:Er P X F):V=F:=by
 by_cases W:P;rw[h.1 W,Q.1 W];rw[h.2 W,Q.2 W]
def Er.no{P:Prop}(h:¬P):Er P X X:=⟨λp=>aZ p h,λ_=>rfl⟩
def Er.ok{P:Prop}(h:P):Er P X 0:=⟨λ_=>rfl,λp=>aZ h p⟩
def ahx(d n:Int):lG (d.tmod n).natAbs n.natAbs=lG n.natAbs d.natAbs:=by
 rw[Kc,<-ZU]
def ahy{a:Int}(h:-32768<=a/\a<=32768):0<=a*a/\a*a<=1073741824:=by
 have X:=Int.natAbs_mul_self (a:=a);have W:a.natAbs*a.natAbs<=32768*32768:=Dg aa aa;omega
structure RZ(a b c:Int):Prop where
 fc:1<=c/\c<=32768
 fa:-c<=a/\a<=c
 fb:-c<=b/\b<=c
 q:a*a+b*b=c*c
 g:lG (lG a.natAbs b.natAbs) c.natAbs=1
def aBB(Q:1<=X)(h:X.tdiv V=X):V=1:=by
 rw[Int.tdiv_eq_ediv_of_nonneg aa] at h;by_cases W:V=1;exact W;have P:X/V<X:=Int.ediv_lt_self_of_pos_of_ne_one aa W;omega
def mu(X:RV)(k:Nat)(ak:Int):Int:=ci X k 1+(ak-ci X k 0)*ci X k 2
def zu(X:RV)(k:Nat)(ak:Int):Prop:=k<Y X.ac/\ci X k 0<=ak/\(k+1<Y X.ac->ak<ci X (k+1) 0)
structure TpK(bars:Int)(tp:RV)(k:Nat):Prop where
 inc:0<k->ci tp (k-1) 0<ci tp k 0
 lt:ci tp k 0<bars
 ti:-65536<=ci tp k 1/\ci tp k 1<=65536
 st:-65536<=ci tp k 2/\ci tp k 2<=65536
structure PsK(bars:Int)(ps:RV)(k:Nat):Prop where
 ge:0<=ci ps k 0
 lt:ci ps k 0<=bars-2
 inc:0<k->ci ps (k-1) 0<ci ps k 0
 kd:1<=ci ps k 1/\ci ps k 1<=2
 lo:0<=ci ps k 2
 hi:ci ps k 2<=ci ps k 3
 mx:ci ps k 3<=1048576
structure SpK(bars:Int)(sp:RV)(k:Nat):Prop where
 fr:0<=ci sp k 0/\ci sp k 0<=bars
 to:0<=ci sp k 1/\ci sp k 1<=bars
 ne:ci sp k 0≠ci sp k 1
 lo:-1099511627776<=ci sp k 2
 hi:ci sp k 2<=ci sp k 3
 mx:ci sp k 3<=1099511627776
structure uF(bars:Int)(tp:RV):Prop where
 br:1<=bars/\bars<=4096
 pos:0<Y tp.ac
 zero:ci tp 0 0=0
 all:∀k<Y tp.ac,TpK bars tp k
def uF.mono{W:Int}{X:RV}(h:uF W X):∀{k j:Nat},j<k->k<Y X.ac->ci X j 0<ci X k 0
 |k+1,j,P,V=>by
  have:=(h.all (k+1) V).inc aa;simp at this;by_cases Q:j=k;subst Q;exact this;have:=h.mono (k:=k) (j:=j) aa aa;omega
def uF.ge(h:uF X P){k:Nat}(W:k<Y P.ac):0<=ci P k 0:=by
 rcases Bm k with rfl|V;rw[h.zero];omega;have:=h.mono V W;rw[h.zero] at this;omega
def uF.ahC(h:uF X P){k:Nat}(W:zu P Q V)(N:zu P k V):Q=k:=by
 rcases Nat.lt_trichotomy Q k with M|M|M;have G:=W.2.2 (by have:=N.1;omega);have F:=N.2.1;by_cases H:k=Q+1;subst H;omega;have:=h.mono (j:=Q+1) (k:=k) aa N.1;omega;exact M;have G:=N.2.2 (by have:=W.1;omega);have F:=W.2.1;by_cases H:Q=k+1;subst H;omega;have:=h.mono (j:=k+1) (k:=Q) aa W.1;omega
def YN{a b x y:Int}(X:-x<=a/\a<=x)(W:-y<=b/\b<=y):-(x*y)<=a*b/\a*b<=x*y:=by
 have V:(a*b).natAbs<=x.toNat*y.toNat:=by rw[ZP];exact Dg aa aa
 have Q:x*y=((x.toNat*y.toNat:Nat):Int):=by rw[ajl,avw aa,avw aa]
 omega
def aBC(H:X<=F)(G:F<=V)(A:D<=mu P Q X/\mu P Q X<=B)(y:D<=mu P Q V/\mu P Q V<=B):D<=mu P Q F/\mu P Q F<=B:=by
 simp only[mu] at*;generalize ci P Q 0=z at*;generalize ci P Q 2=s at*;rcases Int.le_total 0 s with W|W;have N:=ai5 (show X-z<=F-z from aa) W;have M:=ai5 (show F-z<=V-z from aa) W;omega;have N:=aIR (show X-z<=F-z from aa) W;have M:=aIR (show F-z<=V-z from aa) W;omega
def YO(W:Int)(X:RV):Prop:=∀(k:Nat)(ak:Int),0<=ak->ak<W->zu X k ak->1<=mu X k ak/\mu X k ak<=65536
def uG(W:Int)(X:RV)(k:Nat):Int:=if k+1<Y X.ac then ci X (k+1) 0-1 else W-1
def uF.last(h:uF X P)(W:Q<Y P.ac):zu P Q (ci P Q 0)/\zu P Q (uG X P Q)/\0<=ci P Q 0/\ci P Q 0<=uG X P Q/\uG X P Q<X:=by
 have N:=h.ge W;have M:=(h.all Q W).lt;simp only[uG,zu];split;rename_i V;have H:=h.mono (j:=Q) (k:=Q+1) aa V;have G:=(h.all (Q+1) V).lt;exact⟨⟨W,aa,λ_=>aa⟩,⟨W,aa,λ_=>aa⟩,aa,aa,aa⟩;rename_i V;exact⟨⟨W,aa,λe=>aZ e V⟩,⟨W,aa,λe=>aZ e V⟩,aa,aa,aa⟩
def uF.tk(h:uF X P):YO X P<->∀k<Y P.ac,(1<=mu P k (ci P k 0)/\mu P k (ci P k 0)<=65536)/\1<=mu P k (uG X P k)/\mu P k (uG X P k)<=65536:=by
 constructor;intro g k H;obtain⟨V,Q,N,G,M⟩:=h.last H;exact⟨g k _ N aa V,g k _ aa M Q⟩;intro g k ak A z W;obtain⟨V,Q,N,G,M⟩:=h.last W.1;obtain⟨F,D⟩:=g k W.1;refine aBC W.2.1 ?_ F D;simp only[uG];split;rename_i B;have:=W.2.2 B;omega;omega
structure R6(bars:Int)(tp ps sp:RV):Prop where
 t:uF bars tp
 k:YO bars tp
 p:∀k<Y ps.ac,PsK bars ps k
 s:∀k<Y sp.ac,SpK bars sp k
structure eU(bars:Int)(tp ps sp:RV)(e:Int):Prop where
 l:¬(Y tp.ac<=4096/\Y ps.ac<=4096/\Y sp.ac<=256)->e=2
 k:Y tp.ac<=4096/\Y ps.ac<=4096/\Y sp.ac<=256->Er (R6 bars tp ps sp) 130 e
def eU.eq{P:Int}{W V Q:RV}{e N:Int}(h:eU P W V Q e)(M:eU P W V Q N):e=N:=by
 by_cases X:Y W.ac<=4096/\Y V.ac<=4096/\Y Q.ac<=256;exact(h.k X).eq (M.k X);rw[h.l X,M.l X]
section
variable{R:bq->Prop}{G:aU}{t:T}{O:ai}{L:db}
def wtd(h:-32768<=X/\X<=32768):IntKind.i64.wrap (X.tdiv V)=X.tdiv V:=by
 have W:(X.tdiv V).natAbs<=X.natAbs:=by rw[Int.natAbs_tdiv];exact Nat.div_le_self _ _
 exact cG aa aa
def sqs(W:1<=F)(Q:F<=32768)(P:-F<=X/\X<=F)(N:-F<=V/\V<=F):(aH .add I (aH .mul I X X) (aH .mul I V V)=aH .mul I F F)=(X*X+V*V=F*F):=by
 have M:=ahy (a:=X) aa;have H:=ahy (a:=V) aa;have G:=ahy (a:=F) aa;simp only[aH];rw[cG (n:=X*X) aa aa,cG (n:=V*V) aa aa,cG (n:=F*F) aa aa,cG aa aa]
def asW(W:1<=X)(V:X<=32768):aH .sub I 0 X=-X:=by simp only[aH];rw[cG aa aa];omega
def aBD(a b c:Int)(F:1<=c)(D:c<=32768)(B:-c<=a/\a<=c)(A:-c<=b/\b<=c):∃g:Int,g=(lG (lG a.natAbs b.natAbs) c.natAbs:Nat)/\TB.Ev 96 [.i a,.i b,.i c] (.ret [.i (a.tdiv g),.i (b.tdiv g),.i (c.tdiv g)]):=by
 refine⟨_,rfl,fC ?_⟩;simp[Yq];refine vN (λX=>∃n d:Int,X=[.i n,.i d]∧-c<=n/\n<=c∧-c<=d/\d<=c/\lG n.natAbs d.natAbs=a.natAbs) (λX=>(xi X 0).natAbs) ⟨a,0,rfl,aa,aa,aa,aa,av⟩ ?_;rintro _ ⟨n,d,rfl,Q,P,N,M,W⟩;simp[xi,vM,aH];split
 case isFalse h=>
  have:=NM (a:=d) h;refine⟨h,⟨_,_,⟨rfl,rfl⟩,aa,aa,aa,aa,by rw[ahx];exact W⟩,by rw[<-Kc];exact this⟩
 rename_i h;subst h;simp at W;refine vN (λX=>∃n e:Int,X=[.i n,.i e]∧-c<=n/\n<=c∧-c<=e/\e<=c/\lG n.natAbs e.natAbs=lG a.natAbs b.natAbs) (λX=>(xi X 0).natAbs) ⟨b,d,rfl,aa,aa,aa,aa,by rw[W,Oq]⟩ ?_;rintro _ ⟨n,e,rfl,Q,P,N,M,V⟩;simp[xi,vM,aH];split
 case isFalse h=>
  have:=NM (a:=e) h;refine⟨h,⟨_,_,⟨rfl,rfl⟩,aa,aa,aa,aa,by rw[ahx];exact V⟩,by rw[<-Kc];exact this⟩
 rename_i h;subst h;simp at V;refine vN (λX=>∃n f:Int,X=[.i n,.i f]∧-c<=n/\n<=c∧-c<=f/\f<=c/\lG n.natAbs f.natAbs=lG (lG a.natAbs b.natAbs) c.natAbs) (λX=>(xi X 0).natAbs) ⟨c,e,rfl,aa,aa,aa,aa,by rw[V,Oq]⟩ ?_;rintro _ ⟨n,f,rfl,Q,P,N,M,H⟩;simp[xi,vM,aH];split
 case isFalse h=>
  have:=NM (a:=f) h;refine⟨h,⟨_,_,⟨rfl,rfl⟩,aa,aa,aa,aa,by rw[ahx];exact H⟩,by rw[<-Kc];exact this⟩
 rename_i h;subst h;simp at H;have z:0<lG (lG a.natAbs b.natAbs) c.natAbs:=Nat.gcd_pos_of_pos_right _ aa;have:IntKind.i64.wrap (-f)=-f:=cG aa aa;simp[this];generalize(a.natAbs.gcd b.natAbs).gcd c.natAbs=G at*;rw[show max f (-f)=(G:Int) from aa,wtd aa,wtd aa,wtd aa];exact⟨aa,rfl,rfl,rfl⟩
def x83(a b c:Int):∃o,TB.Ev 56 [.i a,.i b,.i c] o/\∃e,o=.ret [.i e]/\Er (RZ a b c) 140 e:=by
 refine dZ ?_;simp[Yr];split;exact Er.no λh=>by have:=h.fc;omega
 split;exact Er.no λh=>by have:=h.fc;omega
 rw[asW aa aa];split;exact Er.no λh=>by have:=h.fa;have:=h.fb;omega
 split;exact Er.no λh=>by have:=h.fa;have:=h.fb;omega
 refine ay (λX=> ?_) (λX=> ?_)
 all_goals rw[sqs aa aa aa aa] at X
 case refine_2=>exact Er.no λp=>X p.q
 obtain⟨g,W,V⟩:=aBD a b c aa aa aa aa;rw[bh V];simp;refine ay (λh=>Er.no λp=> ?_) (λh=> ?_);have Q:=p.g;rw[Q] at W;subst W;simp at h;simp at h;have:=aBB aa h.2.2;exact Er.ok ⟨aa,aa,aa,X,aa⟩
def aBF(Q ak:Int)(X G F:RV)(M:Sl X)(h:uF Q X)(q:0<=ak)(p:ak<Q):∃k,zu X k ak/\TB.Ev 137 [.i Q,.r X,.r G,.r F,.i ak] (.ret [.i (mu X k ak)]):=by
 suffices B:∃o,TB.Ev 137 [.i Q,.r X,.r G,.r F,.i ak] o/\∃k,zu X k ak/\o=.ret [.i (mu X k ak)] by
  obtain⟨o,H,k,D,rfl⟩:=B;exact⟨k,D,H⟩
 refine dZ ?_;simp[Yj];have m:=h.pos;have l:=M.sm;refine vN (λP=>∃i j:Nat,P=[.i i,.i j]/\i<=j/\j<=Y X.ac/\(j=Y X.ac\/ak<ci X j 0)/\(0<i->ci X (i-1) 0<=ak)) (λP=>(xi P 1-xi P 0).toNat) ⟨0,Y X.ac,by simp[M.len],aa,aa,.inl rfl,aa⟩ ?_;rintro _ ⟨i,j,rfl,H,D,W,N⟩;simp[xi,vM,M.len,asi (show j<=140737488355328 from aa) H];split;rename_i A;refine⟨aa, ?_⟩;have z:((i:Int)+j)/2=(((i+j)/2:Nat):Int):=aa;have w:=JI (i:=(i+j)/2) aa;rw[z,w];split;rename_i V;refine⟨⟨(i+j)/2+1,j,⟨rfl,rfl⟩,aa,aa,W,λ_=> ?_⟩,aa⟩;simp only[ci,Nat.add_sub_cancel];omega;rename_i V;refine⟨⟨i,(i+j)/2,⟨rfl,rfl⟩,aa,aa,.inr ?_,N⟩,aa⟩;simp only[ci];omega;rename_i A;have v:i=j:=aa;subst v;have u:1<=i:=by
  rcases Bm i with rfl|V;have:=h.zero;rcases W with W|W<;>omega;exact V
 have N:=N u;rw[show aH .sub I (i:Int) 1=((i-1:Nat):Int) by simp only[aH];rw[cG aa aa];omega];refine⟨aa,i-1,⟨aa,N,λV=> ?_⟩, ?_⟩;rw[show i-1+1=i from aa] at V⊢;rcases W with W|W<;>omega;have g:=h.ge (k:=i-1) aa;obtain⟨-,f,e,s⟩:=h.all (i-1) aa;have d:=h.br;have c:=YN (a:=ak-ci X (i-1) 0) (b:=ci X (i-1) 2) (x:=4096) (y:=65536) aa s;simp only[mu,aH];simp only[ci] at*;rw[cG (n:=ak-_) aa aa,cG (n:=_*_) aa aa,cG aa aa]
def eU.R7{W V:RV}(h:¬(Y P.ac<=4096/\Y W.ac<=4096/\Y V.ac<=256)):eU X P W V 2:=⟨λ_=>rfl,λk=>aZ k h⟩
def eU.no{Q:Int}{X W V:RV}(h:Y X.ac<=4096/\Y W.ac<=4096/\Y V.ac<=256)(P:¬R6 Q X W V):eU Q X W V 130:=⟨λk=>aZ h k,λ_=>Er.no P⟩
def eU.ok{V:Int}{X ps W:RV}(h:Y X.ac<=4096/\Y ps.ac<=4096/\Y W.ac<=256)(Q:R6 V X ps W):eU V X ps W 0:=⟨λk=>aZ h k,λ_=>Er.ok Q⟩
def x81(Q:Int)(P M H:RV)(n:Sl P)(g:Sl M)(f:Sl H):∃o,TB.Ev 54 [.i Q,.r P,.r M,.r H] o/\∃e,o=.ret [.i e]/\eU Q P M H e:=by
 refine YA rfl rfl (.inr λv hv=>by obtain⟨_,h,_⟩:=hv;cases h) ?_;simp[Yt,n.len,g.len,f.len];refine ay (λm1=> ?_) (λm1=>eU.R7 aa);refine ay (λm2=>eU.R7 aa) (λm2=> ?_);have W:Y P.ac<=4096/\Y M.ac<=4096/\Y H.ac<=256:=aa;refine ay (λm3=> ?_) (λm3=>eU.no W λp=>by have:=p.t.br;omega);refine ay (λm4=> ?_) (λm4=>eU.no W λp=>by have:=p.t.br;omega);refine ay (λd=> ?_) (λd=>eU.no W λp=>by have:=p.t.pos;omega);refine⟨d, ?_⟩;refine ay (λm=> ?_) (λm=>eU.no W λp=>m p.t.zero);have e1:aH .sub I Q 1=Q-1:=by simp only[aH];rw[cG aa aa]
 have e2:aH .sub I Q 2=Q-2:=by simp only[aH];rw[cG aa aa]
 refine bW (Y P.ac) (λi F=>∃V:Int,F=[.i V]/\(∀k<i,TpK Q P k)∧-1<=V/\V<=4096/\((i=0/\V=-1)\/(0<i/\V=ci P (i-1) 0))) ⟨0,rfl,aa,-1,rfl,aa,aa,aa,.inl ⟨rfl,rfl⟩⟩ ?_;rintro i _ X ⟨V,rfl,N,k2,k3,k4⟩;have l:aH .add I V 1=V+1:=by simp only[aH];rw[cG aa aa]
 simp[n.len,e1,l];refine ay (λX=> ?_) (λX=> ?_);simp[bK X n.sm];refine⟨X, ?_⟩;have lo:i=0->ci P i 0=0:=by rintro rfl;exact m
 refine ay (λD=> ?_) (λD=>eU.no W λp=>by have q:=(p.t.all i X).inc;have:=p.t.ge X;simp only[ci] at*;omega);refine ay (λB=> ?_) (λB=>eU.no W λp=>by have q:=(p.t.all i X).lt;simp only[ci] at*;omega);refine ay (λA=> ?_) (λA=>eU.no W λp=>by have q:=(p.t.all i X).ti;simp only[ci] at*;omega);refine ay (λz=> ?_) (λz=>eU.no W λp=>by have q:=(p.t.all i X).ti;simp only[ci] at*;omega);refine ay (λy=> ?_) (λy=>eU.no W λp=>by have q:=(p.t.all i X).st;simp only[ci] at*;omega);refine ay (λx=>eU.no W λp=>by have q:=(p.t.all i X).st;simp only[ci] at*;omega) (λx=> ?_);refine⟨λk G=> ?_,aa,aa,rfl⟩;by_cases w:k=i;subst w;refine⟨λc=> ?_, ?_, ?_, ?_⟩<;>simp only[ci] at* <;>omega;exact N k aa;have u:i=Y P.ac:=aa;subst u;have a:uF Q P:=⟨⟨m3,m4⟩,d,m,N⟩;clear N k2 k3 k4 l;refine bW Q.toNat (λi F=>F=[]/\∀(k:Nat)(b:Int),0<=b->b<i->zu P k b->1<=mu P k b/\mu P k b<=65536) ⟨0,rfl,aa,rfl,aa⟩ ?_;rintro i _ X ⟨rfl,N⟩;simp;refine ay (λX=> ?_) (λX=> ?_);have af:i<Q.toNat:=aa;obtain⟨k,G,he⟩:=aBF Q i P M H n a aa X;rw[bh he];simp[bK af (show Q.toNat<=140737488355328 from aa)];refine ay (λD=> ?_) (λD=>eU.no W λp=>by have q:=p.k k i aa X G;omega);refine ay (λB=>eU.no W λp=>by have q:=p.k k i aa X G;omega) (λB=> ?_);intro k' b hb al j;by_cases ag:b=i;subst ag;rw[a.ahC j G];omega;exact N k' b hb aa j;have G:YO Q P:=λk b c hb j=>N k b c aa j
 clear N X;refine bW (Y M.ac) (λi F=>∃V:Int,F=[.i V]/\(∀k<i,PsK Q M k)∧-1<=V/\V<=4096/\((i=0/\V=-1)\/(0<i/\V=ci M (i-1) 0))) ⟨0,rfl,aa,-1,rfl,aa,aa,aa,.inl ⟨rfl,rfl⟩⟩ ?_;rintro i _ X ⟨V,rfl,N,k2,k3,k4⟩;have l:aH .add I V 1=V+1:=by simp only[aH];rw[cG aa aa]
 simp[g.len,e2,l];refine ay (λX=> ?_) (λX=> ?_);simp[bK X g.sm];refine⟨X, ?_⟩;refine ay (λD=> ?_) (λD=>eU.no W λp=>by have q:=p.p i X;have q1:=q.ge;have q2:=q.inc;simp only[ci] at*;omega);refine ay (λB=> ?_) (λB=>eU.no W λp=>by have q:=(p.p i X).lt;simp only[ci] at*;omega);refine ay (λA=> ?_) (λA=>eU.no W λp=>by have q:=(p.p i X).kd;simp only[ci] at*;omega);refine ay (λz=> ?_) (λz=>eU.no W λp=>by have q:=(p.p i X).kd;simp only[ci] at*;omega);refine ay (λy=> ?_) (λy=>eU.no W λp=>by have q:=(p.p i X).lo;simp only[ci] at*;omega);refine ay (λx=> ?_) (λx=>eU.no W λp=>by have q:=(p.p i X).hi;simp only[ci] at*;omega);refine ay (λg7=>eU.no W λp=>by have q:=(p.p i X).mx;simp only[ci] at*;omega) (λg7=> ?_);refine⟨λk G=> ?_,aa,aa,rfl⟩;by_cases w:k=i;subst w;refine⟨?_, ?_,λc=> ?_, ?_, ?_, ?_, ?_⟩<;>simp only[ci] at* <;>omega;exact N k aa;have u:i=Y M.ac:=aa;subst u;refine bW (Y H.ac) (λi F=>F=[]/\∀k<i,SpK Q H k) ⟨0,rfl,aa,rfl,aa⟩ ?_;rintro i _ X ⟨rfl,k5⟩;simp[f.len];refine ay (λX=> ?_) (λX=> ?_);simp[bK X f.sm];refine⟨X, ?_⟩;refine ay (λD=> ?_) (λD=>eU.no W λp=>by have q:=(p.s i X).fr;simp only[ci] at*;omega);refine ay (λB=> ?_) (λB=>eU.no W λp=>by have q:=(p.s i X).fr;simp only[ci] at*;omega);refine ay (λA=> ?_) (λA=>eU.no W λp=>by have q:=(p.s i X).to;simp only[ci] at*;omega);refine ay (λz=> ?_) (λz=>eU.no W λp=>by have q:=(p.s i X).to;simp only[ci] at*;omega);refine ay (λy=>eU.no W λp=>by have q:=(p.s i X).ne;simp only[ci] at*;omega) (λy=> ?_);refine ay (λx=> ?_) (λx=>eU.no W λp=>by have q:=(p.s i X).lo;simp only[ci] at*;omega);refine ay (λg7=> ?_) (λg7=>eU.no W λp=>by have q:=(p.s i X).hi;simp only[ci] at*;omega);refine ay (λg8=>eU.no W λp=>by have q:=(p.s i X).mx;simp only[ci] at*;omega) (λg8=> ?_);intro k G;by_cases w:k=i;subst w;refine⟨?_, ?_, ?_, ?_, ?_, ?_⟩<;>simp only[ci] at* <;>omega;exact k5 k aa;have u:i=Y H.ac:=aa;subst u;exact eU.ok W ⟨a,G,N,k5⟩

def aBH(n X W:Int):TB.Ev 140 [.i n,.i X,.i W] (.ret [.b (jm n X W)]):=by
 refine fC ?_;simp[agj,jm]
 grind
@[simp] def aJW (n X W:Int):iY TB.Ev R 140 [.i n,.i X,.i W] G t O L=iZ TB.Ev R (.ret [.b (jm n X W)]) G t O L:=bh (aBH n X W)
def aBI(n X W:Int):TB.Ev 144 [.i n,.i X,.i W] (.ret [.b (jm n X W)]):=by
 refine fC ?_;simp[agk,jm]
 grind
@[simp] def aJX (n X W:Int):iY TB.Ev R 144 [.i n,.i X,.i W] G t O L=iZ TB.Ev R (.ret [.b (jm n X W)]) G t O L:=bh (aBI n X W)
def aBJ(a b:Nat)(_:a<=1152921504606846976)(V:b<=1152921504606846976):TB.Ev 266 [.i a,.i b] (.ret [.i (lG a b:Nat)]):=by
 refine fC ?_;simp[agp];refine vN (λX=>∃m n:Nat,X=[.i m,.i n]/\m<=1152921504606846976/\lG m n=lG a b) (λX=>(xi X 0).toNat) ⟨b,a,rfl,V,Oq _ _⟩ ?_;rintro _ ⟨m,n,rfl,Q,W⟩;simp[xi,vM,aH];split;rename_i h;have P:n%m<m:=Hy _ aa;refine⟨aa,⟨n%m,m,⟨?_,rfl⟩,aa,by rw[<-W,<-ZU]⟩, ?_⟩;rw[Zz aa];rfl;rw[Zz aa];omega;rename_i h;have:m=0:=aa;subst this;simp at W;rw[W]
def asX(a b:Nat)(_:a<=1152921504606846976)(V:b<=1152921504606846976):TB.Ev 180 [.i a,.i b] (.ret [.i (lG a b:Nat)]):=by
 refine fC ?_;simp[agn];refine vN (λX=>∃m n:Nat,X=[.i m,.i n]/\m<=1152921504606846976/\lG m n=lG a b) (λX=>(xi X 0).toNat) ⟨b,a,rfl,V,Oq _ _⟩ ?_;rintro _ ⟨m,n,rfl,Q,W⟩;simp[xi,vM,aH];split;rename_i h;have P:n%m<m:=Hy _ aa;refine⟨aa,⟨n%m,m,⟨?_,rfl⟩,aa,by rw[<-W,<-ZU]⟩, ?_⟩;rw[Zz aa];rfl;rw[Zz aa];omega;rename_i h;have:m=0:=aa;subst this;simp at W;rw[W]
def aBK(n:Int)(h:-1152921504606846976<=n/\n<=1152921504606846976):TB.Ev 267 [.i n] (.ret [.i n.natAbs]):=by
 refine fC ?_;simp[agq,aH];split;rw[cG aa aa];omega;omega
def ahE(W:1<=V)(Q:V<=1073741824)(P:-1073741824<=X)(N:X<=1073741824):TB.Ev 267 [.i X] (.ret [.i X.natAbs])/\TB.Ev 266 [.i X.natAbs,.i V] (.ret [.i (lG X.natAbs V.toNat:Nat)]):=by
 refine⟨aBK X aa, ?_⟩;have:=aBJ X.natAbs V.toNat aa aa
 rwa [avw aa] at this
def ahF(h:¬(1<=V/\V<=1073741824∧-1073741824<=X/\X<=1073741824)):gC X V=false:=by
 simp[gC];omega
def ahG(h:1<=V/\V<=1073741824∧-1073741824<=X/\X<=1073741824):gC X V=(lG X.natAbs V.toNat==1):=by
 simp[gC,h]
def aBL(n d:Int):TB.Ev 182 [.i n,.i d] (.ret [.i (if gC n d then 0 else 120)]):=by
 refine fC ?_;by_cases X:1<=d/\d<=1073741824∧-1073741824<=n/\n<=1073741824;rw[ahG X];obtain⟨W,V,Q,P⟩:=X;obtain⟨N,M⟩:=ahE W V Q P;simp[Yu,W,V,Q,P,bh N,bh M]
 grind
 rw[ahF X];simp[Yu]
 grind
@[simp] def aJY (n d:Int):iY TB.Ev R 182 [.i n,.i d] G t O L=iZ TB.Ev R (.ret [.i (if gC n d then 0 else 120)]) G t O L:=bh (aBL n d)
def aBM(a b c d:Int):TB.Ev 183 [.i a,.i b,.i c,.i d] (.ret [.i (oH a b c d),.i (if gC a b&&gC c d then 0 else 120)]):=by
 refine fC ?_;by_cases X:1<=b/\b<=1073741824∧-1073741824<=a/\a<=1073741824;rw[oH,ahG X];obtain⟨W,V,Q,P⟩:=X;obtain⟨M,H⟩:=ahE W V Q P;by_cases N:1<=d/\d<=1073741824∧-1073741824<=c/\c<=1073741824;rw[ahG N];obtain⟨G,F,D,B⟩:=N;obtain⟨A,z⟩:=ahE G F D B;simp[Ry,W,V,Q,P,bh M,bh H,G,F,D,B,bh A,bh z,tC,aH]
 grind
 rw[ahF N];simp[Ry,W,V,Q,P,bh M,bh H]
 grind
 rw[oH,ahF X];simp[Ry]
 grind
@[simp] def aJZ (a b c d:Int):iY TB.Ev R 183 [.i a,.i b,.i c,.i d] G t O L=iZ TB.Ev R (.ret [.i (oH a b c d),.i (if gC a b&&gC c d then 0 else 120)]) G t O L:=bh (aBM a b c d)
def aBN(a b c:Int):∃o,TB.Ev 145 [.i a,.i b,.i c] o/\∃e,o=.ret [.i e]/\Er (RZ a b c) 140 e:=by
 refine dZ ?_;simp[ago];refine ay (λ_=>Er.no λh=>by have:=h.fc;omega) (λP=> ?_);refine ay (λ_=>Er.no λh=>by have:=h.fc;omega) (λN=> ?_);rw[asW aa aa];refine ay (λ_=>Er.no λh=>by have:=h.fa;omega) (λM=> ?_);refine ay (λ_=>Er.no λh=>by have:=h.fa;omega) (λH=> ?_);refine ay (λ_=>Er.no λh=>by have:=h.fb;omega) (λG=> ?_);refine ay (λ_=>Er.no λh=>by have:=h.fb;omega) (λF=> ?_);refine ay (λX=> ?_) (λX=> ?_)
 all_goals rw[sqs aa aa aa aa] at X
 case refine_2=>exact Er.no λp=>X p.q
 rw[show max a (aH .sub I 0 a)=(a.natAbs:Int) by simp only[aH];rw[cG aa aa];omega,show max b (aH .sub I 0 b)=(b.natAbs:Int) by simp only[aH];rw[cG aa aa];omega];rw[bh (asX a.natAbs b.natAbs aa aa)];have V:lG a.natAbs b.natAbs<=1152921504606846976:=by
  by_cases Q:a.natAbs=0;rw[Q,Nat.gcd_zero_left];omega;have:=Nat.le_of_dvd aa (Nat.gcd_dvd_left a.natAbs b.natAbs);omega
 have W:=asX (lG a.natAbs b.natAbs) c.natAbs V aa;rw[show((c.natAbs:Nat):Int)=c from aa] at W;simp[bh W];refine ay (λh=>Er.ok ⟨aa,aa,aa,X,aa⟩) (λh=>Er.no λp=>h (by have:=p.g;omega))

def mM{P:Nat->Prop}(h:∀k<Q,P k)(X:P Q):∀k<Q+1,P k:=λk W=>by
 by_cases e:k=Q;subst e;exact X;exact h k aa
def NR(h:0<Q)(X:Q<=140737488355328):aH .sub I (Q:Int) 1=((Q-1:Nat):Int):=by simp only[aH];rw[cG aa aa];omega
def aBO{n:Nat}{X:Nat->bv->Prop}{i:Nat}{W:bv}(V:i<n)(P:n<=140737488355328):JH (U ⟨Q,RN n X,NL n,n-i⟩) (.i ((i:Int)+1)::W)=X (i+1) W:=by
 have:=bK (ax:=Q) (J:=X) (rest:=W) V P
 rwa [JI aa] at this
def asY(V ak:Int)(X M H:RV)(G:Sl X)(h:uF V X)(v:0<=ak)(u:ak<V):∃k,zu X k ak/\TB.Ev 179 [.i V,.r X,.r M,.r H,.i ak] (.ret [.i (mu X k ak)]):=by
 suffices D:∃o,TB.Ev 179 [.i V,.r X,.r M,.r H,.i ak] o/\∃k,zu X k ak/\o=.ret [.i (mu X k ak)] by
  obtain⟨o,W,k,Q,rfl⟩:=D;exact⟨k,Q,W⟩
 refine dZ ?_;simp[agl];have s:=h.pos;have B:=G.sm;refine bW (Y X.ac) (λi A=>A=[]/\i<Y X.ac/\ci X i 0<=ak) ⟨0,rfl,aa,rfl,aa,by rw[h.zero];omega⟩ ?_;rintro i _ q ⟨rfl,W,Q⟩;have P:(i+1<Y X.ac->ak<ci X (i+1) 0)->(0<=(i:Int)/\(i:Int)<Y X.ac)/\∃k,zu X k ak/\aH .add I (ci X i 1) (aH .mul I (aH .sub I ak (ci X i 0)) (ci X i 2))=mu X k ak:=by
  intro N;refine⟨aa,i,⟨W,Q,N⟩, ?_⟩;have p:=h.ge W;obtain⟨-,m,l,z⟩:=h.all i W;have j:=h.br;have g:=YN (a:=ak-ci X i 0) (b:=ci X i 2) (x:=4096) (y:=65536) aa z;simp only[mu,aH];rw[cG (n:=ak-_) aa aa,cG (n:=_*_) aa aa,cG aa aa]
 simp only[ci] at P;have w:aH .add I (i:Int) 1=((i+1:Nat):Int):=JI aa;simp[G.len,w];refine ay (λN=>⟨aa,ay (λF=> ?_) (λF=> ?_)⟩) (λN=> ?_);rw[aBO W B];exact⟨rfl,aa,F⟩;have:=P (λ_=>by simp only[Int.natCast_add,Int.natCast_one];omega);exact⟨W,this.2⟩;have:=P (λe=>aa);exact⟨W,this.2⟩
def r91(V:Int)(W M H:RV)(G:Sl W)(q:Sl M)(j:Sl H):∃o,TB.Ev 99 [.i V,.r W,.r M,.r H] o/\∃e,o=.ret [.i e]/\eU V W M H e:=by
 refine dZ ?_;simp[T91,G.len,q.len,j.len];refine ay (λh=>eU.R7 aa) (λh=> ?_);refine ay (λh=>eU.R7 aa) (λh=> ?_);refine ay (λm2=>eU.R7 aa) (λm2=> ?_);have Q:Y W.ac<=4096/\Y M.ac<=4096/\Y H.ac<=256:=aa;refine ay (λm3=> ?_) (λm3=>eU.no Q λp=>by have:=p.t.br;omega);refine ay (λm4=>eU.no Q λp=>by have:=p.t.br;omega) (λm4=> ?_);refine ay (λf=>eU.no Q λp=>by have:=p.t.pos;rw[f] at this;simp at this) (λf=> ?_);have af:0<Y W.ac:=Og.2 f;refine⟨af, ?_⟩;refine ay (λd=> ?_) (λd=>eU.no Q λp=>d p.t.zero);have c:aH .sub I V 1=V-1:=by simp only[aH];rw[cG aa aa]
 have e2:aH .sub I V 2=V-2:=by simp only[aH];rw[cG aa aa]
 refine bW (Y W.ac) (λi D=>D=[]/\∀k<i,TpK V W k) ⟨0,rfl,aa,rfl,aa⟩ ?_;rintro i _ X ⟨rfl,P⟩;simp[G.len,c];refine ay (λX=> ?_) (λX=> ?_);simp[bK X G.sm];have n:=G.sm;refine⟨X,ay (λB=> ?_) (λB=> ?_)⟩
 ·rw[NR B aa];refine⟨aa, ?_⟩
  repeat'(refine ay (λ_=> ?_) (λ_=> ?_))
  any_goals(refine eU.no Q λp=> ?_;obtain⟨y,x,w,v⟩:=p.t.all i X;simp only[ci] at*;omega)
  refine mM P ⟨λ_=> ?_, ?_, ?_, ?_⟩<;>simp only[ci]<;>omega
 ·repeat'(refine ay (λ_=> ?_) (λ_=> ?_))
  any_goals(refine eU.no Q λp=> ?_;obtain⟨y,x,w,v⟩:=p.t.all i X;simp only[ci] at*;omega)
  refine mM P ⟨λ_=> ?_, ?_, ?_, ?_⟩<;>simp only[ci]<;>omega
 have A:i=Y W.ac:=aa;subst A;have N:uF V W:=⟨⟨m3,aa⟩,af,d,P⟩;clear P;refine bW (Y W.ac) (λi D=>D=[]/\∀k<i,(1<=mu W k (ci W k 0)/\mu W k (ci W k 0)<=65536)/\1<=mu W k (uG V W k)/\mu W k (uG V W k)<=65536) ⟨0,rfl,aa,rfl,aa⟩ ?_;rintro i _ X ⟨rfl,P⟩;simp[G.len,c];refine ay (λX=> ?_) (λX=> ?_);have n:=G.sm;obtain⟨l1,l2,l3,l4,l5⟩:=N.last X;obtain⟨a,a1,a2⟩:=asY V (ci W i 0) W M H G N l3 aa;obtain rfl:=N.ahC l1 a1;obtain⟨b,b1,m⟩:=asY V (uG V W i) W M H G N aa l5;obtain rfl:=N.ahC l2 b1;have e3:=JI (i:=i) aa;refine ay (λB=> ?_) (λB=> ?_);have u:uG V W i=aH .sub I (ci W (i+1) 0) 1:=by
  have g:=N.ge (k:=i+1) aa;have F:=(N.all (i+1) aa).lt;rw[uG,aL aa];simp only[aH];rw[cG aa aa]
 refine⟨aa,X, ?_⟩;simp only[ci] at a2 m;rw[bh a2];simp[e3];rw[show(i:Int)+1=((i+1:Nat):Int) from rfl];refine ay (λz=> ?_) (λz=> ?_);have e5:uG V W i=aH .sub I (bn (aQ W.ac ((i+1:Nat):Int) 0).val) 1:=u;have b3:=m;rw[e5] at b3;rw[bh b3,<-e5];simp;refine ay (λF=> ?_) (λF=>eU.no Q λp=>F (N.tk.1 p.k i X).2);rw[bK X n];exact⟨rfl,mM P ⟨z,F⟩⟩;refine eU.no Q λp=>z ?_
 have:=(N.tk.1 p.k i X).1;simpa only[ci] using this;have u:uG V W i=V-1:=by rw[uG,aT aa]
 refine⟨X, ?_⟩;rw[u] at m;simp only[ci] at a2;rw[bh a2];simp[c,bh m,bK X n];have l:∀p:R6 V W M H,_:=λp=>N.tk.1 p.k i X
 rw[u] at l;simp only[ci] at l;refine ay (λz=>ay (λF=>mM P ?_) (λF=>eU.no Q λp=>F (l p).2)) (λz=>eU.no Q λp=>z (l p).1);rw[u];exact⟨z,F⟩;have A:i=Y W.ac:=aa;subst A;have hk:YO V W:=N.tk.2 P;clear P X;refine bW (Y M.ac) (λi D=>D=[]/\∀k<i,PsK V M k) ⟨0,rfl,aa,rfl,aa⟩ ?_;rintro i _ X ⟨rfl,P⟩;simp[q.len,e2];refine ay (λX=> ?_) (λX=> ?_);simp[bK X q.sm];have n:=q.sm;refine⟨X,ay (λhb=>ay (λB=> ?_) (λB=> ?_)) (λhb=> ?_)⟩
 ·rw[NR B aa];refine⟨aa, ?_⟩
  repeat'(refine ay (λ_=> ?_) (λ_=> ?_))
  any_goals(refine eU.no Q λp=> ?_;obtain⟨y,x,w,v,q5,q6,q7⟩:=p.p i X;simp only[ci] at*;omega)
  all_goals refine mM P ⟨?_, ?_,λ_=> ?_, ?_, ?_, ?_, ?_⟩<;>simp only[ci]<;>omega
 ·repeat'(refine ay (λ_=> ?_) (λ_=> ?_))
  any_goals(refine eU.no Q λp=> ?_;obtain⟨y,x,w,v,q5,q6,q7⟩:=p.p i X;simp only[ci] at*;omega)
  all_goals refine mM P ⟨?_, ?_,λ_=> ?_, ?_, ?_, ?_, ?_⟩<;>simp only[ci]<;>omega
 refine eU.no Q λp=> ?_
 obtain⟨y,x,w,v,q5,q6,q7⟩:=p.p i X;simp only[ci] at*;omega;have A:i=Y M.ac:=aa;subst A;refine bW (Y H.ac) (λi D=>D=[]/\∀k<i,SpK V H k) ⟨0,rfl,aa,rfl,aa⟩ ?_;rintro i _ X ⟨rfl,k5⟩;simp[j.len];refine ay (λX=> ?_) (λX=> ?_)
 ·simp[bK X j.sm];refine⟨X, ?_⟩
  repeat'(refine ay (λ_=> ?_) (λ_=> ?_))
  any_goals(refine eU.no Q λp=> ?_;obtain⟨y,x,w,v,q5,q6⟩:=p.s i X;simp only[ci] at*;omega)
  refine mM k5 ⟨?_, ?_, ?_, ?_, ?_, ?_⟩<;>simp only[ci]<;>omega
 have A:i=Y H.ac:=aa;subst A;exact eU.ok Q ⟨N,hk,P,k5⟩
def zv(c:Nat->Int):Bool:=gC (c 10) (c 11)&&gC (c 12) (c 13)&&decide (0<=c 10)&&decide (oH (c 10) (c 11) (c 12) (c 13)<0)&&decide (c 12<=c 13)
structure SgP(roles bars:Int)(c:Nat->Int):Prop where
 ok:CX roles bars c
 sp:zv c=J
def YP(h:gC X V=J):1<=V/\V<=1073741824∧-1073741824<=X/\X<=1073741824:=by
 simp[gC] at h;omega
def aBQ(h:gC X V=J):oH 0 1 X V=tC 0 X:=by
 have:=YP h;have W:gC 0 1=true:=dX;simp only[oH,h,W,we,cS];rw[cG aa aa,cG aa aa];simp
def aBR(h:gC X V=J):oH X V 1 1=tC X V:=by
 have:=YP h;have W:gC 1 1=true:=dX;simp only[oH,h,W,we,cS];rw[cG aa aa,cG aa aa];simp
def aBS(a b:Int):oH a b a b=0:=by
 simp[oH,tC]
def C2(X W:Int)(c:Nat->Int):Bool:=jm (c 4) 1 9&&jm (c 1) 0 (X-1)&&jm (c 2) 0 (W-1)&&jm (c 3) 1 3&&se (c 5) (gA (kT (c 4) 0).val) 1 2&&se (c 6) (gA (kT (c 4) 1).val) (bn (kT (c 4) 3).val) 8&&se (c 7) (decide (0<bn (kT (c 4) 4).val)) 1 (bn (kT (c 4) 4).val)&&se (c 8) (decide (0<bn (kT (c 4) 5).val)) 1 (bn (kT (c 4) 5).val)&&se (c 9) (gA (kT (c 4) 2).val) 1 X
def aBT(h:CX X V W):C2 X V W=true:=by
 obtain⟨G,F,D,B,Q,P,N,M,H,-,-⟩:=h;have:W 4=1\/W 4=2\/W 4=3\/W 4=4\/W 4=5\/W 4=6\/W 4=7\/W 4=8\/W 4=9:=aa;rcases this with h|h|h|h|h|h|h|h|h
 all_goals
  simp[h] at Q P N M H;simp[C2,h,kT,lw,nR,bV,iV,aQ,se,gA,bn,jm];omega
def aBU(h:C2 X V W=J)(Q:zv W=J):CX X V W:=by
 simp only[C2,zv,aw,RJ] at h Q;obtain⟨⟨⟨⟨⟨⟨⟨⟨P,N⟩,M⟩,H⟩,G⟩,F⟩,D⟩,B⟩,A⟩:=h;exact ash P N M H G F D B A Q.1.1.1.1 Q.1.1.1.2
def asZ:SgP X V W<->(C2 X V W&&zv W)=true:=by
 rw[aw];exact⟨λh=>⟨aBT h.ok,h.sp⟩,λh=>⟨aBU h.1 h.2,h.2⟩⟩
def YQ{p:Prop}(d W:Decidable p):se X (@decide p d) V F=se X (@decide p W) V F:=by congr
def x84(c:Nat->Int)(X W:Int)(g:-1000<=X/\X<=1000000)(f:-1000<=W/\W<=1000000):TB.Ev 57 (i7 c++[.i X,.i W]) (.ret [.b (C2 X W c&&zv c)]):=by
 refine fC ?_;have A:aH .sub I X 1=X-1:=by simp only[aH];rw[cG aa aa]
 have z:aH .sub I W 1=W-1:=by simp only[aH];rw[cG aa aa]
 have y:lenOf (lw[0]?.getD default).val=10:=rfl;by_cases V:C2 X W c=J
 ·have P:=V;simp only[C2,aw,RJ] at V;obtain⟨⟨⟨⟨⟨⟨⟨⟨x,w⟩,v⟩,u⟩,N⟩,M⟩,H⟩,G⟩,F⟩:=V;simp only[kT] at N M H G F;rw[P,Hu];simp[Ru,i7,A,z,y,x,w,v,u,N,M,F];refine⟨aa, ?_⟩;refine ay (λ_=>ay (λ_=> ?_) (λn=>aZ ((YQ _ _).trans G) n)) (λn=>aZ ((YQ _ _).trans H) n);clear N M H G F;have D:gC 0 1=true:=dX;have s:gC 1 1=true:=dX;by_cases Q:gC (c 10) (c 11)=J
  case neg=>simp[Q,D,zv]
  by_cases B:gC (c 12) (c 13)=J
  case neg=>
   simp[Q,B,D,zv]
   repeat' split
   all_goals trivial
  have e:c 10=c 12->c 11=c 13->oH (c 10) (c 11) (c 12) (c 13)=0:=λa b=>by rw[<-a,<-b];exact aBS _ _
  rw[aBQ Q,aBR B];simp only[zv,Q,B,D,s];generalize oH (c 10) (c 11) (c 12) (c 13)=m at*;simp[tC]
  grind
 have P:C2 X W c=false:=by simpa using V
 rw[P,Bool.false_and];simp only[C2,aw,RJ,kT] at V;simp[Ru,i7,A,z,y];intro r a2 q p a5 a6 a7 a8;refine⟨aa,λo l k j h=>aZ ⟨⟨⟨⟨⟨⟨⟨⟨⟨r,a2⟩,q,p⟩,a5,a6⟩,a7,a8⟩,o⟩,l⟩,(YQ _ _).trans k⟩,(YQ _ _).trans j⟩,h⟩ V⟩

structure FdP(roles:Int)(c:Nat->Int):Prop where
 kind:1<=c 4/\c 4<=9
 side:if c 4=1\/c 4=3\/c 4=4\/c 4=9 then 1<=c 5/\c 5<=2 else c 5=0
 dir:if c 4=1\/c 4=2 then 1<=c 6/\c 6<=8 else if c 4=3\/c 4=4\/c 4=5 then 0<=c 6/\c 6<=8 else c 6=0
 aAo:if c 4=3\/c 4=4\/c 4=5\/c 4=9 then 1<=c 7/\c 7<=3 else c 7=0
 size:if c 4=1\/c 4=2 then 1<=c 8/\c 8<=16 else if c 4=6 then 1<=c 8/\c 8<=7 else c 8=0
 wth:if c 4=7\/c 4=8 then 1<=c 9/\c 9<=roles else c 9=0
def aBW:FdP X W<->(1<=W 4/\W 4<=9)/\(if W 4=1\/W 4=3\/W 4=4\/W 4=9 then 1<=W 5/\W 5<=2 else W 5=0)/\(if W 4=1\/W 4=2 then 1<=W 6/\W 6<=8 else if W 4=3\/W 4=4\/W 4=5 then 0<=W 6/\W 6<=8 else W 6=0)/\(if W 4=3\/W 4=4\/W 4=5\/W 4=9 then 1<=W 7/\W 7<=3 else W 7=0)/\(if W 4=1\/W 4=2 then 1<=W 8/\W 8<=16 else if W 4=6 then 1<=W 8/\W 8<=7 else W 8=0)/\(if W 4=7\/W 4=8 then 1<=W 9/\W 9<=X else W 9=0):=
 ⟨λ⟨a,b,W,d,e,f⟩=>⟨a,b,W,d,e,f⟩,λ⟨a,b,W,d,e,f⟩=>⟨a,b,W,d,e,f⟩⟩
def aBX(c:Nat->Int)(W:Int):∃o,TB.Ev 146 (i7 c++[.i W]) o/\∃b,o=.ret [.b b]/\(b=J<->FdP W c):=by
 refine dZ ?_;rw[aBW];by_cases X:c 4=1\/c 4=2\/c 4=3\/c 4=4\/c 4=5\/c 4=6\/c 4=7\/c 4=8\/c 4=9
 ·rcases X with h|h|h|h|h|h|h|h|h
  all_goals
   simp[Yv,i7,h]
   repeat'(refine ay (λ_=> ?_) (λ_=> ?_))
   all_goals(first|omega|(simp;omega)|grind)
 simp only[not_or] at X;obtain⟨V,Q,P,N,M,H,G,F,D⟩:=X;simp[Yv,i7,V,Q,P,N,M,H,G,F,D];omega
def aBY(c:Nat->Int):TB.Ev 147 (i7 c) (.ret [.b (zv c)]):=by
 refine fC ?_;simp[agr,i7,zv]
 grind
def eU.p{W V:RV}(h:eU X P W V 0):R6 X P W V:=by
 by_cases Q:Y P.ac<=4096/\Y W.ac<=4096/\Y V.ac<=256;exact Classical.byContradiction λN=>by have:=(h.k Q).2 N;omega
 have:=h.l Q;omega
def f83(a b c:Int):Er (RZ a b c) 140 (oi 56 [.i a,.i b,.i c] 0):=(uC (x83 a b c)).2
def aBZ(a b c:Int):TB.Ev 145 [.i a,.i b,.i c] (.ret [.i (oi 56 [.i a,.i b,.i c] 0)]):=by
 obtain⟨o,h,e,rfl,X⟩:=aBN a b c;rw[(f83 a b c).eq X];exact h
@[simp] def aJ0 (a b c:Int):iY TB.Ev R 145 [.i a,.i b,.i c] G t O L=iZ TB.Ev R (.ret [.i (oi 56 [.i a,.i b,.i c] 0)]) G t O L:=bh (aBZ a b c)
def YR:oi 56 [.i X,.i V,.i F] 0=0<->RZ X V F:=by
 have h:=f83 X V F;refine⟨λe=>Classical.byContradiction λW=>by have:=h.2 W;omega,h.1⟩
def aB0{roles bars:Int}{c:Nat->Int}:SgP roles bars c<->(0<=c 1/\c 1<=roles-1)/\(0<=c 2/\c 2<=bars-1)/\(1<=c 3/\c 3<=3)/\FdP roles c/\zv c=true:=by
 constructor;rintro⟨⟨W,G,F,V,Q,P,N,M,H,-,-⟩,X⟩;exact⟨aa,aa,V,⟨W,Q,P,N,M,H⟩,X⟩;rintro⟨G,F,V,⟨W,Q,P,N,M,H⟩,X⟩;have:=X;simp only[zv,aw] at this;exact⟨⟨W,aa,aa,V,Q,P,N,M,H,this.1.1.1.1,this.1.1.1.2⟩,X⟩
variable[Inhabited dh]
structure RoP(k:Nat):Prop where
 x:0<=ci aK k 1/\ci aK k 1<=uD
 y:0<=ci aK k 2/\ci aK k 2<=uE
 f:0<=ci aK k 3/\ci aK k 3<=7
structure SiP(k:Nat):Prop where
 id:0<=ci bw k 0/\ci bw k 0<=1048576
 inc:0<k->ci bw (k-1) 0<ci bw k 0
 sg:SgP (Y aK.ac) fy (ci bw k)
structure WkP:Prop where
 w:1<=uD/\uD<=1000
 d:1<=uE/\uE<=1000
 t:RZ RO RP YC
 a:0<=RO
 b:0<=RP
 n:0<Y aK.ac
 r:∀k<Y aK.ac,RoP k
 s:∀k<Y bw.ac,SiP k
def G2:Int:=oi 54 [.i fy,.r qz,.r sj,.r sn] 0
def f81(h:fD):TB.Ev 54 [.i fy,.r qz,.r sj,.r sn] (.ret [.i G2])/\eU fy qz sj sn G2:=uC (x81 fy qz sj sn h.tp h.ps h.sp)
def f91(h:fD):TB.Ev 99 [.i fy,.r qz,.r sj,.r sn] (.ret [.i G2]):=by
 obtain⟨o,X,e,rfl,W⟩:=r91 fy qz sj sn h.tp h.ps h.sp;rw[(f81 h).2.eq W];exact X
structure qB(e:Int):Prop where
 l:¬(Y aK.ac<=64/\Y bw.ac<=4096)->e=2
 c:Y aK.ac<=64/\Y bw.ac<=4096->G2≠0->e=G2
 k:Y aK.ac<=64/\Y bw.ac<=4096->G2=0->Er WkP 190 e
def qB.eq{e Q:Int}(h:qB e)(V:qB Q):e=Q:=by
 by_cases X:Y aK.ac<=64/\Y bw.ac<=4096;by_cases W:G2=0;exact(h.k X W).eq (V.k X W);rw[h.c X W,V.c X W];rw[h.l X,V.l X]
def qB.no(X:Y aK.ac<=64/\Y bw.ac<=4096)(W:G2=0)(V:¬WkP):qB 190:=⟨λk=>aZ X k,λ_ k=>aZ W k,λ_ _=>Er.no V⟩
def x37(h:fD):∃o,TB.Ev 24 wk o/\∃e,o=.ret [.i e]/\qB e:=by
 refine dZ ?_;obtain⟨q,A⟩:=f81 h;simp[Yk,wk,h.rl.len,h.sg.len,bh q];refine ay (λm=>⟨λ_=>rfl,λk=>aa,λk=>aa⟩) (λm=> ?_);refine ay (λl=>⟨λ_=>rfl,λk=>aa,λk=>aa⟩) (λl=> ?_);have V:Y aK.ac<=64/\Y bw.ac<=4096:=aa;refine ay (λX=> ?_) (λX=>⟨λk=>aZ V k,λ_ _=>rfl,λ_ k=>aZ k X⟩);rw[X] at A;have j:=A.p;have hb:=j.t.br;refine ay (λN=> ?_) (λN=>qB.no V X λp=>N p.w);refine ay (λM=> ?_) (λM=>qB.no V X λp=>M p.d);refine ay (λH=> ?_) (λH=>qB.no V X λp=>H (YR.2 p.t));refine ay (λg=>qB.no V X λp=>by have:=p.a;omega) (λg=> ?_);refine ay (λf=>qB.no V X λp=>by have:=p.b;omega) (λf=> ?_);refine ay (λG=>qB.no V X λp=>by have:=p.n;rw[G] at this;simp at this) (λG=> ?_);have c:0<Y aK.ac:=Og.2 G;refine bW (Y aK.ac) (λi F=>F=[]/\∀k<i,RoP k) ⟨0,rfl,aa,rfl,aa⟩ ?_;rintro i _ W ⟨rfl,z⟩;simp[h.rl.len];refine ay (λW=> ?_) (λW=> ?_)
 ·simp[bK W h.rl.sm];refine⟨W, ?_⟩
  repeat'(refine ay (λ_=> ?_) (λ_=> ?_))
  any_goals(refine qB.no V X λp=> ?_;obtain⟨y,x,v⟩:=p.r i W;simp only[ci] at*;omega)
  refine mM z ⟨?_, ?_, ?_⟩<;>simp only[ci]<;>omega
 have D:i=Y aK.ac:=aa;subst D;refine bW (Y bw.ac) (λi F=>∃P:Int,F=[.i P]/\(∀k<i,SiP k)/\((i=0/\P=-1)\/(0<i/\P=ci bw (i-1) 0))) ⟨0,rfl,aa,-1,rfl,aa,.inl ⟨rfl,rfl⟩⟩ ?_;rintro i _ W ⟨P,rfl,B,k3⟩;simp[h.rl.len,h.sg.len];refine ay (λW=> ?_) (λW=> ?_);refine⟨W, ?_⟩;have hs:=h.sg.sm;have u:=x84 (ci bw i) (Y aK.ac) fy aa aa;simp only[i7,ci,ef,eK] at u;have k4:-1<=P:=by
  rcases k3 with⟨-,e⟩|⟨h0,e⟩;omega;have:=(B (i-1) aa).id;omega
 refine ay (λg1=> ?_) (λg1=> ?_);refine qB.no V X λp=> ?_
 obtain⟨y,x,v⟩:=p.s i W;simp only[ci] at*;omega;refine ay (λg2=> ?_) (λg2=> ?_);refine qB.no V X λp=> ?_
 obtain⟨y,x,v⟩:=p.s i W;simp only[ci] at*;omega;rw[bh u];simp[bK W hs];refine ay (λQ=> ?_) (λQ=> ?_);refine qB.no V X λp=> ?_
 have:=asZ.1 (p.s i W).sg;simp only[aw] at this;rw[this.1,this.2] at Q;simp at Q;simp only[not_or,Hn] at Q;refine⟨mM B ⟨?_,λh0=> ?_,asZ.2 (by rw[Q.1,Q.2];rfl)⟩,rfl⟩<;>simp only[ci] at* <;>omega;have D:i=Y bw.ac:=aa;subst D;exact⟨λk=>aZ V k,λ_ k=>aZ X k,λ_ _=>Er.ok ⟨N,M,YR.1 H,aa,aa,c,z,B⟩⟩
def aB3(h:fD):TB.Ev 24 wk (.ret [.i lB])/\qB lB:=uC (x37 h)
def r92(h:fD)(hb:1<=fy/\fy<=4096)(hl:Y aK.ac<=64/\Y bw.ac<=4096):∃o,TB.Ev 100 wk o/\∃b,o=.ret [.b b]/\(b=J<->WkP):=by
 refine dZ ?_;simp[T92,wk,h.rl.len,h.sg.len];refine ay (λB=> ?_) (λB p=>by have:=p.w;omega);refine ay (λx p=>by have:=p.w;omega) (λx=> ?_);refine ay (λA=> ?_) (λA p=>by have:=p.d;omega);refine ay (λv p=>by have:=p.d;omega) (λv=> ?_);refine ay (λQ=> ?_) (λQ p=>Q (YR.2 p.t));refine ay (λu p=>by have:=p.a;omega) (λu=> ?_);refine ay (λm p=>by have:=p.b;omega) (λm=> ?_);refine ay (λP p=>by have:=p.n;rw[P] at this;simp at this) (λP=> ?_);have l:0<Y aK.ac:=Og.2 P;refine bW (Y aK.ac) (λi N=>N=[]/\∀k<i,RoP k) ⟨0,rfl,aa,rfl,aa⟩ ?_;rintro i _ X ⟨rfl,z⟩;simp[h.rl.len];refine ay (λX=> ?_) (λX=> ?_)
 ·simp[bK X h.rl.sm];refine⟨X, ?_⟩
  repeat'(refine ay (λ_=> ?_) (λ_=> ?_))
  any_goals(intro p;obtain⟨q1,q2,q3⟩:=p.r i X;simp only[ci] at*;omega)
  refine mM z ⟨?_, ?_, ?_⟩<;>simp only[ci]<;>omega
 have M:i=Y aK.ac:=aa;subst M;have j:aH .sub I (Y aK.ac:Int) 1=Y aK.ac-1:=by simp only[aH];rw[cG aa aa]
 have g:aH .sub I fy 1=fy-1:=by simp only[aH];rw[cG aa aa]
 refine bW (Y bw.ac) (λi N=>N=[]/\∀k<i,SiP k) ⟨0,rfl,aa,rfl,aa⟩ ?_;rintro i _ X ⟨rfl,H⟩;simp[h.rl.len,h.sg.len,j,g];refine ay (λX=>⟨X, ?_⟩) (λX=> ?_);have y:=h.sg.sm;obtain⟨o,G,b,rfl,f⟩:=aBX (ci bw i) (Y aK.ac);have F:=aBY (ci bw i);have W:=aB0 (roles:=Y aK.ac) (bars:=fy) (c:=ci bw i);rw[<-f] at W;simp only[i7,ci,ef,eK] at G F W;refine ay (λD=>ay (λV=> ?_) (λV=> ?_)) (λD p=> ?_)
 ·rw[NR V aa];refine⟨aa,ay (λg2 p=> ?_) (λg2=> ?_)⟩;have:=(p.s i X).inc V;simp only[ci] at this;omega;have af:ci bw (i-1) 0<ci bw i 0:=by simp only[ci];omega
  simp[bh G,bh F,bK X y]
  repeat'(refine ay (λ_=> ?_) (λ_=> ?_))
  any_goals(intro p;have q:=W.1 (p.s i X).sg;grind)
  exact mM H ⟨D,λ_=>af,W.2 (by refine⟨?_, ?_, ?_, ?_, ?_⟩<;>assumption)⟩
 ·simp[bh G,bh F,bK X y]
  repeat'(refine ay (λ_=> ?_) (λ_=> ?_))
  any_goals(intro p;have q:=W.1 (p.s i X).sg;grind)
  exact mM H ⟨D,λe=>aZ e V,W.2 (by refine⟨?_, ?_, ?_, ?_, ?_⟩<;>assumption)⟩
 have:=(p.s i X).id;simp only[ci] at this;omega;have M:i=Y bw.ac:=aa;subst M;exact⟨⟨B,aa⟩,⟨A,aa⟩,YR.1 Q,aa,aa,l,z,H⟩
def r40(h:fD):TB.Ev 58 wk (.ret [.i lB]):=by
 suffices M:∃o,TB.Ev 58 wk o/\∃e,o=.ret [.i e]/\qB e by
  obtain⟨o,Q,e,rfl,W⟩:=M;rw[(aB3 h).2.eq W];exact Q
 refine dZ ?_;have Q:=f91 h;have W:=(f81 h).2;simp[T40,wk,h.rl.len,h.sg.len,bh Q];refine ay (λH=>⟨λ_=>rfl,λk=>aa,λk=>aa⟩) (λH=> ?_);refine ay (λG=>⟨λ_=>rfl,λk=>aa,λk=>aa⟩) (λG=> ?_);have V:Y aK.ac<=64/\Y bw.ac<=4096:=aa;refine ay (λX=> ?_) (λX=>⟨λk=>aZ V k,λ_ _=>rfl,λ_ k=>aZ k X⟩);rw[X] at W;obtain⟨o,P,b,rfl,N⟩:=r92 h W.p.t.br V;simp only[wk] at P;rw[bh P];simp;refine ay (λg=>⟨λk=>aZ V k,λ_ k=>aZ X k,λ_ _=>Er.ok (N.1 g)⟩) (λg=>qB.no V X λp=>g (N.2 p))
end
def as3{lt:aF->aF->Bool}(l:ar)(x:aF):bT lt (l++[x])=eI lt x (bT lt l):=by simp[bT]
section
variable{lt:aF->aF->Bool}{p:aF->Prop}
def aB5{A B:ar}{x:aF}(X:∀y∈A,lt x y=E)(W:∀y∈B,lt x y=J):eI lt x (A++B)=A++x::B:=by
 induction A with
 |nil=>
  cases B with
  |nil=>rfl
  |cons y r=>simp[eI,W y av]
 |cons y r V=>
  simp only[ef,eI];rw[X y av,V λz Q=>X z (by simp[Q])];rfl
def as4(h:mc lt p)(N:p A)(V:∀z∈H,p z)(M:gW lt H)(w:Q<=Y H)(G:∀(j:Nat)(X:j<Y H),Q<=j->lt A H[j]=J)(F:∀X:Q-1<Y H,0<Q->lt A H[Q-1]=E):eI lt A H=H.take Q++A::H.drop Q:=by
 have:=aB5 (lt:=lt) (x:=A) (A:=H.take Q) (B:=H.drop Q) (λy W=> ?_) (λy W=> ?_)
 rwa [J9] at this
 obtain⟨j,X,rfl⟩:=SQ W;simp only[E4] at X;simp only[List.getElem_take];have P:=F aa aa;by_cases e:j=Q-1;subst e;exact P;have D:=Oe.1 M j (Q-1) aa aa aa;exact h.nt _ _ _ N (V _ (pM _)) (V _ (pM _)) P D;obtain⟨j,X,rfl⟩:=SQ W;simp only[Df] at X;simp only[List.getElem_drop];exact G _ aa aa
end
section
variable{R:bq->Prop}{G:aU}{t:T}{O:ai}{L:db}
def aB6(a b:Nat->Int):TB.Ev 298 (i7 a++i7 b) (.ret [.b (decide (oH (a 10) (a 11) (b 10) (b 11)<0)||decide (oH (a 10) (a 11) (b 10) (b 11)=0)&&decide (a 0<b 0))]):=by
 refine fC ?_;simp[agu,i7]
 grind
def aB7(h:gC X V=J)(W:gC F D=J):(oH X V F D<0<->X*D<F*V)/\(oH X V F D=0<->X*D=F*V):=by
 have g:=YP h;have Q:=YP W;have P:=YN (a:=X) (b:=D) (x:=1073741824) (y:=1073741824) aa aa;have N:=YN (a:=F) (b:=V) (x:=1073741824) (y:=1073741824) aa aa;simp only[oH,h,W,we,cS,tC];rw[cG aa aa,cG aa aa];generalize X*D=u at*;generalize F*V=v at*;constructor;split;simp;omega;split<;>simp<;>omega;split;simp;omega;split<;>simp<;>omega
variable[Inhabited dh]
def aB8(h:fD)(V:JK)(aJ ak:Int):TB.Ev 226 (wk++[.i aJ,.i ak]) (.ret [.r (aI (bT (bu.ratio 10 11).lt (kS aJ ak (Y bw.ac))))]):=by
 refine fC ?_;simp[agy,wk];refine bW (Y bw.ac) (λi o=>o=[.r (aI (bT (bu.ratio 10 11).lt (kS aJ ak i)))]) ⟨0,rfl,aa,rfl⟩ ?_;rintro i _ W rfl;have n:=NP (aJ:=aJ) (ak:=ak) i;have af:=V.ns;simp[h.sg.len];refine ay (λW=>⟨W, ?_⟩) (λW=> ?_)
 case refine_2=>
  have f:i=Y bw.ac:=aa;rw[f]
 refine ay (λM=>⟨W, ?_⟩) (λM=> ?_)
 case refine_2=>
  rw[bK W h.sg.sm];simp[kS,ci,M]
 refine ay (λG=>⟨W, ?_⟩) (λG=> ?_)
 case refine_2=>
  rw[bK W h.sg.sm];simp[kS,ci,M,G]
 have d:(bu.ratio 10 11).ok (qy (ci bw i))=true:=by
  simp only[bu.ok];rw[vO _ _ aa,vO _ _ aa];exact(V.GX i W).from_
 have A:∀z∈bT (bu.ratio 10 11).lt (kS aJ ak i),∃k<i,z=qy (ci bw k):=λz P=>by
  obtain⟨k,y,c,-⟩:=(RQ).1 ((CY _).mem_iff.1 P);exact⟨k,y,c⟩
 have x:∀z∈bT (bu.ratio 10 11).lt (kS aJ ak i),(bu.ratio 10 11).ok z=true:=λz P=>by
  obtain⟨k,y,rfl⟩:=A z P;simp only[bu.ok];rw[vO _ _ aa,vO _ _ aa];exact(V.GX k aa).from_
 have b:=D9 (Qf 10 11) (l:=kS aJ ak i) (λz P=>x z ((CY _).mem_iff.2 P));have ag:(bT (bu.ratio 10 11).lt (kS aJ ak i)).length<=i:=by rw[mZ];exact n
 have a:bT (bu.ratio 10 11).lt (kS aJ ak (i+1))=eI (bu.ratio 10 11).lt (qy (ci bw i)) (bT (bu.ratio 10 11).lt (kS aJ ak i)):=by
  have:kS aJ ak (i+1)=kS aJ ak i++[qy (ci bw i)]:=by simp only[kS];rw[aL ⟨M,G⟩]
  rw[this,as3]
 generalize bT (bu.ratio 10 11).lt (kS aJ ak i)=l at*;refine vN (λF=>∃k:Nat,F=[.i k]/\k<=Y l/\∀(j:Nat)(Q:j<Y l),k<=j->(bu.ratio 10 11).lt (qy (ci bw i)) l[j]=J) (λF=>(xi F 0).toNat) ⟨Y l,rfl,aa,λj Q e=>aa⟩ ?_;rintro _ ⟨k,rfl,N,w⟩;have v:(∀Q:k-1<Y l,0<k->(bu.ratio 10 11).lt (qy (ci bw i)) l[k-1]=E)->bT (bu.ratio 10 11).lt (kS aJ ak (i+1))=l.take k++qy (ci bw i)::l.drop k:=λe=>by rw[a];exact as4 (Qf 10 11) d x b N w e
 simp[xi];refine ay (λH=> ?_) (λH=> ?_);rw[NR H aa];refine⟨aa, ?_⟩;obtain⟨m,m1,u⟩:=A l[k-1] (pM aa);have X:∀j<14,bn (aQ l ((k-1:Nat):Int) j).val=ci bw m j:=λj Q=>by
  have:bn (aQ l ((k-1:Nat):Int) j).val=aM j l[k-1]:=by simp[aQ,aM,show k-1<Y l from aa]
  rw[this,u,vO _ _ Q]
 rw[X 0 aa,X 1 aa,X 2 aa,X 3 aa,X 4 aa,X 5 aa,X 6 aa,X 7 aa,X 8 aa,X 9 aa,X 10 aa,X 11 aa,X 12 aa,X 13 aa];have s:=aB6 (ci bw i) (ci bw m);simp only[i7,ci,ef,eK] at s;have D:=aB7 (V.GX i W).from_ (V.GX m aa).from_;have f3:=V.ids m i m1 W;have B:(bu.ratio 10 11).lt (qy (ci bw i)) l[k-1]=decide (ci bw i 10*ci bw m 11<ci bw m 10*ci bw i 11):=by
  simp only[bu.lt,u];rw[vO _ _ aa,vO _ _ aa,vO _ _ aa,vO _ _ aa]
 simp only[ci] at D f3 B⊢;rw[bh s];simp;refine ay (λg=> ?_) (λg=> ?_);rw[NR H aa,vM];refine⟨⟨k-1,rfl,aa,λj Q e=> ?_⟩,dl⟩;by_cases ej:j=k-1;subst ej;rw[B];rcases g with g|g;exact decide_eq_true (D.1.1 (tP g));have:=tP g.2;omega;exact w j Q aa;have e:=v (λ_ _=>by
  rw[B];exact decide_eq_false λq=>g (.inl (decide_eq_true (D.1.2 q))))
 refine⟨N,aa,N,aa, ?_⟩;rw[bK W h.sg.sm,e];rfl;have e:=v (λ_ q=>aZ q H);refine⟨N,aa,N,aa, ?_⟩;rw[bK W h.sg.sm,e];rfl
def aB9(h:fD)(aJ ak:Int):TB.Ev 190 (wk++[.i aJ,.i ak]) (.ret [.r (aI (dW aJ ak)),.i (gm aJ ak)]):=by
 refine fC ?_;have P:=r40 h;have M:=(xI tD h).2;simp only[wk] at P;simp[agz,wk,h.rl.len,bh P];refine ay (λX=> ?_) (λX=> ?_)
 case refine_2=>simp[dW,gm,X]
 have V:=M X;have H:=V.nr;have G:=V.br;rw[show aH .sub I (Y aK.ac:Int) 1=Y aK.ac-1 by simp only[aH];rw[cG aa aa],show aH .sub I fy 1=fy-1 by simp only[aH];rw[cG aa aa]];have N:=aB8 h V aJ ak;simp only[wk,ef,eK] at N;have W:¬(0<=aJ/\aJ<=Y aK.ac-1/\0<=ak/\ak<=fy-1)->aI []=aI (dW aJ ak)/\1=gm aJ ak:=λH=>by
  have Q:gm aJ ak=1:=by
   simp only[gm,X,cS];rw[aT];simp only[aw,RJ];omega
  exact⟨by rw[dW,aT aa],Q.symm⟩
 refine ay (λa=>ay (λb=>W aa) (λb=>ay (λc=>ay (λd=>W aa) (λd=> ?_)) (λc=>W aa))) (λa=>W aa);have Q:gm aJ ak=0:=by
  simp only[gm,X,cS];rw[aL];simp only[aw,RJ];omega
 rw[bh N];simp[dW,Q]
end
